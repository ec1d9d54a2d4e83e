import PyProof.Rows.All
import HandS.ForMost
import HandS.ForExc
import HandS.ExcCtx
import HandS.ExcInit
import HandS.Nested
import HandS.ExcField
import HandS.More
import HandS.HeadHook1
import HandS.HeadHook2
import HandS.HeadHook3
import HandS.Property
import HandS.HeadWalk
import PySem.Challenge.RW_fourwalls_k11_machines_told
import HandS.Head2
import HandS.HeadEnd
import Wide.All
import OpenK.AllK
import Wide.FinOn
import PyProof.Rows.SortShellAny
import HandS.Set
import HandS.Strs
import PyProof.StrWalks
import KE.GoesEnum
import HandS.Iter
import HandS.Walk
import KE.GoesZip
import HandS.Zip
import HandS.Star
import KE.KExcSuper
import KE.KTryMore
import HandS.HotCalls
import KE.KDflt
import HandS.TupMul
import HandS.TupAny
import HandS.Dict
import HandS.List
import HandS.IsInst
import HandS.Wide
import HandS.Flow
import HandS.TryOnly
import HandS.CallSlots
import HandS.Conv
import HandS.MakeKw
import HandS.ClsMeth
import HandS.FStr
import HandS.Text
import HandS.OwnEq
import PyProof.InstEq
import OpenK.KOps
import OpenK.KMeth
import KE.KCallOwn
import HandS.SortInts
import HandS.Style
import HandS.Replace
import PyProof.StrLawsFirst
import PyProof.Rows.StrRev
import PyProof.Rows.StrStep
import HandS.Defaults
set_option Elab.async false
set_option linter.all false
set_option maxRecDepth 100000
set_option maxHeartbeats 4000000
namespace DL
open PySem PySem.Spec PyProof.Rows L2
abbrev St := L2.St
/-- a, but not to be unfolded -/
noncomputable def stuck {α : Sort u} (a : α) : α := Classical.choose (⟨a, rfl⟩ : ∃ f, f = a)
theorem stuck_eq {α : Sort u} (a : α) : stuck a = a := Classical.choose_spec (⟨a, rfl⟩ : ∃ f, f = a)

/-- a value as data: texts by their codes, lists and tuples that nobody changes by their items; ref: a thing that is told by the store, or is only handed about -/
inductive D where
  | non | bl (b : Bool) | int (i : Int) | str (cs : List Nat) | lst (xs : List D) | tup (xs : List D) | ref (a : Addr) | ty (n : String) | rol (xs : List D) | clo (F : NdefX.NF) (e : Expr) (T : Option Addr)

/-- the classes and the attributes have numbers -/
def clsNames0 : List Str := ["Alike", "Apart", "Back", "Barred", "Book", "Broken", "Come", "Desk", "Floor", "Full", "HouseError", "InvalidAddress", "InvalidBad", "InvalidCutter", "InvalidCutters", "InvalidFace", "InvalidFaces", "InvalidLimit", "InvalidLine", "InvalidModulus", "InvalidNumber", "InvalidPage", "InvalidPaper", "InvalidPlace", "InvalidPlan"]
def clsNames1 : List Str := ["InvalidRatio", "InvalidRest", "InvalidRoom", "InvalidSign", "InvalidStep", "InvalidString", "InvalidTable", "InvalidText", "InvalidView", "Machine", "Missing", "NotUnited", "NothingLeft", "OtherCutters", "OtherFaces", "Paper", "Peak", "Plan", "Ratio", "Rise", "Safe", "Strand", "TooMany", "Touch", "UnknownRoom"]
def clsNames2 : List Str := ["UnknownState", "Weights"]
def clsNames : List Str := clsNames0 ++ clsNames1 ++ clsNames2
def attNames0 : List Str := ["ahead", "at", "book", "bottom", "busy", "code", "counts", "cutters", "faces", "given", "high", "line", "lines_done", "machine", "most", "one", "other", "own_bad", "own_boxes", "own_cuts", "own_each", "own_floor", "own_heights", "own_history", "own_limit"]
def attNames1 : List Str := ["own_lines", "own_numbers", "own_ring", "own_rooms", "own_steps", "own_table", "own_way", "past", "plan", "sign", "start", "state", "strand", "top", "view", "weights", "wide"]
def attNames : List Str := attNames0 ++ attNames1
def cN (n : Nat) : Str := clsNames.getD n ""
def fN (n : Nat) : Str := attNames.getD n ""
def cA (K : PySem.W.Frag) (n : Nat) : Addr := He.ga K (cN n)
abbrev mkS (cs : List Nat) : Str := ⟨cs.toArray⟩
def tyL : List String := ["NoneType", "bool", "int", "str", "list", "tuple", "dict"]

/-- an empty table of code objects: it is written, so no part of what is held -/
def isTab : Option Obj → Bool
  | some ⟨.none, none, .fields vs, sl⟩ => vs.isEmpty && sl.isEmpty
  | _ => false
def asF (g : Addr → Option Obj) (n : Nat) : List Addr := (He.asD g n).filter (fun a => !isTab (g a)) ++ [cStatics]
/-- a def, where it stands told by a function -/
structure DefF where
  ad : PySem.W.Frag → Addr
  name : Str
  qual : Str
  params : Arguments
  body : List Stmt
  scope : Scope
  dfl : List He.Dv := []
  kwd : List (Str × He.Dv) := []
  cl : List Str := []
def fnF (K : PySem.W.Frag) (a : Addr) : He.FnW := match K.lookup a with
  | some ⟨_, _, .func fd, _⟩ => some (fd.name, fd.qualname, fd.params, fd.body, fd.scope, fd.globals, fd.closure.map (fun p => (p.1, 0)), fd.builtins)
  | _ => none
def DefF.val (d : DefF) : He.FnW := some (d.name, d.qual, d.params, .stmts d.body, d.scope, mainGlobals, d.cl.map (fun y => (y, 0)), builtinsNs)
def DefF.dvs (K : PySem.W.Frag) (d : DefF) : List V := d.dfl.map (He.Dv.v K)
def DefF.kws (K : PySem.W.Frag) (d : DefF) : List (Str × V) := d.kwd.map fun q => (q.1, q.2.v K)
def DefF.ok (K : PySem.W.Frag) (d : DefF) : Bool := PySem.W.keepIn K (.ref (d.ad K)) && (match K.lookup (d.ad K) with
  | some ⟨_, _, .func fd, _⟩ => PySem.W.codeIn K fd.code d.qual && (He.dflB K fd.defaults (d.dvs K) && He.kwdB K fd.kwdefaults (d.kws K))
  | _ => false)
abbrev FaF : Type := PySem.W.Frag → Bool
def obsF (fa : List FaF) (fn : List DefF) (K : PySem.W.Frag) : He.AlD := ((fa.all fun f => f K) && fn.all fun d => d.ok K, fn.map fun d => fnF K (d.ad K))
def valF (fn : List DefF) : He.AlD := (true, fn.map DefF.val)
def SaysF (fa : List FaF) (fn : List DefF) (K : PySem.W.Frag) : Prop := obsF fa fn K = valF fn
def obsFG (n : Nat) (fa : List FaF) (fn : List DefF) (g : Addr → Option Obj) : He.AlD := obsF fa fn (He.frG g (asF g n))
abbrev TsL : Type := List ((PySem.W.Frag → Addr) × List Str)
abbrev AlG : Type := He.AlD × List (Option (List (Option (Str × Int))))
def obsTs (ts : TsL) (K : PySem.W.Frag) : List (Option (List (Option (Str × Int)))) := ts.map fun t => He.dicW K (t.1 K)
def valTs (ts : TsL) (w : World) : List (Option (List (Option (Str × Int)))) := ts.map fun t => some (He.keysIn w.params t.2)
def TsOk (ts : TsL) (w : World) (K : PySem.W.Frag) : Prop := obsTs ts K = valTs ts w
def dvB : List D → List Value → Bool
  | [], [] => true
  | .int i :: ds, .int j _ :: us => decide (i = j) && dvB ds us
  | .str cs :: ds, .str x _ :: us => decide (x = mkS cs) && dvB ds us
  | _, _ => false
/-- the values of such a dict are tuples -/
def tupB (K : PySem.W.Frag) (ds : List D) : Option (Option Value) → Bool
  | some (some (.ref p)) => (match K.lookup p with
    | some ⟨.type t, _, .seq its _, _⟩ => t == "tuple" && (decide (its.size ≤ sizeLine) && dvB ds its.toList)
    | _ => false)
  | _ => false
def fDic (x : Str) (kvs : List (List Nat × List D)) : FaF := fun K => kvs.all fun q => tupB K q.2 (PySem.W.nsIn K (He.ga K x) (mkS q.1))
def hookF (n : Nat) (fa : List FaF) (fn : List DefF) (ts : TsL) : PySem.W.Hook where
  α := AlG
  obs := fun s => (obsFG n fa fn s.heap.get?, obsTs ts (He.frG s.heap.get? (asF s.heap.get? n)))
  val := fun w => (valF fn, valTs ts w)
  says := fun w h => ∃ K : PySem.W.Frag, K.In h ∧ SaysF fa fn K ∧ TsOk ts w K
  of := fun _ _ e => ⟨_, He.frG_in, congrArg (fun z : AlG => z.1) e, congrArg (fun z : AlG => z.2) e⟩
  keeps := fun _ _ _ ⟨K, hK, c⟩ k => ⟨K, PySem.W.Frag.In.keeps hK k, c⟩
def obsFGt (n : Nat) (fa : List FaF) (fn : List DefF) (ts : TsL) (g : Addr → Option Obj) : AlG := (obsFG n fa fn g, obsTs ts (He.frG g (asF g n)))
theorem obsFG_eq {n : Nat} {fa : List FaF} {fn : List DefF} {ts : TsL} {g : Addr → Option Obj} {s : Shared} (h : ∀ a, g a = s.heap.get? a) : obsFGt n fa fn ts g = (hookF n fa fn ts).obs s := by
  have e : g = s.heap.get? := funext h
  rw [e] <;> rfl
def aG (x : Str) : PySem.W.Frag → Addr := fun K => He.ga K x
def aM (C : Nat) (m : Str) : PySem.W.Frag → Addr := fun K => He.ma K (cA K C) m
def rcG (K : PySem.W.Frag) (p : Addr) (T : String) : Addr := match PySem.W.recIn K p T with
  | some (.ref g :: _) => g
  | _ => 0
/-- a staticmethod's, a property's def -/
def aS (C : Nat) (m : Str) : PySem.W.Frag → Addr := fun K => rcG K (He.ma K (cA K C) m) "staticmethod"
def aP (C : Nat) (m : Str) : PySem.W.Frag → Addr := fun K => rcG K (He.ma K (cA K C) m) "property"
def rcB (K : PySem.W.Frag) (p : Addr) (T : String) : Bool := match PySem.W.recIn K p T with
  | some (.ref _ :: _) => true
  | _ => false
def fFa (f : He.Fa) : FaF := fun K => f.ok K
def fCls (C : Nat) : FaF := fun K => (He.Fa.cls (cN C)).ok K
def fNo (C : Nat) (f : Str) : FaF := fun K => (He.Fa.noat (cN C) f).ok K
def fMeth (C : Nat) (m : Str) : FaF := fun K => (He.Fa.meth (cN C) m).ok K
def fMk (C : Nat) : FaF := fun K => (He.Fa.mkr (cN C)).ok K
def fNe (C : Nat) : FaF := fun K => He.eqO (PySem.W.findIn K (.ref (cA K C)) "__ne__") (some (some (.builtin "object.__ne__"))) && decide (PySem.W.mroIn K (cA K C) (.type "object") = some true)
def fIns (C : Nat) : FaF := fun K => (He.Fa.cls (cN C)).ok K && (He.eqO (PySem.W.findIn K (.ref (cA K C)) "__class__") (some (some (.builtin "object.__class__"))) && (He.eqO (PySem.W.specialIn K (.builtin "object.__class__") "__get__") (some (some (.builtin "getset_descriptor.__get__"))) &&
  (decide (PySem.W.takesIn K (.builtin "object.__class__") = some true) && decide (PySem.W.mroIn K (cA K C) (.type "object") = some true))))
def fIs (D : Nat) (tab : List (Nat × Bool)) : FaF := fun K => (tab.all fun p => fIns p.1 K && decide (PySem.W.kitOne K (.ref (cA K p.1)) (.ref (cA K D)) = some p.2)) && tyL.all fun T => decide (PySem.W.kitOne K (.type T) (.ref (cA K D)) = some false)
def fCR (C : Nat) : FaF := fun K => PySem.W.readsIn K (cA K C) (.type "type") && He.eqO (PySem.W.specialIn K (.ref (cA K C)) "__getattribute__") (some (some (.builtin "type.__getattribute__")))
def eqC : Option PySem.W.CFound → PySem.W.CFound → Bool
  | some (.val u), .val v => decide (u = v)
  | some (.get a b c d), .get a' b' c' d' => decide (a = a') && (decide (b = b') && (decide (c = c') && decide (d = d')))
  | _, _ => false
def fStat (C : Nat) (m : Str) : FaF := fun K => fCR C K && (eqC (PySem.W.findCls K (.ref (cA K C)) (.type "type") m) (.get (.builtin "staticmethod.__get__") (.ref (He.ma K (cA K C) m)) .none (.ref (cA K C))) && (rcB K (He.ma K (cA K C) m) "staticmethod" && PySem.W.keepIn K (.ref (aS C m K))))
def fProp (C : Nat) (m : Str) : FaF := fun K => (He.Fa.cls (cN C)).ok K && (He.eqO (PySem.W.findIn K (.ref (cA K C)) m) (some (some (.ref (He.ma K (cA K C) m)))) && (He.eqO (PySem.W.specialIn K (.ref (He.ma K (cA K C) m)) "__get__") (some (some (.builtin "property.__get__"))) &&
  (decide (PySem.W.takesIn K (.ref (He.ma K (cA K C) m)) = some true) && rcB K (He.ma K (cA K C) m) "property")))
/-- C.f is the value v -/
def fCC (C : Nat) (f : Str) (v : V) : FaF := fun K => fCR C K && (match PySem.W.findCls K (.ref (cA K C)) (.type "type") f with
  | some (.val u) => He.relB v u
  | _ => false)
def exObj (K : PySem.W.Frag) (C : Addr) : Bool := match K.lookup C with
  | some ⟨.type "type", _, .cls cd, sl⟩ => (match cd.mro, sl.toList with
    | .ref C' :: bm, [_, _, _, _, some (.builtin n), _] => C' == C && (n == "ValueError.__new__" && (!cd.hasDel && (cd.hasDict && PySem.HandSPX.refsVE bm)))
    | _, _ => false)
  | _ => false
/-- the class of the number n stands as an own error over ValueError -/
def fOex (n : Nat) : FaF := fun K => exObj K (cA K n) && (He.eqO (PySem.W.findIn K (.ref (cA K n)) "__setattr__") (some (some (.builtin "object.__setattr__"))) && (decide (PySem.W.subIn K (.ref (cA K n)) (.type "BaseException") = some true) && (decide (PySem.W.typeIn K (.ref (cA K n)) = some (.type "type")) && PySem.W.keepIn K (.ref (cA K n)))))
def fSup (n : Nat) : FaF := fun K => fOex n K && (He.eqO (PySem.W.ks_superIn K (cA K n) (cA K n) "__init__") (some (some (.builtin "ValueError.__init__"))) && (decide (PySem.W.subIn K (.ref (cA K n)) (.type "ValueError") = some true) && (decide (PySem.W.mroIn K (cA K n) (.ref (cA K n)) = some true) && He.eqO (PySem.W.nsIn K cStatics "thirdparty.any") (some none))))
/-- its __init__ : closure, code -/
def inB (K : PySem.W.Frag) (C f : Addr) (file : Str) : Bool := match K.lookup f with
  | some ⟨_, _, .func fd, _⟩ => (match fd.closure, fd.code, fd.defaults, fd.kwdefaults, fd.annotations with
    | [(_, cc)], .ref c, .none, .none, none => (match K.lookup cc with
      | some ⟨_, _, .cell (some (.ref C')), _⟩ => C' == C
      | _ => false) && (match K.lookup c with
      | some ⟨_, _, .fields vs, _⟩ => (match (vs[2]? : Option Value) with
        | some (.str fl _) => file == fl
        | _ => false)
      | _ => false)
    | _, _, _, _, _ => false)
  | _ => false
def fInit (n : Nat) (f : Str) (file : Str) : FaF := fun K => fSup n K && (He.eqO (PySem.W.findIn K (.ref (cA K n)) "__init__") (some (some (.ref (aM n "__init__" K)))) && (decide (PySem.W.typeIn K (.ref (aM n "__init__" K)) = some (.type "function")) && (inB K (cA K n) (aM n "__init__" K) file &&
  (He.eqO (PySem.W.findIn K (.ref (cA K n)) "code") (some none) && He.eqO (PySem.W.findIn K (.ref (cA K n)) f) (some none)))))
def fFld (n : Nat) : FaF := fun K => xfB K (cA K n) && (["code", "at", "most", "line", "state", "given"] : List Str).all fun f => He.eqO (PySem.W.findIn K (.ref (cA K n)) f) (some none)
def fErrs (errs : List Nat) : FaF := fun K => errs.all fun n => fFld n K && decide (PySem.W.exmAny K (.ref (cA K n)) [.ref (He.ga K "HouseError"), .ref (He.ga K "Missing"), .ref (He.ga K "NothingLeft")] = some true)
/-- the def at a: its code object's table is empty -/
def tabG (a : PySem.W.Frag → Addr) (g : Addr → Option Obj) (K : PySem.W.Frag) : Bool := match K.lookup (a K) with
  | some ⟨_, _, .func fd, _⟩ => (match fd.code with
    | .ref c => (match g c with
      | some ⟨.type t, _, .fields vs, _⟩ => t == "code" && (match (vs[11]? : Option Value), (vs[18]? : Option Value), (vs[7]? : Option Value), (vs[9]? : Option Value), (vs[10]? : Option Value) with
        | some (.ref P), some (.str _ _), some (.int _ _), some (.bool _), some (.int _ _) => c != P && (isTab (g P) && (K.lookup P).isNone)
        | _, _, _, _, _ => false)
      | _ => false)
    | _ => false)
  | _ => false
/-- .. so -/
def TabAt (h : Heap) (K : PySem.W.Frag) (a : Addr) : Prop := ∃ oc od fd osl c P, K.lookup a = some ⟨oc, od, .func fd, osl⟩ ∧ fd.code = .ref c ∧ PySem.W.CodeHd h c P ∧ h.get? P = some { cls := .none, data := .fields #[] } ∧ K.lookup P = none
theorem tab_at {a : PySem.W.Frag → Addr} {h : Heap} {K : PySem.W.Frag} (c : tabG a h.get? K = true) : TabAt h K (a K) := by
  unfold tabG at c
  split at c
  · rename_i oc od fd osl e1
    split at c
    · rename_i cd e2
      split at c
      · rename_i t d2 vs sl e3
        obtain ⟨ct, c⟩ := He.ba c
        have ct : t = "code" := by simpa using ct
        subst ct
        split at c
        · rename_i P file tf flags tg inF text tt h1 h2 h3 h4 h5
          obtain ⟨_, c⟩ := He.ba c
          obtain ⟨c1, c⟩ := He.ba c
          obtain ⟨c2, c3⟩ := He.ba c
          have gd : ∀ {i : Nat} {v : Value}, vs[i]? = some v → vs.getD i .none = v := fun {i v} e => by rw [Array.getD_eq_getD_getElem?, e]; rfl
          refine ⟨oc, od, fd, osl, cd, P, e1, e2, ⟨_, vs, file, tf, flags, tg, inF, text, tt, e3, rfl, rfl, h1, gd h1, gd h2, gd h3, gd h4, gd h5, by simpa using c1⟩, ?_, by simpa using c3⟩
          unfold isTab at c2
          split at c2
          · rename_i vs2 sl2 e6
            simp only [Bool.and_eq_true, Array.isEmpty_iff] at c2
            rw [e6, c2.1, c2.2]
          · cases c2
        · cases c
      · cases c
    · cases c
  · cases c
abbrev TgL := List (PySem.W.Frag → Addr)
def obsTG (n : Nat) (fa : List FaF) (fn : List DefF) (tg : TgL) (g : Addr → Option Obj) : He.AlD := (((obsF fa fn (He.frG g (asF g n))).1 && tg.all fun a => tabG a g (He.frG g (asF g n))), (obsF fa fn (He.frG g (asF g n))).2)
def hookT (n : Nat) (fa : List FaF) (fn : List DefF) (tg : TgL) (ts : TsL) : PySem.W.Hook where
  α := AlG
  obs := fun s => (obsTG n fa fn tg s.heap.get?, obsTs ts (He.frG s.heap.get? (asF s.heap.get? n)))
  val := fun w => (valF fn, valTs ts w)
  says := fun w h => ∃ K : PySem.W.Frag, K.In h ∧ SaysF fa fn K ∧ TsOk ts w K ∧ ∀ a ∈ tg, TabAt h K (a K)
  of := fun _ s e0 => by
    have e := congrArg (fun z : AlG => z.1) e0
    have e1 : ((obsF fa fn (He.frG s.heap.get? (asF s.heap.get? n))).1 && tg.all fun a => tabG a s.heap.get? (He.frG s.heap.get? (asF s.heap.get? n))) = true := congrArg (fun z : He.AlD => z.1) e
    have e2 : (obsF fa fn (He.frG s.heap.get? (asF s.heap.get? n))).2 = fn.map DefF.val := congrArg (fun z : He.AlD => z.2) e
    obtain ⟨e3, e4⟩ := He.ba e1
    exact ⟨_, He.frG_in, Prod.ext e3 e2, congrArg (fun z : AlG => z.2) e0, fun a ha => tab_at (List.all_eq_true.mp e4 a ha)⟩
  keeps := fun _ _ _ ⟨K, hK, c, c2, t⟩ k => ⟨K, PySem.W.Frag.In.keeps hK k, c, c2, fun a ha => by
    obtain ⟨oc, od, fd, osl, cd, P, e1, e2, e3, e4, e5⟩ := t a ha
    exact ⟨oc, od, fd, osl, cd, P, e1, e2, e3.keeps k, k _ _ e4, e5⟩⟩
def obsTGt (n : Nat) (fa : List FaF) (fn : List DefF) (tg : TgL) (ts : TsL) (g : Addr → Option Obj) : AlG := (obsTG n fa fn tg g, obsTs ts (He.frG g (asF g n)))
theorem obsTG_eq {n : Nat} {fa : List FaF} {fn : List DefF} {tg : TgL} {ts : TsL} {g : Addr → Option Obj} {s : Shared} (h : ∀ a, g a = s.heap.get? a) : obsTGt n fa fn tg ts g = (hookT n fa fn tg ts).obs s := by
  have e : g = s.heap.get? := funext h
  rw [e] <;> rfl

end DL

namespace DL
open PySem PySem.Spec PyProof.Rows L2
/-! ### head facts of defaults -/
/-- where the i-th default of a def stands, if it is an object -/
def aD (a : PySem.W.Frag → Addr) (i : Nat) : PySem.W.Frag → Addr := fun K => match K.lookup (a K) with
  | some ⟨_, _, .func fd, _⟩ => (match fd.defaults with
    | .ref T => (match K.lookup T with
      | some ⟨_, _, .seq its _, _⟩ => (match its.toList[i]? with
        | some (.ref b) => b
        | _ => 0)
      | _ => 0)
    | _ => 0)
  | _ => 0
/-- () stands there -/
def fTup0 (a : PySem.W.Frag → Addr) : FaF := fun K => tupB K [] (some (some (.ref (a K))))
end DL

set_option maxHeartbeats 0
namespace K11
open PySem PySem.Spec PyProof.Rows L2 DL
def top (i : Nat) : Stmt := PySem.Challenge.pw_fourwalls_k11_machines_told.main.body.getD i (.Pass ⟨0, 0, 0, 0⟩)
def clsBody : Stmt → List Stmt
  | .ClassDef _ _ _ b _ _ _ _ _ _ _ => b
  | _ => []
def topC (i j : Nat) : Stmt := (clsBody (top i)).getD j (.Pass ⟨0, 0, 0, 0⟩)
abbrev s_is_number : Stmt := top 13
abbrev s_is_rising : Stmt := top 14
abbrev s_is_faces : Stmt := top 15
abbrev s_check_table : Stmt := top 19
abbrev s_check_bad : Stmt := top 20
abbrev s_Machine___init__ : Stmt := topC 18 1
abbrev s_Machine_size : Stmt := topC 18 2
abbrev s_Machine_table : Stmt := topC 18 3
abbrev s_Machine_bad : Stmt := topC 18 4
abbrev s_Machine___eq__ : Stmt := topC 18 11
abbrev s_Machine___repr__ : Stmt := topC 18 12
abbrev s__law_open : Stmt := top 23
abbrev s__law_draw : Stmt := top 24
abbrev s__law_same : Stmt := top 25
abbrev s__law_letters : Stmt := top 26
abbrev s__law_some_faces : Stmt := top 27
abbrev s__law_some_machine : Stmt := top 28
abbrev s_law : Stmt := top 29
/-! the head and the end -/
def d_is_number : DefF := ⟨(aG "is_number"), "is_number", "is_number", defArgs s_is_number, defBody s_is_number, defScope s_is_number, [], [], []⟩
def d_is_rising : DefF := ⟨(aG "is_rising"), "is_rising", "is_rising", defArgs s_is_rising, defBody s_is_rising, defScope s_is_rising, [], [], []⟩
def d_is_faces : DefF := ⟨(aG "is_faces"), "is_faces", "is_faces", defArgs s_is_faces, defBody s_is_faces, defScope s_is_faces, [], [], []⟩
def d_check_table : DefF := ⟨(aG "check_table"), "check_table", "check_table", defArgs s_check_table, defBody s_check_table, defScope s_check_table, [], [], []⟩
def d_check_bad : DefF := ⟨(aG "check_bad"), "check_bad", "check_bad", defArgs s_check_bad, defBody s_check_bad, defScope s_check_bad, [], [], []⟩
def d_Machine___init__ : DefF := ⟨(aM 34 "__init__"), "__init__", "Machine.__init__", defArgs s_Machine___init__, defBody s_Machine___init__, defScope s_Machine___init__, [.adr (aD (aM 34 "__init__") 0)], [], []⟩
def d_Machine_size : DefF := ⟨(aP 34 "size"), "size", "Machine.size", defArgs s_Machine_size, defBody s_Machine_size, defScope s_Machine_size, [], [], []⟩
def d_Machine_table : DefF := ⟨(aM 34 "table"), "table", "Machine.table", defArgs s_Machine_table, defBody s_Machine_table, defScope s_Machine_table, [], [], []⟩
def d_Machine_bad : DefF := ⟨(aM 34 "bad"), "bad", "Machine.bad", defArgs s_Machine_bad, defBody s_Machine_bad, defScope s_Machine_bad, [], [], []⟩
def d_Machine___eq__ : DefF := ⟨(aM 34 "__eq__"), "__eq__", "Machine.__eq__", defArgs s_Machine___eq__, defBody s_Machine___eq__, defScope s_Machine___eq__, [], [], []⟩
def d_Machine___repr__ : DefF := ⟨(aM 34 "__repr__"), "__repr__", "Machine.__repr__", defArgs s_Machine___repr__, defBody s_Machine___repr__, defScope s_Machine___repr__, [], [], []⟩
def d__law_open : DefF := ⟨(aG "_law_open"), "_law_open", "_law_open", defArgs s__law_open, defBody s__law_open, defScope s__law_open, [], [], []⟩
def d__law_draw : DefF := ⟨(aG "_law_draw"), "_law_draw", "_law_draw", defArgs s__law_draw, defBody s__law_draw, defScope s__law_draw, [], [], []⟩
def d__law_same : DefF := ⟨(aG "_law_same"), "_law_same", "_law_same", defArgs s__law_same, defBody s__law_same, defScope s__law_same, [], [], []⟩
def d__law_letters : DefF := ⟨(aG "_law_letters"), "_law_letters", "_law_letters", defArgs s__law_letters, defBody s__law_letters, defScope s__law_letters, [], [], []⟩
def d__law_some_faces : DefF := ⟨(aG "_law_some_faces"), "_law_some_faces", "_law_some_faces", defArgs s__law_some_faces, defBody s__law_some_faces, defScope s__law_some_faces, [], [], []⟩
def d__law_some_machine : DefF := ⟨(aG "_law_some_machine"), "_law_some_machine", "_law_some_machine", defArgs s__law_some_machine, defBody s__law_some_machine, defScope s__law_some_machine, [], [], []⟩
def d_law : DefF := ⟨(aG "law"), "law", "law", defArgs s_law, defBody s_law, defScope s_law, [], [], []⟩
abbrev s_InvalidFaces___init__ : Stmt := topC 3 0
def d_InvalidFaces___init__ : DefF := ⟨(aM 16 "__init__"), "__init__", "InvalidFaces.__init__", defArgs s_InvalidFaces___init__, defBody s_InvalidFaces___init__, defScope s_InvalidFaces___init__, [], [], ["__class__"]⟩
abbrev s_InvalidTable___init__ : Stmt := topC 5 0
def d_InvalidTable___init__ : DefF := ⟨(aM 31 "__init__"), "__init__", "InvalidTable.__init__", defArgs s_InvalidTable___init__, defBody s_InvalidTable___init__, defScope s_InvalidTable___init__, [], [], ["__class__"]⟩
abbrev s_InvalidBad___init__ : Stmt := topC 6 0
def d_InvalidBad___init__ : DefF := ⟨(aM 12 "__init__"), "__init__", "InvalidBad.__init__", defArgs s_InvalidBad___init__, defBody s_InvalidBad___init__, defScope s_InvalidBad___init__, [], [], ["__class__"]⟩
def fnl : List DefF := [d_is_number, d_is_rising, d_is_faces, d_check_table, d_check_bad, d_Machine___init__, d_Machine_size, d_Machine_table, d_Machine_bad, d_Machine___eq__, d_Machine___repr__, d__law_open, d__law_draw, d__law_same, d__law_letters, d__law_some_faces, d__law_some_machine, d_law, d_InvalidFaces___init__, d_InvalidTable___init__, d_InvalidBad___init__]
def fal0 : List FaF := [(fFa (.glo "is_number")), (fFa (.glo "is_rising")), (fFa (.glo "is_faces")), (fFa (.glo "check_table")), (fFa (.glo "check_bad")), (fFa (.glo "_law_open")), (fFa (.glo "_law_draw")), (fFa (.glo "_law_same")), (fFa (.glo "_law_letters")), (fFa (.glo "_law_some_faces")), (fFa (.glo "_law_some_machine")), (fFa (.glo "law")), (fFa (.glo "Machine")), (fFa (.free "isinstance")), (fFa (.free "bool")), (fFa (.free "int")), (fFa (.free "list")), (fFa (.free "sorted")), (fFa (.free "set")), (fFa (.free "all")), (fFa (.free "len")), (fFa (.free "str")), (fFa (.str "LOWER" "abcdefghijklmnopqrstuvwxyz")), (fFa (.free "enumerate")), (fFa (.glo "InvalidTable")), (fFa (.free "tuple")), (fCC 34 "MOST" (.int 200)), (fFa (.glo "InvalidBad")), (fFa (.glo "InvalidFaces")), (fCls 34)]
def fal1 : List FaF := [(fNo 34 "own_bad"), (fNo 34 "own_table"), (fNo 34 "faces"), (fMeth 34 "bad"), (fMeth 34 "table"), (fIs 34 [(34, true)]), (fFa (.free "abs")), (fFa (.free "zip")), (fFa (.free "range")), (fFa (.free "any")), (fFa (.free "repr")), (fMk 34), (fProp 34 "size"), (fMeth 34 "__eq__"), (fMeth 34 "__repr__"), (fNe 34), (fInit 16 "given" "/claim/cut.py"), (fInit 31 "at" "/claim/cut.py"), (fInit 12 "at" "/claim/cut.py"), (fFa (.free "super")), (fTup0 (aD (aM 34 "__init__") 0))]
def fal : List FaF := fal0 ++ fal1
abbrev R : PySem.W.OpenRow := PySem.W.OpenLaw.row PySem.Challenge.rw_fourwalls_k11_machines_told
def tsl : TsL := []
abbrev hk : PySem.W.Hook := hookF 5 fal fnl tsl
def ob (s : PySem.W.SharedT) : AlG := obsFGt 5 fal fnl tsl (HandSHeadRun.getT s)
theorem ob_eq (s : PySem.W.SharedT) : ob s = hk.obs s.abs := obsFG_eq (HandSHeadRun.getT_eq s)
def loose0 : List PySem.Str := ["_wall", "HouseError", "InvalidFaces", "InvalidString", "InvalidTable", "InvalidBad", "OtherFaces", "TooMany", "Missing", "UnknownState", "LOWER", "is_number", "is_rising", "is_faces", "is_string", "Machine", "check_table", "check_bad", "joint_table", "_law_open", "_law_draw", "_law_same", "_law_letters", "_law_some_faces", "_law_some_machine"]
def loose : List PySem.Str := loose0
theorem run (w : World) : HandSHeadRun.RunEq R (PySem.W.view R.prog [29]) hk ob 20000 loose w := by
  intro os
  kernel_rfl
end K11

set_option maxHeartbeats 4000000
namespace DS
open PySem PySem.Spec PyProof.Rows L2
theorem nodup_le {α : Type} [DecidableEq α] : ∀ {l m : List α}, l.Nodup → (∀ x ∈ l, x ∈ m) → l.length ≤ m.length
  | [], _, _, _ => Nat.zero_le _
  | a :: l, m, h, k => by
    obtain ⟨h1, h2⟩ := List.nodup_cons.mp h
    have ha := k a (List.mem_cons_self ..)
    have := nodup_le (m := m.erase a) h2 fun x hx => (List.mem_erase_of_ne (fun z => by subst z; exact h1 hx)).mpr (k x (List.mem_cons_of_mem _ hx))
    rw [List.length_erase_of_mem ha] at this
    have : 0 < m.length := List.length_pos_of_mem ha
    simp only [List.length_cons]; omega

/-! ### sets of texts that can be walked -/
def txt (e : Int × Value) : Str := match e.2 with
  | .str k _ => k
  | _ => Str.empty
def IsTxt (w : World) (e : Int × Value) : Prop := ∃ k tk, e = (hashStr w k, Value.str k tk)
/-- what the payload es, t of a set says: it holds the texts of l -/
structure Pay (w : World) (es : Array (Int × Value)) (t : SetTable) (l : List Str) : Prop where
  tx : ∀ e ∈ es.toList, IsTxt w e
  nd : (es.toList.map txt).Nodup
  mem : ∀ k, k ∈ es.toList.map txt ↔ k ∈ l
  few : es.size < scanBound
  fit : t.fits es.size = true
  ris : Ris t.place.toList
  led : w.params.followText "set-order" = true ∨ t.led = true
def TSet (w : World) (h : Heap) (a : Addr) (l : List Str) : Prop := ∃ o es ep t, h.get? a = some o ∧ o.ExactSet ∧ o.data = .set es ep t ∧ Pay w es t l
theorem TSet.at {w : World} {h h' : Heap} {a : Addr} {l : List Str} (T : TSet w h a l) (k : ∀ o, h.get? a = some o → h'.get? a = some o) : TSet w h' a l := let ⟨o, es, ep, t, q, r⟩ := T; ⟨o, es, ep, t, k o q, r⟩
theorem TSet.re {w : World} {h : Heap} {a : Addr} {l m : List Str} (T : TSet w h a l) (e : ∀ k, k ∈ l ↔ k ∈ m) : TSet w h a m := let ⟨o, es, ep, t, q, r, s, p⟩ := T; ⟨o, es, ep, t, q, r, s, { p with mem := fun k => (p.mem k).trans (e k) }⟩
section
variable {P : Program} {w : World} {A : Around} {E : Value → Shared → Prop} {s : Shared} {a : Addr} {l : List Str} {es : Array (Int × Value)} {t : SetTable}
theorem tx_elems {L : List (Int × Value)} (g : ∀ e ∈ L, IsTxt w e) : ElemsOf (strKind P w) L := fun e he => by
  obtain ⟨k, tk, rfl⟩ := g e he
  exact ⟨⟨k, strKind_is P w k tk, rfl⟩, rfl⟩
theorem tx_is {e : Int × Value} (g : IsTxt w e) (k : Str) : (strKind P w).is k e.2 = true ↔ txt e = k := by
  obtain ⟨k0, tk, rfl⟩ := g
  exact ⟨fun q => (strKind P w).inj (.str k0 tk) k0 k (strKind_is P w k0 tk) q, fun q => q ▸ strKind_is P w k0 tk⟩
theorem Pay.perm {es' : Array (Int × Value)} {t' : SetTable} (p : Pay w es t l) (q : es'.toList.Perm es.toList) (hf : t'.fits es'.size = true) (hr : Ris t'.place.toList) (hl : t'.led = t.led) : Pay w es' t' l where
  tx := fun e he => p.tx e (q.mem_iff.mp he)
  nd := (q.map txt).nodup_iff.mpr p.nd
  mem := fun k => (q.map txt).mem_iff.trans (p.mem k)
  few := by
    have e : es'.size = es.size := q.length_eq
    rw [e]; exact p.few
  fit := hf
  ris := hr
  led := p.led.imp id fun z => hl.trans z
/-- a store of the payload -/
theorem lay_at {h : Heap} {o : Obj} {es' : Array (Int × Value)} {ep : Nat} {t' : SetTable} (ho : h.get? a = some o) (hx : o.ExactSet) (hd : o.data = .set es ep t) (p : Pay w es' t' l) : TSet w (h.update a (Obj.putSet es' t')) a l :=
  ⟨_, es', ep + 1, t', store_at ho hd, hx, rfl, p⟩
/-- the end of an add -/
theorem add_end {g : Bool → Sem Unit} (hg : ∀ b s₁ (Q' : Unit → Shared → Prop), Q' () s₁ → wpAny (model P w) A (g b) Q' E s₁) {o : Obj} {ep : Nat} (ho : s.heap.get? a = some o) (hx : o.ExactSet) (hd : o.data = .set es ep t)
    {e1 : Array (Int × Value)} {t2 : SetTable} (p : Pay w e1 t2 l) {dm : Bool} {R : Option Bool → Shared → Prop} (hR : ∀ h', Heap.SameBut a s.heap h' → TSet w h' a l → R (some true) { s with heap := h' }) :
    wpAny (model P w) A (storeSet a e1 t2 >>= fun _ => if (!dm && t2.tooFull) = true then (g (relayAll t2 e1 (SetTable.grown e1.size)).2.2 >>= fun _ => storeSet a (relayAll t2 e1 (SetTable.grown e1.size)).1 (relayAll t2 e1 (SetTable.grown e1.size)).2.1 >>= fun _ => pure (some true)) else pure (some true)) R E s := by
  have fits := fits_of_scanBound p.few
  refine wpAny_bind (wpAny_storeSet_of ho hd ?_ fits)
  have b1 := Heap.SameBut.update s.heap a (Obj.putSet e1 t2)
  by_cases c : (!dm && t2.tooFull) = true
  · rw [if_pos c]
    have q := relayAll_perm t2 e1 (SetTable.grown e1.size)
    have p3 := p.perm q (relayAll_fits t2 e1 _) (relayAll_ris t2 e1 _) (relayAll_led t2 e1 _)
    refine wpAny_bind (hg _ _ _ ?_)
    refine wpAny_bind (wpAny_storeSet_of (store_at ho hd) rfl ?_ (fits_of_scanBound p3.few))
    exact wpAny_pure (hR _ (b1.trans (Heap.SameBut.update _ a _)) (lay_at (store_at ho hd) hx rfl p3))
  · rw [if_neg c]
    exact wpAny_pure (hR _ b1 (lay_at ho hx hd p))
theorem add_text {k : Str} {tk : Tok} {Q : Bool → Shared → Prop} (T : TSet w s.heap a l) (room : l.length + 1 < scanBound)
    (hQ : ∀ b h', Heap.SameBut a s.heap h' → TSet w h' a (k :: l) → Q b { s with heap := h' }) : wpAny (model P w) A (setAddHashed a (.str k tk) ((strKind P w).hash k)) Q E s := by
  obtain ⟨o, es, ep, t, ho, hx, hd, p⟩ := T
  have hk := strKind_is P w k tk
  have el : ElemsOf (strKind P w) es.toList := tx_elems p.tx
  unfold setAddHashed setAddHashedIn
  refine wpAny_holding ?_
  refine wpAny_bind (wpAny_setState_of ho hd p.fit ?_)
  dsimp only
  rw [byScan_of rfl p.few el]
  simp only [↓reduceIte]
  unfold setAddByScan
  refine wpAny_bind (wpAny_bind (wpAny_rule ?_))
  refine wpAny_bind (wpAny_setScan_of hk ho hd p.fit el ?_)
  cases c : List.findIdx? (fun e => (strKind P w).is k e.2) es.toList with
  | some j =>
    obtain ⟨hj, pj, _⟩ := List.findIdx?_eq_some_iff_getElem.mp c
    have hin : k ∈ l := (p.mem k).mp (List.mem_map.mpr ⟨_, List.getElem_mem hj, (tx_is (P := P) (p.tx _ (List.getElem_mem hj)) k).mp pj⟩)
    refine wpAny_pure (wpAny_pure (hQ false s.heap (Heap.SameBut.refl a s.heap) ⟨o, es, ep, t, ho, hx, hd, { p with mem := fun i => (p.mem i).trans ?_ }⟩))
    exact ⟨List.mem_cons_of_mem _, fun z => (List.mem_cons.mp z).elim (fun e => e ▸ hin) id⟩
  | none =>
    have hout : k ∉ es.toList.map txt := fun z => by
      obtain ⟨e, he, q⟩ := List.mem_map.mp z
      have := List.findIdx?_eq_none_iff.mp c e he
      rw [(tx_is (P := P) (p.tx e he) k).mpr q] at this
      cases this
    have len : es.size ≤ l.length := by
      have := nodup_le p.nd fun x hx => (p.mem x).mp hx
      simpa using this
    have way : ∀ (b : Bool) {s₁ : Shared} {Q' : Unit → Shared → Prop}, Q' () s₁ → wpAny (model P w) A (match b with | true => rule "set.scan.the-table-gave-way" | false => pure ()) Q' E s₁ := fun b s₁ Q' z => by
      cases b
      · exact wpAny_pure z
      · exact wpAny_rule z
    have q1 := layNew_perm t es ((strKind P w).hash k) (.str k tk)
    have f1 := layNew_fits t es ((strKind P w).hash k) (.str k tk)
    have r1 := layNew_ris t es ((strKind P w).hash k) (.str k tk) p.ris
    have l1 := layNew_led t es ((strKind P w).hash k) (.str k tk)
    generalize layNew t es ((strKind P w).hash k) (.str k tk) = Z at q1 f1 r1 l1 ⊢
    obtain ⟨e1, t1, dm, gave⟩ := Z
    dsimp only at q1 f1 r1 l1 ⊢
    rw [Array.toList_push] at q1
    have q2 : e1.toList.Perm (((strKind P w).hash k, Value.str k tk) :: es.toList) := q1.trans (List.perm_append_singleton _ _)
    have q3 : (e1.toList.map txt).Perm (k :: es.toList.map txt) := q2.map txt
    have sz : e1.size = es.size + 1 := by
      have := q2.length_eq
      simpa using this
    have p1 : ∀ t2 : SetTable, t2.fits e1.size = true → Ris t2.place.toList → t2.led = t.led → Pay w e1 t2 (k :: l) := fun t2 a1 a2 a3 =>
      ⟨fun e he => (List.mem_cons.mp (q2.mem_iff.mp he)).elim (fun z => z ▸ ⟨k, tk, rfl⟩) (p.tx e), q3.nodup_iff.mpr (List.nodup_cons.mpr ⟨hout, p.nd⟩), fun i => by rw [q3.mem_iff, List.mem_cons, List.mem_cons, p.mem i], by omega, a1, a2, p.led.imp id fun z => a3.trans z⟩
    refine wpAny_bind (way _ ?_)
    split
    · refine wpAny_bind ?_
      rw [hashByValue_scannable 8 (x := Value.str k tk) rfl]
      refine wpAny_pure ?_
      refine add_end (fun b s₁ Q' z => ?_) ho hx hd (p1 _ ?_ ?_ ?_) fun h' sb r => ?_
      · cases b <;> first | exact wpAny_pure z | exact wpAny_rule z
      · first | exact SetTable.fits_plain_off f1 | (split <;> first | exact f1 | exact SetTable.fits_plain_off f1)
      · first | exact r1 | (split <;> exact r1)
      · first | exact l1 | (split <;> exact l1)
      · dsimp only
        exact wpAny_pure (hQ true h' sb r)
    · refine wpAny_bind (wpAny_pure ?_)
      simp only [↓reduceIte]
      refine add_end (fun b s₁ Q' z => ?_) ho hx hd (p1 _ f1 r1 l1) fun h' sb r => ?_
      · cases b <;> first | exact wpAny_pure z | exact wpAny_rule z
      · dsimp only
        exact wpAny_pure (hQ true h' sb r)
end
section
variable {P : Program} {w : World} {A : Around} {E : Value → Shared → Prop} {s : Shared}
/-! ### set(text) -/
theorem loop_signs {I S : Addr} {n : Nat} {x : Str} {St : Nat → Heap → Prop} (hn : n = x.cps.size) (W : Walks P w A.in1 I [I] [I] n (SignAt x) St) (hSI : S ≠ I) (few : n + 1 < scanBound) {R : Result → Shared → Prop} :
    ∀ (k i : Nat) (s : Shared) (l : List Str), n - i = k → i ≤ n → l.length ≤ i → St i s.heap → (∀ y, y ∈ l ↔ ∃ c ∈ x.cps.toList.take i, y = ⟨#[c]⟩) → TSet w s.heap S l →
      (∀ (h' : Heap) (tk : Nat) (l' : List Str), (∀ b o, b ≠ S → b ≠ I → s.heap.get? b = some o → h'.get? b = some o) → l'.length ≤ n → (∀ y, y ∈ l' ↔ ∃ c ∈ x.cps.toList, y = ⟨#[c]⟩) → TSet w h' S l' → R (.ok (.ret .none)) { s with heap := h', toks := tk }) →
      codeAny (model P w) A (.builtin "set.update.loop" ⟨[.ref S, .ref I], []⟩) R s := by
  intro k
  induction k with
  | zero =>
    intro i s l hk hi hl st hm T hR
    obtain rfl : i = n := by omega
    refine codeAny_builtin PyProof.Rows.F.entry_set_update_loop ?_
    rw [Around.under_plainId PyProof.Rows.F.plain_set_update_loop _]
    show wpAny _ A.in1 (pyNext (.ref I) >>= _) _ _ s
    refine wpAny_bind (W.done s _ _ st fun h' tk kp => ?_)
    show wpAny _ A.in1 (ret Value.none) _ _ _
    refine wpAny_pure (hR h' tk l (fun b o _ b2 e => kp b o (by simpa using b2) e) hl (fun y => ?_) (T.at fun o e => kp S o (by simpa using hSI) e))
    rw [hm y, hn, ← Array.length_toList, List.take_length]
  | succ k ih =>
    intro i s l hk hi hl st hm T hR
    have hlt : i < n := by omega
    refine codeAny_builtin PyProof.Rows.F.entry_set_update_loop ?_
    rw [Around.under_plainId PyProof.Rows.F.plain_set_update_loop _]
    show wpAny _ A.in1 (pyNext (.ref I) >>= _) _ _ s
    refine wpAny_bind (W.item i s _ _ hlt st fun v h1 tk hP st1 kp => ?_)
    obtain ⟨c, u, hc, rfl⟩ := hP
    show wpAny _ A.in1 (holding [Value.str ⟨#[c]⟩ u] (setAdd S (.str ⟨#[c]⟩ u)) >>= _) _ _ _
    refine wpAny_bind (wpAny_holding ?_)
    unfold setAdd
    refine wpAny_holding (wpAny_bind ((strKind P w).pyHash (k := ⟨#[c]⟩) (strKind_is _ _ _ _) ?_))
    refine add_text (l := l) (s := { s with heap := h1, toks := tk + 1 }) (T.at fun o e => kp S o (by simpa using hSI) e) (by omega) fun b h2 sb T2 => ?_
    refine wpAny_pure ⟨plainId_quiet PyProof.Rows.F.plain_set_update_loop _, ih (i + 1) _ (⟨#[c]⟩ :: l) (by omega) hlt (by simp only [List.length_cons]; omega) (W.frame _ _ _ st1 fun b hb o e => ?_) (fun y => ?_) T2 fun h3 tk3 l3 kp3 a1 a2 a3 => ?_⟩
    · exact (sb.2 b (fun z => hSI (by simpa [z] using hb))).trans e
    · have ec : x.cps.toList[i]? = some c := by rw [Array.getElem?_toList]; exact hc
      rw [List.mem_cons, hm y, List.take_succ, ec]
      constructor
      · rintro (rfl | ⟨d, hd, rfl⟩)
        · exact ⟨c, by simp, rfl⟩
        · exact ⟨d, by simp [hd], rfl⟩
      · rintro ⟨d, hd, rfl⟩
        rcases List.mem_append.mp hd with z | z
        · exact .inr ⟨d, z, rfl⟩
        · have : d = c := by simpa using z
          exact .inl (by rw [this])
    · exact hR h3 tk3 l3 (fun b o b1 b2 e => kp3 b o b1 b2 ((sb.2 b b1).trans (kp b o (by simpa using b2) e))) a1 a2 a3
def freshSet (w : World) : Obj := { cls := .type "set", dict := none, data := .set #[] 0 (.fresh 0 0 (!w.params.followText "set-order")) }
theorem fresh_pay (w : World) : Pay w #[] (.fresh 0 0 (!w.params.followText "set-order")) [] where
  tx := fun e he => by simp at he
  nd := by simp
  mem := fun k => by simp
  few := by decide
  fit := rfl
  ris := List.Pairwise.nil
  led := by
    show _ ∨ (!w.params.followText "set-order") = true
    cases w.params.followText "set-order"
    · exact .inr rfl
    · exact .inl rfl
theorem new_of (v : Value) {Q : Value → Shared → Prop} (h : Q (.ref s.heap.objs.size) { s with heap := s.heap.push (freshSet w) }) : codeAny (model P w) A (.call (.builtin "set.__new__") ⟨[.type "set", v], []⟩) (wants Q E) s := by
  refine codeAny_of_tree ?_
  show wpAny _ A.in1 (checkBuiltinCall "set.__new__" ⟨[.type "set", v], []⟩ >>= fun _ => again (.builtin "set.__new__" ⟨[.type "set", v], []⟩)) _ _ s
  refine wpAny_bind (wpAny_of_eq (F.newCall_set_1 v) ?_)
  refine wpAny_pure ⟨plainId_quiet F.plain_set_new _, codeAny_builtin F.entry_set_new ?_⟩
  rw [Around.under_plainId F.plain_set_new _]
  unfold Builtin.«set.__new__» Builtin.Frozenset.newClass
  have sub := sub_set_self
  obtain ⟨hp, g, d, tk, os⟩ := s
  dsimp only
  wp_walk
  refine wpAny_askSetting (wpAny_pure ?_)
  dsimp only
  simp only [newObj]
  exact wpAny_bind (wpAny_alloc (wpAny_pure (wpAny_pure h)))
theorem sub_str_set : isSubtype (.type "str") (.type "set") = pure false := by rw [isSubtype_type]; kernel_rfl
theorem sub_str_frozenset : isSubtype (.type "str") (.type "frozenset") = pure false := by rw [isSubtype_type]; kernel_rfl
set_option maxHeartbeats 3200000 in
theorem set_of_text {x : Str} {u : Tok} {Q : Value → Shared → Prop} (hh : A.handled = none) (few : x.cps.size + 1 < scanBound)
    (h : ∀ (h' : Heap) (tk : Nat) (l : List Str), l.length ≤ x.cps.size → (∀ y, y ∈ l ↔ ∃ c ∈ x.cps.toList, y = ⟨#[c]⟩) → TSet w h' s.heap.objs.size l → (∀ b o, b < s.heap.objs.size → s.heap.get? b = some o → h'.get? b = some o) → Q (.ref s.heap.objs.size) { s with heap := h', toks := tk }) :
    wpAny (model P w) A (call (.type "set") [.str x u]) Q E s := by
  obtain ⟨c, tl, hmro⟩ := PySem.F.called_set.mro
  have hmade := PySem.F.called_set.made
  have hsub := PySem.F.called_set.sub
  refine wpAny_call (codeAny_of_tree ?_)
  show wpAny _ _ (callAny (.type "set") _) _ _ _
  refine wpAny_pure ⟨Code.quiet_builtin _ (by decide +kernel), codeAny_builtin PySem.F.entry_type_call ?_⟩
  rw [Around.under_plain (weight_type_call_type "set" [.str x u] []) rfl]
  have h1 := PySem.F.called_set.notType
  have h2 := PySem.F.called_set.canCreate
  have hct := PySem.F.typeCall_set_1 (.str x u)
  repeat (any_goals (first | assumption | wp_step))
  refine codeAny_mono (new_of (.str x u) (E := E) (Q := fun obj s₁ => obj = .ref s.heap.objs.size ∧ s₁ = { s with heap := s.heap.push (freshSet w) }) ⟨rfl, rfl⟩) fun r s₁ hr => ?_
  cases r with
  | error e => exact hr
  | ok fl =>
    cases fl with
    | ret obj =>
      obtain ⟨rfl, rfl⟩ := hr
      have hS : (s.heap.push (freshSet w)).get? s.heap.objs.size = some (freshSet w) := Heap.get?_push_size _ rfl
      have hT : Shared.TypeIs { s with heap := s.heap.push (freshSet w) } (.ref s.heap.objs.size) "set" := ⟨_, hS, rfl⟩
      have hli := PySem.F.called_set.init.lookup
      have hbi := PySem.F.called_set.init.bind (.ref s.heap.objs.size)
      repeat (any_goals (first | assumption | wp_step))
      refine codeAny_mono (codeAny_call_builtin (R := wants (fun r s₂ => r = .none ∧ ∃ h' tk l, s₂ = { s with heap := h', toks := tk } ∧ l.length ≤ x.cps.size ∧ (∀ y, y ∈ l ↔ ∃ c ∈ x.cps.toList, y = ⟨#[c]⟩) ∧ TSet w h' s.heap.objs.size l ∧
          (∀ b o, b < s.heap.objs.size → s.heap.get? b = some o → h'.get? b = some o)) E) PySem.F.called_set.init.plain PySem.F.entry_set_init (check_set_init_1 hT ?_)) fun r₂ s₂ hr₂ => ?_
      · have z1 := sub_str_set
        have z2 := sub_str_frozenset
        have z3 : (Value.type "str" == Value.type "dict") = false := by decide
        unfold Builtin.«set.__init__» noKeywords Builtin.Frozenset.updateFrom
        generalize hPI : pyIter = PI
        wp_walk
        subst hPI
        refine wpAny_pyIter_str fun o St W st => ?_
        have hz : (s.heap.push (freshSet w)).objs.size = s.heap.objs.size + 1 := size_push' _ _
        refine wpAny_bind (wpAny_runValue ?_)
        have hh3 : A.in1.in1.in1.handled = none := hh
        refine loop_signs rfl (W _ hh3) (show s.heap.objs.size ≠ (s.heap.push (freshSet w)).objs.size by omega) few (x.cps.size - 0) 0 _ [] (by omega) (Nat.zero_le _) (Nat.le_refl _) st (fun y => by simp) ?_ fun h' tk l kp a1 a2 a3 => ?_
        · exact ⟨_, #[], 0, _, Heap.get?_push_of_some _ hS, ⟨rfl, rfl, rfl⟩, rfl, fresh_pay w⟩
        · refine wpAny_pure ?_
          show wpAny _ _ (ret Value.none) _ _ _
          refine wpAny_pure ⟨rfl, h', tk, l, rfl, a1, a2, a3, fun b o hb e => ?_⟩
          exact kp b o (Nat.ne_of_lt hb) (show b ≠ (s.heap.push (freshSet w)).objs.size by omega) (Heap.get?_push_of_some _ (Heap.get?_push_of_some _ e))
      · cases r₂ with
        | error e => exact hr₂
        | ok fl₂ =>
          cases fl₂ with
          | ret r =>
            obtain ⟨rfl, h', tk, l, rfl, a1, a2, a3, a4⟩ := hr₂
            repeat (any_goals (first | assumption | wp_step))
            exact h _ _ l a1 a2 a3 a4
          | _ => exact hr₂.elim
    | _ => exact hr.elim
end
/-! ### sorted(set of texts) -/
theorem strs_vals : ∀ {L : List (Int × Value)} {w : World}, (∀ e ∈ L, IsTxt w e) → StrsAre (L.map (·.2)) (L.map txt)
  | [], _, _ => .nil
  | e :: L, w, h => by
    obtain ⟨k, tk, rfl⟩ := h e (List.mem_cons_self ..)
    exact .cons k tk (strs_vals fun e he => h e (List.mem_cons_of_mem _ he))
theorem strs_perm {L : List (Int × Value)} {w : World} {out : List Value} (h : ∀ e ∈ L, IsTxt w e) (p : out.Perm (L.map (·.2))) : ∃ ks, StrsAre out ks ∧ ks.Perm (L.map txt) := by
  have g : ∀ v ∈ out, ∃ x t, v = Value.str x t := fun v hv => (strs_vals h).all v (p.mem_iff.mp hv)
  refine ⟨_, strsAre_map out g, ?_⟩
  have e := (strs_vals h).strs
  rw [← e]
  exact p.map _
section
variable {P : Program} {w : World} {A : Around} {E : Value → Shared → Prop} {s : Shared} {a : Addr} {l : List Str}
theorem sorted_tset {Q : Value → Shared → Prop} (T : TSet w s.heap a l) (hh : A.handled = none)
    (hQ : ∀ s' p (out : Array Value) (c : Nat) (ys : List Str), (∀ b o, s.heap.get? b = some o → s'.heap.get? b = some o) → s'.gens = s.gens → s'.os = s.os → s.heap.objs.size ≤ p → s'.heap.get? p = some (seqObj "list" out c) →
      StrsAre out.toList ys → ys.Nodup → (∀ k, k ∈ ys ↔ k ∈ l) → sortedS ys = true → Q (.ref p) s') : wpAny (model P w) A (call (.builtin "sorted") [.ref a]) Q E s := by
  obtain ⟨o, es, ep, t, ho, hx, hd, p⟩ := T
  refine Calls.call_function_entry kind_sorted plain_sorted entry_sorted (args_sorted1 _) ?_
  unfold Builtin.«sorted»
  refine wpAny_bind (m := checkCount "sorted" 1 1 _) (wpAny_pure ?_)
  refine wpAny_bind (collect_set (A := A.in1) hh ⟨o, ho, hx.1, hd⟩ p.fit p.few p.ris p.led fun s1 vs k1 hz g1 o1 pm => ?_)
  obtain ⟨ks, hS, pk⟩ := strs_perm p.tx pm
  have lv : vs.length ≤ sizeLine := by
    have e : vs.length = es.size := by rw [pm.length_eq, List.length_map, Array.length_toList]
    rw [e]; exact fits_of_scanBound p.few
  refine wpAny_bind (wpAny_newList ?_ lv)
  have at1 : (s1.heap.push (seqObj "list" vs.toArray 0)).get? s1.heap.objs.size = some (seqObj "list" vs.toArray 0) := Heap.get?_push_size _ rfl
  refine wpAny_bind (wpAny_holding (wpAny_call_entry slot_list_sort ⟨_, at1, rfl⟩ entry_list_sort (list_sort_treeKAny strKind_oneLt at1 hS.keysOf (fun v₁ v₂ rest e => keyKind_strs (by rw [← e]; exact hS)) lv fun st' b1 b2 => ⟨_, rfl, ?_⟩) (args_list_sort _)))
  obtain ⟨ys, c1, c2, c3⟩ := sorted_out_str hS b1 b2
  obtain ⟨c, hc⟩ := sortedHeap_at (vs := vs) (out := (arrOf st').map (·.2)) at1
  have pn : ys.Perm (es.toList.map txt) := c2.trans pk
  refine wpAny_pure ⟨_, rfl, hQ _ s1.heap.objs.size _ c ys (fun b u e => ?_) g1 o1 hz hc c1 (pn.nodup_iff.mpr p.nd) (fun k => pn.mem_iff.trans (p.mem k)) c3⟩
  have q := k1 b u e
  have lt := Heap.lt_size q
  show (sortedHeap (s1.heap.push (seqObj "list" vs.toArray 0)) s1.heap.objs.size vs _).get? b = some u
  rw [sortedHeap_old (Nat.ne_of_lt lt) (by rw [size_push']; exact Nat.lt_succ_of_lt lt)]
  exact Heap.get?_push_of_some _ q
end
/-! ### over the layer -/
def SetT (w : World) (a : Addr) (l : List Str) : HO := .ext fun h => TSet w h a l
def signs (x : Str) : List Str := x.cps.toList.map fun c => ⟨#[c]⟩
section
variable {X : Cx}
theorem setT_new {w : World} {P : Program} {H : Hp} {h : Heap} {a : Addr} {l : List Str} (T : TSet w h a l) : ObjOk P w H h a (SetT w a l) := by
  have ⟨o, _, _, _, ho, _⟩ := T
  exact ⟨T, ⟨o, ho⟩, fun h1 h2 p k => TSet.at p k⟩
theorem setT_get {pins : List (Addr × Obj)} {σ : L2.St} {H : Hp} {s : Shared} {a : Addr} {l : List Str} (I : Inv X pins σ H s) (ha : H a = some (SetT X.w a l)) : TSet X.w s.heap a l := (I.hok a _ ha).1
/-- set(text) -/
def rSetT (w : World) : List V → Hp → VK → Prop := fun vs H Q => ∃ x : Str, vs = [.str x] ∧ x.cps.size + 1 < scanBound ∧ ∀ p, H p = none → Q (.ref p) (upd H p (SetT w p (signs x)))
theorem cr_setT (hc : X.calm = true) : CallR X (.type "set") (rSetT X.w) := by
  intro pins s σ H vs us Q I r h
  obtain ⟨x, rfl, few, q⟩ := h
  cases r with
  | cons r1 rt =>
    cases rt
    obtain ⟨tk, rfl⟩ := r1
    refine set_of_text (I.ok.hd hc) few fun h' tk l hl hm T kp => ?_
    have T2 : TSet X.w h' s.heap.objs.size (signs x) := T.re fun k => (hm k).trans ⟨fun ⟨c, h1, h2⟩ => List.mem_map.mpr ⟨c, h1, h2.symm⟩, fun z => let ⟨c, h1, h2⟩ := List.mem_map.mp z; ⟨c, h1, h2.symm⟩⟩
    exact ⟨.ref _, upd H s.heap.objs.size (SetT X.w s.heap.objs.size (signs x)), I.laid (t' := tk) (fun b u e => kp b u (Heap.lt_size e) e) (Nat.le_refl _) (setT_new T2), rfl, q _ (I.hok.fresh (Nat.le_refl _))⟩
/-- sorted(that set) -/
def rSortT (w : World) : List V → Hp → VK → Prop := fun vs H Q => ∃ (a : Addr) (l : List Str), vs = [.ref a] ∧ H a = some (SetT w a l) ∧ l.length ≤ 16777216 ∧ ∀ (ys : List Str) (p : Addr), ys.Nodup → (∀ k, k ∈ ys ↔ k ∈ l) → sortedS ys = true → H p = none → Q (.ref p) (upd H p (.lst (ys.map .str)))
theorem cr_sortT (hc : X.calm = true) : CallR X (.builtin "sorted") (rSortT X.w) := by
  intro pins s σ H vs us Q I r h
  obtain ⟨a, l, rfl, ha, hl, q⟩ := h
  rw [Vals.ref1 r]
  refine sorted_tset (setT_get I ha) (I.ok.hd hc) fun s' p out c ys k g o hp hg hS nd hm hs => ?_
  have len : (ys.map V.str).length ≤ sizeLine := by
    have := nodup_le nd fun x hx => (hm x).mp hx
    rw [List.length_map, sizeLine_eq]; omega
  have hn : H p = none := I.hok.fresh hp
  have J : Inv X pins σ (upd H p (.lst (ys.map V.str))) { s with heap := s'.heap, gens := s'.gens, drawn := s'.drawn, toks := s'.toks } :=
    I.call (ch := []) (Un.laid k hp hn) (I.hok.laid k hp ⟨len, out.toList, c, vals_of_strs hS, hg⟩) (by rw [g]; exact I.bare) (fun _ z => nomatch z)
  have e : s' = { s with heap := s'.heap, gens := s'.gens, drawn := s'.drawn, toks := s'.toks } := by
    cases s'; cases s; cases o; rfl
  rw [e]
  exact ⟨.ref p, _, J, rfl, q ys p nd hm hs hn⟩
end
end DS

/-! enumerate(tuple) -/
namespace L2
open PySem PySem.Spec PyProof.Rows
theorem meets_enum1 {v : Value} {o : Obj} {H : Heap → Prop} (B : Begins v o H) :
    Meets (Builtin.«enumerate.__new__» ⟨[.type "enumerate", v], []⟩) (fun _ R s => H s.heap ∧
      R (.ok (.ret (.ref (s.heap.push o).objs.size))) { s with heap := (s.heap.push o).push { cls := .type "enumerate", data := .fields #[.none, .bool false, .ref s.heap.objs.size, rawInt 0, .none, .none] } }) :=
  .of_wp fun prog w A R s h => by
    obtain ⟨hp, g, d, tk, os⟩ := s; obtain ⟨h1, h⟩ := h
    have hsub := sub_enumerate
    have q1 : ∀ {A' : Around} {E : Value → Shared → Prop} {Q : Value → Shared → Prop}, Q (.ref hp.objs.size) ⟨hp.push o, g, d, tk, os⟩ → wpAny (model prog w) A' (pyIter v) Q E ⟨hp, g, d, tk, os⟩ :=
      fun q => B.iter prog w _ _ ⟨hp, g, d, tk, os⟩ _ h1 q
    wp_walk using q1
    refine wpAny_stack_any fun st => wpAny_pure ?_
    split
    · rename_i c _ _ _ _ _
      cases (c == Value.type "enumerate")
      · wp_walk using q1
        exact ⟨_, rfl, h⟩
      · wp_walk using q1
        exact ⟨_, rfl, h⟩
    · wp_walk using q1
      exact ⟨_, rfl, h⟩
theorem enum_begins1 {prog : Program} {w : World} {A : Around} {E : Value → Shared → Prop} {s : Shared} {v : Value} {o : Obj} {H : Heap → Prop} {Q : Value → Shared → Prop} (B : Begins v o H) (h1 : H s.heap)
    (h : ∀ h', IsEnum h' (s.heap.objs.size + 1) s.heap.objs.size 0 .none → h'.get? s.heap.objs.size = some o → h'.objs.size = s.heap.objs.size + 2 →
      (∀ b o, s.heap.get? b = some o → h'.get? b = some o) → Q (.ref (s.heap.objs.size + 1)) { s with heap := h' }) :
    wpAny (model prog w) A (call (.type "enumerate") [v]) Q E s := by
  refine callType_new F.called_enumerate (by decide) (F.typeCall_enumerate_1 _) (F.newCall_enumerate_1 _) (fun obj => F.args_object_init_2 obj _) F.entry_enumerate_new (meets_enum1 B) ⟨h1, ?_⟩
  have hz : (s.heap.push o).objs.size = s.heap.objs.size + 1 := Heap.size_push ..
  show _ ∧ _
  rw [hz]
  have he : IsEnum ((s.heap.push o).push { cls := .type "enumerate", data := .fields #[.none, .bool false, .ref s.heap.objs.size, rawInt 0, .none, .none] }) (s.heap.objs.size + 1) s.heap.objs.size 0 .none := by
    have := Heap.get?_push_size (s.heap.push o) (o := { cls := .type "enumerate", data := .fields #[.none, .bool false, .ref s.heap.objs.size, rawInt 0, .none, .none] }) rfl
    rw [hz] at this; exact this
  refine ⟨⟨_, he, rfl⟩, h _ he (Heap.get?_push_of_some _ (Heap.get?_push_size _ B.free)) (by rw [Heap.size_push, hz]) fun b o x => Heap.get?_push_of_some _ (Heap.get?_push_of_some _ x)⟩
def IteT (K : PySem.W.Frag) (a : Addr) : It :=
  ⟨fun i H => ∃ (xs : List V) (x : V), SqT K H a xs ∧ xs[i]? = some x, fun i H v H' => ∃ T x, v = .ref T ∧ H T = none ∧ H' = upd H T (.tup [.int (i : Nat), x]) ∧ ∀ xs, SqT K H a xs → xs[i]? = some x, fun i H => ∃ xs : List V, SqT K H a xs ∧ xs.length ≤ i⟩
theorem tup_ne {h : Heap} {a e : Addr} {items : Array Value} {o : Obj} (h1 : h.IsTuple a items) (h2 : h.get? e = some o) (hc : o.cls ≠ .type "tuple") : a ≠ e := fun z => by
  obtain ⟨o2, e2, c2, _⟩ := h1
  rw [z, h2] at e2
  cases e2
  exact hc c2
theorem turn_enumT {P : Program} {w : World} {K : PySem.W.Frag} {elts : List Expr} {kk : Nat} {tpos : Pos} (a e it : Addr) :
    Turn P w K (.Tuple elts kk tpos) (IteT K a) [e, it] e (fun i h => (∃ old, IsEnum h e it ((i : Nat) : Int) old) ∧ h.IsTupleIter it a i ∧ e ≠ it) where
  mem := by simp
  obj := fun i h st b hb => by
    obtain ⟨⟨old, he⟩, ⟨o, ho, hc, hd⟩, _⟩ := st
    have e' : b = e ∨ b = it := by simpa using hb
    rcases e' with z | z
    · rw [z]; exact ⟨_, he, fun v q => nomatch q⟩
    · rw [z]; exact ⟨o, ho, fun v q => by rw [hd] at q; cases q⟩
  keep := fun i h h' st k => let ⟨⟨old, he⟩, hi, hne⟩ := st; ⟨⟨old, k e (by simp) _ he⟩, hi.at fun o q => k it (by simp) o q, hne⟩
  item := by
    intro X hP hw hK hc i pins s σ H E I hf st hg
    subst hP hw hK
    obtain ⟨⟨old, he⟩, hit, hne⟩ := st
    obtain ⟨xs, x, hq, hx⟩ := hg
    obtain ⟨its, rv, p, hz⟩ := I.tuple hq
    have p : s.heap.IsTuple a its.toArray := p
    obtain ⟨u, hu, ru⟩ := rv.get hx
    have hel : e < s.heap.objs.size := Heap.lt_size he
    have hil : it < s.heap.objs.size := by obtain ⟨_, q, _⟩ := hit; exact Heap.lt_size q
    have nae : a ≠ e := tup_ne p he (fun z => absurd (Value.type.inj z) (by decide))
    have nai : a ≠ it := by
      obtain ⟨o, ho, hcl, _⟩ := id hit
      exact tup_ne p ho (by rw [hcl]; exact fun z => absurd (Value.type.inj z) (by decide))
    have D := Draws.tuple (prog := X.prog) (w := X.w) (A := X.A.in1) (I.ok.hd hc) it a nai its.toArray
    have hlen : i < its.toArray.size := by
      have := (List.getElem?_eq_some_iff.mp hu).1
      simpa using this
    refine wpAny_pyNext_enum_itemC D he ⟨hit, p⟩ hlen hne (by simp [hne, nae.symm]) fun x' h' tk hP ho hst hT hsz hk => ?_
    have ex : x' = u := by
      have : its.toArray[i]? = some u := by simpa using hu
      rw [this] at hP
      exact (Option.some.inj hP).symm
    subst ex
    obtain ⟨hit', hp'⟩ := hst
    refine ⟨_, rfl, wpAny_letOwnedTupleGo_enum (s := { s with heap := h', toks := tk + 1 }) ho fun h'' he' sb => ?_⟩
    have hT2 : h''.get? s.heap.objs.size = some { cls := .type "tuple", data := .seq #[.int i tk, x'] } := (sb.2 _ (Nat.ne_of_gt hel)).trans hT
    have new : ObjOk X.prog X.w (upd H s.heap.objs.size (.tup [.int (i : Nat), x])) h'' s.heap.objs.size (.tup [.int (i : Nat), x]) :=
      ⟨by show 2 ≤ sizeLine; decide, [.int i tk, x'], .cons ⟨_, rfl⟩ (.cons ru .nil), ⟨_, hT2, rfl, _, rfl⟩⟩
    have I1 : Inv X pins σ (upd H s.heap.objs.size (.tup [.int (i : Nat), x])) { s with heap := h'', toks := tk + 1 } :=
      I.turnedNew (ch := [e, it]) (fun b ob hb q => (sb.2 b (fun z => hb (by simp [z]))).trans (hk b ob (fun z => hb (by simp [z])) (fun z => hb (by simp [z])) q)) hf (Nat.le_refl _) new
    refine ⟨.ref s.heap.objs.size, _, I1, rfl, ⟨_, x, rfl, I.hok.fresh (Nat.le_refl _), rfl, fun ys hy => by rw [I.tuple_inj hy hq]; exact hx⟩, ⟨⟨x', ?_⟩, hit'.at fun o q => (sb.2 it (Ne.symm hne)).trans q, hne⟩, fun b hb => ?_⟩
    · have e1 : ((i + 1 : Nat) : Int) = (i : Int) + 1 := by omega
      rw [e1]; exact he'
    · have hb' : b < s.heap.objs.size := by
        have e' : b = e ∨ b = it := by simpa using hb
        rcases e' with z | z
        · rw [z]; exact hel
        · rw [z]; exact hil
      rw [upd_ne (Nat.ne_of_lt hb')]
      exact (hf b hb).1
  done := by
    intro X hP hw hK hc i pins s σ H E I hf st hg
    subst hP hw hK
    obtain ⟨⟨old, he⟩, hit, hne⟩ := st
    obtain ⟨xs, hq, hx⟩ := hg
    obtain ⟨its, rv, p, hz⟩ := I.tuple hq
    have p : s.heap.IsTuple a its.toArray := p
    obtain ⟨f0, f1, f2, f3, f4, f5⟩ := hf it (by simp)
    have hl := rv.length
    have hT : s.TypeIs (.ref e) "enumerate" := ⟨_, he, rfl⟩
    unfold pyNext
    refine wpAny_bind (wpAny_attempt (wpAny_callSpecial?_slot (name := Str.ofString "__next__") hT F.slot_enumerate_next
      (wpAny_call_entry F.slot_enumerate_next hT F.entry_enumerate_next ?_ (F.args_enumerate_next_1 _))))
    show wpAny _ _ (field (.ref e) 2 >>= _) _ _ _
    refine wpAny_bind (wpAny_field he rfl (x := .ref it) rfl ?_)
    refine wpAny_bind (wpAny_nextOf_tuple_end (I.ok.hd hc) hit p (by simp; omega) fun h' x he' hx' => ?_)
    obtain ⟨o, ho, hcl⟩ := hx'
    refine wpAny_bind (wpAny_isInstance (T := "StopIteration") (b := true) ⟨o, ho, hcl⟩ isSubtype_stop ?_)
    exact wpAny_pure ⟨rfl, I.turned (t' := s.toks) (fun b o hb q => he' b o hb q) f0 f1 f3 f4 f5⟩
  self := fun A i s Q E st h => let ⟨⟨_, he⟩, _⟩ := st; wpAny_pyIter_enum he h
def iEnumT (K : PySem.W.Frag) (ta : TA) : TI := fun σ H R => ta σ H fun vs H1 => ∃ a xs, vs = [.ref a] ∧ ((SqL K H1 a xs ∧ R (Ite K a) H1) ∨ (SqT K H1 a xs ∧ R (IteT K a) H1))
theorem pi_enumT {X : Cx} {e : Expr} {ta : TA} {p pos tpos : Pos} {elts : List Expr} {kk : Nat} (hg : Gl X "enumerate") (hm : X.mg "enumerate" = none) (ha : PA X [e] ta) (hs : starEach [e] X.env = [(false, eval e X.env)] := by rfl) :
    PI X (.Tuple elts kk tpos) (.Call (.Name "enumerate" p) [e] [] pos) (iEnumT X.K ta) := by
  refine ⟨fun pins s σ H R I h => ?_⟩
  refine Call_ (ld_blt I hg hm boot_enumerate (PyProof.Rows.callWith_type1 (thn (ha.run pos pins s σ H _ I h) fun us s1 ⟨vs, H1, I1, r1, q1⟩ => ?_) hs rfl))
  obtain ⟨a, xs, ex, q1⟩ := q1
  subst ex
  cases r1 with
  | cons r rr =>
    cases rr
    cases r
    have fp : ∀ b ∈ [s1.heap.objs.size + 1, s1.heap.objs.size], s1.heap.objs.size ≤ b := fun b hb => by
      have e' : b = s1.heap.objs.size + 1 ∨ b = s1.heap.objs.size := by simpa using hb
      rcases e' with z | z
      · rw [z]; exact Nat.le_add_right _ _
      · rw [z]; exact Nat.le_refl _
    rcases q1 with ⟨hq, q⟩ | ⟨hq, q⟩
    · obtain ⟨its, rv, p', hz⟩ := I1.list hq
      refine call_enumerate_list p'.isList fun h' he hit hsz hk => wpAny_pyIter_enum he ?_
      have I2 : Inv X pins σ H1 { s1 with heap := h' } := I1.kept (t' := s1.toks) hk
      exact ⟨s1.heap.objs.size + 1, [s1.heap.objs.size + 1, s1.heap.objs.size], _, _, H1, rfl, I2, turn_enum a (s1.heap.objs.size + 1) s1.heap.objs.size, ⟨⟨.none, he⟩, hit, Nat.succ_ne_self _⟩, fun b hb => I1.fpOk (fp b hb) (I1.hok.fresh (fp b hb)), q⟩
    · obtain ⟨its, rv, p', hz⟩ := I1.tuple hq
      refine enum_begins1 (begins_tuple a its.toArray) p' fun h' he hit hsz hk => wpAny_pyIter_enum he ?_
      have I2 : Inv X pins σ H1 { s1 with heap := h' } := I1.kept (t' := s1.toks) hk
      exact ⟨s1.heap.objs.size + 1, [s1.heap.objs.size + 1, s1.heap.objs.size], _, _, H1, rfl, I2, turn_enumT a (s1.heap.objs.size + 1) s1.heap.objs.size, ⟨⟨.none, he⟩, ⟨_, hit, rfl, rfl⟩, Nat.succ_ne_self _⟩, fun b hb => I1.fpOk (fp b hb) (I1.hok.fresh (fp b hb)), q⟩
end L2

/-! what is walked, of any kind: lists, tuples, texts; zip and enumerate of such -/
namespace L2
open PySem PySem.Spec PyProof.Rows
inductive Sq where
  | l (a : Addr) | t (a : Addr) | s (z : Str)
def Sq.at_ (K : PySem.W.Frag) (H : Hp) : Sq → List V → Prop
  | .l a, xs => SqL K H a xs
  | .t a, xs => SqT K H a xs
  | .s z, xs => xs = z.cps.toList.map fun c => V.str ⟨#[c]⟩
def Sq.apart : Sq → Addr → Prop
  | .l a, c => a ≠ c
  | .t a, c => a ≠ c
  | .s _, _ => True
def Sq.val : Sq → V
  | .l a => .ref a
  | .t a => .ref a
  | .s z => .str z
/-- the iterator stands ahead of item i -/
def Sq.it (x : Sq) (it : Addr) (i : Nat) (h : Heap) : Prop := match x with
  | .l a => h.IsListIter it a i
  | .t a => h.IsTupleIter it a i
  | .s z => ∃ t, h.IsStrIter it (strIterType z) z t i
theorem Sq.it_obj {x : Sq} {it : Addr} {i : Nat} {h : Heap} (st : x.it it i h) : ∃ o, h.get? it = some o ∧ ∀ v, o.data ≠ .cell v := by
  cases x with
  | l a => obtain ⟨o, e, _, d⟩ := st; exact ⟨o, e, fun v z => by rw [d] at z; cases z⟩
  | t a => obtain ⟨o, e, _, d⟩ := st; exact ⟨o, e, fun v z => by rw [d] at z; cases z⟩
  | s z => obtain ⟨t, o, e, _, d⟩ := st; exact ⟨o, e, fun v z => by rw [d] at z; cases z⟩
theorem Sq.it_at {x : Sq} {it : Addr} {i : Nat} {h h' : Heap} (st : x.it it i h) (k : ∀ o, h.get? it = some o → h'.get? it = some o) : x.it it i h' := by
  cases x with
  | l a => exact Heap.IsListIter.at st k
  | t a => exact Heap.IsTupleIter.at st k
  | s z => obtain ⟨t, o, e, r⟩ := st; exact ⟨t, o, k o e, r⟩
theorem Sq.inj {x : Sq} {X : Cx} {pins : List (Addr × Obj)} {σ : St} {H : Hp} {s : Shared} (I : Inv X pins σ H s) {xs ys : List V} (h1 : x.at_ X.K H xs) (h2 : x.at_ X.K H ys) : xs = ys := by
  cases x with
  | l a => exact I.list_inj h1 h2
  | t a => exact I.tuple_inj h1 h2
  | s z => exact h1.trans h2.symm
/-- its draws, now -/
structure SqD (P : Program) (w : World) (A : Around) (x : Sq) (it : Addr) (i : Nat) (h : Heap) (xs : List V) (fp : List Addr) (n : Nat) (Pv : Nat → Value → Prop) (Stv : Nat → Heap → Prop) : Prop where
  d : Draws P w A it fp n Pv Stv
  st : Stv i h
  n : n = xs.length
  v : ∀ i u, Pv i u → ∃ x, xs[i]? = some x ∧ RelV x u
  itr : ∀ i h, Stv i h → x.it it i h
  mem : it ∈ fp
  ap : ∀ c, c ≠ it → x.apart c → c ∉ fp
theorem Sq.draws {x : Sq} {X : Cx} {pins : List (Addr × Obj)} {σ : St} {H : Hp} {s : Shared} (I : Inv X pins σ H s) (hc : X.calm = true) {xs : List V} {it : Addr} {i : Nat} (h1 : x.at_ X.K H xs) (st : x.it it i s.heap) (ap : x.apart it) :
    ∃ fp n Pv Stv, SqD X.prog X.w X.A.in1 x it i s.heap xs fp n Pv Stv := by
  cases x with
  | l a =>
    obtain ⟨its, rv, p, hz⟩ := I.list h1
    refine ⟨_, _, _, _, Draws.list (prog := X.prog) (w := X.w) (A := X.A.in1) (I.ok.hd hc) it a ap its.toArray, ⟨st, p.isList⟩, by rw [rv.length]; simp, fun i u e => ?_, fun i h z => z.1, by simp, fun c h1 h2 => ?_⟩
    · have e : its[i]? = some u := by simpa using e
      have hi : i < xs.length := by rw [rv.length]; exact (List.getElem?_eq_some_iff.mp e).1
      obtain ⟨u', hu, ru⟩ := rv.get (List.getElem?_eq_getElem hi)
      rw [e] at hu; cases hu
      exact ⟨_, List.getElem?_eq_getElem hi, ru⟩
    · have h2 : a ≠ c := h2
      simp [h1, h2.symm]
  | t a =>
    obtain ⟨its, rv, p, hz⟩ := I.tuple h1
    refine ⟨_, _, _, _, Draws.tuple (prog := X.prog) (w := X.w) (A := X.A.in1) (I.ok.hd hc) it a ap its.toArray, ⟨st, p⟩, by rw [rv.length]; simp, fun i u e => ?_, fun i h z => z.1, by simp, fun c h1 h2 => ?_⟩
    · have e : its[i]? = some u := by simpa using e
      have hi : i < xs.length := by rw [rv.length]; exact (List.getElem?_eq_some_iff.mp e).1
      obtain ⟨u', hu, ru⟩ := rv.get (List.getElem?_eq_getElem hi)
      rw [e] at hu; cases hu
      exact ⟨_, List.getElem?_eq_getElem hi, ru⟩
    · have h2 : a ≠ c := h2
      simp [h1, h2.symm]
  | s z =>
    obtain ⟨t, st⟩ := st
    have h1 : xs = _ := h1
    subst h1
    refine ⟨_, _, _, _, Draws.text (prog := X.prog) (w := X.w) (A := X.A.in1) (I.ok.hd hc) it z t, st, by rw [List.length_map, Array.length_toList], fun i u e => ?_, fun i h st => ⟨t, st⟩, by simp, fun c h1 h2 => by simp [h1]⟩
    obtain ⟨c, t', e, rfl⟩ := e
    refine ⟨.str ⟨#[c]⟩, ?_, ⟨t', rfl⟩⟩
    rw [List.getElem?_map, Array.getElem?_toList, e]; rfl
/-- iter(x) is a new object -/
theorem Sq.begins {x : Sq} {X : Cx} {pins : List (Addr × Obj)} {σ : St} {H : Hp} {s : Shared} (I : Inv X pins σ H s) {xs : List V} (h1 : x.at_ X.K H xs) {v : Value} (r : RelV x.val v) :
    ∃ (o : Obj) (HH : Heap → Prop), Begins v o HH ∧ HH s.heap ∧ (∀ h it, h.get? it = some o → x.it it 0 h) ∧ ∀ c, s.heap.objs.size ≤ c → x.apart c := by
  cases x with
  | l a =>
    cases r
    obtain ⟨its, rv, p, hz⟩ := I.list h1
    exact ⟨_, _, begins_list a its.toArray, p.isList, fun h it e => ⟨_, e, rfl, rfl⟩, fun c hc => Nat.ne_of_lt (Nat.lt_of_lt_of_le p.lt hc)⟩
  | t a =>
    cases r
    obtain ⟨its, rv, p, hz⟩ := I.tuple h1
    have p : s.heap.IsTuple a its.toArray := p
    obtain ⟨o1, ho1, _⟩ := id p
    exact ⟨_, _, begins_tuple a its.toArray, p, fun h it e => ⟨_, e, rfl, rfl⟩, fun c hc => Nat.ne_of_lt (Nat.lt_of_lt_of_le (Heap.lt_size ho1) hc)⟩
  | s z =>
    obtain ⟨t, rfl⟩ := r
    exact ⟨_, _, begins_text z t, trivial, fun h it e => ⟨t, _, e, rfl, rfl⟩, fun c hc => trivial⟩

/-! ### zip of two -/
def ItzG (K : PySem.W.Frag) (x y : Sq) : It :=
  ⟨fun i H => ∃ (xs ys : List V) (u v : V), x.at_ K H xs ∧ y.at_ K H ys ∧ xs[i]? = some u ∧ ys[i]? = some v,
    fun i H r H' => ∃ T u v, r = .ref T ∧ H T = none ∧ H' = upd H T (.tup [u, v]) ∧ (∀ xs, x.at_ K H xs → xs[i]? = some u) ∧ ∀ ys, y.at_ K H ys → ys[i]? = some v,
    fun i H => ∃ xs ys : List V, x.at_ K H xs ∧ y.at_ K H ys ∧ i ≤ xs.length ∧ i ≤ ys.length ∧ (i = xs.length ∨ i = ys.length)⟩
structure ZipG (x y : Sq) (z TI TO i1 i2 : Addr) : Prop where
  TIz : TI ≠ z
  TOz : TO ≠ z
  TITO : TI ≠ TO
  TIi1 : TI ≠ i1
  TIi2 : TI ≠ i2
  zi1 : z ≠ i1
  zi2 : z ≠ i2
  Ti1 : TO ≠ i1
  Ti2 : TO ≠ i2
  i12 : i1 ≠ i2
  x1 : x.apart i1
  xz : x.apart z
  xT : x.apart TO
  x2 : x.apart i2
  y2 : y.apart i2
  yz : y.apart z
  yT : y.apart TO
  y1 : y.apart i1
theorem ZipG.sep {x y : Sq} {z TI TO i1 i2 : Addr} (D : ZipG x y z TI TO i1 i2) {P : Program} {w : World} {A : Around} {h : Heap} {xs ys : List V} {i : Nat} {fp1 fp2 : List Addr} {n1 n2 : Nat} {P1 P2 : Nat → Value → Prop} {S1 S2 : Nat → Heap → Prop}
    (d1 : SqD P w A x i1 i h xs fp1 n1 P1 S1) (d2 : SqD P w A y i2 i h ys fp2 n2 P2 S2) : ZipSep2 z TI TO i1 i2 fp1 fp2 :=
  { TIz := D.TIz, TOz := D.TOz, TITO := D.TITO, TIi1 := D.TIi1, TIi2 := D.TIi2, mem1 := d1.mem, mem2 := d2.mem,
    zf1 := d1.ap z D.zi1 D.xz, Tf1 := d1.ap TO D.Ti1 D.xT, zf2 := d2.ap z D.zi2 D.yz, Tf2 := d2.ap TO D.Ti2 D.yT,
    sep1_2 := d2.ap i1 D.i12 D.y1, sep2_1 := d1.ap i2 D.i12.symm D.x2 }
theorem turn_zipG {P : Program} {w : World} {K : PySem.W.Frag} {elts : List Expr} {kk : Nat} {tpos : Pos} {x y : Sq} {z TI TO i1 i2 : Addr} (D : ZipG x y z TI TO i1 i2) :
    Turn P w K (.Tuple elts kk tpos) (ItzG K x y) [z, TI, TO, i1, i2] z (fun i h => IsZip h z TI TO .none ∧ IsPair h TI (.ref i1) (.ref i2) ∧ (∃ a b, IsPair h TO a b) ∧ x.it i1 i h ∧ y.it i2 i h) where
  mem := by simp
  obj := fun i h st c hc => by
    obtain ⟨hz, hTI, ⟨a, b, hTO⟩, s1, s2⟩ := st
    have e' : c = z ∨ c = TI ∨ c = TO ∨ c = i1 ∨ c = i2 := by simpa using hc
    rcases e' with q | q | q | q | q
    · rw [q]; exact ⟨_, hz, fun v q => nomatch q⟩
    · rw [q]; exact ⟨_, hTI, fun v q => nomatch q⟩
    · rw [q]; exact ⟨_, hTO, fun v q => nomatch q⟩
    · rw [q]; exact (Sq.it_obj s1)
    · rw [q]; exact (Sq.it_obj s2)
  keep := fun i h h' st k => by
    obtain ⟨hz, hTI, ⟨a, b, hTO⟩, s1, s2⟩ := st
    exact ⟨k z (by simp) _ hz, k TI (by simp) _ hTI, ⟨a, b, k TO (by simp) _ hTO⟩, Sq.it_at s1 fun o q => k i1 (by simp) o q, Sq.it_at s2 fun o q => k i2 (by simp) o q⟩
  item := by
    intro X hP hw hK hc i pins s σ H E I hf st hg
    subst hP hw hK
    obtain ⟨hz, hTI, ⟨a0, b0, hTO⟩, s1, s2⟩ := st
    obtain ⟨xs, ys, u, v, hx, hy, hu, hv⟩ := hg
    obtain ⟨fp1, n1, P1, S1, d1⟩ := Sq.draws I hc hx s1 D.x1
    obtain ⟨fp2, n2, P2, S2, d2⟩ := Sq.draws I hc hy s2 D.y2
    have hzl : z < s.heap.objs.size := Heap.lt_size hz
    have l1 : i < n1 := by rw [d1.n]; exact (List.getElem?_eq_some_iff.mp hu).1
    have l2 : i < n2 := by rw [d2.n]; exact (List.getElem?_eq_some_iff.mp hv).1
    refine wpAny_pyNext_zipD2_item (D.sep d1 d2) d1.d d2.d hz hTI hTO d1.st d2.st l1 l2 fun u' v' h' tk p1 p2 z' TO' t1 t2 hT hsz hk => ?_
    obtain ⟨x1, e1, r1⟩ := d1.v _ _ p1
    obtain ⟨x2, e2, r2⟩ := d2.v _ _ p2
    rw [hu] at e1; cases e1
    rw [hv] at e2; cases e2
    refine ⟨_, rfl, wpAny_letOwnedTupleGo_zip (s := { s with heap := h', toks := tk }) z' fun h'' z'' sb => ?_⟩
    have hT2 : h''.get? s.heap.objs.size = some { cls := .type "tuple", data := .seq #[u', v'] } := (sb.2 _ (Nat.ne_of_gt hzl)).trans hT
    have new : ObjOk X.prog X.w (upd H s.heap.objs.size (.tup [u, v])) h'' s.heap.objs.size (.tup [u, v]) :=
      ⟨by show 2 ≤ sizeLine; decide, [u', v'], .cons r1 (.cons r2 .nil), ⟨_, hT2, rfl, _, rfl⟩⟩
    have I1 : Inv X pins σ (upd H s.heap.objs.size (.tup [u, v])) { s with heap := h'', toks := tk } :=
      I.turnedNew (ch := [z, TI, TO, i1, i2]) (fun c o hb q => (sb.2 c (fun q' => hb (by simp [q']))).trans (hk c o (fun q' => hb (by simp [q'])) (fun q' => hb (by simp [q'])) (fun q' => hb (by simp [q'])) (fun q' => hb (by simp [q'])) q)) hf (Nat.le_refl _) new
    refine ⟨.ref s.heap.objs.size, _, I1, rfl, ⟨_, u, v, rfl, I.hok.fresh (Nat.le_refl _), rfl, fun l hl => by rw [Sq.inj I hl hx]; exact hu, fun l hl => by rw [Sq.inj I hl hy]; exact hv⟩, ⟨z'', ?_, ⟨u', v', ?_⟩, ?_, ?_⟩, fun c hcm => ?_⟩
    · exact (sb.2 _ D.TIz).trans (hk _ _ D.TIz D.TITO D.TIi1 D.TIi2 hTI)
    · exact (sb.2 _ D.TOz).trans TO'
    · exact Sq.it_at (d1.itr _ _ t1) fun o q => (sb.2 _ D.zi1.symm).trans q
    · exact Sq.it_at (d2.itr _ _ t2) fun o q => (sb.2 _ D.zi2.symm).trans q
    · have hlt : c < s.heap.objs.size := by
        have e' : c = z ∨ c = TI ∨ c = TO ∨ c = i1 ∨ c = i2 := by simpa using hcm
        rcases e' with q | q | q | q | q
        · rw [q]; exact hzl
        · rw [q]; exact Heap.lt_size hTI
        · rw [q]; exact Heap.lt_size hTO
        · rw [q]; obtain ⟨_, e1, _⟩ := (Sq.it_obj s1); exact Heap.lt_size e1
        · rw [q]; obtain ⟨_, e2, _⟩ := (Sq.it_obj s2); exact Heap.lt_size e2
      rw [upd_ne (Nat.ne_of_lt hlt)]
      exact (hf c hcm).1
  done := by
    intro X hP hw hK hc i pins s σ H E I hf st hg
    subst hP hw hK
    obtain ⟨hz, hTI, ⟨a0, b0, hTO⟩, s1, s2⟩ := st
    obtain ⟨xs, ys, hx, hy, le1, le2, hend⟩ := hg
    obtain ⟨fp1, n1, P1, S1, d1⟩ := Sq.draws I hc hx s1 D.x1
    obtain ⟨fp2, n2, P2, S2, d2⟩ := Sq.draws I hc hy s2 D.y2
    exact wpAny_pyNext_zipD2_end (D.sep d1 d2) d1.d d2.d hz hTI hTO d1.st d2.st (by rw [d1.n]; exact le1) (by rw [d2.n]; exact le2) (by rw [d1.n, d2.n]; exact hend) fun h' tk hk => ⟨rfl, I.turnedL (t' := tk) (ch := [z, TI, TO, i1, i2]) (fun c o hb q =>
      hk c o (fun q' => hb (by simp [q'])) (fun q' => hb (by simp [q'])) (fun q' => hb (by simp [q'])) (fun q' => hb (by simp [q'])) q) hf⟩
  self := fun A i s Q E st h => wpAny_pyIter_zip st.1 h
def iZipG (K : PySem.W.Frag) (ta : TA) : TI := fun σ H R => ta σ H fun vs H1 => ∃ x y xs ys, vs = [x.val, y.val] ∧ Sq.at_ K H1 x xs ∧ Sq.at_ K H1 y ys ∧ R (ItzG K x y) H1
theorem pi_zipG {X : Cx} {e e2 : Expr} {ta : TA} {p pos tpos : Pos} {elts : List Expr} {kk : Nat} (hg : Gl X "zip") (hm : X.mg "zip" = none) (ha : PA X [e, e2] ta)
    (hs : starEach [e, e2] X.env = (false, eval e X.env) :: starEach [e2] X.env := by rfl) (hpl : (backTo pos (starEach [e2] X.env)).any (·.1) = false := by rfl) :
    PI X (.Tuple elts kk tpos) (.Call (.Name "zip" p) [e, e2] [] pos) (iZipG X.K ta) := by
  refine ⟨fun pins s σ H R I h => ?_⟩
  refine Call_ (ld_blt I hg hm PyProof.Rows.boot_zip (PyProof.Rows.callWith_type1 (thn (ha.run pos pins s σ H _ I h) fun us s1 ⟨vs, H1, I1, r1, q1⟩ => ?_) hs hpl))
  obtain ⟨x, y, xs, ys, ex, hx, hy, q⟩ := q1
  subst ex
  cases r1 with
  | cons r rr =>
    cases rr with
    | cons r' rr =>
      cases rr
      have le : ∀ k : Nat, s1.heap.objs.size ≤ s1.heap.objs.size + k := fun k => Nat.le_add_right _ _
      have fresh5 : ∀ c, c ∈ [s1.heap.objs.size + 4, s1.heap.objs.size + 2, s1.heap.objs.size + 3, s1.heap.objs.size, s1.heap.objs.size + 1] → FpOk X pins H1 c := fun c hcm => by
        have e' : c = s1.heap.objs.size + 4 ∨ c = s1.heap.objs.size + 2 ∨ c = s1.heap.objs.size + 3 ∨ c = s1.heap.objs.size ∨ c = s1.heap.objs.size + 1 := by simpa using hcm
        have hle : s1.heap.objs.size ≤ c := by
          rcases e' with z | z | z | z | z
          · rw [z]; exact le 4
          · rw [z]; exact le 2
          · rw [z]; exact le 3
          · rw [z]; exact Nat.le_refl _
          · rw [z]; exact le 1
        exact I1.fpOk hle (I1.hok.fresh hle)
      obtain ⟨o1, H1', b1, hb1, it1, ap1⟩ := Sq.begins I1 hx r
      obtain ⟨o2, H2', b2, hb2, it2, ap2⟩ := Sq.begins I1 hy r'
      refine zip_begins2 b1 b2 hb1 hb2 fun h' hz hTI hTO g1 g2 hsz hk => wpAny_pyIter_zip hz ?_
      have I2 : Inv X pins σ H1 { s1 with heap := h' } := I1.kept (t' := s1.toks) hk
      have D : ZipG x y (s1.heap.objs.size + 4) (s1.heap.objs.size + 2) (s1.heap.objs.size + 3) s1.heap.objs.size (s1.heap.objs.size + 1) :=
        { TIz := show (s1.heap.objs.size + 2 : Nat) ≠ s1.heap.objs.size + 4 by omega, TOz := show (s1.heap.objs.size + 3 : Nat) ≠ s1.heap.objs.size + 4 by omega, TITO := show (s1.heap.objs.size + 2 : Nat) ≠ s1.heap.objs.size + 3 by omega,
          TIi1 := show (s1.heap.objs.size + 2 : Nat) ≠ s1.heap.objs.size by omega, TIi2 := show (s1.heap.objs.size + 2 : Nat) ≠ s1.heap.objs.size + 1 by omega,
          zi1 := show (s1.heap.objs.size + 4 : Nat) ≠ s1.heap.objs.size by omega, zi2 := show (s1.heap.objs.size + 4 : Nat) ≠ s1.heap.objs.size + 1 by omega,
          Ti1 := show (s1.heap.objs.size + 3 : Nat) ≠ s1.heap.objs.size by omega, Ti2 := show (s1.heap.objs.size + 3 : Nat) ≠ s1.heap.objs.size + 1 by omega, i12 := show (s1.heap.objs.size : Nat) ≠ s1.heap.objs.size + 1 by omega,
          x1 := ap1 _ (Nat.le_refl _), xz := ap1 _ (le 4), xT := ap1 _ (le 3), x2 := ap1 _ (le 1), y2 := ap2 _ (le 1), yz := ap2 _ (le 4), yT := ap2 _ (le 3), y1 := ap2 _ (Nat.le_refl _) }
      exact ⟨s1.heap.objs.size + 4, [s1.heap.objs.size + 4, s1.heap.objs.size + 2, s1.heap.objs.size + 3, s1.heap.objs.size, s1.heap.objs.size + 1], _, _, H1, rfl, I2, turn_zipG D, ⟨hz, hTI, ⟨_, _, hTO⟩, it1 _ _ g1, it2 _ _ g2⟩, fresh5, q⟩

/-! ### enumerate -/
def IteG (K : PySem.W.Frag) (x : Sq) : It :=
  ⟨fun i H => ∃ (xs : List V) (u : V), x.at_ K H xs ∧ xs[i]? = some u, fun i H r H' => ∃ T u, r = .ref T ∧ H T = none ∧ H' = upd H T (.tup [.int (i : Nat), u]) ∧ ∀ xs, x.at_ K H xs → xs[i]? = some u, fun i H => ∃ xs : List V, x.at_ K H xs ∧ i = xs.length⟩
theorem turn_enumG {P : Program} {w : World} {K : PySem.W.Frag} {elts : List Expr} {kk : Nat} {tpos : Pos} {x : Sq} {e it : Addr} (xe : x.apart e) (xi : x.apart it) (hne : e ≠ it) :
    Turn P w K (.Tuple elts kk tpos) (IteG K x) [e, it] e (fun i h => (∃ old, IsEnum h e it ((i : Nat) : Int) old) ∧ x.it it i h) where
  mem := by simp
  obj := fun i h st b hb => by
    obtain ⟨⟨old, he⟩, s1⟩ := st
    have e' : b = e ∨ b = it := by simpa using hb
    rcases e' with z | z
    · rw [z]; exact ⟨_, he, fun v q => nomatch q⟩
    · rw [z]; exact (Sq.it_obj s1)
  keep := fun i h h' st k => let ⟨⟨old, he⟩, hi⟩ := st; ⟨⟨old, k e (by simp) _ he⟩, Sq.it_at hi fun o q => k it (by simp) o q⟩
  item := by
    intro X hP hw hK hc i pins s σ H E I hf st hg
    subst hP hw hK
    obtain ⟨⟨old, he⟩, hit⟩ := st
    obtain ⟨xs, u, hx, hu⟩ := hg
    obtain ⟨fp, n, P1, S1, d⟩ := Sq.draws I hc hx hit xi
    have hel : e < s.heap.objs.size := Heap.lt_size he
    have hil : it < s.heap.objs.size := by obtain ⟨_, q, _⟩ := (Sq.it_obj hit); exact Heap.lt_size q
    have l1 : i < n := by rw [d.n]; exact (List.getElem?_eq_some_iff.mp hu).1
    refine wpAny_pyNext_enum_itemC d.d he d.st l1 hne (d.ap e hne xe) fun x' h' tk hP ho hst hT hsz hk => ?_
    obtain ⟨u', e1, r1⟩ := d.v _ _ hP
    rw [hu] at e1; cases e1
    refine ⟨_, rfl, wpAny_letOwnedTupleGo_enum (s := { s with heap := h', toks := tk + 1 }) ho fun h'' he' sb => ?_⟩
    have hT2 : h''.get? s.heap.objs.size = some { cls := .type "tuple", data := .seq #[.int i tk, x'] } := (sb.2 _ (Nat.ne_of_gt hel)).trans hT
    have new : ObjOk X.prog X.w (upd H s.heap.objs.size (.tup [.int (i : Nat), u])) h'' s.heap.objs.size (.tup [.int (i : Nat), u]) :=
      ⟨by show 2 ≤ sizeLine; decide, [.int i tk, x'], .cons ⟨_, rfl⟩ (.cons r1 .nil), ⟨_, hT2, rfl, _, rfl⟩⟩
    have I1 : Inv X pins σ (upd H s.heap.objs.size (.tup [.int (i : Nat), u])) { s with heap := h'', toks := tk + 1 } :=
      I.turnedNew (ch := [e, it]) (fun b ob hb q => (sb.2 b (fun z => hb (by simp [z]))).trans (hk b ob (fun z => hb (by simp [z])) (fun z => hb (by simp [z])) q)) hf (Nat.le_refl _) new
    refine ⟨.ref s.heap.objs.size, _, I1, rfl, ⟨_, u, rfl, I.hok.fresh (Nat.le_refl _), rfl, fun ys hy => by rw [Sq.inj I hy hx]; exact hu⟩, ⟨⟨x', ?_⟩, Sq.it_at (d.itr _ _ hst) fun o q => (sb.2 it (Ne.symm hne)).trans q⟩, fun b hb => ?_⟩
    · have e1 : ((i + 1 : Nat) : Int) = (i : Int) + 1 := by omega
      rw [e1]; exact he'
    · have hb' : b < s.heap.objs.size := by
        have e' : b = e ∨ b = it := by simpa using hb
        rcases e' with z | z
        · rw [z]; exact hel
        · rw [z]; exact hil
      rw [upd_ne (Nat.ne_of_lt hb')]
      exact (hf b hb).1
  done := by
    intro X hP hw hK hc i pins s σ H E I hf st hg
    subst hP hw hK
    obtain ⟨⟨old, he⟩, hit⟩ := st
    obtain ⟨xs, hx, hn⟩ := hg
    obtain ⟨fp, n, P1, S1, d⟩ := Sq.draws I hc hx hit xi
    have hni : i = n := by rw [d.n]; exact hn
    subst hni
    obtain ⟨f0, f1, f2, f3, f4, f5⟩ := hf it (by simp)
    have hT : s.TypeIs (.ref e) "enumerate" := ⟨_, he, rfl⟩
    unfold pyNext
    refine wpAny_bind (wpAny_attempt (wpAny_callSpecial?_slot (name := Str.ofString "__next__") hT F.slot_enumerate_next
      (wpAny_call_entry F.slot_enumerate_next hT F.entry_enumerate_next ?_ (F.args_enumerate_next_1 _))))
    show wpAny _ _ (field (.ref e) 2 >>= _) _ _ _
    refine wpAny_bind (wpAny_field he rfl (x := .ref it) rfl ?_)
    refine wpAny_bind (d.d.done s _ _ d.st fun h' x he' hx' => ?_)
    obtain ⟨o, ho, hcl⟩ := hx'
    refine wpAny_bind (wpAny_isInstance (T := "StopIteration") (b := true) ⟨o, ho, hcl⟩ isSubtype_stop ?_)
    exact wpAny_pure ⟨rfl, I.turned (t' := s.toks) (fun b o hb q => he' b o hb q) f0 f1 f3 f4 f5⟩
  self := fun A i s Q E st h => let ⟨⟨_, he⟩, _⟩ := st; wpAny_pyIter_enum he h
def iEnumG (K : PySem.W.Frag) (ta : TA) : TI := fun σ H R => ta σ H fun vs H1 => ∃ x xs, vs = [x.val] ∧ Sq.at_ K H1 x xs ∧ R (IteG K x) H1
theorem pi_enumG {X : Cx} {e : Expr} {ta : TA} {p pos tpos : Pos} {elts : List Expr} {kk : Nat} (hg : Gl X "enumerate") (hm : X.mg "enumerate" = none) (ha : PA X [e] ta) (hs : starEach [e] X.env = [(false, eval e X.env)] := by rfl) :
    PI X (.Tuple elts kk tpos) (.Call (.Name "enumerate" p) [e] [] pos) (iEnumG X.K ta) := by
  refine ⟨fun pins s σ H R I h => ?_⟩
  refine Call_ (ld_blt I hg hm boot_enumerate (PyProof.Rows.callWith_type1 (thn (ha.run pos pins s σ H _ I h) fun us s1 ⟨vs, H1, I1, r1, q1⟩ => ?_) hs rfl))
  obtain ⟨x, xs, ex, hx, q⟩ := q1
  subst ex
  cases r1 with
  | cons r rr =>
    cases rr
    have fp : ∀ b ∈ [s1.heap.objs.size + 1, s1.heap.objs.size], s1.heap.objs.size ≤ b := fun b hb => by
      have e' : b = s1.heap.objs.size + 1 ∨ b = s1.heap.objs.size := by simpa using hb
      rcases e' with z | z
      · rw [z]; exact Nat.le_add_right _ _
      · rw [z]; exact Nat.le_refl _
    obtain ⟨o1, H1', b1, hb1, it1, ap1⟩ := Sq.begins I1 hx r
    refine enum_begins1 b1 hb1 fun h' he hit hsz hk => wpAny_pyIter_enum he ?_
    have I2 : Inv X pins σ H1 { s1 with heap := h' } := I1.kept (t' := s1.toks) hk
    exact ⟨s1.heap.objs.size + 1, [s1.heap.objs.size + 1, s1.heap.objs.size], _, _, H1, rfl, I2, turn_enumG (ap1 _ (Nat.le_add_right _ _)) (ap1 _ (Nat.le_refl _)) (Nat.succ_ne_self _), ⟨⟨.none, he⟩, it1 _ _ hit⟩, fun b hb => I1.fpOk (fp b hb) (I1.hok.fresh (fp b hb)), q⟩
end L2

/-! own exceptions whose __init__ says super().__init__(text) -/
namespace L2
open PySem PySem.Spec PyProof.Rows NdefX LamX

section
variable {prog : Program} {w : World} {A : Around} {E : Value → Shared → Prop} {h : Heap} {g : Array GenState} {d : Drawn} {t : Nat} {os : OsState}
/-- the wrapper super().__init__ called -/
theorem call_mw {nm qn : Str} {C N u x t0 : Addr} {bs bm : List Value} {hdct : Bool} {sn : List Str} {sub : List Value} {ab : Bool} {col : Option Bool} {dd : Option Addr} {k0 k1 k2 k3 k5 : Option Value} {dv : Option Addr} {c2 : Value} {rest : List Value} {Q : Value → Shared → Prop}
    (hC : h.get? C = some (excClassObj nm qn C N bs bm hdct sn sub ab col dd k0 k1 k2 k3 k5 "ValueError.__new__")) (he : h.get? x = some (PySem.W.excObj C t0 dv c2)) (hu : h.get? u = some (PySem.W.kxs_mw "ValueError.__init__" x)) (hz : rest.length ≤ sizeLine)
    (hq : ∀ h', (∀ b o, b ≠ x → h.get? b = some o → h'.get? b = some o) → h'.get? x = some (PySem.W.excObj C h.objs.size dv c2) → Q .none ⟨h', g, d, t, os⟩) :
    wpAny (model prog w) A (call (.ref u) rest) Q E ⟨h, g, d, t, os⟩ := by
  have FB := F.excBase_ValueError
  refine wpAny_call (codeAny_of_tree ?_)
  show wpAny _ A.in1 (callAny (.ref u) ⟨rest, []⟩) _ _ _
  simp only [callAny]
  refine wpAny_bind (wpAny_load hu ?_)
  simp only [PySem.W.kxs_mw, show (Value.type "method-wrapper" == Value.type "method" || Value.type "method-wrapper" == Value.type "builtin_function_or_method" || Value.type "method-wrapper" == Value.type "method-wrapper") = true by decide, if_true]
  refine PySem.W.KFB.if_so (by decide) ?_
  refine wpAny_bind (PySem.W.check_bound_init FB.toExcCallFacts hC he rfl ?_)
  refine wpAny_bind (wpAny_pure (wpAny_pure ?_))
  refine ⟨plainId_quiet FB.init.plain _, codeAny_builtin FB.initEntry ?_⟩
  exact PySem.W.exc_init_tree (cls := .ref C) (t0 := t0) (dv := dv) (c2 := c2) (c3 := .none) (b4 := .bool false) he hz fun h' k e _ => hq h' k e
end
/-- an own exception class over ValueError that is named by the cell __class__ of its __init__ -/
structure SupC (K : PySem.W.Frag) (C : Addr) : Prop where
  oex : OexC K C
  sup : PySem.W.ks_superIn K C C "__init__" = some (some (.builtin "ValueError.__init__"))
  sub : PySem.W.subIn K (.ref C) (.type "ValueError") = some true
  mro : PySem.W.mroIn K C (.ref C) = some true
  opq : PySem.W.nsIn K cStatics "thirdparty.any" = some none
section
variable {X : Cx} {pins : List (Addr × Obj)} {σ : St} {H : Hp} {s : Shared} {E : Value → Shared → Prop}
theorem super_init {pl : Sem Bool} {a C f cc c : Addr} {body : List Stmt} {x0 m : Str} {j : Nat} {p0 p1 p2 p3 p4 : Pos} {oc ccl ccl2 : Value} {od cdd cdd2 : Option Addr} {osl ccs ccs2 : Array (Option Value)} {fd : FuncData} {ar : Arg} {vs : Array Value} {file : Str} {tf : Tok} {Q : Value → Shared → Prop}
    (I : Inv X pins σ H s) (S : SupC X.K C) (e : H a = some (exo a C none)) (h0 : X.N[0]? = some x0) (hσ : σ[0]? = some (some (.ref a))) (hl : X.env.kindOf x0 = some .local)
    (hks : X.env.kindOf "super" = some .globalImplicit) (hkc : X.env.kindOf "__class__" = some .free) (hcl : X.env.cells.lookup ("__class__" : Str) = some cc) (hcell : X.K.lookup cc = some ⟨ccl2, cdd2, .cell (some (.ref C)), ccs2⟩)
    (hfu : X.env.func = some f) (hf : X.K.lookup f = some ⟨oc, od, .func fd, osl⟩) (hp : (fd.params.posonlyargs ++ fd.params.args).head? = some ar) (har : ar.arg = x0)
    (hco : X.env.code = .ref c) (hcode : X.K.lookup c = some ⟨ccl, cdd, .fields vs, ccs⟩) (hvs : vs[2]? = some (.str file tf)) (hfile : ((X.prog.main.file : Str) == file) = true) (htop : (X.prog.main.scope.names.lookup ("super" : Str)).isSome = false)
    (hms : X.mg "super" = none) (h : ∀ s', Inv X pins σ H s' → Q .none s')
    (hc : eval (.Call (.Attribute (.Call (.Name "super" p0) [] [] p1) "__init__" p2) [.Constant (.str m) j p3] [] p4) X.env = (do
      let ov ← attributeBase (.Call (.Name "super" p0) [] [] p1) "__init__" X.env (eval (.Call (.Name "super" p0) [] [] p1) X.env)
      standAt p2.atName
      let (f, first) ← holding [ov] (getMethod ov "__init__" pl)
      callWith p4 f first (backTo p4 (starEach [.Constant (.str m) j p3] X.env)) [])) :
    _root_.PySem.wpAt (model X.prog X.w) X.A (.func body X.env) (eval (.Call (.Attribute (.Call (.Name "super" p0) [] [] p1) "__init__" p2) [.Constant (.str m) j p3] [] p4) X.env) Q E s := by
  have T := S.oex
  have KX := I.kIn
  obtain ⟨nm, q, N, bs, bm, sn, sub, ab, col, dd, k0, k1, k2, k3, k5, hC, hbm⟩ := T.cls
  obtain ⟨t1, ho⟩ := exo_at I.hok e
  obtain ⟨mm, hns, hlk⟩ := I.loc
  obtain ⟨mb, hb1, hb2⟩ := I.mod.blt
  refine PySem.ks_wpAt_MethodCall ?_ hc
  refine PySem.ks_wpAt_super_base hks hkc (by decide) hfu (KX _ _ hf) rfl hp hco (KX _ _ hcode) rfl hvs hfile htop ?_
  refine PySem.W.ks_loadName_global I.ok.kind hks (Calls.loadGlobal_builtin (by rw [I.ok.glob]; exact I.mod.glob.keeps I.bk) hms (by rw [I.ok.blt]; exact hb1.keeps I.bk) ((hb2 _ (by decide)).trans (by decide +kernel)) ⟨rfl, ?_⟩)
  refine wpAny_loadName_free I.ok.kind hkc hcl ⟨_, KX _ _ hcell, rfl⟩ ?_
  obtain ⟨u0, ru, hu0⟩ := hlk 0 x0 (.ref a) h0 hσ (.inl hl)
  have hm0 : mm x0 = some (.ref a) := by
    cases ru
    rcases hu0 with ⟨_, z⟩ | ⟨z, _⟩
    · exact z
    · rw [hl] at z; rcases z with z | z <;> cases z
  rw [har]
  refine wpAny_loadName_local I.ok.kind hl hns hm0 ?_
  have hCo := KX _ _ hC
  refine PySem.ks_wpAny_isType_cls hCo rfl ⟨rfl, ?_⟩
  obtain ⟨hp0, g, d, t, os⟩ := s
  refine PySem.ks_wpAny_call_super hCo rfl ho rfl (fun c z => by cases z) (PySem.W.looks_mroIn KX S.mro) (fun h1 e1 k1 => ?_)
  have I1 : Inv X pins σ H ⟨h1, g, d, t, os⟩ := I.kept (t' := t) k1
  have K1 := I1.kIn
  have J1 : PySem.W.InstAt h1 a { cls := .ref C, dict := none, data := .fields #[.ref t1, .none, .none, .none, .bool false, .none] } C none := ⟨k1 _ _ ho, rfl, rfl, trivial⟩
  have hm := S.sup
  unfold PySem.W.ks_superIn at hm
  cases hcd : PySem.W.clsIn X.K C with
  | none => rw [hcd] at hm; cases hm
  | some cd =>
  rw [hcd] at hm
  refine PySem.W.kxs_getMethod PySem.W.kxs_ValueError e1 (PySem.W.looks_opaque K1 S.opq) (l₀ := cd.mro) (fun A Q E s k q => wpAny_bind ((PySem.W.looks_clsIn K1 hcd) A _ E s k (wpAny_pure q))) rfl K1 hm (J1.type.andThen (PySem.W.looks_subIn K1 S.sub)) (PySem.W.ks_ne K1 J1 hcd) rfl ?_
  have k2 : ∀ b o, h1.get? b = some o → (h1.push (PySem.W.kxs_mw "ValueError.__init__" a)).get? b = some o := fun b o z => Heap.get?_push_of_some _ z
  have I2 : Inv X pins σ H ⟨h1.push (PySem.W.kxs_mw "ValueError.__init__" a), g, d, t + 1, os⟩ := I1.kept (t' := t + 1) k2
  have hu : (h1.push (PySem.W.kxs_mw "ValueError.__init__" a)).get? h1.objs.size = some (PySem.W.kxs_mw "ValueError.__init__" a) := Heap.get?_push_at rfl rfl
  refine PySem.W.kxs_callWith (i := "ValueError.__init__") (x := a) rfl (Calls.evalArgs_plain (Calls.spliced_cons (Calls.Constant_str (k := j) (pos := p3) (Calls.spliced_nil ⟨hu, ?_⟩))))
  refine call_mw (t0 := t1) (dv := none) (c2 := .none) (I2.kIn _ _ hC) (k2 _ _ (k1 _ _ ho)) hu (Nat.le_of_ble_eq_true rfl) fun h3 k3 e3 => ?_
  have I3 := (I2.tok (t + 1 + 1)).write (t' := t + 1 + 1) (h' := h3) (x := a) (e := a) (o := exo a C none) (by rw [e]; exact True.intro) (.inl rfl) k3 ⟨_, e3⟩ (exo_ok e3)
  have eu : upd H a (exo a C none) = H := by
    funext b
    by_cases hb : b = a
    · rw [hb, upd_same, e]
    · rw [upd_ne hb]
  rw [eu] at I3
  exact h _ I3
end
/-! ### the def -/
/-- super().__init__(m), as it stands ahead of the fields -/
structure InitS (F : NF) (m : Str) (rest : List Stmt) : Prop where
  ex : ∃ (p0 p1 p2 p3 p4 p5 : Pos) (j : Nat) (pl : Env → Sem Bool), F.body = .Expr (.Call (.Attribute (.Call (.Name "super" p0) [] [] p1) "__init__" p2) [.Constant (.str m) j p3] [] p4) p5 :: rest ∧
    ∀ env : Env, eval (.Call (.Attribute (.Call (.Name "super" p0) [] [] p1) "__init__" p2) [.Constant (.str m) j p3] [] p4) env = (do
      let ov ← attributeBase (.Call (.Name "super" p0) [] [] p1) "__init__" env (eval (.Call (.Name "super" p0) [] [] p1) env)
      standAt p2.atName
      let (f, first) ← holding [ov] (getMethod ov "__init__" (pl env))
      callWith p4 f first (backTo p4 (starEach [.Constant (.str m) j p3] env)) [])
/-- the def that keeps it -/
structure SupF (P : Program) (K : PySem.W.Frag) (C f cc : Addr) (F : NF) (x0 m : Str) (rest : List Stmt) : Prop where
  sup : SupC K C
  cl : F.cl = [(("__class__" : Str), cc)]
  cell : ∃ ccl2 cdd2 ccs2, K.lookup cc = some ⟨ccl2, cdd2, .cell (some (.ref C)), ccs2⟩
  fn : ∃ oc od osl doc pm ctv, K.lookup f = some ⟨oc, od, .func (F.fd doc pm ctv), osl⟩
  par : ∃ ar, (F.params.posonlyargs ++ F.params.args).head? = some ar ∧ ar.arg = x0
  code : ∃ ccl cdd vs ccs file tf, K.lookup F.c = some ⟨ccl, cdd, .fields vs, ccs⟩ ∧ vs[2]? = some (.str file tf) ∧ ((P.main.file : Str) == file) = true
  top : (P.main.scope.names.lookup ("super" : Str)).isSome = false
  hcd : PySem.W.codeIn K (.ref F.c) F.qual = true
  sn : F.scope.names.lookup ("super" : Str) = some .globalImplicit
  cn : F.scope.names.lookup ("__class__" : Str) = some .free
  body : InitS F m rest
theorem cells_class {K : PySem.W.Frag} {C cc : Addr} {h : Heap} {H : Hp} {ccl2 : Value} {cdd2 : Option Addr} {ccs2 : Array (Option Value)} (hk : K.lookup cc = some ⟨ccl2, cdd2, .cell (some (.ref C)), ccs2⟩) (KX : K.In h) (hH : H cc = none) : CellsAt [(("__class__" : Str), cc)] ["__class__"] [some (.ref C)] h H := by
  have look : ∀ {y : Str} {c : Addr}, [(("__class__" : Str), cc)].lookup y = some c → y = "__class__" ∧ c = cc := fun {y c} e => by
    have := PySem.mem_of_lookup e
    simp only [List.mem_singleton, Prod.mk.injEq] at this
    exact this
  refine ⟨rfl, fun y c e => ?_, fun x y c e1 e2 => (look e1).1.trans (look e2).1.symm, fun i y e => ?_⟩
  · obtain ⟨_, rfl⟩ := look e
    exact ⟨hH, _, _, KX _ _ hk, rfl⟩
  · cases i with
    | succ i => simp at e
    | zero =>
      simp at e
      subst e
      refine ⟨cc, by simp [List.lookup], fun v hv => ?_⟩
      simp at hv
      subst hv
      exact ⟨.ref C, rfl, _, KX _ _ hk, rfl⟩
/-- what the body's end says to the caller -/
theorem ncx_end {CX : CXT} {P : Program} {w : World} {K : PySem.W.Frag} {mg : Str → Option Value} {base : Heap} {N : List Str} {F : NF} {f : Addr} {A : Around} {outer : List Env} {s s2 : Shared} {H : Hp} {Q : VK} {E : XK} {fl : Flow}
    (hs : SP (ncx CX P w K mg base N F f A outer s H E) [] { nx := fun _ H' => Q .non H', rt := Q } fl s2) : CR CX outer P w H s Q E (.ok (.ret (match fl with | .ret v => v | _ => .none))) s2 := by
  match fl, hs with
  | .ret _, ⟨v, _, H', J, r, q⟩ => exact ⟨v, H', J.os, J.bare, J.base, J.hok, r, q⟩
  | .next, ⟨_, H', J, q⟩ => exact ⟨.non, H', J.os, J.bare, J.base, J.hok, rfl, q⟩
  | .brk, ⟨_, _, _, q⟩ => exact q.elim
  | .cont, ⟨_, _, _, q⟩ => exact q.elim
section
variable {CX : CXT} {P : Program} {w : World} {K : PySem.W.Frag} {mg : Str → Option Value} {base : Heap} {N ps : List Str} {F : NF} {f C cc : Addr} {k : Nat} {x0 m : Str} {rest : List Stmt} {sp : Sp} {fd : FuncData}
theorem fn_super (SF : SupF P K C f cc F x0 m rest) (hfd : ∃ doc pm ctv oc od osl, fd = F.fd doc pm ctv ∧ K.lookup f = some ⟨oc, od, .func fd, osl⟩) (S : NScope N ps ["__class__"] F.scope) (hN : N[0]? = some x0) (hps : ps[0]? = some x0) (hms : mg "super" = none)
    (len : ∀ vs H Q E, sp vs H Q E → vs.length = ps.length) (self : ∀ vs H Q E, sp vs H Q E → ∃ a vs', vs = .ref a :: vs' ∧ H a = some (exo a C none))
    (hbody : ∀ (A : Around) (outer : List Env) (s : Shared) (H : Hp) (vs : List V) (Q : VK) (E : XK), Room k (A.deeper (envF F f s.heap.objs.size)) → sp vs H Q E →
      ∃ t, PSs (ncx CX P w K mg base N F f A outer s H E) rest t ∧ t { nx := fun _ H' => Q .non H', rt := Q } (startF N vs [some (.ref C)]) H) :
    FnOk P w K mg base CX (k + 1) f fd ps sp := by
  refine ⟨len, fun A outer s H args us vs Q E hr e0 hb r hsp => ?_⟩
  have KX : K.In s.heap := e0.mod.kin.keeps fun b o e => (e0.bs b o e).1
  have hl := len _ _ _ _ hsp
  have lim : s.heap.NoLimit := e0.mod.nolimit.keeps fun b o e => (e0.bs b o e).1
  obtain ⟨doc, pm, ctv, oc, od, osl, rfl, lk⟩ := hfd
  obtain ⟨ccl2, cdd2, ccs2, hcell⟩ := SF.cell
  have hC : CellsAt F.cl ["__class__"] [some (.ref C)] s.heap H := by
    rw [SF.cl]
    exact cells_class hcell KX (e0.bs _ _ (e0.mod.kin _ _ hcell)).2
  refine PySem.ks_codeAny_call_defAt hr.depth (KX _ _ lk) rfl lim (PySem.W.codeRec_of KX SF.hcd) rfl hb S.nocell (fun ⟨n, _⟩ hy => S.par n (List.of_mem_zip hy).1) (fun h₁ hns kp => ?_) S.co S.gen S.kind
  obtain ⟨p0, p1, p2, p3, p4, p5, j, pl, hbd, hev⟩ := SF.body.ex
  obtain ⟨a, vs', rfl, ea⟩ := self _ _ _ _ hsp
  obtain ⟨t, ht, hq⟩ := hbody A outer s H _ Q E (hr.deeper _) hsp
  have I : Inv (ncx CX P w K mg base N F f A outer s H E) [] (startF N (.ref a :: vs') [some (.ref C)]) H { s with heap := h₁, toks := s.toks + (ps.zip us).length } := inv_startN S hr.hd e0 hl r hC hns kp
  obtain ⟨ccl, cdd, vf, ccs, file, tf, hcode, hvs, hfile⟩ := SF.code
  obtain ⟨ar, har, harx⟩ := SF.par
  show _root_.PySem.wpAt (model P w) (A.deeper (envF F f s.heap.objs.size)) (.func F.body (envF F f s.heap.objs.size)) (execs F.body (envF F f s.heap.objs.size)) _ _ _
  rw [hbd]
  refine PySem.ks_wpAt_execs_cons (PySem.ks_wpAt_Expr_any ?_ ?_ rfl)
  · refine super_init (X := ncx CX P w K mg base N F f A outer s H E) (C := C) (f := f) (cc := cc) (c := F.c) I SF.sup ea hN rfl (S.par x0 (List.mem_of_getElem? hps)) SF.sn SF.cn (by show F.cl.lookup _ = _; rw [SF.cl]; simp [List.lookup]) hcell rfl lk har harx rfl hcode hvs hfile SF.top hms (fun s' J => ?_) (hev _)
    refine _root_.PySem.wpAt_of_wpAny (wpAny_mono (ht.run [] s' _ H _ J hq) (fun fl s2 hs => ?_) fun e s2 hs => hs)
    have z := ncx_end hs
    cases fl <;> exact z
  · unfold interactive
    simp [S.kind]
end
/-! ### the promises: one field beside the code, or none -/
/-- self.code = m; self.f = x1 -/
structure Rest1 (rest : List Stmt) (x0 x1 m f : Str) : Prop where
  ex : ∃ (p1 p2 p3 p4 p5 p6 p7 p8 : Pos) (j : Nat), rest = [.Assign [.Attribute (.Name x0 p1) "code" p2] (.Constant (.str m) j p3) p4, .Assign [.Attribute (.Name x0 p5) f p6] (.Name x1 p7) p8]
/-- self.code = m -/
structure Rest0 (rest : List Stmt) (x0 m : Str) : Prop where
  ex : ∃ (p1 p2 p3 p4 : Pos) (j : Nat), rest = [.Assign [.Attribute (.Name x0 p1) "code" p2] (.Constant (.str m) j p3) p4]
def spE1 (K : PySem.W.Frag) (C : Addr) (m f : Str) : Sp := fun vs H Q _ => ∃ a y, vs = [.ref a, y] ∧ H a = some (exo a C none) ∧ ∀ dx, H dx = none → dx ≠ a → Q .non (upd (upd (upd H dx (exd dx [("code", .str m)])) a (exo a C (some dx))) dx (exd dx [(f, y), ("code", .str m)]))
def spE0 (K : PySem.W.Frag) (C : Addr) (m : Str) : Sp := fun vs H Q _ => ∃ a, vs = [.ref a] ∧ H a = some (exo a C none) ∧ ∀ dx, H dx = none → dx ≠ a → Q .non (upd (upd H dx (exd dx [("code", .str m)])) a (exo a C (some dx)))
section
variable {CX : CXT} {P : Program} {w : World} {K : PySem.W.Frag} {mg : Str → Option Value} {base : Heap} {N ps : List Str} {F : NF} {f C cc : Addr} {k : Nat} {x0 x1 m fl : Str} {rest : List Stmt} {fd : FuncData}
theorem fn_exc1 (SF : SupF P K C f cc F x0 m rest) (hfd : ∃ doc pm ctv oc od osl, fd = F.fd doc pm ctv ∧ K.lookup f = some ⟨oc, od, .func fd, osl⟩) (S : NScope [x0, x1, "__class__"] [x0, x1] ["__class__"] F.scope) (hms : mg "super" = none) (hr : Rest1 rest x0 x1 m fl)
    (n1 : PySem.W.findIn K (.ref C) "code" = some none) (n2 : PySem.W.findIn K (.ref C) fl = some none) (d0 : (x0 == ("__debug__" : Str)) = false) (d1 : (x1 == ("__debug__" : Str)) = false) (c0 : (x0 == ("__classdict__" : Str)) = false) (c1 : (x1 == ("__classdict__" : Str)) = false) :
    FnOk P w K mg base CX (k + 1) f fd [x0, x1] (spE1 K C m fl) := by
  refine fn_super (N := [x0, x1, "__class__"]) SF hfd S rfl rfl hms (fun vs H Q E h => ?_) (fun vs H Q E h => ?_) fun A outer s H vs Q E _ h => ?_
  · obtain ⟨a, y, rfl, _⟩ := h; rfl
  · obtain ⟨a, y, rfl, e, _⟩ := h; exact ⟨a, [y], rfl, e⟩
  · obtain ⟨p1, p2, p3, p4, p5, p6, p7, p8, j, rfl⟩ := hr.ex
    obtain ⟨a, y, rfl, e, h⟩ := h
    have v0 : Vis F.scope x0 := .inl (S.par x0 (by simp))
    have v1 : Vis F.scope x1 := .inl (S.par x1 (by simp))
    refine ⟨_, pss_cons (ps_ost (pe_var (i := 0) rfl v0 d0 c0) pe_str rfl) (pss_one (ps_ost (pe_var (i := 0) rfl v0 d0 c0) (pe_var (i := 1) rfl v1 d1 c1) rfl)), ?_⟩
    refine ⟨.ref a, rfl, a, C, rfl, SF.sup.oex, n1, .inl ⟨e, fun dx hn hne => ?_⟩⟩
    refine ⟨y, rfl, .ref a, rfl, a, C, rfl, SF.sup.oex, n2, .inr ⟨dx, _, upd_same, by rw [upd_ne hne, upd_same], Nat.le_of_ble_eq_true rfl, ?_⟩⟩
    exact h dx hn hne
theorem fn_exc0 (SF : SupF P K C f cc F x0 m rest) (hfd : ∃ doc pm ctv oc od osl, fd = F.fd doc pm ctv ∧ K.lookup f = some ⟨oc, od, .func fd, osl⟩) (S : NScope [x0, "__class__"] [x0] ["__class__"] F.scope) (hms : mg "super" = none) (hr : Rest0 rest x0 m)
    (n1 : PySem.W.findIn K (.ref C) "code" = some none) (d0 : (x0 == ("__debug__" : Str)) = false) (c0 : (x0 == ("__classdict__" : Str)) = false) :
    FnOk P w K mg base CX (k + 1) f fd [x0] (spE0 K C m) := by
  refine fn_super (N := [x0, "__class__"]) SF hfd S rfl rfl hms (fun vs H Q E h => ?_) (fun vs H Q E h => ?_) fun A outer s H vs Q E _ h => ?_
  · obtain ⟨a, rfl, _⟩ := h; rfl
  · obtain ⟨a, rfl, e, _⟩ := h; exact ⟨a, [], rfl, e⟩
  · obtain ⟨p1, p2, p3, p4, j, rfl⟩ := hr.ex
    obtain ⟨a, rfl, e, h⟩ := h
    have v0 : Vis F.scope x0 := .inl (S.par x0 (by simp))
    refine ⟨_, pss_one (ps_ost (pe_var (i := 0) rfl v0 d0 c0) pe_str rfl), ?_⟩
    refine ⟨.ref a, rfl, a, C, rfl, SF.sup.oex, n1, .inl ⟨e, fun dx hn hne => ?_⟩⟩
    exact h dx hn hne
end
/-! ### exceptions whose context is None -/
theorem cxUpN {P : Program} {w : World} : StX.CXUp (L2N.CX P w) := by
  rintro outer s H s2 H2 E e s' un kp ho ⟨a, B, H', cls, d, ea, fl, hok, ub, na, os, ag, he⟩
  refine ⟨a, B, H', cls, d, ea, fl, hok, ⟨fun b o q n hb => ub.keep b o (kp b o q) (un.free b o q n (by simp)) hb, fun b o q hb => ub.slot b o (kp b o q) hb, fun b o q n => ub.free b o (kp b o q) (un.free b o q n (by simp)),
    fun b o q hb => ub.there b o (kp b o q) hb, fun b xs q => ub.tups b xs (un.tups b xs q), fun b o xs q => ub.frzs b o xs (un.frzs b o xs q), fun b ps q => ?_⟩, na, os.trans ho, ag, he⟩
  obtain ⟨m1, e1⟩ := un.tbls b ps q
  obtain ⟨m2, e2⟩ := ub.tbls b _ e1
  exact ⟨m1 ++ m2, by rw [e2, Array.append_assoc]⟩
/-- the heap with the arguments' tuple and the new exception -/
def excHeap (h : Heap) (us : List Value) (C : Addr) : Heap := (h.push (PySem.W.kdv_tup us)).push (PySem.HandSPX.excO C h.objs.size)
section
variable {X : Cx} {pins : List (Addr × Obj)} {σ : St} {H : Hp} {C : Addr} {s : Shared}
theorem excHeap_keep {h : Heap} {us : List Value} {b : Addr} {o : Obj} (e : h.get? b = some o) : (excHeap h us C).get? b = some o := Heap.get?_push_of_some _ (Heap.get?_push_of_some _ e)
theorem excHeap_at {h : Heap} {us : List Value} : (excHeap h us C).get? (h.objs.size + 1) = some (PySem.HandSPX.excO C h.objs.size) := by unfold excHeap; heap_get
theorem exc_laid (I : Inv X pins σ H s) (us : List Value) : Inv X pins σ (upd H (s.heap.objs.size + 1) (exo (s.heap.objs.size + 1) C none)) { s with heap := excHeap s.heap us C } :=
  I.laid (t' := s.toks) (fun _ _ => excHeap_keep) (Nat.le_succ _) (exo_ok excHeap_at)
/-- what the call of the class leaves -/
theorem made {Q : XK} {CX : CXT} {u : Value} {s2 : Shared} (T : OexC X.K C) (I : Inv X pins σ H s) {us : List Value}
    (q : CR CX X.stack X.prog X.w (upd H (s.heap.objs.size + 1) (exo (s.heap.objs.size + 1) C none)) { s with heap := excHeap s.heap us C }
      (fun v H2 => v = .non ∧ ∃ (d : Addr) (fs : List (Str × V)), H2 (s.heap.objs.size + 1) = some (exo (s.heap.objs.size + 1) C (some d)) ∧ H2 d = some (exd d fs) ∧ H d = none ∧ Q (.ref C) (some d) (upd (del H2 (s.heap.objs.size + 1)) d (.xd fs)))
      (fun _ _ _ => False) (.ok (.ret u)) s2) : u = .none ∧ L2N.MkP X pins σ Q (.ref (s.heap.objs.size + 1)) s2 := by
  obtain ⟨v, H2, os2, bare, un, hok, rv, rfl, d, fs, ea, ed, hd, q⟩ := q
  obtain ⟨h0, g0, d0, t0, os0⟩ := s
  obtain ⟨h2, g2, d2, t2, os2'⟩ := s2
  obtain ⟨c, G, J, kG, ge, hoe, na⟩ := mk_end0 (d2 := d2) (t2 := t2) I (Nat.le_succ _) (fun _ _ => excHeap_keep) un hok os2 bare ea ed hd
  exact ⟨rv, _, _, _, ⟨G, g2, d2, t2, os2'⟩, _, .ref C, some d, rfl, J, kG, ge, hoe, ⟨rfl, rfl, fun vs e => by cases e; rfl⟩, rfl, rfl, na, rfl, bare, raises_own T.exC T.tyC, q⟩
end
section
variable {X : Cx} {e : Expr} {es : List Expr} {ta : TA} {p pos : Pos}
/-- C(e, ..), where nothing is handled -/
theorem pmk_oexN {CX : CXT} {x : Str} {C fI : Addr} {k : Nat} {fd : FuncData} {ps : List Str} {sp : Sp} {ds : List Value} {dvs : List V} (T : OexC X.K C) (iC : PySem.W.findIn X.K (.ref C) "__init__" = some (some (.ref fI))) (tI : PySem.W.typeIn X.K (.ref fI) = some (.type "function"))
    (F1 : FnOk X.prog X.w X.K X.mg X.base CX k fI fd ps sp) (hr : Room (k + 1) X.A) (hb : Binds X.K fd ps ds) (hd : Vals dvs ds) (hx : Passes CX X (fun _ _ _ => False)) (hg : Gl X x) (hm : X.mg x = some (.ref C)) (ha : PA X (e :: es) ta)
    (hdb : (x == ("__debug__" : Str)) = false) (he : starEach (e :: es) X.env = (false, eval e X.env) :: starEach es X.env) (hpl : (backTo pos (starEach es X.env)).any (·.1) = false) :
    L2N.PMk X (.Call (.Name x p) (e :: es) [] pos) (tMkO C sp dvs ta) := fun pins s σ H Q I h => by
  obtain ⟨nm, q, N, bs, bm, sn, sub, ab, col, dd, k0, k1, k2, k3, k5, hC, hbm⟩ := T.cls
  refine wpAny_Call_Name_kw (ld_glob I hg hm (PySem.W.callWith_K (h₀ := X.base) I.ok.mod.kin T.kC (thn (ha.run pos pins s σ H _ I h) fun us s1 z => ?_) he hpl) hdb)
  obtain ⟨vs, H1, I1, r1, hz, q1⟩ := z
  refine ⟨I1.kIn, ?_⟩
  have hq := q1 _ (I1.hok.fresh (Nat.le_succ _))
  have r2 : Vals (V.ref (s1.heap.objs.size + 1) :: (vs ++ dvs)) (Value.ref (s1.heap.objs.size + 1) :: (us ++ ds)) := .cons rfl (r1.append hd)
  have len : ((Value.ref (s1.heap.objs.size + 1) :: us) ++ ds).length = ps.length := r2.length.symm.trans (F1.len _ _ _ _ hq)
  have few : us.length ≤ sizeLine := by rw [← Paired.length r1, sizeLine_eq]; omega
  have I2 := exc_laid (C := C) I1 us
  have run := F1.run _ X.stack _ _ ⟨.ref (s1.heap.objs.size + 1) :: us, []⟩ _ _ _ (fun _ _ _ => False) (hr.make C us []) (I2.env0.make C us []) (hb _ _ I2.kIn len) r2 hq
  obtain ⟨h0, g0, d0, t0, os0⟩ := s1
  refine wpAny_call (PySem.HandSPX.call_own F.excBase_ValueError (fun Y => PySem.HandSPX.refsVE_contains Y bm hbm) (I1.kIn _ _ hC) (PySem.W.looks_findIn I1.kIn iC) (fun self => PySem.W.bind_fn I1.kIn self tI) few (codeAny_mono run fun r s2 z => ?_))
  match r, z with
  | .error er, z => exact hx pins σ _ _ er s2 I2 z
  | .ok (.ret _), z => exact made T I1 z
  | .ok .next, z => exact z.elim
  | .ok .brk, z => exact z.elim
  | .ok .cont, z => exact z.elim
end
theorem takes0N {X : Cx} : L2N.Takes X (fun _ _ _ _ => False) := fun _ _ x => by
  obtain ⟨_, _, _, _, _, _, _, _, _, _, _, _, _, _, _, _, z⟩ := x
  exact z.elim
end L2

/-! try: body, except (A, B, C) as n: suite, where one of them is met -/
namespace L2
open PySem PySem.Spec PyProof.Rows
/-- what the clause wishes of an exception of the body: slot i is n's -/
def wTup (K : PySem.W.Frag) (cs : List Value) (i : Nat) (ts : Addr → Value → Option Addr → TS) (D : Ends) : WX := fun cls d σ H =>
  PySem.W.exmAny K cls cs = some true ∧ ∀ a, H a = none →
    ts a cls d ⟨fun σ1 H1 => D.nx (σ1.set i none) H1, D.rt, fun σ1 H1 => D.bk (σ1.set i none) H1, fun σ1 H1 => D.ct (σ1.set i none) H1⟩ (σ.set i (some (.ref a))) H
theorem upTo_keep {h h' : Heap} (k : ∀ b o, h.get? b = some o → h'.get? b = some o) : h.UpToSlots h' := fun b o e _ => ⟨o.slots, k b o e⟩
/-- an exception that has come down to the frame of X, its trace told; s: the rest of the state -/
structure Down (X : Cx) (pins : List (Addr × Obj)) (σ : St) (H : Hp) (a : Addr) (cls : Value) (d : Option Addr) (B : Heap) (s : Shared) (h : Heap) : Prop where
  fl : HandSPX.FlyingZ B (X.env :: X.outer) a (L2N.Zn cls d) h
  inv : ∀ h', B.StaysIn h' → h.UpToSlots h' → Inv X pins σ H { s with heap := h' }
  none : H a = none
section
variable {X : Cx} {pins : List (Addr × Obj)} {σ : St} {H : Hp} {a : Addr} {cls : Value} {d : Option Addr} {B : Heap} {s : Shared} {h h' : Heap}
theorem Down.here (D : Down X pins σ H a cls d B s h) : Inv X pins σ H { s with heap := h } := D.inv h D.fl.1 (Heap.UpToSlots.refl _)
theorem Down.to (D : Down X pins σ H a cls d B s h) (fl : HandSPX.FlyingZ B (X.env :: X.outer) a (L2N.Zn cls d) h') (up : h.UpToSlots h') : Down X pins σ H a cls d B s h' :=
  ⟨fl, fun h2 st u => D.inv h2 st (up.trans u), D.none⟩
theorem Down.keep (D : Down X pins σ H a cls d B s h) (k : ∀ b o, h.get? b = some o → h'.get? b = some o) : Down X pins σ H a cls d B s h' := by
  refine D.to ?_ (upTo_keep k)
  obtain ⟨z1, z2, z3, oe, vs, T, oT, ts, y1, y2, y3, y4, y5, y6, y7, y8, y9⟩ := D.fl
  exact ⟨fun b o q => k b o (z1 b o q), z2, Heap.FunFrames.of_keeps (fun b o q _ => ⟨o, k b o q, rfl⟩) z3, oe, vs, T, oT, ts, k _ _ y1, y2, y3, y4, y5, y6, k _ _ y7, y8, y9⟩
/-- the suite's context at that heap -/
theorem Down.suite (D : Down X pins σ H a cls d B s h) (hf : X.env.frame = some X.env.locals) : ∃ oe, h.get? a = some oe ∧ L2N.Zn cls d oe ∧ (∃ vs, oe.data = .fields vs) ∧ Inv (X.suite a ((a, oe) :: (X.pn ++ pins))) [] σ H { s with heap := h } := by
  obtain ⟨oe, vs, e1, e2, e3⟩ := D.fl.there
  have away : ∀ L, L ∈ frs (X.env :: X.outer) → a ≠ L := fun L hL z => by
    obtain ⟨_, o, q, n⟩ := D.fl.2.2.1.mem hL
    rw [← z, e1] at q
    cases q
    exact n _ e3
  refine ⟨oe, e1, e2, ⟨vs, e3⟩, D.here.suite e1 e3 D.none (away _ ?_) fun hm => away a ?_ rfl⟩
  · exact List.mem_filterMap.mpr ⟨X.env, List.mem_cons_self, hf⟩
  · obtain ⟨e, m, q⟩ := List.mem_filterMap.mp hm
    exact List.mem_filterMap.mpr ⟨e, List.mem_cons_of_mem _ m, q⟩
/-- an exception in the air of X comes down -/
theorem down_of {W : WX} {u : Value} {E : Value → Shared → Prop} {xe : Value → Shared → Prop} {k : Value → Sem Flow} {R : Flow → Shared → Prop} (hs : X.stack = X.env :: X.outer) (hf : X.env.frame = some X.env.locals) (ok : X.Ok)
    (x : L2N.XE (X.tr (X.pn ++ pins) xe) W u s) (hk : ∀ a σ' H' cls d B h', u = .ref a → W cls d σ' H' → Down X pins σ' H' a cls d B s h' → wpAny (model X.prog X.w) X.A (k u) R E { s with heap := h' }) :
    wpAny (model X.prog X.w) X.A (noteFrame u X.env) (fun _ s2 => wpAny (model X.prog X.w) X.A (setFlight u none) (fun _ s3 => wpAny (model X.prog X.w) X.A (k u) R E s3) E s2) E s := by
  obtain ⟨a, B, sI, pins', σ', H', cls, d, rfl, J', nb, up, sky, na, os, ag, w⟩ := x
  have sky' : Sky B (X.env :: X.outer) a (L2N.Zn cls d) X.env.locals s.heap := by
    have z : Sky B X.stack a (L2N.Zn cls d) X.env.locals s.heap := sky
    rwa [hs] at z
  refine L2N.Sky.land L2N.Zn.steady (by rw [ok.frames, hs]) hf sky' fun h3 fl up3 => ?_
  exact hk a σ' H' cls d B h3 rfl w ⟨fl, fun h2 st u => (J'.ofTry ok).landed nb st ((up.trans up3).trans u) os ag, na⟩
end
section
variable {X : Cx} {x1 x2 x3 n : Str} {c1 c2 c3 : Value} {i kk : Nat} {body suite : List Stmt} {b₀ : Stmt} {np p1 p2 p3 pos pos' : Pos} {tb : WX → TS} {ts : Addr → Value → Option Addr → TS} {Wout : WX}
theorem named {a : Addr} {oe : Obj} {pn pins : List (Addr × Obj)} {σ : St} {H : Hp} {s : Shared} {x : Str} {c : Value} {p : Pos} {Q E : Value → Shared → Prop} (hc : Names X x c) (S : Inv (X.suite a ((a, oe) :: pn)) pins σ H s) (q : Q c s) : wpAny (model X.prog X.w) (X.A.mark (some (.ref a))) (eval (.Name x p) X.env) Q E s := by
  rcases hc with ⟨hg, nd, hm | ⟨hm, hv, hne⟩⟩
  · exact ld_glob (X := X.suite a ((a, oe) :: pn)) S hg hm q nd
  · exact ld_blt (X := X.suite a ((a, oe) :: pn)) S hg hm hv q hne nd
theorem sp_ofTry {pins : List (Addr × Obj)} {xe : Value → Shared → Prop} {D : Ends} {fl : Flow} {s : Shared} (ok : X.Ok) (hs : SP (X.tr (X.pn ++ pins) xe) [] D fl s) : SP X pins D fl s := by
  match fl, hs with
  | .next, ⟨σ, H, J, q⟩ => exact ⟨σ, H, J.ofTry ok, q⟩
  | .brk, ⟨σ, H, J, q⟩ => exact ⟨σ, H, J.ofTry ok, q⟩
  | .cont, ⟨σ, H, J, q⟩ => exact ⟨σ, H, J.ofTry ok, q⟩
  | .ret u, ⟨v, σ, H, J, r, q⟩ => exact ⟨v, σ, H, J.ofTry ok, r, q⟩
theorem ps_try_tup3 (hs : X.stack = X.env :: X.outer) (hf : X.env.frame = some X.env.locals) (hN : X.N.Nodup) (hi : X.N[i]? = some n) (hln : X.env.kindOf n = some .local) (h1 : Names X x1 c1) (h2 : Names X x2 c2) (h3 : Names X x3 c3)
    (hb : ∀ (W : WX) (pn : List (Addr × Obj)) (xe : Value → Shared → Prop), L2N.Takes (X.tr pn xe) W → PassesOwn (model X.prog X.w) X.A X.env xe → PSs (X.tr pn xe) body (tb W))
    (hsu : ∀ (a : Addr) (oe : Obj) (cls : Value) (d : Option Addr) (pn : List (Addr × Obj)), L2N.Zn cls d oe → (∃ vs, oe.data = .fields vs) → PSs (X.suite a ((a, oe) :: pn)) (b₀ :: suite) (ts a cls d)) :
    PS X (.Try body [.ExceptHandler (some (.Tuple [.Name x1 p1, .Name x2 p2, .Name x3 p3] kk np)) (some n) (b₀ :: suite) pos'] [] [] pos) (fun D σ H => tb (wTup X.K [c1, c2, c3] i ts D) D σ H) := by
  refine ⟨fun pins s σ H D I h => ?_⟩
  have ok := I.ok
  refine wpAny_Try_except ?_
  refine wpAny_mono ((hb (wTup X.K [c1, c2, c3] i ts D) (X.pn ++ pins) _ (fun u s1 x => ?_) PassesOwn.looking).run [] s σ H D (I.toTry _) h) (fun fl s1 q => ?_) (fun _ _ q => q)
  · refine down_of (k := fun u => handleBy u X.env _) hs hf ok x fun a σ1 H1 cls d B g e w Dn => ?_
    subst e
    obtain ⟨met, w⟩ := w
    obtain ⟨oe, ha, hz, hd, S⟩ := Dn.suite hf
    refine wpAny_handleBy_cons (codeAny_handlers_test (wpAny_Tuple (wpAny_items_cons (named h1 S (wpAny_items_cons (named h2 S (wpAny_items_cons (named h3 S (wpAny_items_nil ⟨Nat.le_of_ble_eq_true rfl, ?_⟩))))))))) (by intro q; cases q)
    have kp : ∀ q o, g.get? q = some o → (g.push { cls := .type "tuple", data := .seq [c1, c2, c3].toArray }).get? q = some o := fun _ _ z => Heap.get?_push_of_some _ z
    have LT : PySem.W.Looks (model X.prog X.w) g (typeOf (.ref a)) cls := fun A Q E s k q => wpAny_typeOf_ref (k _ _ ha) (by rw [hz.1]; exact q)
    refine (PySem.W.exm_tup3 (Dn.here.kIn.keeps kp) (LT.keeps kp) (Heap.get?_push_size g rfl) met).here (codeAny_handlers_suite_as ?_)
    refine HandSPX.lands_againZ (Dn.keep kp).fl fun g4 fl4 up4 => ?_
    obtain ⟨oe4, _, hz4, hd4, S4⟩ := ((Dn.keep kp).to fl4 up4).suite hf
    refine store_ok (X := X.suite a ((a, oe4) :: (X.pn ++ pins))) (v := .ref a) S4 hN hi (.inl hln) rfl (fun s5 S5 => ?_) (.inr hln)
    refine wpAny_mono ((hsu a oe4 cls d (X.pn ++ pins) hz4 hd4).run [] s5 _ H1 _ S5 (w a Dn.none)) (fun fl s6 q => ?_) fun _ _ z => z.elim
    match fl, q with
    | .next, ⟨_, _, J, q⟩ => exact gone_ok (J.unsuite ok) hN hi hln fun s7 J7 => ⟨_, _, J7, q⟩
    | .brk, ⟨_, _, J, q⟩ => exact gone_ok (J.unsuite ok) hN hi hln fun s7 J7 => ⟨_, _, J7, q⟩
    | .cont, ⟨_, _, J, q⟩ => exact gone_ok (J.unsuite ok) hN hi hln fun s7 J7 => ⟨_, _, J7, q⟩
    | .ret u, ⟨_, _, _, J, r, q⟩ => exact gone_ok (J.unsuite ok) hN hi hln fun s7 J7 => ⟨_, _, _, J7, r, q⟩
  · match fl, sp_ofTry ok q with
    | .next, q => exact wpAny_execs_nil q
    | .brk, q => exact q
    | .cont, q => exact q
    | .ret u, q => exact q
end
end L2

/-! defs called in an except suite with the caught exception: their promise names it -/
namespace L2
open PySem PySem.Spec PyProof.Rows L2H
/-- as FnH, the promise may name the handled exception p -/
structure FnP (P : Program) (w : World) (K : PySem.W.Frag) (mg : Str → Option Value) (base : Heap) (CX : CXT) (k : Nat) (f : Addr) (fd : FuncData) (ps : List Str) (sp : Addr × Obj → Sp) : Prop where
  len : ∀ p vs H Q E, sp p vs H Q E → vs.length = ps.length
  run : ∀ (p : Addr × Obj) (A : Around) (outer : List Env) (s : Shared) (H : Hp) (args : Args) (us : List Value) (vs : List V) (Q : VK) (E : XK), RoomH k A → Hot1 A p → PinOk outer H s p → Env0 P w K mg base A outer s H → BindsTo s fd args (ps.zip us) → Vals vs us → sp p vs H Q E →
    codeAny (model P w) A (.call (.ref f) args) (CR CX outer P w H s Q E) s
theorem spH_end {CX : CXT} {P : Program} {w : World} {K : PySem.W.Frag} {mg : Str → Option Value} {base : Heap} {N : List Str} {qual : Str} {scope : Scope} {f : Addr} {cd : Value} {A : Around} {outer : List Env} {s s2 : Shared} {H : Hp} {Q : VK} {E : XK} {p : Addr × Obj} {fl : Flow}
    (hs : SP (cxH CX P w K mg base N qual scope f cd A outer s H E p) [] { nx := fun _ H' => Q .non H', rt := Q } fl s2) : CR CX outer P w H s Q E (.ok (.ret (match fl with | .ret v => v | _ => .none))) s2 := by
  match fl, hs with
  | .ret _, ⟨v, _, H', J, r, q⟩ => exact ⟨v, H', J.os, J.bare, J.base, J.hok, r, q⟩
  | .next, ⟨_, H', J, q⟩ => exact ⟨.non, H', J.os, J.bare, J.base, J.hok, rfl, q⟩
  | .brk, ⟨_, _, _, q⟩ => exact q.elim
  | .cont, ⟨_, _, _, q⟩ => exact q.elim
section
variable {P : Program} {w : World} {K : PySem.W.Frag} {mg : Str → Option Value} {base : Heap} {CX : CXT} {k : Nat} {f : Addr} {name qual : Str} {params : Arguments} {body : List Stmt} {scope : Scope} {dV kV doc pm cdv ct oc : Value} {an od : Option Addr} {osl : Array (Option Value)} {N ps : List Str} {sp : Addr × Obj → Sp}
theorem fn_ofP (lk : K.lookup f = some ⟨oc, od, .func (PySem.W.fnOf name qual params body scope dV kV doc pm an cdv ct), osl⟩) (hcd : PySem.W.codeIn K cdv qual = true) (S : FnScope N ps scope) (len : ∀ p vs H Q E, sp p vs H Q E → vs.length = ps.length)
    (hbody : ∀ (p : Addr × Obj) (A : Around) (outer : List Env) (s : Shared) (H : Hp) (vs : List V) (Q : VK) (E : XK), Hot1 A p → RoomH k (A.deeper (envOfC qual scope s.heap.objs.size f cdv)) → sp p vs H Q E →
      ∃ t, PSs (cxH CX P w K mg base N qual scope f cdv A outer s H E p) body t ∧ t { nx := fun _ H' => Q .non H', rt := Q } (L2.start N vs) H) :
    FnP P w K mg base CX (k + 1) f (PySem.W.fnOf name qual params body scope dV kV doc pm an cdv ct) ps sp := by
  refine ⟨len, fun p A outer s H args us vs Q E hr hot pin e0 hb r h => ?_⟩
  have up : ∀ b o, base.get? b = some o → s.heap.get? b = some o := fun b o q => (e0.bs b o q).1
  have kind : ∀ y ∈ ps.zip us, scope.names.lookup y.1 = some .local ∨ (scope.names.lookup y.1 = some .cell ∧ ((cellsFrom (s.heap.objs.size + 1) scope.names []).lookup y.1).isSome = true) := fun y hy =>
    (S.par y.1 (List.of_mem_zip (a := y.1) (b := y.2) hy).1).imp id fun q => ⟨q, PySem.W.cellsFrom_some _ _ _ (.inl q)⟩
  refine codeAny_call_function hr.depth ((e0.mod.kin.keeps up) _ _ lk) rfl S.co S.gen rfl (PySem.W.codeRec_of (e0.mod.kin.keeps up) hcd) (hb _ _ _ _ (wpAny_newFunctionEnv_cells S.kind kind fun env he s1 x => ?_))
  subst he
  obtain ⟨t, ht, hq⟩ := hbody p A outer s H vs Q E hot (hr.deeper _) h
  refine ⟨(e0.mod.nolimit.keeps up).keeps x.toInCall.keep, codeAny_func (wpAny_mono (ht.run [] s1 _ H _ (inv_startH S pin e0 (len _ _ _ _ _ h) r x) hq) (fun fl s2 z => ?_) fun _ _ z => z)⟩
  have z := spH_end z
  cases fl <;> exact z
end
section
variable {X : Cx} {CX : CXT} {k : Nat} {f : Addr} {fd : FuncData} {ps : List Str} {sp : Addr × Obj → Sp} {E : XK} {x : Str} {q pos : Pos} {e : Expr} {es : List Expr} {t : TA} {p : Addr × Obj}
/-- x(e, ..) where p is handled -/
theorem pe_callP (F : FnP X.prog X.w X.K X.mg X.base CX k f fd ps sp) (hr : RoomH k X.A) (hot : Hot1 X.A p) (hp : p ∈ X.pn) (hg : Gl X x) (hm : X.mg x = some (.ref f)) (hk : PySem.W.keepIn X.K (.ref f) = true) (hb : Binds X.K fd ps []) (hx : Passes CX X E)
    (ha : PA X (e :: es) t) (hdb : (x == ("__debug__" : Str)) = false) (he : starEach (e :: es) X.env = (false, eval e X.env) :: starEach es X.env) (hpl : (backTo pos (starEach es X.env)).any (·.1) = false) :
    PE X (.Call (.Name x q) (e :: es) [] pos) (fun σ H Q => t σ H fun vs H1 => sp p vs H1 Q E) := by
  refine ⟨fun pins s σ H Q I h => wpAny_Call_Name_kw (ld_glob I hg hm (PySem.W.callWith_K (h₀ := X.base) I.ok.mod.kin hk (thn (ha.run pos pins s σ H _ I h) fun us s1 z => ?_) he hpl) hdb)⟩
  obtain ⟨vs, H1, I1, r, z⟩ := z
  have P1 := I1.pin p (List.mem_append_left _ hp)
  have b := hb s1 us I1.kIn (by rw [List.append_nil, ← r.length]; exact F.len _ _ _ _ _ z)
  rw [List.append_nil] at b
  have pin : PinOk X.stack H1 s1 p := ⟨P1.1, P1.2.1, fun hm => (List.mem_cons.mp (I1.stkSub p.1 hm)).elim P1.2.2.1 P1.2.2.2.1, P1.2.2.2.2⟩
  refine ⟨I1.kIn, wpAny_call (codeAny_mono (F.run p X.A X.stack s1 H1 ⟨us, []⟩ us vs Q E hr hot pin I1.env0 b r z) fun y s2 z => ?_)⟩
  match y, z with
  | .error er, z => exact hx pins σ H1 s1 er s2 I1 z
  | .ok (.ret _), z => exact I1.after z
  | .ok .next, z => exact z.elim
  | .ok .brk, z => exact z.elim
  | .ok .cont, z => exact z.elim
end
/-! ### the caught exception's fields -/
/-- a: the exception, dd: its dict -/
def tXfP (a dd : Addr) (n : Str) (te : TE) : TE := fun σ H Q => te σ H fun x H1 => x = .ref a ∧ ∃ fs v, H1 dd = some (.xd fs) ∧ fs.lookup n = some v ∧ Q v H1
theorem pe_xfP {X : Cx} {a C dd : Addr} {oe : Obj} {n : Str} {e : Expr} {te : TE} {pos : Pos} (T : XfC X.K C) (no : PySem.W.findIn X.K (.ref C) n = some none) (hz : Zc (.ref C) (some dd) oe) (hf : ∃ vs, oe.data = .fields vs) (hp : (a, oe) ∈ X.pn) (he : PE X e te)
    (hb : attributeBase e n X.env (eval e X.env) = eval e X.env) : PE X (.Attribute e n pos) (tXfP a dd n te) := by
  refine ⟨fun pins s σ H Q I h => attr_of hb (thn (he.run pins s σ H _ I h) fun u s1 z => ?_)⟩
  obtain ⟨x, H1, I1, rx, rfl, fs, v, ed, l, q⟩ := z
  obtain rfl : u = Value.ref a := rx
  have at_ := (I1.pin (a, oe) (List.mem_append_left _ hp)).1
  obtain ⟨ws, hd⟩ := hf
  obtain ⟨mA, hns, hr⟩ := (show ObjOk X.prog X.w H1 s1.heap dd (.xd fs) from I1.hok dd _ ed)
  obtain ⟨od, ho, hl⟩ := lookIn_ns hns
  obtain ⟨u, hu, ru⟩ := RelO.some_of (v := v) (o := mA n) (by rw [← l]; exact hr n)
  have J : PySem.W.InstAt s1.heap a oe C (some od) := ⟨at_, hz.1, by unfold PySem.W.notCls; rw [hd], by rw [hz.2]; exact ho⟩
  exact HandSPX.exc_get I1.kIn J T.ga T.gg T.exC (PySem.W.findObj_own T.hdC no rfl (by rw [hl, hu])) (handed_of ru) ⟨v, H1, I1.tok _, ru, q⟩
/-- the texts that _law_field asks for -/
def fL1 : List Str := ["InvalidLine", "InvalidStep", "InvalidTable", "InvalidBad", "InvalidPlan", "UnknownRoom"]
def fL2 : List Str := ["TooMany", "Full"]
def fL3 : List Str := ["InvalidText", "InvalidPage"]
def fL4 : List Str := ["InvalidPaper", "OtherFaces", "OtherCutters", "NothingLeft"]
def txts : List Str → TA
  | [] => tNil
  | z :: zs => tCons (tC (.str z)) (txts zs)
def tInL (K : PySem.W.Frag) (te : TE) (zs : List Str) : TT := tTest (tOp (rIn K false) te (tLst (txts zs)))
/-- the reading of _law_field's body -/
def tField (K : PySem.W.Frag) (a dd : Addr) : TS :=
  tSeq (tIfS (tInL K (tXfP a dd "code" (tVar 0)) fL1) (tRet (tXfP a dd "at" (tVar 0))) tNext)
  (tSeq (tIfS (tInL K (tXfP a dd "code" (tVar 0)) fL2) (tRet (tXfP a dd "most" (tVar 0))) tNext)
  (tSeq (tIfS (tInL K (tXfP a dd "code" (tVar 0)) fL3) (tRet (tXfP a dd "line" (tVar 0))) tNext)
  (tSeq (tIfS (tTest (tOp rEq (tXfP a dd "code" (tVar 0)) (tC (.str "UnknownState")))) (tRet (tXfP a dd "state" (tVar 0))) tNext)
  (tRet (tIf (tInL K (tXfP a dd "code" (tVar 0)) fL4) (tC .non) (tXfP a dd "given" (tVar 0)))))))
/-- what it answers -/
def fieldV (m : Str) (fs : List (Str × V)) : Option V :=
  if m ∈ fL1 then fs.lookup ("at" : Str) else if m ∈ fL2 then fs.lookup ("most" : Str) else if m ∈ fL3 then fs.lookup ("line" : Str) else if m = "UnknownState" then fs.lookup ("state" : Str) else if m ∈ fL4 then some .non else fs.lookup ("given" : Str)
/-- only lists are new -/
inductive Lists : Hp → Hp → Prop
  | refl {H : Hp} : Lists H H
  | new {H H1 : Hp} {p : Addr} {xs : List V} : Lists H H1 → H1 p = none → Lists H (upd H1 p (.lst xs))
theorem Lists.keep {H H1 : Hp} (l : Lists H H1) {b : Addr} {o : HO} (e : H b = some o) : H1 b = some o := by
  induction l with
  | refl => exact e
  | new l hp ih => rw [upd_ne (ne_of_none ih hp)]; exact ih
def FldC (K : PySem.W.Frag) (C : Addr) : Prop := XfC K C ∧ ∀ n ∈ (["code", "at", "most", "line", "state", "given"] : List Str), PySem.W.findIn K (.ref C) n = some none
/-- the promise of _law_field, p the caught exception -/
def spField (K : PySem.W.Frag) (p : Addr × Obj) : Sp := fun vs H Q _ => ∃ (C dd : Addr) (fs : List (Str × V)) (m : Str) (v : V), vs = [.ref p.1] ∧ Zc (.ref C) (some dd) p.2 ∧ (∃ ws, p.2.data = .fields ws) ∧ FldC K C ∧ H dd = some (.xd fs) ∧
  fs.lookup ("code" : Str) = some (.str m) ∧ fieldV m fs = some v ∧ ∀ H', Lists H H' → Q v H'
theorem txts_run {zs : List Str} {σ : St} {H : Hp} {Q : List V → Hp → Prop} (h : Q (zs.map .str) H) : txts zs σ H Q := by
  induction zs generalizing Q with
  | nil => exact h
  | cons z zs ih => exact ih (Q := fun xs H2 => Q (.str z :: xs) H2) h
theorem inV_texts {m : Str} : ∀ {zs : List Str}, inV (.str m) (zs.map .str) = decide (m ∈ zs)
  | [] => rfl
  | z :: zs => by
    show (z == m || inV (.str m) (zs.map .str)) = _
    rw [inV_texts]
    by_cases h : z = m
    · subst h; simp
    · have h2 : (z == m) = false := by simpa using h
      rw [h2, Bool.false_or]
      have h3 : ¬ m = z := fun e => h e.symm
      simp [h3]
theorem flat_texts : ∀ {zs : List Str}, (zs.map V.str).all flatV = true
  | [] => rfl
  | _ :: zs => flat_texts (zs := zs)
/-- one such test -/
theorem inL_run {K : PySem.W.Frag} {a dd : Addr} {fs : List (Str × V)} {m : Str} {zs : List Str} {σ : St} {H : Hp} {Q : Bool → Hp → Prop} (hz : zs.length ≤ sizeLine) (hσ : σ[0]? = some (some (.ref a))) (hd : H dd = some (.xd fs)) (hc : fs.lookup ("code" : Str) = some (.str m))
    (h : ∀ p, H p = none → Q (decide (m ∈ zs)) (upd H p (.lst (zs.map .str)))) : tInL K (tXfP a dd "code" (tVar 0)) zs σ H Q := by
  refine ⟨.ref a, hσ, rfl, fs, .str m, hd, hc, txts_run ⟨by rw [List.length_map]; exact hz, fun p hp => ?_⟩⟩
  refine ⟨p, zs.map .str, rfl, .inl (SqL.of upd_same), rfl, flat_texts, ?_⟩
  exact ⟨_, rfl, by rw [inV_texts]; simpa using h p hp⟩
theorem field_run {K : PySem.W.Frag} {a dd : Addr} {fs : List (Str × V)} {m : Str} {v : V} {σ : St} {H : Hp} {Q : VK} {D : Ends} (hσ : σ[0]? = some (some (.ref a))) (hd : H dd = some (.xd fs)) (hc : fs.lookup ("code" : Str) = some (.str m)) (hv : fieldV m fs = some v) (hD : D.rt = Q) (h : ∀ H', Lists H H' → Q v H') :
    tField K a dd D σ H := by
  subst hD
  have s1 : ∀ zs ∈ [fL1, fL2, fL3, fL4], zs.length ≤ sizeLine := by
    intro zs hz
    simp only [List.mem_cons, List.not_mem_nil, or_false] at hz
    rcases hz with rfl | rfl | rfl | rfl <;> exact Nat.le_of_ble_eq_true rfl
  have get : ∀ {H1 : Hp} {f : Str}, Lists H H1 → fs.lookup f = some v → tRet (tXfP a dd f (tVar 0)) D σ H1 := fun {H1 f} l e => ⟨.ref a, hσ, rfl, fs, v, l.keep hd, e, h _ l⟩
  unfold fieldV at hv
  refine inL_run (s1 _ (by simp)) hσ hd hc fun p1 h1 => ?_
  have l1 : Lists H (upd H p1 (.lst (fL1.map .str))) := .new .refl h1
  by_cases c1 : m ∈ fL1
  · rw [if_pos c1] at hv; rw [decide_eq_true c1]; exact get l1 hv
  rw [if_neg c1] at hv; rw [decide_eq_false c1]
  refine inL_run (s1 _ (by simp)) hσ (l1.keep hd) hc fun p2 h2 => ?_
  have l2 := Lists.new (xs := fL2.map .str) l1 h2
  by_cases c2 : m ∈ fL2
  · rw [if_pos c2] at hv; rw [decide_eq_true c2]; exact get l2 hv
  rw [if_neg c2] at hv; rw [decide_eq_false c2]
  refine inL_run (s1 _ (by simp)) hσ (l2.keep hd) hc fun p3 h3 => ?_
  have l3 := Lists.new (xs := fL3.map .str) l2 h3
  by_cases c3 : m ∈ fL3
  · rw [if_pos c3] at hv; rw [decide_eq_true c3]; exact get l3 hv
  rw [if_neg c3] at hv; rw [decide_eq_false c3]
  refine ⟨.ref a, hσ, rfl, fs, .str m, l3.keep hd, hc, rfl, decide (V.str m = V.str "UnknownState"), rfl, ?_⟩
  by_cases c4 : m = "UnknownState"
  · rw [if_pos c4] at hv; rw [decide_eq_true (by rw [c4])]; exact get l3 hv
  rw [if_neg c4] at hv; rw [decide_eq_false (fun z => c4 (V.str.inj z))]
  refine inL_run (s1 _ (by simp)) hσ (l3.keep hd) hc fun p5 h5 => ?_
  have l5 := Lists.new (xs := fL4.map .str) l3 h5
  by_cases c5 : m ∈ fL4
  · rw [if_pos c5] at hv; rw [decide_eq_true c5]
    cases hv
    exact h _ l5
  rw [if_neg c5] at hv; rw [decide_eq_false c5]
  exact ⟨.ref a, hσ, rfl, fs, v, l5.keep hd, hv, h _ l5⟩
end L2

/-! cells that stand still while others run: told in the heap of what is known -/
namespace L2
open PySem PySem.Spec PyProof.Rows NdefX LamX
/-- at a: just this object -/
def cellH (a : Addr) (o : Obj) : HO := .ext fun h => h.get? a = some o
abbrev Cs := List (Addr × Obj)
/-- the cells are told -/
def withC (H : Hp) (cs : Cs) : Hp := fun b => match cs.lookup b with
  | some v => some (cellH b v)
  | none => H b
/-- .. and no more -/
def noC (H : Hp) (cs : Cs) : Hp := fun b => match cs.lookup b with
  | some _ => none
  | none => H b
section
variable {P : Program} {w : World} {H H' : Hp} {cs : Cs} {h h' : Heap} {b : Addr}
theorem withC_in {v : Obj} (e : cs.lookup b = some v) : withC H cs b = some (cellH b v) := by unfold withC; rw [e]
theorem withC_out (e : cs.lookup b = none) : withC H cs b = H b := by unfold withC; rw [e]
theorem noC_in {v : Obj} (e : cs.lookup b = some v) : noC H cs b = none := by unfold noC; rw [e]
theorem noC_out (e : cs.lookup b = none) : noC H cs b = H b := by unfold noC; rw [e]
theorem noC_some {o : HO} (e : noC H cs b = some o) : cs.lookup b = none ∧ H b = some o := by
  cases q : cs.lookup b with
  | some v => rw [noC_in q] at e; cases e
  | none => rw [noC_out q] at e; exact ⟨rfl, e⟩
theorem noC_none (e : H b = none) : noC H cs b = none := by
  cases q : cs.lookup b with
  | some v => exact noC_in q
  | none => rw [noC_out q]; exact e
/-- the cells stand in the heap -/
def CellsIn (cs : Cs) (h : Heap) : Prop := ∀ c v, cs.lookup c = some v → h.get? c = some v
theorem hok_cell {c : Addr} {o : Obj} (x : HOk P w H h) (e : H c = some (cellH c o)) : h.get? c = some o := by
  have z : ObjOk P w H h c (.ext fun h => h.get? c = some o) := x c _ e
  exact z.1
theorem hok_withC (x : HOk P w H h) (hc : CellsIn cs h) (hn : ∀ c v, cs.lookup c = some v → H c = none) : HOk P w (withC H cs) h := fun a o e => by
  cases q : cs.lookup a with
  | some v =>
    rw [withC_in q] at e
    cases e
    exact ⟨hc a v q, ⟨v, hc a v q⟩, fun h1 h2 z k => k _ z⟩
  | none =>
    rw [withC_out q] at e
    have stays : ∀ {c : Addr} {o : HO}, H c = some o → withC H cs c = some o := fun {c o} z => by
      cases q2 : cs.lookup c with
      | some v => rw [hn c v q2] at z; cases z
      | none => rw [withC_out q2]; exact z
    exact (x a o e).stay (fun _ _ _ z => z) (fun _ z => stays z) fun _ _ z => stays z
theorem hok_noC (x : HOk P w H h) (hn : ∀ c v, cs.lookup c = some v → ∃ F, H c = some (HO.ext F)) : HOk P w (noC H cs) h := fun a o e => by
  obtain ⟨q, e⟩ := noC_some e
  have stays : ∀ {c : Addr} {o : HO}, H c = some o → (∀ F, o ≠ HO.ext F) → noC H cs c = some o := fun {c o} z ne => by
    cases q2 : cs.lookup c with
    | some v =>
      obtain ⟨F, e2⟩ := hn c v q2
      rw [e2] at z
      exact absurd (Option.some.inj z).symm (ne F)
    | none => rw [noC_out q2]; exact z
  exact (x a o e).stay (fun _ _ _ z => z) (fun _ z => stays z fun F z => by cases z) fun _ _ z => stays z fun F z => by cases z
/-- the cells are let go for a while -/
theorem un_noC (hn : ∀ c v, cs.lookup c = some v → H c = some (cellH c v)) (hc : ∀ c v, cs.lookup c = some v → c ∉ fs) (u : Un fs [] (noC H cs) H' h h') : Un fs [] H (withC H' cs) h h' where
  keep b o e n nf x := u.keep b o e (noC_none n) nf x
  slot b o e n nf x := u.slot b o e (noC_none n) nf x
  free b o e n x := by
    cases q : cs.lookup b with
    | some v => rw [hn b v q] at n; cases n
    | none => rw [withC_out q]; exact u.free b o e (noC_none n) x
  there b o e x := u.there b o e x
  tups b xs e := by
    cases q : cs.lookup b with
    | some v => rw [hn b v q] at e; cases e
    | none => rw [withC_out q]; exact u.tups b xs (by rw [noC_out q]; exact e)
  frzs b o x e := by
    cases q : cs.lookup b with
    | some v => rw [hn b v q] at e; cases e
    | none => rw [withC_out q]; exact u.frzs b o x (by rw [noC_out q]; exact e)
  tbls b ps e := by
    cases q : cs.lookup b with
    | some v => rw [hn b v q] at e; cases e
    | none => rw [withC_out q]; exact u.tbls b ps (by rw [noC_out q]; exact e)
/-- the cells are told for a while -/
theorem un_withC {fs : List Addr} (hn : ∀ c v, cs.lookup c = some v → H c = none) (hc : CellsIn cs h) (h2 : HOk P w H' h') (hs : ∀ c v, cs.lookup c = some v → H' c = some (cellH c v)) (u : Un fs [] (withC H cs) H' h h') : Un fs [] H (noC H' cs) h h' where
  keep b o e n nf x := by
    cases q : cs.lookup b with
    | some v =>
      have z := Option.some.inj ((hc b v q).symm.trans e)
      rw [← z]
      exact hok_cell h2 (hs b v q)
    | none => exact u.keep b o e (by rw [withC_out q]; exact n) nf x
  slot b o e n nf x := by
    cases q : cs.lookup b with
    | some v =>
      have z := Option.some.inj ((hc b v q).symm.trans e)
      refine ⟨v.slots, ?_⟩
      rw [← z]
      exact hok_cell h2 (hs b v q)
    | none => exact u.slot b o e (by rw [withC_out q]; exact n) nf x
  free b o e n x := by
    cases q : cs.lookup b with
    | some v => exact noC_in q
    | none => rw [noC_out q]; exact u.free b o e (by rw [withC_out q]; exact n) x
  there b o e x := u.there b o e x
  tups b xs e := by
    cases q : cs.lookup b with
    | some v => rw [hn b v q] at e; cases e
    | none => rw [noC_out q]; exact u.tups b xs (by rw [withC_out q]; exact e)
  frzs b o x e := by
    cases q : cs.lookup b with
    | some v => rw [hn b v q] at e; cases e
    | none => rw [noC_out q]; exact u.frzs b o x (by rw [withC_out q]; exact e)
  tbls b ps e := by
    cases q : cs.lookup b with
    | some v => rw [hn b v q] at e; cases e
    | none => rw [noC_out q]; exact u.tbls b ps (by rw [withC_out q]; exact e)
end
section
variable {P : Program} {w : World} {K : PySem.W.Frag} {mg : Str → Option Value} {base : Heap} {A : Around} {outer : List Env} {s s' : Shared} {H H' : Hp} {cs : Cs} {u : Value}
/-- the cells' places are not told -/
def Gone (cs : Cs) (H : Hp) : Prop := ∀ c o, cs.lookup c = some o → H c = none
/-- what is asked of told cells -/
def Told (cs : Cs) (H : Hp) : Prop := ∀ c o, cs.lookup c = some o → H c = some (cellH c o)
theorem Told.ext (t : Told cs H) : ∀ c v, cs.lookup c = some v → ∃ F, H c = some (HO.ext F) := fun c v q => ⟨_, t c v q⟩
theorem Told.inn (t : Told cs H) (x : HOk P w H s.heap) : CellsIn cs s.heap := fun c o q => hok_cell x (t c o q)
theorem Env0.noC (e0 : Env0 P w K mg base A outer s H) (t : Told cs H) : Env0 P w K mg base A outer s (noC H cs) :=
  ⟨e0.frames, e0.mod, fun b o q => ⟨(e0.bs b o q).1, noC_none (e0.bs b o q).2⟩, e0.bsz, e0.funs, fun b q => noC_none (e0.frf b q), hok_noC e0.hok t.ext, e0.bare⟩
theorem Told.frs (e0 : Env0 P w K mg base A outer s H) (t : Told cs H) : ∀ c o, cs.lookup c = some o → c ∉ frs outer := fun c o q m => by
  have z := e0.frf c m
  rw [t c o q] at z
  cases z
theorem ub_noC {fs : List Addr} {h B h' : Heap} (t : Told cs H) (u : UB fs (noC H cs) H' h B h') : UB fs H (withC H' cs) h B h' where
  keep b o e n nf := u.keep b o e (noC_none n) nf
  slot b o e f := u.slot b o e f
  free b o e n := by
    cases q : cs.lookup b with
    | some v => rw [t b v q] at n; cases n
    | none => rw [withC_out q]; exact u.free b o e (noC_none n)
  there b o e f := u.there b o e f
  tups b xs e := by
    cases q : cs.lookup b with
    | some v => rw [t b v q] at e; cases e
    | none => rw [withC_out q]; exact u.tups b xs (by rw [noC_out q]; exact e)
  frzs b o x e := by
    cases q : cs.lookup b with
    | some v => rw [t b v q] at e; cases e
    | none => rw [withC_out q]; exact u.frzs b o x (by rw [noC_out q]; exact e)
  tbls b ps e := by
    cases q : cs.lookup b with
    | some v => rw [t b v q] at e; cases e
    | none => rw [withC_out q]; exact u.tbls b ps (by rw [noC_out q]; exact e)
/-- an exception out of a call that was run with the cells let go -/
theorem cx_noC {E : XK} (e0 : Env0 P w K mg base A outer s H) (t : Told cs H) (x : L2N.CX P w outer (noC H cs) s (fun cls d H' => Gone cs H' → E cls d (withC H' cs)) u s') : L2N.CX P w outer H s E u s' := by
  obtain ⟨a, B, H', cls, d, rfl, fl, hok, ub, na, os, ag, q⟩ := x
  have inB : CellsIn cs B := fun c o l => ub.keep c o (t.inn e0.hok c o l) (noC_in l) (t.frs e0 c o l)
  have none' : ∀ c o, cs.lookup c = some o → H' c = none := fun c o l => ub.free c o (t.inn e0.hok c o l) (noC_in l)
  refine ⟨a, B, withC H' cs, cls, d, rfl, fl, hok_withC hok inB none', ub_noC t ub, ?_, os, ag, q none'⟩
  cases l : cs.lookup a with
  | none => rw [withC_out l]; exact na
  | some o =>
    have z := inB a o l
    rw [fl.2.1] at z
    cases z
/-- its end -/
theorem ce_noC {Q : VK} (e0 : Env0 P w K mg base A outer s H) (t : Told cs H) (x : CE outer P w (noC H cs) s (fun v H' => Gone cs H' → Q v (withC H' cs)) u s') : CE outer P w H s Q u s' := by
  obtain ⟨v, H', os, bare, un, hok, r, q⟩ := x
  have keep : CellsIn cs s'.heap := fun c o l => un.keep c o (t.inn e0.hok c o l) (noC_in l) (t.frs e0 c o l) (by simp)
  have gone : Gone cs H' := fun c o l => un.free c o (t.inn e0.hok c o l) (noC_in l) (by simp)
  exact ⟨v, withC H' cs, os, bare, un_noC t (t.frs e0) un, hok_withC hok keep gone, r, q gone⟩
end
/-! ### a closure of an expression -/
def LamO (f : Addr) (F : NF) (e : Expr) (dV : Value) : HO := .ext fun h => ∃ (od : Option Addr) (sl : Array (Option Value)) (doc pm ctv : Value), h.get? f = some (⟨.type "function", od, .func (PySem.W.kdv_fn F.name F.qual F.params (.expr e) F.scope F.cl dV doc pm (.ref F.c) ctv), sl⟩ : Obj)
theorem lamO_at {P : Program} {w : World} {H : Hp} {h : Heap} {f : Addr} {F : NF} {e : Expr} {dV : Value} (x : HOk P w H h) (q : H f = some (LamO f F e dV)) :
    ∃ (od : Option Addr) (sl : Array (Option Value)) (doc pm ctv : Value), h.get? f = some (⟨.type "function", od, .func (PySem.W.kdv_fn F.name F.qual F.params (.expr e) F.scope F.cl dV doc pm (.ref F.c) ctv), sl⟩ : Obj) := by
  have z : ObjOk P w H h f (.ext fun h => ∃ (od : Option Addr) (sl : Array (Option Value)) (doc pm ctv : Value), h.get? f = some (⟨.type "function", od, .func (PySem.W.kdv_fn F.name F.qual F.params (.expr e) F.scope F.cl dV doc pm (.ref F.c) ctv), sl⟩ : Obj)) := x f _ q
  exact z.1
section
variable {P : Program} {w : World} {K : PySem.W.Frag} {mg : Str → Option Value} {base : Heap} {A : Around} {outer : List Env} {s : Shared} {H : Hp} {cs : Cs} {k : Nat} {f : Addr} {F : NF} {e : Expr} {dV : Value} {N ps fr : List Str} {us : List Value} {vs : List V} {ws : List (Option V)} {Q : VK} {E : XK} {t : TE}
/-- f() : the body in its own frame, the cells let go -/
theorem clo_run (S : NScope N ps fr F.scope) (hr : Room (k + 1) A) (e0 : Env0 P w K mg base A outer s H) (hf : H f = some (LamO f F e dV)) (hco : H F.c = some (CodeO F.c F.qual)) (tc : Told cs H) (C : CellsAt F.cl fr ws s.heap (noC H cs)) (r : Vals vs us) (hl : vs.length = ps.length)
    (hb : ∀ (doc pm ctv : Value) (M : Model) (A : Around) (Q : List (Str × Value) → Shared → Prop) (E : Value → Shared → Prop), Q (ps.zip us) s → wpAny M A (bindArgs (PySem.W.kdv_fn F.name F.qual F.params (.expr e) F.scope F.cl dV doc pm (.ref F.c) ctv) ⟨[], []⟩) Q E s)
    (body : Room k (A.deeper (envF F f s.heap.objs.size)) → PE (ncx (L2N.CX P w) P w K mg base N F f A outer s (noC H cs) fun cls d H' => Gone cs H' → E cls d (withC H' cs)) e t) (ht : t (startF N vs ws) (noC H cs) fun v H' => Gone cs H' → Q v (withC H' cs)) :
    codeAny (model P w) A (.call (.ref f) ⟨[], []⟩) (CR (L2N.CX P w) outer P w H s Q E) s := by
  obtain ⟨od, sl, doc, pm, ctv, ho⟩ := lamO_at e0.hok hf
  have e1 := e0.noC tc
  have lim : s.heap.NoLimit := e0.mod.nolimit.keeps fun b o q => (e0.bs b o q).1
  refine PySem.W.kla_callFunE hr.depth ho rfl S.co S.gen rfl (codeO_at e0.hok hco) (hb doc pm ctv _ _ _ _ ?_)
  refine wpAny_newFunctionEnv S.nocell (fun y hy => S.par y.1 (List.of_mem_zip (a := y.1) (b := y.2) hy).1) (fun h₁ hns hsb => ⟨lim.fresh _ hsb, PySem.W.kla_codeExpr ?_⟩) S.kind
  have kp : ∀ b o, s.heap.get? b = some o → h₁.get? b = some o := fun b o q => hsb.extBut b o (Nat.ne_of_lt (Heap.lt_size q)) (Heap.get?_push_of_some _ q)
  have I := inv_startN (CX := L2N.CX P w) (f := f) (E := fun cls d H' => Gone cs H' → E cls d (withC H' cs)) (tk := s.toks + (ps.zip us).length) S hr.hd e1 hl r C hns kp
  refine wpAny_mono ((body (hr.deeper _)).run [] _ _ _ _ I ht) (fun v s2 z => ?_) (fun er s2 z => ?_)
  · obtain ⟨v', H', J, rv, q⟩ := z
    exact ce_noC e0 tc ⟨v', H', J.os, J.bare, J.base, J.hok, rv, q⟩
  · exact wpAny_mono z (fun _ s3 q => cx_noC e0 tc q) fun _ s3 q => cx_noC e0 tc q
end
end L2

/-! a call by a def whose captured cells are told to the callee -/
namespace L2
open PySem PySem.Spec PyProof.Rows NdefX LamX
section
variable {X : Cx} {pins : List (Addr × Obj)} {σ : St} {H : Hp} {s : Shared} {cs : Cs}
/-- these are cells of the def X itself -/
def OwnCells (X : Cx) (s : Shared) (cs : Cs) : Prop := ∀ c o, cs.lookup c = some o → (∃ y, X.env.cells.lookup y = some c ∧ X.fn y = true) ∧ s.heap.get? c = some o ∧ ∃ v, o.data = .cell v
theorem own_none (I : Inv X pins σ H s) (hc : OwnCells X s cs) : ∀ c o, cs.lookup c = some o → H c = none := fun c o l => by
  obtain ⟨⟨y, e, _⟩, _⟩ := hc c o l
  exact I.freeC y c e
theorem own_new (I : Inv X pins σ H s) (hc : OwnCells X s cs) : ∀ c o, cs.lookup c = some o → X.s_0.heap.get? c = none := fun c o l => by
  obtain ⟨⟨y, e, n⟩, _⟩ := hc c o l
  have z := I.ok.cab y c n e
  cases q : X.s_0.heap.get? c with
  | none => rfl
  | some u => exact absurd (Heap.lt_size q) (Nat.not_lt.mpr z)
theorem own_frs (I : Inv X pins σ H s) (hc : OwnCells X s cs) : ∀ c o, cs.lookup c = some o → c ∉ frs X.stack := fun c o l m => by
  obtain ⟨_, e, v, d⟩ := hc c o l
  rcases List.mem_cons.mp (I.stkSub c m) with rfl | m
  · obtain ⟨mm, ⟨ob, es, ep, e2, d2, _⟩, _⟩ := I.loc
    rw [e] at e2
    cases e2
    rw [d] at d2
    cases d2
  · obtain ⟨_, ob, q, _⟩ := I.ok.funs.mem m
    rw [own_new I hc c o l] at q
    cases q
theorem env0_told (I : Inv X pins σ H s) (hc : OwnCells X s cs) : Env0 X.prog X.w X.K X.mg X.base X.A X.stack s (withC H cs) := by
  have e0 := I.env0
  refine ⟨e0.frames, e0.mod, fun b o q => ⟨(e0.bs b o q).1, ?_⟩, e0.bsz, e0.funs, fun b m => ?_, hok_withC e0.hok (fun c o l => (hc c o l).2.1) (own_none I hc), e0.bare⟩
  · cases l : cs.lookup b with
    | none => rw [withC_out l]; exact (e0.bs b o q).2
    | some u =>
      have z := own_new I hc b u l
      rw [(I.ok.bs b o q).1] at z
      cases z
  · cases l : cs.lookup b with
    | none => rw [withC_out l]; exact e0.frf b m
    | some u => exact absurd m (own_frs I hc b u l)
theorem ce_told {Q : VK} {u : Value} {s' : Shared} (I : Inv X pins σ H s) (hc : OwnCells X s cs) (x : CE X.stack X.prog X.w (withC H cs) s (fun v H' => Told cs H' ∧ Q v (noC H' cs)) u s') : CE X.stack X.prog X.w H s Q u s' := by
  obtain ⟨v, H', os, bare, un, hok, r, t, q⟩ := x
  exact ⟨v, noC H' cs, os, bare, un_withC (own_none I hc) (fun c o l => (hc c o l).2.1) hok t un, hok_noC hok t.ext, r, q⟩
theorem call_told {k : Nat} {f : Addr} {fd : FuncData} {ps : List Str} {sp : Sp} {us : List Value} {vs : List V} {Q : VK} (F : FnOk X.prog X.w X.K X.mg X.base (L2N.CX X.prog X.w) k f fd ps sp) (hr : Room k X.A) (I : Inv X pins σ H s) (hc : OwnCells X s cs) (hb : Binds X.K fd ps []) (r : Vals vs us)
    (h : sp vs (withC H cs) (fun v H' => Told cs H' ∧ Q v (noC H' cs)) fun _ _ _ => False) : wpAny (model X.prog X.w) X.A (call (.ref f) us) (EP X pins σ Q) X.xe s := by
  have b := hb s us I.kIn (by rw [List.append_nil, ← r.length]; exact F.len _ _ _ _ h)
  rw [List.append_nil] at b
  refine wpAny_call (codeAny_mono (F.run X.A X.stack s _ ⟨us, []⟩ us vs _ _ hr (env0_told I hc) b r h) fun y s2 z => ?_)
  match y, z with
  | .error er, ⟨_, _, _, _, _, _, _, _, _, _, _, _, z⟩ => exact z.elim
  | .ok (.ret _), z => exact I.after (ce_told I hc z)
  | .ok .next, z => exact z.elim
  | .ok .brk, z => exact z.elim
  | .ok .cont, z => exact z.elim
/-- the cells of the slots whose values are known -/
theorem own_cell (I : Inv X pins σ H s) {i : Nat} {y : Str} {v : V} (hN : X.N[i]? = some y) (hσ : σ[i]? = some (some v)) (hk : X.env.kindOf y = some .cell) : ∃ c o u, X.env.cells.lookup y = some c ∧ s.heap.get? c = some o ∧ o.data = .cell (some u) ∧ RelV v u := by
  obtain ⟨mm, _, hl⟩ := I.loc
  obtain ⟨u, r, z⟩ := hl i y v hN hσ (.inr (.inl hk))
  rcases z with ⟨z, _⟩ | ⟨_, c, e, o, e1, e2⟩
  · rw [hk] at z; cases z
  · exact ⟨c, o, u, e, e1, e2, r⟩
end
end L2

namespace L2
open PySem PySem.Spec PyProof.Rows NdefX LamX
/-- cs: the cells of the slots js, which hold what the slots hold -/
structure CapF (X : Cx) (js : List (Nat × Str)) (σ : L2.St) (cs : Cs) : Prop where
  to : ∀ p ∈ js, ∃ v c o u, σ[p.1]? = some (some v) ∧ X.env.cells.lookup p.2 = some c ∧ cs.lookup c = some o ∧ o.data = .cell (some u) ∧ RelV v u
  of : ∀ c o, cs.lookup c = some o → ∃ p ∈ js, X.env.cells.lookup p.2 = some c
theorem own_all {X : Cx} {pins : List (Addr × Obj)} {σ : L2.St} {H : Hp} {s : Shared} (I : Inv X pins σ H s) (fn : ∀ y, X.fn y = true) : ∀ (js : List (Nat × Str)), (∀ p ∈ js, X.N[p.1]? = some p.2 ∧ X.env.kindOf p.2 = some .cell ∧ ∃ v, σ[p.1]? = some (some v)) → ∃ cs, OwnCells X s cs ∧ CapF X js σ cs
  | [], _ => ⟨[], (fun c o l => by cases l), ⟨fun p hp => (by cases hp), fun c o l => (by cases l)⟩⟩
  | p :: js, h => by
    obtain ⟨cs, oc, cf⟩ := own_all I fn js fun p hp => h p (List.mem_cons_of_mem _ hp)
    obtain ⟨hN, hk, v, hv⟩ := h p List.mem_cons_self
    obtain ⟨c, o, u, e1, e2, e3, r⟩ := own_cell I hN hv hk
    have look : ∀ b, ((c, o) :: cs).lookup b = if b = c then some o else cs.lookup b := fun b => by
      rw [List.lookup_cons]
      by_cases hb : b = c
      · subst hb; simp
      · have z : (b == c) = false := by simpa using hb
        rw [z, if_neg hb]
    have own : OwnCells X s ((c, o) :: cs) := fun b q l => by
      rw [look] at l
      split at l
      · rename_i hb; subst hb; cases l; exact ⟨⟨p.2, e1, fn _⟩, e2, _, e3⟩
      · exact oc b q l
    refine ⟨(c, o) :: cs, own, ⟨fun q hq => ?_, fun b q l => ?_⟩⟩
    · rcases List.mem_cons.mp hq with rfl | hq
      · exact ⟨v, c, o, u, hv, e1, by rw [look, if_pos rfl], e3, r⟩
      · obtain ⟨v2, c2, o2, u2, f1, f2, f3, f4, f5⟩ := cf.to q hq
        by_cases hb : c2 = c
        · subst hb
          have z := (oc c2 o2 f3).2.1
          rw [e2] at z
          cases z
          exact ⟨v2, c2, o, u2, f1, f2, by rw [look, if_pos rfl], f4, f5⟩
        · exact ⟨v2, c2, o2, u2, f1, f2, by rw [look, if_neg hb]; exact f3, f4, f5⟩
    · rw [look] at l
      split at l
      · rename_i hb; subst hb; exact ⟨p, List.mem_cons_self, e1⟩
      · obtain ⟨p2, m, e⟩ := cf.of b q l
        exact ⟨p2, List.mem_cons_of_mem _ m, e⟩
section
variable {X : Cx} {k : Nat} {f : Addr} {fd : FuncData} {ps : List Str} {sp : Sp} {x : Str} {q pos : Pos} {e : Expr} {es : List Expr} {t : TA} {JS : List (Nat × Str)}
/-- x(e, ..), the cells of the slots js told to the callee -/
theorem pe_told (F : FnOk X.prog X.w X.K X.mg X.base (L2N.CX X.prog X.w) k f fd ps sp) (hr : Room k X.A) (fn : ∀ y, X.fn y = true) (hj : ∀ p ∈ JS, X.N[p.1]? = some p.2 ∧ X.env.kindOf p.2 = some .cell) (hg : Gl X x) (hm : X.mg x = some (.ref f)) (hk : PySem.W.keepIn X.K (.ref f) = true) (hb : Binds X.K fd ps [])
    (ha : PA X (e :: es) t) (hdb : (x == ("__debug__" : Str)) = false) (he : starEach (e :: es) X.env = (false, eval e X.env) :: starEach es X.env) (hpl : (backTo pos (starEach es X.env)).any (·.1) = false) :
    PE X (.Call (.Name x q) (e :: es) [] pos) (fun σ H Q => t σ H fun vs H1 => ∃ js, (∀ p ∈ js, p ∈ JS ∧ ∃ v, σ[p.1]? = some (some v)) ∧ ∀ cs, CapF X js σ cs → Gone cs H1 → sp vs (withC H1 cs) (fun v H' => Told cs H' ∧ Q v (noC H' cs)) fun _ _ _ => False) := by
  refine ⟨fun pins s σ H Q I h => wpAny_Call_Name_kw (ld_glob I hg hm (PySem.W.callWith_K (h₀ := X.base) I.ok.mod.kin hk (thn (ha.run pos pins s σ H _ I h) fun us s1 z => ?_) he hpl) hdb)⟩
  obtain ⟨vs, H1, I1, r, js, hv, z⟩ := z
  obtain ⟨cs, oc, cf⟩ := own_all I1 fn js fun p hp => ⟨(hj p (hv p hp).1).1, (hj p (hv p hp).1).2, (hv p hp).2⟩
  exact ⟨I1.kIn, call_told F hr I1 oc hb r (z cs cf (own_none I1 oc))⟩
end
end L2

/-! a lambda is made -/
namespace L2
open PySem PySem.Spec PyProof.Rows NdefX LamX
/-- the words of the lambda that X makes -/
def lamF (X : Cx) (params : Arguments) (scope : Scope) (c : Addr) : NF := ⟨"<lambda>", X.env.qual ++ "<lambda>", params, [], scope, cloFrom X.env.cells scope.names [], c⟩
section
variable {X : Cx} {pins : List (Addr × Obj)} {σ : St} {H : Hp} {s : Shared} {E : Value → Shared → Prop} {c P : Addr} {params : Arguments} {body : Expr} {scope : Scope} {pos : Pos} {ps : Array Value} {dV : Value} {Q : Value → Shared → Prop}
theorem lam_laid {c' : Addr} {doc pm ctv : Value} {t' : Nat} (I : Inv X pins σ H s) :
    Inv X pins σ (upd H s.heap.objs.size (LamO s.heap.objs.size (lamF X params scope c') body dV)) { s with heap := s.heap.push (PySem.W.kdv_obj "<lambda>" (X.env.qual ++ "<lambda>") params (.expr body) scope (cloFrom X.env.cells scope.names []) dV doc pm c' ctv), toks := t' } := by
  have at_ : (s.heap.push (PySem.W.kdv_obj "<lambda>" (X.env.qual ++ "<lambda>") params (.expr body) scope (cloFrom X.env.cells scope.names []) dV doc pm c' ctv)).get? s.heap.objs.size = some (PySem.W.kdv_obj "<lambda>" (X.env.qual ++ "<lambda>") params (.expr body) scope (cloFrom X.env.cells scope.names []) dV doc pm c' ctv) := Heap.get?_push_size _ rfl
  exact I.laid (fun b u e => Heap.get?_push_of_some _ e) (Nat.le_refl _) ⟨⟨_, _, doc, pm, ctv, at_⟩, ⟨_, at_⟩, fun h1 h2 ⟨od, sl, d, p, v, z⟩ st => ⟨od, sl, d, p, v, st _ z⟩⟩
theorem lam_tail (I : Inv X pins σ H s) (TB : TabB X.base X.mg c P) (hcode : X.env.code = .ref c) (hP : H P = some (.tbl ps)) (ht : TriplesOk ps.toList) (hfree : ∀ y ∈ scope.names, y.2 = .free → ∃ c, X.env.cells.lookup y.1 = some c)
    (miss : codeAmong pos ps.toList = none → ∀ c' f s', H c' = none → H f = none → c' ≠ f → f ≠ P → c' ≠ P →
      Inv X pins σ (upd (upd (upd H P (.tbl (ps ++ #[rawInt pos.line, rawInt pos.col, .ref c']))) c' (CodeO c' (X.env.qual ++ "<lambda>"))) f (LamO f (lamF X params scope c') body dV)) s' → Q (.ref f) s')
    (hit : ∀ cv, codeAmong pos ps.toList = some cv → ∃ c', cv = .ref c' ∧ ∀ f s', H f = none → Inv X pins σ (upd H f (LamO f (lamF X params scope c') body dV)) s' → Q (.ref f) s') :
    wpAny (model X.prog X.w) X.A (makeTail "<lambda>" (X.env.qual ++ "<lambda>") params (.expr body) scope X.env dV .none none pos pos.line) Q E s := by
  have hP' : s.heap.get? P = some { cls := .none, data := .fields ps } := I.hok P _ hP
  have hg := I.mod.glob.keeps I.bk
  have hC := TB.code.keeps I.bk
  have bP := TB.bm.keeps I.bk
  cases hc : codeAmong pos ps.toList with
  | none =>
    refine PySem.W.kdv_makeTail (mg := X.mg) (c := c) (P := P) (ps := ps) (closure_ok hfree) I.ok.glob hg hcode hC hP' ht hc TB.gP bP fun c' ctv doc h' tk hx hge hlt hrec htb => ?_
    obtain ⟨c2, oc, vs, t, e2, hoc, hd, hv⟩ := hrec
    cases e2
    have hsz : s.heap.objs.size ≤ h'.objs.size := Nat.le_trans hge (Nat.le_of_lt hlt)
    have ltP := Heap.lt_size hP'
    have I1 := inv_table (t' := tk) (more := #[rawInt pos.line, rawInt pos.col, .ref c']) (h' := h') I hP hx htb hge ⟨oc, vs, t, hoc, hd, hv⟩
    exact miss hc c' h'.objs.size _ (I.hok.fresh hge) (I.hok.fresh hsz) (Nat.ne_of_lt hlt) (Nat.ne_of_gt (Nat.lt_of_lt_of_le ltP hsz)) (Nat.ne_of_gt (Nat.lt_of_lt_of_le ltP hge)) (lam_laid (t' := tk) I1)
  | some cv =>
    obtain ⟨c', rfl, hit⟩ := hit cv hc
    refine PySem.W.kdv_makeTailHit (mg := X.mg) (c := c) (P := P) (ps := ps) (closure_ok hfree) I.ok.glob hg hcode hC hP' ht hc bP fun ctv doc h' tk hx hsz => ?_
    have I1 : Inv X pins σ H { s with heap := h', toks := tk } := I.kept hx
    exact hit h'.objs.size _ (I.hok.fresh hsz) (lam_laid (t' := tk) I1)
end
end L2

/-! _law_try: what it got is called, an own error caught -/
namespace L2
open PySem PySem.Spec PyProof.Rows NdefX LamX L2H
/-- the closure at f, called at H, ends in Q or lets out E -/
def CloP (P : Program) (w : World) (K : PySem.W.Frag) (mg : Str → Option Value) (base : Heap) (k : Nat) (f : Addr) (H : Hp) (Q : VK) (E : XK) : Prop :=
  ∀ (A : Around) (outer : List Env) (s : Shared), Room k A → Env0 P w K mg base A outer s H → codeAny (model P w) A (.call (.ref f) ⟨[], []⟩) (CR (L2N.CX P w) outer P w H s Q E) s
section
variable {X : Cx} {k i : Nat} {a : Str} {p pos : Pos} {E : L2.St → XK}
def tClo (X : Cx) (k i : Nat) (E : L2.St → XK) : TE := fun σ H Q => ∃ f F e dV, σ[i]? = some (some (.ref f)) ∧ H f = some (LamO f F e dV) ∧ CloP X.prog X.w X.K X.mg X.base k f H Q (E σ)
theorem pe_clo (hr : Room k X.A) (hx : ∀ σ, PassesAt (L2N.CX X.prog X.w) X σ (E σ)) (hN : X.N[i]? = some a) (hv : Vis X.env.scope a) (hd : (a == ("__debug__" : Str)) = false) (hcd : (a == ("__classdict__" : Str)) = false) :
    PE X (.Call (.Name a p) [] [] pos) (tClo X k i E) := by
  refine ⟨fun pins s σ H Q I h => ?_⟩
  obtain ⟨f, F, e, dV, hf, ho, cp⟩ := h
  refine wpAny_Call_Name_kw (thn ((pe_var (pos := p) (i := i) hN hv hd hcd).run pins s σ H (fun v H1 => v = .ref f ∧ H1 = H) I ⟨.ref f, hf, rfl, rfl⟩) fun u s1 z => ?_)
  obtain ⟨v, H1, I1, r1, rfl, rfl⟩ := z
  obtain rfl : u = Value.ref f := r1
  obtain ⟨od, sl, doc, pm, ctv, hob⟩ := lamO_at I1.hok ho
  refine PySem.W.callWith_F0 ⟨_, _, _, _, hob⟩ (wpAny_call (codeAny_mono (cp X.A X.stack s1 hr I1.env0) fun y s2 z => ?_))
  match y, z with
  | .error er, z => exact hx σ pins H1 s1 er s2 I1 z
  | .ok (.ret _), z => exact I1.after z
  | .ok .next, z => exact z.elim
  | .ok .brk, z => exact z.elim
  | .ok .cont, z => exact z.elim
end
theorem L2N_CX.imp {P : Program} {w : World} {outer : List Env} {H : Hp} {s s' : Shared} {E E' : XK} {u : Value} (x : L2N.CX P w outer H s E u s') (h : ∀ cls d H', E cls d H' → E' cls d H') : L2N.CX P w outer H s E' u s' := by
  obtain ⟨a, B, H', cls, d, e, fl, hok, ub, na, os, ag, q⟩ := x
  exact ⟨a, B, H', cls, d, e, fl, hok, ub, na, os, ag, h _ _ _ q⟩
theorem CloP.imp {P : Program} {w : World} {K : PySem.W.Frag} {mg : Str → Option Value} {base : Heap} {k : Nat} {f : Addr} {H : Hp} {Q Q' : VK} {E E' : XK} (x : CloP P w K mg base k f H Q E) (hq : ∀ v H', Q v H' → Q' v H') (he : ∀ cls d H', E cls d H' → E' cls d H') : CloP P w K mg base k f H Q' E' :=
  fun A outer s hr e0 => codeAny_mono (x A outer s hr e0) fun y s2 z => by
    match y, z with
    | .error er, z => exact L2N_CX.imp z he
    | .ok (.ret _), ⟨v, H', os, bare, un, hok, r, q⟩ => exact ⟨v, H', os, bare, un, hok, r, hq _ _ q⟩
    | .ok .next, z => exact z
    | .ok .brk, z => exact z
    | .ok .cont, z => exact z
/-- the class that an own error bears, its fields, what _law_field says of it -/
def ErrAt (K : PySem.W.Frag) (cs : List Value) (cls : Value) (d : Option Addr) (H : Hp) (k : Str → V → Prop) : Prop := ∃ (C dd : Addr) (fs : List (Str × V)) (m : Str) (v : V), cls = .ref C ∧ d = some dd ∧ FldC K C ∧ PySem.W.exmAny K (.ref C) cs = some true ∧ H dd = some (.xd fs) ∧
  fs.lookup ("code" : Str) = some (.str m) ∧ fieldV m fs = some v ∧ k m v
/-- the promise of _law_try -/
def spTry (P : Program) (w : World) (K : PySem.W.Frag) (mg : Str → Option Value) (base : Heap) (k : Nat) (cs : List Value) : Sp := fun vs H Q _ => ∃ f F e dV, vs = [.ref f] ∧ H f = some (LamO f F e dV) ∧
  CloP P w K mg base k f H (fun v H' => ∀ T, H' T = none → Q (.ref T) (upd H' T (.tup [.str "", v]))) fun cls d H' => ErrAt K cs cls d H' fun m v => ∀ H2, Lists H' H2 → ∀ T, H2 T = none → Q (.ref T) (upd H2 T (.tup [.str m, v]))
/-- return (e.code, _law_field(e)) -/
def tSuite (K : PySem.W.Frag) (a C dd : Addr) : TS := tRet (tTup (tCons (tXfP a dd "code" (tVar 1)) (tCons (fun σ H Q => tCons (tVar 1) tNil σ H fun vs H1 => ∃ (fs : List (Str × V)) (m : Str) (v : V), vs = [.ref a] ∧ H1 dd = some (.xd fs) ∧ fs.lookup ("code" : Str) = some (.str m) ∧ fieldV m fs = some v ∧ ∀ H', Lists H1 H' → Q v H') tNil)))
def tsTry (K : PySem.W.Frag) (a : Addr) (cls : Value) (d : Option Addr) : TS := fun D σ H => ∃ C dd, cls = .ref C ∧ d = some dd ∧ FldC K C ∧ tSuite K a C dd D σ H
theorem pss_tsTry {X : Cx} {b : List Stmt} {K : PySem.W.Frag} {a : Addr} {cls : Value} {d : Option Addr} (h : ∀ C dd, cls = .ref C → d = some dd → FldC K C → PSs X b (tSuite K a C dd)) : PSs X b (tsTry K a cls d) :=
  ⟨fun pins s σ H D I ⟨C, dd, e1, e2, F, z⟩ => (h C dd e1 e2 F).run pins s σ H D I z⟩
/-- return ("", ask()) -/
def tTryB (X : Cx) (k : Nat) (W : WX) : TS := tRet (tTup (tCons (tC (.str "")) (tCons (tClo X k 0 (WE W)) tNil)))
theorem try_run {X : Cx} {k : Nat} {cs : List Value} {f : Addr} {H : Hp} {Q : VK} {E : XK} {D : Ends} (hD : D.rt = Q) (h : spTry X.prog X.w X.K X.mg X.base k cs [.ref f] H Q E) : tTryB X k (wTup X.K cs 1 (tsTry X.K) D) D [some (.ref f), none] H := by
  subst hD
  obtain ⟨f', F, e, dV, ef, ho, cp⟩ := h
  cases ef
  refine ⟨f, F, e, dV, rfl, ho, cp.imp (fun v H' q => ⟨Nat.le_of_ble_eq_true rfl, q⟩) fun cls d H' q => ?_⟩
  obtain ⟨C, dd, fs, m, v, rfl, rfl, FC, met, hd, hc, hv, q⟩ := q
  refine ⟨met, fun a na => ⟨C, dd, rfl, rfl, FC, .ref a, rfl, rfl, fs, .str m, hd, hc, .ref a, rfl, fs, m, v, rfl, hd, hc, hv, fun H2 l => ⟨Nat.le_of_ble_eq_true rfl, fun T hT => q H2 l T hT⟩⟩⟩
end L2

/-! lambda: e, lambda x=0: e -/
namespace L2
open PySem PySem.Spec PyProof.Rows NdefX LamX
/-- behind the defaults -/
def lamK (X : Cx) (P : Addr) (params : Arguments) (body : Expr) (scope : Scope) (pos : Pos) (dV : Value) (H : Hp) (Q : VK) : Prop := ∃ ps : Array Value, H P = some (.tbl ps) ∧ TriplesOk ps.toList ∧
  (codeAmong pos ps.toList = none → ∀ c' f, H c' = none → H f = none → c' ≠ f → f ≠ P → c' ≠ P → Q (.ref f) (upd (upd (upd H P (.tbl (ps ++ #[rawInt pos.line, rawInt pos.col, .ref c']))) c' (CodeO c' (X.env.qual ++ "<lambda>"))) f (LamO f (lamF X params scope c') body dV))) ∧
  ∀ cv, codeAmong pos ps.toList = some cv → ∃ c', cv = .ref c' ∧ ∀ f, H f = none → Q (.ref f) (upd H f (LamO f (lamF X params scope c') body dV))
section
variable {X : Cx} {c P : Addr} {params : Arguments} {body : Expr} {scope : Scope} {pos : Pos}
theorem lamK_run {pins : List (Addr × Obj)} {σ : St} {H : Hp} {s : Shared} {dV : Value} {Q : VK} (I : Inv X pins σ H s) (TB : TabB X.base X.mg c P) (hcode : X.env.code = .ref c) (hfree : ∀ y ∈ scope.names, y.2 = .free → ∃ c, X.env.cells.lookup y.1 = some c) (h : lamK X P params body scope pos dV H Q) :
    wpAny (model X.prog X.w) X.A (makeTail "<lambda>" (X.env.qual ++ "<lambda>") params (.expr body) scope X.env dV .none none pos pos.line) (EP X pins σ Q) X.xe s := by
  obtain ⟨ps, hP, ht, miss, hit⟩ := h
  refine lam_tail I TB hcode hP ht hfree (fun hc c' f s' n1 n2 n3 n4 n5 J => ⟨.ref f, _, J, rfl, miss hc c' f n1 n2 n3 n4 n5⟩) fun cv hc => ?_
  obtain ⟨c', e, q⟩ := hit cv hc
  exact ⟨c', e, fun f s' n J => ⟨.ref f, _, J, rfl, q f n⟩⟩
theorem pe_lam0 (TB : TabB X.base X.mg c P) (hcode : X.env.code = .ref c) (hfree : X.Ok → ∀ y ∈ scope.names, y.2 = .free → ∃ c, X.env.cells.lookup y.1 = some c) (hdef : defaultsOf params X.env = ([], [])) :
    PE X (.Lambda params body scope pos) (fun _ H Q => lamK X P params body scope pos .none H Q) := by
  refine ⟨fun pins s σ H Q I h => PySem.W.kla_eval hdef ?_⟩
  have z := lamK_run I TB hcode (hfree I.ok) h
  rw [makeFunction_eq]
  simpa only [List.zip_nil_right, List.filterMap_nil, List.isEmpty_nil, if_true, pure_bind] using z
theorem pe_lam1 {i : Int} {j : Nat} {p0 : Pos} (TB : TabB X.base X.mg c P) (hcode : X.env.code = .ref c) (hfree : X.Ok → ∀ y ∈ scope.names, y.2 = .free → ∃ c, X.env.cells.lookup y.1 = some c) (hd : params.defaults = [.Constant (.int i) j p0]) (hk : params.kw_defaults = []) :
    PE X (.Lambda params body scope pos) (fun _ H Q => ∀ T, H T = none → lamK X P params body scope pos (.ref T) (upd H T (.tup [.int i])) Q) := by
  refine ⟨fun pins s σ H Q I h => PySem.W.kdv_lam (by rw [hd]; rfl) hk ?_⟩
  rw [hd]
  refine PySem.W.kdv_all1 (thn ((pe_int (i := i) (j := j) (pos := p0)).run pins s σ H (fun v H1 => v = .int i ∧ H1 = H) I ⟨rfl, rfl⟩) fun u s1 z => PySem.W.kdv_all0 ?_)
  obtain ⟨v, H1, I1, r, rfl, rfl⟩ := z
  rw [makeFunction_eq]
  simp only [List.zip_nil_right, List.filterMap_nil, List.isEmpty_nil, if_true, pure_bind, List.isEmpty_cons, Bool.false_eq_true, if_false]
  refine wpAny_bind (wpAny_newTextTuple ?_)
  have n := I1.hok.fresh (Nat.le_refl s1.heap.objs.size)
  have I2 := I1.laid (t' := s1.toks) (a := s1.heap.objs.size) (o := .tup [.int i]) (h' := s1.heap.push { cls := .type "tuple", data := .seq [u].toArray }) (fun b u e => Heap.get?_push_of_some _ e) (Nat.le_refl _) ⟨Nat.le_of_ble_eq_true rfl, [u], .cons r .nil, ⟨_, Heap.get?_push_size _ rfl, rfl, _, rfl⟩⟩
  exact lamK_run I2 TB hcode (hfree I.ok) (h _ n)
end
end L2

namespace L2
open PySem PySem.Spec PyProof.Rows

/-! ### t * 1 -/
theorem tuple_mul1 (l : Addr) (items : Array Value) (n : Nat) (dd : Option Addr) (sl : Array (Option Value)) (u : Tok) :
    Meets (Builtin.«tuple.__mul__» ⟨[.ref l, .int 1 u], []⟩) (fun _ R s => s.heap.get? l = some { cls := .type "tuple", dict := dd, data := .seq items n, slots := sl } ∧ R (.ok (.ret (Value.ref l))) s) :=
  .of_wp fun prog w A R s h => by
    obtain ⟨hp, g, d, tk, os⟩ := s
    obtain ⟨hl, h⟩ := h
    have f1 := AutoSeq1.idx_int
    wp_walk using wpAny_loadPart' hl
    exact ⟨_, rfl, h⟩
/-- t * 1 is t itself -/
def rRepT1 (K : PySem.W.Frag) : R2 := fun x y H Q => ∃ l xs, x = .ref l ∧ y = .int 1 ∧ SqT K H l xs ∧ Q (.ref l) H
theorem op_repT1 {X : Cx} : OpR X (binaryOp .Mult) (rRepT1 X.K) := by
  intro pins s σ H x y v u Q I rx ry h
  obtain ⟨l, xs, rfl, rfl, hT, q⟩ := h
  cases rx
  obtain ⟨t, rfl⟩ := ry
  obtain ⟨its, r, ⟨⟨cls, dd, data, sl⟩, ho, hc, n, hd⟩, hs⟩ := I.tuple hT
  simp only at hc hd
  subst hc hd
  refine wpAny_binaryOp_repeat_ref (T := "tuple") (U := "int") (by decide) ⟨_, ho, rfl⟩ (fun s' => typeIs_int s' 1 t) noFill_tuple_mul F.fills_int_mul F.slot_int_rmul repeat_tuple F.slot_int_index.lookup
    (call_meets F.slot_int_rmul (typeIs_int s 1 t) F.entry_int_rmul (F.args_int_rmul_2 _ _) (int_rmul_tuple 1 t l its.toArray n dd sl)
      ⟨ho, rfl, ⟨_, ho, rfl⟩, call_meets F.slot_tuple_mul ⟨_, ho, rfl⟩ F.entry_tuple_mul (F.args_tuple_mul_2 _ _) (tuple_mul1 l its.toArray n dd sl t) ⟨ho, ⟨.ref l, H, I, rfl, q⟩⟩⟩)
end L2

namespace DL
open PySem PySem.Spec PyProof.Rows L2
/-- a thing that may change -/
inductive O where
  | lst (ds : List D) | ins (C : Nat) (fs : List (Nat × D)) | dct (kvs : List (Key × D)) | xd (fs : List (Nat × D)) | cell (o : Obj) (d : D) | tbl (q : Str)

abbrev Sto := Addr → Option O
def Sto.set (S : Sto) (a : Addr) (o : O) : Sto := fun b => if b = a then some o else S b
def Sto.del (S : Sto) (a : Addr) : Sto := fun b => if b = a then none else S b
theorem Sto.set_same {S : Sto} {a : Addr} {o : O} : S.set a o a = some o := if_pos rfl
theorem Sto.set_ne {S : Sto} {a b : Addr} {o : O} (h : b ≠ a) : S.set a o b = S b := if_neg h
theorem Sto.del_same {S : Sto} {a : Addr} : S.del a a = none := if_pos rfl
theorem Sto.del_ne {S : Sto} {a b : Addr} (h : b ≠ a) : S.del a b = S b := if_neg h

/-- the written part; the lists that a comprehension is making just now -/
structure KB where
  k : PySem.W.Frag
  b : Addr → Prop

def LAt (K : KB) (S : Sto) (H : Hp) (a : Addr) (vs : List V) : Prop := H a = some (.lst vs) ∧ S a = none ∧ ¬ K.b a
def RAt (K : KB) (S : Sto) (H : Hp) (a : Addr) (vs : List V) : Prop := (Rd H a (.lst vs) ∧ S a = none ∧ ¬ K.b a) ∨ ∃ (o : Obj) (its : Array Value) (n : Nat), K.k.lookup a = some o ∧ o.cls = .type "list" ∧ o.dict = none ∧ o.data = .seq its n ∧ its.size ≤ sizeLine ∧ Vals vs its.toList
def TAt (K : KB) (S : Sto) (H : Hp) (a : Addr) (vs : List V) : Prop := (H a = some (.tup vs) ∧ S a = none) ∨ ∃ (o : Obj) (its : Array Value) (n : Nat), K.k.lookup a = some o ∧ o.cls = .type "tuple" ∧ o.data = .seq its n ∧ its.size ≤ sizeLine ∧ Vals vs its.toList
/-- at a stands o, and nobody changes it -/
def XAt (K : KB) (S : Sto) (H : Hp) (a : Addr) (o : HO) : Prop := H a = some o ∧ S a = none ∧ ¬ K.b a
def dvT : Option Addr → Value
  | none => .none
  | some a => .ref a
/-- at f: the closure of the expression e; T: the tuple of its default (0) -/
structure CloAt (K : KB) (S : Sto) (H : Hp) (F : NdefX.NF) (e : Expr) (T : Option Addr) (f : Addr) : Prop where
  fn : XAt K S H f (LamO f F e (dvT T))
  cd : XAt K S H F.c (LamX.CodeO F.c F.qual)
  df : ∀ a, T = some a → TAt K S H a [.int 0]
/-- the table at a holds code objects of the text q -/
def TblAt (K : KB) (S : Sto) (H : Hp) (a : Addr) (q : Str) : Prop := ∃ ps : Array Value, H a = some (.tbl ps) ∧ TriplesOk ps.toList ∧ ∀ (pos : Pos) (cv : Value), codeAmong pos ps.toList = some cv → ∃ c, cv = .ref c ∧ XAt K S H c (LamX.CodeO c q)
theorem LAt.sq {K : KB} {S : Sto} {H : Hp} {a : Addr} {vs : List V} (h : LAt K S H a vs) : SqL K.k H a vs := SqL.of h.1
theorem RAt.sq {K : KB} {S : Sto} {H : Hp} {a : Addr} {vs : List V} (h : RAt K S H a vs) : SqL K.k H a vs := h.imp (·.1) id
theorem TAt.sq {K : KB} {S : Sto} {H : Hp} {a : Addr} {vs : List V} (h : TAt K S H a vs) : SqT K.k H a vs := h.imp (fun x => .inl x.1) id

mutual
/-- v is, in this store and heap, the data d -/
def Rp (K : KB) (S : Sto) (H : Hp) : D → V → Prop
  | .non, v => v = .non
  | .bl b, v => v = .bl b
  | .int i, v => v = .int i
  | .str cs, v => v = .str (mkS cs)
  | .lst ds, v => ∃ a vs, v = .ref a ∧ LAt K S H a vs ∧ Rps K S H ds vs
  | .rol ds, v => ∃ a vs, v = .ref a ∧ RAt K S H a vs ∧ Rps K S H ds vs
  | .tup ds, v => ∃ a vs, v = .ref a ∧ TAt K S H a vs ∧ Rps K S H ds vs
  | .ref a, v => v = .ref a
  | .ty n, v => v = .ty n
  | .clo F e T, v => ∃ f, v = .ref f ∧ CloAt K S H F e T f
def Rps (K : KB) (S : Sto) (H : Hp) : List D → List V → Prop
  | [], vs => vs = []
  | d :: ds, vs => ∃ v r, vs = v :: r ∧ Rp K S H d v ∧ Rps K S H ds r
end

/-- what stood outside the store stands as it was -/
def Ext (S : Sto) (H : Hp) (S' : Sto) (H' : Hp) : Prop := ∀ a o, H a = some o → S a = none → H' a = some o ∧ S' a = none
theorem Ext.refl {S : Sto} {H : Hp} : Ext S H S H := fun _ _ h s => ⟨h, s⟩
theorem Ext.trans {S S1 S2 : Sto} {H H1 H2 : Hp} (x : Ext S H S1 H1) (y : Ext S1 H1 S2 H2) : Ext S H S2 H2 := fun a o h s => let ⟨h1, s1⟩ := x a o h s; y a o h1 s1

section
variable {K : KB} {S S' : Sto} {H H' : Hp}
theorem _root_.L2.Rd.ext {a : Addr} {u : HO} (e : Ext S H S' H') (h : Rd H a u) (s : S a = none) : Rd H' a u ∧ S' a = none := by
  rcases h with h | ⟨o, h⟩
  · exact ⟨.inl (e _ _ h s).1, (e _ _ h s).2⟩
  · exact ⟨.inr ⟨o, (e _ _ h s).1⟩, (e _ _ h s).2⟩
theorem LAt.ext {a : Addr} {vs : List V} (e : Ext S H S' H') (h : LAt K S H a vs) : LAt K S' H' a vs := ⟨(e _ _ h.1 h.2.1).1, (e _ _ h.1 h.2.1).2, h.2.2⟩
theorem RAt.ext {a : Addr} {vs : List V} (e : Ext S H S' H') (h : RAt K S H a vs) : RAt K S' H' a vs := h.imp (fun x => ⟨(Rd.ext e x.1 x.2.1).1, (Rd.ext e x.1 x.2.1).2, x.2.2⟩) id
theorem XAt.ext {a : Addr} {o : HO} (e : Ext S H S' H') (h : XAt K S H a o) : XAt K S' H' a o := ⟨(e _ _ h.1 h.2.1).1, (e _ _ h.1 h.2.1).2, h.2.2⟩
theorem TAt.ext {a : Addr} {vs : List V} (e : Ext S H S' H') (h : TAt K S H a vs) : TAt K S' H' a vs := h.imp (fun x => e _ _ x.1 x.2) id
theorem CloAt.ext {F : NdefX.NF} {ex : Expr} {T : Option Addr} {f : Addr} (e : Ext S H S' H') (h : CloAt K S H F ex T f) : CloAt K S' H' F ex T f := ⟨h.fn.ext e, h.cd.ext e, fun a z => (h.df a z).ext e⟩
mutual
theorem Rp.ext (e : Ext S H S' H') : ∀ {d : D} {v : V}, Rp K S H d v → Rp K S' H' d v
  | .non, _, h => h
  | .bl _, _, h => h
  | .int _, _, h => h
  | .str _, _, h => h
  | .lst _, _, ⟨a, vs, e1, l, r⟩ => ⟨a, vs, e1, l.ext e, Rps.ext e r⟩
  | .tup _, _, ⟨a, vs, e1, l, r⟩ => ⟨a, vs, e1, l.ext e, Rps.ext e r⟩
  | .rol _, _, ⟨a, vs, e1, l, r⟩ => ⟨a, vs, e1, l.ext e, Rps.ext e r⟩
  | .ref _, _, h => h
  | .ty _, _, h => h
  | .clo _ _ _, _, ⟨f, e1, c⟩ => ⟨f, e1, c.ext e⟩
theorem Rps.ext (e : Ext S H S' H') : ∀ {ds : List D} {vs : List V}, Rps K S H ds vs → Rps K S' H' ds vs
  | [], _, h => h
  | _ :: _, _, ⟨v, r, e1, h, t⟩ => ⟨v, r, e1, h.ext e, Rps.ext e t⟩
end
theorem Rps.length : ∀ {ds : List D} {vs : List V}, Rps K S H ds vs → ds.length = vs.length
  | [], _, h => by cases h; rfl
  | _ :: _, _, ⟨v, r, e1, h, t⟩ => by cases e1; simp [Rps.length t]
theorem Rps.append : ∀ {ds es : List D} {vs us : List V}, Rps K S H ds vs → Rps K S H es us → Rps K S H (ds ++ es) (vs ++ us)
  | [], _, _, _, h, t => by cases h; exact t
  | _ :: _, _, _, _, ⟨v, r, e1, h, t⟩, u => by cases e1; exact ⟨v, _, rfl, h, Rps.append t u⟩
theorem Rps.get : ∀ {ds : List D} {vs : List V} {i : Nat} {d : D}, Rps K S H ds vs → ds[i]? = some d → ∃ v, vs[i]? = some v ∧ Rp K S H d v
  | [], _, _, _, _, e => by simp at e
  | _ :: _, _, 0, _, ⟨v, r, e1, h, t⟩, e => by cases e1; simp at e; subst e; exact ⟨v, rfl, h⟩
  | _ :: _, _, i + 1, d, ⟨v, r, e1, h, t⟩, e => by cases e1; exact Rps.get (i := i) t (by simpa using e)
theorem Rps.take : ∀ {ds : List D} {vs : List V} (n : Nat), Rps K S H ds vs → Rps K S H (ds.take n) (vs.take n)
  | _, _, 0, _ => rfl
  | [], _, _ + 1, h => by cases h; rfl
  | _ :: _, _, n + 1, ⟨v, r, e1, h, t⟩ => by cases e1; exact ⟨v, _, rfl, h, Rps.take n t⟩
theorem Rps.drop : ∀ {ds : List D} {vs : List V} (n : Nat), Rps K S H ds vs → Rps K S H (ds.drop n) (vs.drop n)
  | _, _, 0, h => h
  | [], _, _ + 1, h => by cases h; rfl
  | _ :: _, _, n + 1, ⟨v, r, e1, h, t⟩ => by cases e1; exact Rps.drop n t
theorem Rps.set : ∀ {ds : List D} {vs : List V} (i : Nat) {d : D} {v : V}, Rps K S H ds vs → Rp K S H d v → Rps K S H (ds.set i d) (vs.set i v)
  | [], _, _, _, _, h, _ => by cases h; rfl
  | _ :: _, _, 0, _, _, ⟨v, r, e1, h, t⟩, q => by cases e1; exact ⟨_, _, rfl, q, t⟩
  | _ :: _, _, i + 1, _, _, ⟨v, r, e1, h, t⟩, q => by cases e1; exact ⟨_, _, rfl, h, Rps.set i t q⟩
theorem Rps.single {d : D} {v : V} (h : Rp K S H d v) : Rps K S H [d] [v] := ⟨v, [], rfl, h, rfl⟩
theorem Rps.one {d : D} {vs : List V} (h : Rps K S H [d] vs) : ∃ v, vs = [v] ∧ Rp K S H d v := by
  obtain ⟨v, r, rfl, h, t⟩ := h
  cases t
  exact ⟨v, rfl, h⟩
end

/-- a thing of the store -/
def RO (K : KB) (S : Sto) (H : Hp) (a : Addr) : O → Prop
  | .lst ds => ∃ vs, H a = some (.lst vs) ∧ Rps K S H ds vs
  | .ins C fs => ∃ dx vs, H a = some (.ins (cA K.k C) dx ((fs.map fun p => fN p.1).zip vs)) ∧ S dx = none ∧ H dx = some (.own a) ∧ Rps K S H (fs.map (·.2)) vs
  | .dct kvs => ∃ vs, H a = some (.dK ((kvs.map (·.1)).zip vs)) ∧ Rps K S H (kvs.map (·.2)) vs
  | .xd fs => ∃ vs, H a = some (.xd ((fs.map fun p => fN p.1).zip vs)) ∧ Rps K S H (fs.map (·.2)) vs
  | .cell o d => H a = some (cellH a o) ∧ ∃ v u, o.data = .cell (some u) ∧ RelV v u ∧ Rp K S H d v
  | .tbl q => TblAt K S H a q
structure Rel (K : KB) (S : Sto) (H : Hp) : Prop where
  ob : ∀ a o, S a = some o → RO K S H a o
  bl : ∀ a, K.b a → (∃ o, H a = some o) ∧ S a = none
theorem RO.at {K : KB} {S : Sto} {H : Hp} {a : Addr} {o : O} (h : RO K S H a o) : ∃ u, H a = some u := by
  cases o with
  | lst ds => obtain ⟨vs, h, _⟩ := h; exact ⟨_, h⟩
  | ins C fs => obtain ⟨dx, vs, h, _⟩ := h; exact ⟨_, h⟩
  | dct kvs => obtain ⟨vs, h, _⟩ := h; exact ⟨_, h⟩
  | xd fs => obtain ⟨vs, h, _⟩ := h; exact ⟨_, h⟩
  | cell o d => exact ⟨_, h.1⟩
  | tbl q => obtain ⟨u, h, _⟩ := h; exact ⟨_, h⟩
theorem RO.ext {K : KB} {S S' : Sto} {H H' : Hp} {a : Addr} {o : O} (e : Ext S H S' H') (ha : H' a = H a) (h : RO K S H a o) : RO K S' H' a o := by
  cases o with
  | lst ds => obtain ⟨vs, h, r⟩ := h; exact ⟨vs, by rw [ha]; exact h, r.ext e⟩
  | ins C fs => obtain ⟨dx, vs, h, n, d, r⟩ := h; exact ⟨dx, vs, by rw [ha]; exact h, (e _ _ d n).2, (e _ _ d n).1, r.ext e⟩
  | dct kvs => obtain ⟨vs, h, r⟩ := h; exact ⟨vs, by rw [ha]; exact h, r.ext e⟩
  | xd fs => obtain ⟨vs, h, r⟩ := h; exact ⟨vs, by rw [ha]; exact h, r.ext e⟩
  | cell o d => obtain ⟨h, v, u, z, y, r⟩ := h; exact ⟨by rw [ha]; exact h, v, u, z, y, r.ext e⟩
  | tbl q => obtain ⟨u, h, t, r⟩ := h; exact ⟨u, by rw [ha]; exact h, t, fun p cv z => let ⟨c, e1, x⟩ := r p cv z; ⟨c, e1, x.ext e⟩⟩
section
variable {K : KB} {S S' : Sto} {H H' : Hp}
theorem Rel.free (R : Rel K S H) {a : Addr} (h : H a = none) : S a = none := by
  cases q : S a with
  | none => rfl
  | some o => obtain ⟨u, e⟩ := (R.ob a o q).at; rw [h] at e; cases e
theorem Rel.nb (R : Rel K S H) {a : Addr} (h : H a = none) : ¬ K.b a := fun z => by
  obtain ⟨⟨o, e⟩, _⟩ := R.bl a z
  rw [h] at e; cases e
/-- only the heap grows -/
theorem Ext.new (R : Rel K S H) {p : Addr} (hp : H p = none) (o : HO) : Ext S H S (upd H p o) := fun a u h s => ⟨by rw [upd_ne (ne_of_none h hp)]; exact h, s⟩
theorem Rel.new (R : Rel K S H) {p : Addr} (hp : H p = none) (o : HO) : Rel K S (upd H p o) := ⟨fun a u h => (R.ob a u h).ext (Ext.new R hp o) (by
  obtain ⟨v, e⟩ := (R.ob a u h).at
  exact upd_ne (ne_of_none e hp)), fun a z => by
    obtain ⟨⟨u, e⟩, s⟩ := R.bl a z
    exact ⟨⟨u, by rw [upd_ne (ne_of_none e hp)]; exact e⟩, s⟩⟩
/-- a thing of the store is changed -/
theorem Ext.put {a : Addr} {o o' : O} (hS : S a = some o) (u : HO) : Ext S H (S.set a o') (upd H a u) := fun b v h s => by
  have hb : b ≠ a := fun z => by subst z; rw [hS] at s; cases s
  exact ⟨by rw [upd_ne hb]; exact h, by rw [Sto.set_ne hb]; exact s⟩
theorem Rel.put (R : Rel K S H) {a : Addr} {o o' : O} (hS : S a = some o) {u : HO} (new : RO K (S.set a o') (upd H a u) a o') : Rel K (S.set a o') (upd H a u) := ⟨fun b v h => by
  by_cases hb : b = a
  · subst hb; rw [Sto.set_same] at h; cases h; exact new
  · rw [Sto.set_ne hb] at h
    exact (R.ob b v h).ext (Ext.put hS u) (upd_ne hb), fun b z => by
    obtain ⟨⟨w, e⟩, s⟩ := R.bl b z
    have hb : b ≠ a := fun y => by subst y; rw [hS] at s; cases s
    exact ⟨⟨w, by rw [upd_ne hb]; exact e⟩, by rw [Sto.set_ne hb]; exact s⟩⟩
/-- a new thing of the store -/
theorem Ext.lay (R : Rel K S H) {p : Addr} (hp : H p = none) (o : O) (u : HO) : Ext S H (S.set p o) (upd H p u) := fun b v h s => by
  have hb : b ≠ p := ne_of_none h hp
  exact ⟨by rw [upd_ne hb]; exact h, by rw [Sto.set_ne hb]; exact s⟩
theorem Rel.lay (R : Rel K S H) {p : Addr} (hp : H p = none) {o : O} {u : HO} (new : RO K (S.set p o) (upd H p u) p o) : Rel K (S.set p o) (upd H p u) := ⟨fun b v h => by
  by_cases hb : b = p
  · subst hb; rw [Sto.set_same] at h; cases h; exact new
  · rw [Sto.set_ne hb] at h
    obtain ⟨v', e⟩ := (R.ob b v h).at
    exact (R.ob b v h).ext (Ext.lay R hp o u) (upd_ne (ne_of_none e hp)), fun b z => by
    obtain ⟨⟨w, e⟩, s⟩ := R.bl b z
    have hb : b ≠ p := ne_of_none e hp
    exact ⟨⟨w, by rw [upd_ne hb]; exact e⟩, by rw [Sto.set_ne hb]; exact s⟩⟩
/-- a list that is changed no more -/
theorem Ext.freeze {p : Addr} {o : O} (hS : S p = some o) : Ext S H (S.del p) H := fun b v h s => by
  have hb : b ≠ p := fun z => by subst z; rw [hS] at s; cases s
  exact ⟨h, by rw [Sto.del_ne hb]; exact s⟩
theorem Rel.freeze (R : Rel K S H) {p : Addr} {o : O} (hS : S p = some o) : Rel K (S.del p) H := ⟨fun b v h => by
  by_cases hb : b = p
  · subst hb; rw [Sto.del_same] at h; cases h
  · rw [Sto.del_ne hb] at h
    exact (R.ob b v h).ext (Ext.freeze hS) rfl, fun b z => by
    obtain ⟨e, s⟩ := R.bl b z
    refine ⟨e, ?_⟩
    unfold Sto.del
    split
    · rfl
    · exact s⟩
end

/-! ### slots -/
abbrev St' := List (Option D)
structure Sl (K : KB) (S : Sto) (H : Hp) (ρ : St') (σ : St) : Prop where
  len : ρ.length = σ.length
  at_ : ∀ (i : Nat) (d : D), ρ[i]? = some (some d) → ∃ v, σ[i]? = some (some v) ∧ Rp K S H d v
theorem Sl.ext {K : KB} {S S' : Sto} {H H' : Hp} {ρ : St'} {σ : St} (h : Sl K S H ρ σ) (e : Ext S H S' H') : Sl K S' H' ρ σ := ⟨h.len, fun i d q => let ⟨v, a, r⟩ := h.at_ i d q; ⟨v, a, r.ext e⟩⟩
theorem Sl.set {K : KB} {S : Sto} {H : Hp} {ρ : St'} {σ : St} (h : Sl K S H ρ σ) {i : Nat} {d : D} {v : V} (r : Rp K S H d v) : Sl K S H (ρ.set i (some d)) (σ.set i (some v)) := by
  refine ⟨by simp [h.len], fun j e q => ?_⟩
  by_cases hj : i = j
  · subst hj
    by_cases hl : i < ρ.length
    · rw [List.getElem?_set_self hl] at q; cases q
      exact ⟨v, List.getElem?_set_self (by rw [← h.len]; exact hl), r⟩
    · rw [List.getElem?_eq_none (by simpa using hl)] at q; cases q
  · rw [List.getElem?_set_ne hj] at q ⊢
    exact h.at_ j e q
theorem Sl.drop {K : KB} {S : Sto} {H : Hp} {ρ : St'} {σ : St} (h : Sl K S H ρ σ) {i : Nat} {x : Option V} : Sl K S H (ρ.set i none) (σ.set i x) := by
  refine ⟨by simp [h.len], fun j e q => ?_⟩
  by_cases hj : i = j
  · subst hj
    by_cases hl : i < ρ.length
    · rw [List.getElem?_set_self hl] at q; cases q
    · rw [List.getElem?_eq_none (by simpa using hl)] at q; cases q
  · rw [List.getElem?_set_ne hj] at q ⊢
    exact h.at_ j e q

/-! ### readings over data -/
/-- what is wanted of a value; of an exception (its class, its fields) -/
abbrev QD := D → Sto → Prop
abbrev XD := Nat → List (Nat × D) → St' → Sto → Prop
abbrev ED := XD → St' → Sto → QD → Prop
abbrev TD := XD → St' → Sto → (Bool → Sto → Prop) → Prop
abbrev AD := XD → St' → Sto → (List D → Sto → Prop) → Prop

/-- what a HandS wish about exceptions must take -/
def WOk (K : KB) (S : Sto) (H : Hp) (w : XD) (W : WX) : Prop :=
  ∀ (C : Nat) (dd : Addr) (fs : List (Nat × D)) (vs : List V) (ρ' : St') (σ' : St) (S' : Sto) (H' : Hp), Ext S H S' H' → Rel K S' H' → Sl K S' H' ρ' σ' → H' dd = some (.xd ((fs.map fun p => fN p.1).zip vs)) → S' dd = none → Rps K S' H' (fs.map (·.2)) vs → w C fs ρ' S' → W (.ref (cA K.k C)) (some dd) σ' H'
theorem WOk.ext {K : KB} {S S1 : Sto} {H H1 : Hp} {w : XD} {W : WX} (h : WOk K S H w W) (e : Ext S H S1 H1) : WOk K S1 H1 w W :=
  fun C dd fs vs ρ' σ' S' H' e' => h C dd fs vs ρ' σ' S' H' (e.trans e')

/-- a reading over data as one over the heap -/
def upE (K : KB) (W : WX) (t : ED) : TE := fun σ H Q => ∃ (ρ : St') (S : Sto) (q : QD) (w : XD), Rel K S H ∧ Sl K S H ρ σ ∧ WOk K S H w W ∧ t w ρ S q ∧
  ∀ d v S' H', Ext S H S' H' → Rel K S' H' → Rp K S' H' d v → q d S' → Q v H'
def upT (K : KB) (W : WX) (t : TD) : TT := fun σ H Q => ∃ (ρ : St') (S : Sto) (q : Bool → Sto → Prop) (w : XD), Rel K S H ∧ Sl K S H ρ σ ∧ WOk K S H w W ∧ t w ρ S q ∧
  ∀ b S' H', Ext S H S' H' → Rel K S' H' → q b S' → Q b H'
def upA (K : KB) (W : WX) (t : AD) : TA := fun σ H Q => ∃ (ρ : St') (S : Sto) (q : List D → Sto → Prop) (w : XD), Rel K S H ∧ Sl K S H ρ σ ∧ WOk K S H w W ∧ t w ρ S q ∧
  ∀ ds vs S' H', Ext S H S' H' → Rel K S' H' → Rps K S' H' ds vs → q ds S' → Q vs H'

theorem _root_.L2.PE.imp {X : Cx} {e : Expr} {t1 t2 : TE} (h : PE X e t1) (f : ∀ σ H Q, t2 σ H Q → t1 σ H Q) : PE X e t2 := ⟨fun pins s σ H Q I q => h.run pins s σ H Q I (f σ H Q q)⟩
theorem _root_.L2.PT.imp {X : Cx} {e : Expr} {t1 t2 : TT} (h : PT X e t1) (f : ∀ σ H Q, t2 σ H Q → t1 σ H Q) : PT X e t2 := ⟨fun pins s σ H Q I q => h.run pins s σ H Q I (f σ H Q q)⟩
theorem _root_.L2.PW.imp {X : Cx} {e : Expr} {t1 t2 : TT} (h : PW X e t1) (f : ∀ σ H Q, t2 σ H Q → t1 σ H Q) : PW X e t2 := ⟨fun wh pins s σ H Q I q => h.run wh pins s σ H Q I (f σ H Q q)⟩
theorem _root_.L2.PA.imp {X : Cx} {e : List Expr} {t1 t2 : TA} (h : PA X e t1) (f : ∀ σ H Q, t2 σ H Q → t1 σ H Q) : PA X e t2 := ⟨fun pos pins s σ H Q I q => h.run pos pins s σ H Q I (f σ H Q q)⟩
theorem _root_.L2.PS.imp {X : Cx} {e : Stmt} {t1 t2 : TS} (h : PS X e t1) (f : ∀ D σ H, t2 D σ H → t1 D σ H) : PS X e t2 := ⟨fun pins s σ H D I q => h.run pins s σ H D I (f D σ H q)⟩
theorem _root_.L2.PSs.imp {X : Cx} {e : List Stmt} {t1 t2 : TS} (h : PSs X e t1) (f : ∀ D σ H, t2 D σ H → t1 D σ H) : PSs X e t2 := ⟨fun pins s σ H D I q => h.run pins s σ H D I (f D σ H q)⟩

structure PD (X : Cx) (e : Expr) (t : ED) : Prop where
  up : ∀ B W, L2N.Takes X W → PE X e (upE ⟨X.K, B⟩ W t)
structure PDT (X : Cx) (e : Expr) (t : TD) : Prop where
  up : ∀ B W, L2N.Takes X W → PT X e (upT ⟨X.K, B⟩ W t)
structure PDW (X : Cx) (e : Expr) (t : TD) : Prop where
  up : ∀ B W, L2N.Takes X W → PW X e (upT ⟨X.K, B⟩ W t)
structure PDA (X : Cx) (es : List Expr) (t : AD) : Prop where
  up : ∀ B W, L2N.Takes X W → PA X es (upA ⟨X.K, B⟩ W t)

section
variable {X : Cx} {K : KB} {W : WX}
theorem upE.of {t : ED} {σ : St} {H : Hp} {Q : VK} {S : Sto} {ρ : St'} {w : XD} (R : Rel K S H) (L : Sl K S H ρ σ) (O : WOk K S H w W) (q : QD) (h : t w ρ S q)
    (k : ∀ d v S' H', Ext S H S' H' → Rel K S' H' → Rp K S' H' d v → q d S' → Q v H') : upE K W t σ H Q := ⟨ρ, S, q, w, R, L, O, h, k⟩
end

/-! ### names and constants -/
def eVar (i : Nat) : ED := fun _ ρ S q => match ρ[i]? with
  | some (some d) => q d S
  | _ => False
def eC (d : D) : ED := fun _ _ S q => q d S
theorem pd_var {X : Cx} {i : Nat} {x : Str} {pos : Pos} (h : PE X (.Name x pos) (tVar i)) : PD X (.Name x pos) (eVar i) := ⟨fun B W tk => h.imp fun σ H Q h => by
  obtain ⟨ρ, S, q, w, R, L, O, h, k⟩ := h
  unfold eVar at h
  split at h
  · rename_i d e
    obtain ⟨v, e1, r⟩ := L.at_ i d e
    exact ⟨v, e1, k _ _ _ _ .refl R r h⟩
  · exact h.elim⟩
theorem pd_const {X : Cx} {e : Expr} {d : D} {v : V} (h : PE X e (tC v)) (r : ∀ B S H, Rp ⟨X.K, B⟩ S H d v) : PD X e (eC d) := ⟨fun B W tk => h.imp fun σ H Q h => by
  obtain ⟨ρ, S, q, w, R, L, O, h, k⟩ := h
  exact k _ _ _ _ .refl R (r B S H) h⟩
theorem pd_int {X : Cx} {i j pos} : PD X (.Constant (.int i) j pos) (eC (.int i)) := pd_const pe_int fun _ _ _ => rfl
theorem pd_bl {X : Cx} {b j pos} : PD X (.Constant (.bool b) j pos) (eC (.bl b)) := pd_const pe_bl fun _ _ _ => rfl
theorem pd_non {X : Cx} {j pos} : PD X (.Constant .none j pos) (eC .non) := pd_const pe_non fun _ _ _ => rfl
theorem pd_str {X : Cx} {x : Str} {j pos} : PD X (.Constant (.str x) j pos) (eC (.str x.cps.toList)) := pd_const pe_str fun _ _ _ => rfl

/-! ### two in a row -/
def eOp (r : D → D → Sto → QD → Prop) (a b : ED) : ED := fun w ρ S q => a w ρ S fun x S1 => b w ρ S1 fun y S2 => r x y S2 q
def eUn (r : D → Sto → QD → Prop) (a : ED) : ED := fun w ρ S q => a w ρ S fun x S1 => r x S1 q
/-- an operator by data -/
def opH (K : KB) (r : D → D → Sto → QD → Prop) : R2 := fun x y H Q => ∃ dx dy S q, Rel K S H ∧ Rp K S H dx x ∧ Rp K S H dy y ∧ r dx dy S q ∧ ∀ d v S' H', Ext S H S' H' → Rel K S' H' → Rp K S' H' d v → q d S' → Q v H'
def OpD (X : Cx) (f : Value → Value → Sem Value) (r : D → D → Sto → QD → Prop) : Prop := ∀ B, OpR X f (opH ⟨X.K, B⟩ r)
theorem _root_.L2.OpR.imp {X : Cx} {f : Value → Value → Sem Value} {r r' : R2} (h : OpR X f r) (i : ∀ x y H Q, r' x y H Q → r x y H Q) : OpR X f r' := fun pins s σ H x y v u Q I rx ry q => h pins s σ H x y v u Q I rx ry (i x y H Q q)
theorem two_up {K : KB} {W : WX} {a b : ED} {σ : St} {H : Hp} {R2' : V → V → Hp → Prop} {r : D → D → Sto → Prop} {ρ : St'} {S : Sto} {w : XD} (R : Rel K S H) (L : Sl K S H ρ σ) (O : WOk K S H w W)
    (h : a w ρ S fun x S1 => b w ρ S1 fun y S2 => r x y S2)
    (k : ∀ dx dy x y S' H', Ext S H S' H' → Rel K S' H' → Rp K S' H' dx x → Rp K S' H' dy y → r dx dy S' → R2' x y H') : upE K W a σ H fun x H1 => upE K W b σ H1 fun y H2 => R2' x y H2 :=
  ⟨ρ, S, _, w, R, L, O, h, fun d v S1 H1 e1 R1 r1 q1 => ⟨ρ, S1, _, w, R1, L.ext e1, O.ext e1, q1, fun d2 v2 S2 H2 e2 R2 r2 q2 => k d d2 v v2 S2 H2 (e1.trans e2) R2 (r1.ext e2) r2 q2⟩⟩
theorem pd_op {X : Cx} {a b : Expr} {op : Operator} {r : D → D → Sto → QD → Prop} {ta tb : ED} {pos : Pos} (ho : OpD X (binaryOp op) r) (ha : PD X a ta) (hb : PD X b tb) : PD X (.BinOp a op b pos) (eOp r ta tb) :=
  ⟨fun B W tk => (pe_op (ho B) (ha.up B W tk) (hb.up B W tk)).imp fun σ H Q h => by
    obtain ⟨ρ, S, q, w, R, L, O, h, k⟩ := h
    exact two_up R L O h fun dx dy x y S' H' e R' rx ry q' => ⟨dx, dy, S', q, R', rx, ry, q', fun d v S2 H2 e2 => k d v S2 H2 (e.trans e2)⟩⟩
theorem pd_cmp {X : Cx} {a b : Expr} {op : CmpOp} {r : D → D → Sto → QD → Prop} {ta tb : ED} {pos : Pos} (ho : OpD X (compareOp op) r) (ha : PD X a ta) (hb : PD X b tb) (hm : behindInMarks op b = false) : PD X (.Compare a [op] [b] pos) (eOp r ta tb) :=
  ⟨fun B W tk => (pe_cmpR (ho B) (ha.up B W tk) (hb.up B W tk) hm).imp fun σ H Q h => by
    obtain ⟨ρ, S, q, w, R, L, O, h, k⟩ := h
    exact two_up R L O h fun dx dy x y S' H' e R' rx ry q' => ⟨dx, dy, S', q, R', rx, ry, q', fun d v S2 H2 e2 => k d v S2 H2 (e.trans e2)⟩⟩
end DL

/-! dicts: in, an item, a store, by values -/
namespace L2
open PySem PySem.Spec PyProof.Rows
theorem op_din {X : Cx} (hu : X.A.units + 1 < cLine) : OpR X (compareOp .In) fun y x H Q => ∃ a o, x = .ref a ∧ DGet H a y o ∧ Q (.bl o.isSome) H := by
  intro pins s σ H y x v u Q I ry rx h
  obtain ⟨a, o, rfl, g, q⟩ := h
  cases rx
  exact d_in hu I g ry fun s3 I3 => ⟨.bl o.isSome, H, I3, rfl, q⟩
theorem op_dnotin {X : Cx} (hu : X.A.units + 1 < cLine) : OpR X (compareOp .NotIn) fun y x H Q => ∃ a o, x = .ref a ∧ DGet H a y o ∧ Q (.bl (!o.isSome)) H := by
  intro pins s σ H y x v u Q I ry rx h
  obtain ⟨a, o, rfl, g, q⟩ := h
  cases rx
  exact d_notIn hu I g ry fun s3 I3 => ⟨.bl (!o.isSome), H, I3, rfl, q⟩
theorem ix_dict {X : Cx} (hu : X.A.units + 1 < cLine) : IxR X fun x y H Q => ∃ a v, x = .ref a ∧ DGet H a y (some v) ∧ Q v H := by
  intro value slice pins s σ H x y v u Q I rx ry h hs
  obtain ⟨a, z, rfl, g, q⟩ := h
  cases rx
  have hT := dict_typeIs I g
  unfold subscriptTail
  refine wpAny_bind ?_
  rw [getitemInPython_of_ne hT.not_modules]
  refine wpAny_bind (wpAny_specialOf hT PySem.F.slot_dict_getitem.lookup ?_)
  have fin : wpAny (model X.prog X.w) X.A (subscripted slice false (.ref a) u) (fun r s₃ => wpAny (model X.prog X.w) X.A (letTemporaryGo value (.ref a) r >>= fun _ => pure r) (EP X pins σ Q) X.xe s₃) X.xe s := by
    rw [hs]
    exact wpAny_operating (d_getItem hu I g ry fun w' s3 I3 rw' => wpAny_bind (wpAny_letTemporaryGo (wpAny_pure ⟨z, H, I3, rw', q⟩)))
  first
    | exact wpAny_pure (wpAny_bind fin)
    | exact wpAny_bind (wpAny_pure (wpAny_bind fin))
    | exact wpAny_bind fin
theorem set_dict {X : Cx} (hu : X.A.units + 1 < cLine) : PSet X fun o i v H Q => ∃ a H', o = .ref a ∧ DPut H a i v H' ∧ Q H' := by
  intro pins s σ H o i v ov iv u Q I ro ri rv h
  obtain ⟨a, H', rfl, g, q⟩ := h
  cases ro
  exact d_setItem hu I g ri rv fun s3 I3 => ⟨H', I3, q⟩
theorem cr_lenD {X : Cx} : CallR X (.builtin "len") fun vs H Q => ∃ a kvs, vs = [.ref a] ∧ H a = some (.dK kvs) ∧ Q (.int (kvs.length : Nat)) H := by
  intro pins s σ H vs us Q I r h
  obtain ⟨a, kvs, rfl, ha, q⟩ := h
  rw [Vals.ref1 r]
  exact d_len I (.inl ha) fun t s' I' => ⟨.int (kvs.length : Nat), H, I', ⟨t, rfl⟩, q⟩
end L2

namespace DL
open PySem PySem.Spec PyProof.Rows L2

/-! ### dicts as data -/
def valD (kvs : List (Key × D)) (k : Key) : Option D := (kvs.find? fun kv => decide (kv.1 = k)).map (·.2)
def setD (kvs : List (Key × D)) (k : Key) (d : D) : List (Key × D) := if (kvs.any fun kv => decide (kv.1 = k)) = true then kvs.map (fun kv => if kv.1 = k then (kv.1, d) else kv) else kvs ++ [(k, d)]
def keyD : D → Option Key
  | .int i => some (.inl i)
  | .str cs => some (.inr (mkS cs))
  | _ => none
theorem Rp.key {K : KB} {S : Sto} {H : Hp} {d : D} {v : V} {k : Key} (r : Rp K S H d v) (h : keyD d = some k) : v = kV k := by
  cases d <;> first | (cases h; done) | (cases h; cases r; rfl)
section
variable {K : KB} {S : Sto} {H : Hp} {k : Key}
theorem val_some : ∀ {kvs : List (Key × D)} {vs : List V} {d : D}, Rps K S H (kvs.map (·.2)) vs → valD kvs k = some d → ∃ v, valV ((kvs.map (·.1)).zip vs) k = some v ∧ Rp K S H d v
  | [], _, _, _, h => by cases h
  | (j, x) :: kvs, _, d, ⟨v, r, e, h1, h2⟩, h => by
    subst e
    by_cases hj : j = k
    · have : valD ((j, x) :: kvs) k = some x := by simp [valD, List.find?_cons, hj]
      rw [this] at h
      cases h
      exact ⟨v, valV_pos hj, h1⟩
    · have e2 : valD ((j, x) :: kvs) k = valD kvs k := by simp [valD, List.find?_cons, hj]
      rw [e2] at h
      obtain ⟨u, h3, h4⟩ := val_some h2 h
      exact ⟨u, (valV_neg (p := (j, v)) hj).trans h3, h4⟩
theorem val_none : ∀ {kvs : List (Key × D)} {vs : List V}, Rps K S H (kvs.map (·.2)) vs → valD kvs k = none → valV ((kvs.map (·.1)).zip vs) k = none
  | [], _, _, _ => by first | rfl | (simp [valV])
  | (j, x) :: kvs, _, ⟨v, r, e, h1, h2⟩, h => by
    subst e
    by_cases hj : j = k
    · have : valD ((j, x) :: kvs) k = some x := by simp [valD, List.find?_cons, hj]
      rw [this] at h
      cases h
    · have e2 : valD ((j, x) :: kvs) k = valD kvs k := by simp [valD, List.find?_cons, hj]
      rw [e2] at h
      exact (valV_neg (p := (j, v)) hj).trans (val_none h2 h)
theorem val_is {kvs : List (Key × D)} {vs : List V} (r : Rps K S H (kvs.map (·.2)) vs) : (valV ((kvs.map (·.1)).zip vs) k).isSome = (valD kvs k).isSome := by
  cases e : valD kvs k with
  | none => rw [val_none r e]; rfl
  | some d =>
    obtain ⟨v, h, _⟩ := val_some r e
    rw [h]; rfl
theorem any_zip : ∀ {kvs : List (Key × D)} {vs : List V}, kvs.length = vs.length → (((kvs.map (·.1)).zip vs).any fun kv => decide (kv.1 = k)) = kvs.any fun kv => decide (kv.1 = k)
  | [], _, _ => rfl
  | (j, x) :: kvs, [], h => by cases h
  | (j, x) :: kvs, v :: vs, h => by
    exact congrArg (decide (j = k) || ·) (any_zip (kvs := kvs) (vs := vs) (by simpa using h))
theorem map_zip {d : D} {u : V} (rd : Rp K S H d u) : ∀ {kvs : List (Key × D)} {vs : List V}, Rps K S H (kvs.map (·.2)) vs →
    ∃ us, ((kvs.map (·.1)).zip vs).map (fun kv => if kv.1 = k then (kv.1, u) else kv) = ((kvs.map (fun kv => if kv.1 = k then (kv.1, d) else kv)).map (·.1)).zip us ∧ Rps K S H ((kvs.map (fun kv => if kv.1 = k then (kv.1, d) else kv)).map (·.2)) us
  | [], vs, h => by cases h; exact ⟨[], rfl, rfl⟩
  | (j, x) :: kvs, _, ⟨v, r, e, h1, h2⟩ => by
    subst e
    obtain ⟨us, e1, e2⟩ := map_zip rd h2
    by_cases hj : j = k
    · refine ⟨u :: us, ?_, ?_⟩
      · simp only [List.map_cons, List.zip_cons_cons, if_pos hj, e1]
      · simp only [List.map_cons, if_pos hj]
        exact ⟨u, us, rfl, rd, e2⟩
    · refine ⟨v :: us, ?_, ?_⟩
      · simp only [List.map_cons, List.zip_cons_cons, if_neg hj, e1]
      · simp only [List.map_cons, if_neg hj]
        exact ⟨v, us, rfl, h1, e2⟩
theorem put_up {d : D} {u : V} {kvs : List (Key × D)} {vs : List V} (rd : Rp K S H d u) (r : Rps K S H (kvs.map (·.2)) vs) : ∃ us, putK ((kvs.map (·.1)).zip vs) k u = ((setD kvs k d).map (·.1)).zip us ∧ Rps K S H ((setD kvs k d).map (·.2)) us := by
  have hl : kvs.length = vs.length := by have := r.length; simpa using this
  unfold putK setD
  rw [any_zip hl]
  split
  · exact map_zip rd r
  · refine ⟨vs ++ [u], ?_, ?_⟩
    · rw [List.map_append, List.zip_append (by simpa using hl)]; rfl
    · rw [List.map_append]
      exact r.append (.single rd)
end
theorem dct_up {K : KB} {S : Sto} {H : Hp} {a : Addr} {kvs : List (Key × D)} (R : Rel K S H) (h : S a = some (.dct kvs)) : ∃ vs, H a = some (.dK ((kvs.map (·.1)).zip vs)) ∧ Rps K S H (kvs.map (·.2)) vs := R.ob a _ h
end DL

namespace DL
open PySem PySem.Spec PyProof.Rows L2

/-! ### the wish of a reading, and what fulfils it -/
def Got (K : KB) (S : Sto) (H : Hp) (q : QD) (Q : VK) : Prop := ∀ d v S' H', Ext S H S' H' → Rel K S' H' → Rp K S' H' d v → q d S' → Q v H'
section
variable {K : KB} {S : Sto} {H : Hp} {q : QD} {Q : VK}
theorem Got.int (g : Got K S H q Q) (R : Rel K S H) {i : Int} (h : q (.int i) S) : Q (.int i) H := g (.int i) _ _ _ .refl R rfl h
theorem Got.bl (g : Got K S H q Q) (R : Rel K S H) {b : Bool} (h : q (.bl b) S) : Q (.bl b) H := g (.bl b) _ _ _ .refl R rfl h
theorem Got.non (g : Got K S H q Q) (R : Rel K S H) (h : q .non S) : Q .non H := g .non _ _ _ .refl R rfl h
theorem Got.str (g : Got K S H q Q) (R : Rel K S H) {cs : List Nat} (h : q (.str cs) S) : Q (.str (mkS cs)) H := g (.str cs) _ _ _ .refl R rfl h
theorem Got.strx (g : Got K S H q Q) (R : Rel K S H) {x : Str} (h : q (.str x.cps.toList) S) : Q (.str x) H := g (.str x.cps.toList) _ _ _ .refl R rfl h
theorem Got.val (g : Got K S H q Q) (R : Rel K S H) {d : D} {v : V} (r : Rp K S H d v) (h : q d S) : Q v H := g _ _ _ _ .refl R r h
theorem Got.lst (g : Got K S H q Q) (R : Rel K S H) {ds : List D} {vs : List V} (r : Rps K S H ds vs) (h : q (.lst ds) S) {p : Addr} (hp : H p = none) : Q (.ref p) (upd H p (.lst vs)) :=
  g (.lst ds) _ _ _ (Ext.new R hp _) (Rel.new R hp _) ⟨p, vs, rfl, ⟨upd_same, R.free hp, R.nb hp⟩, r.ext (Ext.new R hp _)⟩ h
theorem Got.tup (g : Got K S H q Q) (R : Rel K S H) {ds : List D} {vs : List V} (r : Rps K S H ds vs) (h : q (.tup ds) S) {p : Addr} (hp : H p = none) : Q (.ref p) (upd H p (.tup vs)) :=
  g (.tup ds) _ _ _ (Ext.new R hp _) (Rel.new R hp _) ⟨p, vs, rfl, .inl ⟨upd_same, R.free hp⟩, r.ext (Ext.new R hp _)⟩ h
end
/-- an operator by data: what is to be shown of its reading -/
theorem OpD.of {X : Cx} {f : Value → Value → Sem Value} {r : D → D → Sto → QD → Prop} {r1 : R2} (h : OpR X f r1)
    (i : ∀ (K : KB) dx dy x y S H q Q, K.k = X.K → Rel K S H → Rp K S H dx x → Rp K S H dy y → r dx dy S q → Got K S H q Q → r1 x y H Q) : OpD X f r :=
  fun B => h.imp fun x y H Q ⟨dx, dy, S, q, R, rx, ry, h, k⟩ => i _ dx dy x y S H q Q rfl R rx ry h k

/-! ### + - * // % ** -/
def rAddD : D → D → Sto → QD → Prop
  | .int i, .int j, S, q => q (.int (i + j)) S
  | .str a, .str b, S, q => a.length + b.length ≤ sizeLine ∧ q (.str (a ++ b)) S
  | .lst a, .lst b, S, q => a.length + b.length ≤ sizeLine ∧ q (.lst (a ++ b)) S
  | .tup a, .tup b, S, q => a.length + b.length ≤ sizeLine ∧ q (.tup (a ++ b)) S
  | _, _, _, _ => False
theorem mkS_append (a b : List Nat) : mkS (a ++ b) = mkS a ++ mkS b := by
  show (⟨(a ++ b).toArray⟩ : Str) = ⟨a.toArray ++ b.toArray⟩
  simp
theorem mkS_length (a : List Nat) : (mkS a).length = a.length := by show a.toArray.size = _; simp
theorem opd_add {X : Cx} : OpD X (binaryOp .Add) rAddD := OpD.of (op_add.or (op_add_str.or (op_cat.or op_catA))) fun K dx dy x y S H q Q hK R rx ry h g => by
  cases dx <;> cases dy <;> first | exact h.elim | skip
  · cases rx; cases ry; exact .inl ⟨_, _, rfl, rfl, g.int R h⟩
  · cases rx; cases ry
    refine .inr (.inl ⟨_, _, rfl, rfl, by rw [mkS_length, mkS_length]; exact h.1, ?_⟩)
    rw [← mkS_append]; exact g.str R h.2
  · obtain ⟨a, vs, rfl, la, ra⟩ := rx; obtain ⟨b, us, rfl, lb, rb⟩ := ry
    exact .inr (.inr (.inl ⟨a, b, vs, us, rfl, rfl, la.1, lb.1, by rw [← ra.length, ← rb.length]; exact h.1, fun p hp => g.lst R (ra.append rb) h.2 hp⟩))
  · obtain ⟨a, vs, rfl, la, ra⟩ := rx; obtain ⟨b, us, rfl, lb, rb⟩ := ry
    refine .inr (.inr (.inr ⟨a, b, vs, us, rfl, rfl, hK ▸ la.sq, hK ▸ lb.sq, by rw [← ra.length, ← rb.length]; exact h.1, fun z => ?_, fun _ z => ?_, fun _ _ p hp => g.tup R (ra.append rb) h.2 hp⟩))
    · subst z
      have e2 := List.eq_nil_of_length_eq_zero (by simpa using ra.length)
      subst e2
      exact g.val R (d := .tup _) ⟨b, us, rfl, lb, rb⟩ h.2
    · subst z
      have e2 := List.eq_nil_of_length_eq_zero (by simpa using rb.length)
      subst e2
      refine g.val R (d := .tup _) ⟨a, vs, rfl, la, ra⟩ ?_
      have := h.2
      rwa [List.append_nil] at this
def rSubD : D → D → Sto → QD → Prop
  | .int i, .int j, S, q => q (.int (i - j)) S
  | _, _, _, _ => False
theorem opd_sub {X : Cx} : OpD X (binaryOp .Sub) rSubD := OpD.of op_sub fun K dx dy x y S H q Q hK R rx ry h g => by
  cases dx <;> cases dy <;> first | exact h.elim | skip
  cases rx; cases ry; exact ⟨_, _, rfl, rfl, g.int R h⟩
def rModD : D → D → Sto → QD → Prop
  | .int i, .int j, S, q => 0 < j ∧ q (.int (i % j)) S
  | _, _, _, _ => False
theorem opd_mod {X : Cx} : OpD X (binaryOp .Mod) rModD := OpD.of op_mod fun K dx dy x y S H q Q hK R rx ry h g => by
  cases dx <;> cases dy <;> first | exact h.elim | skip
  cases rx; cases ry; exact ⟨_, _, rfl, rfl, h.1, g.int R h.2⟩
def rDivD : D → D → Sto → QD → Prop
  | .int i, .int j, S, q => CDivW i j ∧ q (.int (i / j)) S
  | _, _, _, _ => False
theorem opd_div {X : Cx} : OpD X (binaryOp .FloorDiv) rDivD := OpD.of op_fdivW fun K dx dy x y S H q Q hK R rx ry h g => by
  cases dx <;> cases dy <;> first | exact h.elim | skip
  cases rx; cases ry; exact ⟨_, _, rfl, rfl, h.1, g.int R h.2⟩
def rPowD : D → D → Sto → QD → Prop
  | .int i, .int j, S, q => CPow i j ∧ q (.int (i ^ j.toNat)) S
  | _, _, _, _ => False
theorem opd_pow {X : Cx} : OpD X (binaryOp .Pow) rPowD := OpD.of op_pow fun K dx dy x y S H q Q hK R rx ry h g => by
  cases dx <;> cases dy <;> first | exact h.elim | skip
  cases rx; cases ry; exact ⟨_, _, rfl, rfl, h.1, g.int R h.2⟩
/-- a text times an int -/
def rRepS : R2 := fun x y H Q => ∃ a k, x = .str a ∧ y = .int k ∧ -(2 ^ 63) ≤ k ∧ k < 2 ^ 63 ∧ a.length * k.toNat ≤ sizeLine ∧ Q (.str (mkS (List.replicate k.toNat a.cps.toList).flatten)) H
theorem fold_repS (a : List Nat) : ∀ (k : Nat) (acc : List Nat), ((List.replicate k a.toArray).foldl (· ++ ·) acc.toArray) = (acc ++ (List.replicate k a).flatten).toArray
  | 0, acc => by simp
  | k + 1, acc => by
    rw [List.replicate_succ, List.foldl_cons, List.replicate_succ, List.flatten_cons]
    have : acc.toArray ++ a.toArray = (acc ++ a).toArray := by simp
    rw [this, fold_repS a k (acc ++ a), List.append_assoc]
theorem op_repS {X : Cx} : OpR X (binaryOp .Mult) rRepS := by
  intro pins s σ H x y v u Q I rx ry h
  obtain ⟨a, k, rfl, rfl, h1, h2, hz, q⟩ := h
  obtain ⟨t, rfl⟩ := rx
  obtain ⟨t', rfl⟩ := ry
  refine PySem.P.mul_str (by rw [decide_eq_false (by omega), decide_eq_false (by omega)] <;> rfl) (fun hk hc => ?_) (fun hk hc => ?_) ?_
  · have hz' : ((a.length : Nat) : Int) * k ≤ sizeLine := by
      have : ((a.length * k.toNat : Nat) : Int) ≤ sizeLine := by exact_mod_cast hz
      rw [Int.natCast_mul, Int.toNat_of_nonneg (by omega)] at this
      exact this
    have b : (sizeLine : Int) ≤ 2 ^ 63 - 1 := by decide
    have b2 : ((a.length : Nat) : Int) * k ≤ 2 ^ 63 - 1 := Int.le_trans hz' b
    have b3 := (Int.le_ediv_iff_mul_le (show 0 < k by omega)).mpr b2
    exact Int.not_lt.mpr b3
  · exact decide_eq_false (by omega)
  · have e : ∀ k : Nat, (List.replicate k a.cps).foldl (· ++ ·) #[] = (List.replicate k a.cps.toList).flatten.toArray := fun k => by
      have := fold_repS a.cps.toList k []
      simpa using this
    split
    · rename_i hk
      have : k.toNat = 0 := by omega
      rw [this] at q
      exact ⟨by decide, ⟨.str _, H, I.tok _, ⟨_, rfl⟩, q⟩⟩
    · split
      · rename_i hk hc
        refine ⟨.str _, H, I.tok _, ⟨_, rfl⟩, ?_⟩
        have : (List.replicate k.toNat a.cps.toList).flatten = a.cps.toList := by
          rw [Bool.or_eq_true, beq_iff_eq, beq_iff_eq] at hc
          rcases hc with rfl | hc
          · simp
          · have e0 : a.cps.toList = [] := List.eq_nil_of_length_eq_zero (by rw [Array.length_toList]; exact hc)
            rw [e0]; simp
        rw [this] at q
        have e3 : mkS a.cps.toList = a := by
          cases a; simp [mkS]
        rwa [e3] at q
      · refine ⟨?_, ⟨.str _, H, I.tok _, ⟨_, rfl⟩, ?_⟩⟩
        · rw [e]
          have hl : ∀ k : Nat, ((List.replicate k a.cps.toList).flatten).length = a.length * k := fun k => by
            induction k with
            | zero => rfl
            | succ k ih => rw [List.replicate_succ, List.flatten_cons, List.length_append, ih, Nat.mul_succ, Array.length_toList, Nat.add_comm]; rfl
          have e3 : Str.length ⟨(List.replicate k.toNat a.cps.toList).flatten.toArray⟩ = a.length * k.toNat := by
            show Array.size _ = _
            rw [List.size_toArray]; exact hl _
          first | exact (by rw [e3]; exact hz) | (show Array.size _ ≤ _; rw [List.size_toArray, hl]; exact hz)
        · rw [e]; exact q
def rMulD : D → D → Sto → QD → Prop
  | .int i, .int j, S, q => (CMul i j ∨ CMulW i j) ∧ q (.int (i * j)) S
  | .lst a, .int j, S, q => -(2 ^ 63) ≤ j ∧ j < 2 ^ 63 ∧ a.length * j.toNat ≤ sizeLine ∧ q (.lst (List.replicate j.toNat a).flatten) S
  | .str a, .int j, S, q => -(2 ^ 63) ≤ j ∧ j < 2 ^ 63 ∧ a.length * j.toNat ≤ sizeLine ∧ q (.str (List.replicate j.toNat a).flatten) S
  | .tup a, .int j, S, q => (j = 1 ∨ (a ≠ [] ∧ 2 ≤ j ∧ j ≤ 1000 ∧ a.length ≤ 1000)) ∧ q (.tup (List.replicate j.toNat a).flatten) S
  | _, _, _, _ => False
theorem Rps.rep {K : KB} {S : Sto} {H : Hp} {ds : List D} {vs : List V} (r : Rps K S H ds vs) : ∀ n, Rps K S H (List.replicate n ds).flatten (List.replicate n vs).flatten
  | 0 => rfl
  | n + 1 => by rw [List.replicate_succ, List.replicate_succ, List.flatten_cons, List.flatten_cons]; exact r.append (Rps.rep r n)
theorem opd_mul {X : Cx} : OpD X (binaryOp .Mult) rMulD := OpD.of (op_mul.or (op_mulW.or (op_rep.or (op_repS.or (op_repT.or op_repT1))))) fun K dx dy x y S H q Q hK R rx ry h g => by
  cases dx <;> cases dy <;> first | exact h.elim | skip
  · cases rx; cases ry
    rcases h.1 with c | c
    · exact .inl ⟨_, _, rfl, rfl, c, g.int R h.2⟩
    · exact .inr (.inl ⟨_, _, rfl, rfl, c, g.int R h.2⟩)
  · cases rx; cases ry
    refine .inr (.inr (.inr (.inl ⟨_, _, rfl, rfl, h.1, h.2.1, by rw [mkS_length]; exact h.2.2.1, ?_⟩)))
    have e : ∀ cs : List Nat, (mkS cs).cps.toList = cs := fun cs => by simp [mkS]
    rw [e]
    exact g.str R h.2.2.2
  · obtain ⟨a, vs, rfl, la, ra⟩ := rx; cases ry
    exact .inr (.inr (.inl ⟨a, _, vs, rfl, rfl, la.1, h.1, h.2.1, by rw [← ra.length]; exact h.2.2.1, fun p hp => g.lst R (Rps.rep ra _) h.2.2.2 hp⟩))
  · obtain ⟨a, vs, rfl, la, ra⟩ := rx; cases ry
    rcases h.1 with e1 | ⟨c1, c2, c3, c4⟩
    · subst e1
      refine .inr (.inr (.inr (.inr (.inr ⟨a, vs, rfl, rfl, hK ▸ la.sq, g.val R (d := .tup _) ⟨a, vs, rfl, la, ra⟩ ?_⟩))))
      have := h.2
      simpa using this
    · refine .inr (.inr (.inr (.inr (.inl ⟨a, _, vs, rfl, rfl, hK ▸ la.sq, fun z => c1 ?_, c2, c3, by rw [← ra.length]; exact c4, fun p hp => g.tup R (Rps.rep ra _) h.2 hp⟩))))
      have := ra.length
      rw [z] at this
      exact List.eq_nil_of_length_eq_zero this
/-! ### order of ints, of texts -/
def rOrd (f : Int → Int → Bool) (g : List Nat → List Nat → Bool) : D → D → Sto → QD → Prop
  | .int i, .int j, S, q => q (.bl (f i j)) S
  | .str a, .str b, S, q => q (.bl (g a b)) S
  | _, _, _, _ => False
theorem ord_of {X : Cx} {op : CmpOp} {f : Int → Int → Bool} {g : List Nat → List Nat → Bool} (h1 : OpR X (compareOp op) (rI0 fun i j => .bl (f i j)))
    (h2 : OpR X (compareOp op) (fun x y H Q => ∃ i j, x = .str i ∧ y = .str j ∧ Q (.bl (g i.cps.toList j.cps.toList)) H)) : OpD X (compareOp op) (rOrd f g) := OpD.of (h1.or h2) fun K dx dy x y S H q Q hK R rx ry h g' => by
  cases dx <;> cases dy <;> first | exact h.elim | skip
  · cases rx; cases ry; exact .inl ⟨_, _, rfl, rfl, g'.bl R h⟩
  · cases rx; cases ry; exact .inr ⟨_, _, rfl, rfl, g'.bl R h⟩
def rLtD := rOrd (fun i j => decide (i < j)) fun a b => decide (a < b)
def rGtD := rOrd (fun i j => decide (j < i)) fun a b => decide (b < a)
def rLeD := rOrd (fun i j => decide (i ≤ j)) fun a b => !decide (b < a)
def rGeD := rOrd (fun i j => decide (j ≤ i)) fun a b => !decide (a < b)
theorem opd_lt {X : Cx} : OpD X (compareOp .Lt) rLtD := ord_of op_lt op_lt_str
theorem opd_gt {X : Cx} : OpD X (compareOp .Gt) rGtD := ord_of op_gt op_gt_str
theorem opd_le {X : Cx} : OpD X (compareOp .LtE) rLeD := ord_of op_le op_le_str
theorem opd_ge {X : Cx} : OpD X (compareOp .GtE) rGeD := ord_of op_ge op_ge_str

/-! ### == of data -/
mutual
def toP : D → PyData
  | .non => .none
  | .bl b => .bool b
  | .int i => .int i
  | .str cs => .str (mkS cs)
  | .lst xs => .list (toPs xs)
  | .tup xs => .tuple (toPs xs)
  | .rol xs => .list (toPs xs)
  | .ref _ => .dict []
  | .ty _ => .dict []
  | .clo _ _ _ => .dict []
def toPs : List D → List PyData
  | [] => []
  | d :: ds => toP d :: toPs ds
end
/-- can be compared by == : plain all through, not too deep -/
def eqOk (d : D) : Bool := SeqAt.shaped (toP d)
def deq (a b : D) : Bool := PyData.eqv (toP a) (toP b)
section
variable {K : KB} {S : Sto} {H : Hp}
mutual
theorem Rp.dp : ∀ {d : D} {v : V}, Rp K S H d v → PyData.canLay0 (toP d) = true → Dp K.k H v (toP d)
  | .non, _, h, _ => by cases h; exact .non
  | .bl _, _, h, _ => by cases h; exact .bl _
  | .int _, _, h, _ => by cases h; exact .int _
  | .str _, _, h, _ => by cases h; exact .str _
  | .lst _, _, ⟨a, vs, e1, l, r⟩, c => by cases e1; exact .lst l.sq (Rps.dp r c)
  | .tup _, _, ⟨a, vs, e1, l, r⟩, c => by cases e1; exact .tup l.sq (Rps.dp r c)
  | .rol _, _, ⟨a, vs, e1, l, r⟩, c => by cases e1; exact .lst l.sq (Rps.dp r c)
  | .ref _, _, _, c => by cases c
  | .ty _, _, _, c => by cases c
  | .clo _ _ _, _, _, c => by cases c
theorem Rps.dp : ∀ {ds : List D} {vs : List V}, Rps K S H ds vs → PyData.canLayAll0 (toPs ds) = true → DpAll K.k H vs (toPs ds)
  | [], _, h, _ => by cases h; exact .nil
  | _ :: _, _, ⟨v, r, e1, h, t⟩, c => by
    cases e1
    have c' : (_ && _) = true := c
    rw [Bool.and_eq_true] at c'
    exact .cons (h.dp c'.1) (Rps.dp t c'.2)
end
end
/-- a list of the store as its items -/
def unR (S : Sto) (x : D) : D := match x with
  | .ref a => (match S a with
    | some (.lst ds) => .lst ds
    | _ => .ref a)
  | x => x
theorem unR_ok {S : Sto} {x : D} (h : eqOk x = true) : unR S x = x := by
  cases x <;> first | rfl | skip
  have := SeqAt.canLay_of_shaped h
  cases this
theorem unR_ref {S : Sto} {a : Addr} {ds : List D} (h : S a = some (.lst ds)) : unR S (.ref a) = .lst ds := by
  unfold unR
  dsimp only
  rw [h]
theorem Rp.dpR {K : KB} {S : Sto} {H : Hp} (R : Rel K S H) {d : D} {v : V} (h : Rp K S H d v) (c : PyData.canLay0 (toP (unR S d)) = true) : Dp K.k H v (toP (unR S d)) := by
  cases d with
  | ref a =>
    cases eS : S a with
    | none =>
      have e : unR S (.ref a) = .ref a := by unfold unR; dsimp only; rw [eS]
      rw [e] at c
      cases c
    | some o =>
      cases o with
      | lst ds =>
        rw [unR_ref eS] at c ⊢
        cases h
        obtain ⟨vs, hH, r⟩ := (show ∃ vs, H a = some (.lst vs) ∧ Rps _ S H ds vs from R.ob a _ eS)
        exact .lst (SqL.of hH) (Rps.dp r c)
      | _ =>
        have e : unR S (.ref a) = .ref a := by unfold unR; dsimp only; rw [eS]
        rw [e] at c
        cases c
  | _ => exact h.dp c
def rEqD' : D → D → Sto → QD → Prop := fun x y S q => (eqOk (unR S x) = true ∧ eqOk (unR S y) = true ∧ q (.bl (deq (unR S x) (unR S y))) S) ∨ ∃ a b, x = .str a ∧ y = .str b ∧ q (.bl (decide (a = b))) S
def rNeD' : D → D → Sto → QD → Prop := fun x y S q => (eqOk (unR S x) = true ∧ eqOk (unR S y) = true ∧ q (.bl (!deq (unR S x) (unR S y))) S) ∨ ∃ a b, x = .str a ∧ y = .str b ∧ q (.bl (!decide (a = b))) S
theorem mkS_inj {a b : List Nat} (h : mkS a = mkS b) : a = b := by
  have := congrArg (fun z => z.cps.toList) h
  simpa using this
theorem dec_mkS {a b : List Nat} : decide (V.str (mkS a) = V.str (mkS b)) = decide (a = b) := by
  by_cases h : a = b
  · subst h; simp
  · have : V.str (mkS a) ≠ V.str (mkS b) := fun z => h (mkS_inj (V.str.inj z))
    rw [decide_eq_false h, decide_eq_false this]
theorem opd_eq {X : Cx} (hu : X.A.units + 64 < cLine) : OpD X (compareOp .Eq) rEqD' := OpD.of ((op_eqD hu).or op_eq) fun K dx dy x y S H q Q hK R rx ry h g => by
  rcases h with h | ⟨a, b, rfl, rfl, h⟩
  · exact .inl ⟨toP (unR S dx), toP (unR S dy), hK ▸ Rp.dpR R rx (SeqAt.canLay_of_shaped h.1), hK ▸ Rp.dpR R ry (SeqAt.canLay_of_shaped h.2.1), h.1, h.2.1, g.bl R h.2.2⟩
  · cases rx; cases ry
    exact .inr ⟨rfl, by rw [dec_mkS]; exact g.bl R h⟩
theorem opd_ne {X : Cx} (hu : X.A.units + 64 < cLine) : OpD X (compareOp .NotEq) rNeD' := OpD.of ((op_neD hu).or op_ne) fun K dx dy x y S H q Q hK R rx ry h g => by
  rcases h with h | ⟨a, b, rfl, rfl, h⟩
  · exact .inl ⟨toP (unR S dx), toP (unR S dy), hK ▸ Rp.dpR R rx (SeqAt.canLay_of_shaped h.1), hK ▸ Rp.dpR R ry (SeqAt.canLay_of_shaped h.2.1), h.1, h.2.1, g.bl R h.2.2⟩
  · cases rx; cases ry
    exact .inr ⟨rfl, by rw [dec_mkS]; exact g.bl R h⟩
/-! ### is None -/
def isNon : D → Bool
  | .non => true
  | _ => false
theorem Rp.isNon {K : KB} {S : Sto} {H : Hp} {d : D} {v : V} (r : Rp K S H d v) : decide (v = .non) = isNon d := by
  cases d with
  | non => cases r; rfl
  | bl _ => cases r; rfl
  | int _ => cases r; rfl
  | str _ => cases r; rfl
  | lst _ => obtain ⟨_, _, e, _⟩ := r; subst e; rfl
  | tup _ => obtain ⟨_, _, e, _⟩ := r; subst e; rfl
  | rol _ => obtain ⟨_, _, e, _⟩ := r; subst e; rfl
  | ref _ => cases r; rfl
  | ty _ => cases r; rfl
  | clo _ _ _ => obtain ⟨_, e, _⟩ := r; subst e; rfl
def rIsD : D → D → Sto → QD → Prop := fun x y S q => isNon y = true ∧ q (.bl (isNon x)) S
def rIsNotD : D → D → Sto → QD → Prop := fun x y S q => isNon y = true ∧ q (.bl (!isNon x)) S
theorem opd_is {X : Cx} : OpD X (compareOp .Is) rIsD := OpD.of op_isN fun K dx dy x y S H q Q hK R rx ry h g => by
  refine ⟨of_decide_eq_true (ry.isNon.trans h.1), ?_⟩
  rw [rx.isNon]; exact g.bl R h.2
theorem opd_isnot {X : Cx} : OpD X (compareOp .IsNot) rIsNotD := OpD.of op_notN fun K dx dy x y S H q Q hK R rx ry h g => by
  refine ⟨of_decide_eq_true (ry.isNon.trans h.1), ?_⟩
  rw [rx.isNon]; exact g.bl R h.2
/-! ### in -/
/-- flat things: None, bools, ints, texts -/
def flatD : D → Bool
  | .non | .bl _ | .int _ | .str _ => true
  | _ => false
theorem Rp.flat {K : KB} {S : Sto} {H : Hp} {d : D} {v : V} (r : Rp K S H d v) (f : flatD d = true) : flatV v = true := by
  cases d with
  | non => cases r; rfl
  | bl _ => cases r; rfl
  | int _ => cases r; rfl
  | str _ => cases r; rfl
  | lst _ => cases f
  | tup _ => cases f
  | rol _ => cases f
  | ref _ => cases f
  | ty _ => cases f
  | clo _ _ _ => cases f
theorem Rps.flat {K : KB} {S : Sto} {H : Hp} : ∀ {ds : List D} {vs : List V}, Rps K S H ds vs → ds.all flatD = true → vs.all flatV = true
  | [], _, h, _ => by cases h; rfl
  | _ :: _, _, ⟨v, r, e1, h, t⟩, c => by
    cases e1
    rw [List.all_cons, Bool.and_eq_true] at c ⊢
    exact ⟨h.flat c.1, Rps.flat t c.2⟩
theorem Rp.eqV {K : KB} {S : Sto} {H : Hp} {d e : D} {v u : V} (r : Rp K S H d v) (s : Rp K S H e u) (f : flatD d = true) (g : flatD e = true) : eqV v u = deq d e := by
  cases d <;> first | cases f; done | skip
  all_goals (cases e <;> first | cases g; done | skip)
  all_goals (cases r; cases s; rfl)
def inD (x : D) (ds : List D) : Bool := ds.any fun d => deq d x
theorem Rps.inV {K : KB} {S : Sto} {H : Hp} {d : D} {v : V} (r : Rp K S H d v) (f : flatD d = true) : ∀ {ds : List D} {vs : List V}, Rps K S H ds vs → ds.all flatD = true → L2.inV v vs = inD d ds
  | [], _, h, _ => by cases h; rfl
  | _ :: _, _, ⟨u, r', e1, h, t⟩, c => by
    cases e1
    rw [List.all_cons, Bool.and_eq_true] at c
    show (L2.eqV u v || L2.inV v r') = (deq _ d || inD d _)
    rw [Rp.eqV h r c.1 f, Rps.inV r f t c.2]
def subB (cs a : List Nat) : Bool := !(Builtin.Str.occurrences (mkS cs) (mkS a) 0 cs.length 1).isEmpty
def inS (n : Bool) (cs a : List Nat) (S : Sto) (q : QD) : Prop := match a with
  | [c] => q (.bl (if n then !decide (c ∈ cs) else decide (c ∈ cs))) S
  | a => q (.bl (if n then !subB cs a else subB cs a)) S
def inK (n : Bool) (kvs : List (Key × D)) (o : Option Key) (S : Sto) (q : QD) : Prop := match o with
  | some k => q (.bl (if n then !(valD kvs k).isSome else (valD kvs k).isSome)) S
  | none => False
def inO (n : Bool) (x : D) (o : Option O) (S : Sto) (q : QD) : Prop := match o with
  | some (.lst ds) => flatD x = true ∧ ds.all flatD = true ∧ q (.bl (if n then !inD x ds else inD x ds)) S
  | some (.dct kvs) => inK n kvs (keyD x) S q
  | _ => False
def rInD (n : Bool) (x y : D) (S : Sto) (q : QD) : Prop := match y with
  | .str cs => (match x with
    | .str a => inS n cs a S q
    | _ => False)
  | .lst ds => flatD x = true ∧ ds.all flatD = true ∧ q (.bl (if n then !inD x ds else inD x ds)) S
  | .tup ds => flatD x = true ∧ ds.all flatD = true ∧ q (.bl (if n then !inD x ds else inD x ds)) S
  | .ref a => inO n x (S a) S q
  | _ => False
theorem in_up {K : KB} {n : Bool} {S : Sto} {H : Hp} {q : QD} {Q : VK} (R : Rel K S H) (g : Got K S H q Q) {dx : D} {x : V} (rx : Rp K S H dx x) {a : Addr} {vs : List V} {ds : List D} (l : SqL K.k H a vs ∨ SqT K.k H a vs) (r : Rps K S H ds vs)
    (h : flatD dx = true ∧ ds.all flatD = true ∧ q (.bl (if n then !inD dx ds else inD dx ds)) S)   : rIn K.k n x (.ref a) H Q := by
  refine ⟨a, vs, rfl, l, rx.flat h.1, r.flat h.2.1, ?_⟩
  rw [Rps.inV rx h.1 r h.2.1]
  exact g.bl R h.2.2
theorem in_all {X : Cx} (n : Bool) (op : CmpOp) (h1 : OpR X (compareOp op) fun x y H Q => ∃ (c : Nat) (z : Str), x = .str ⟨#[c]⟩ ∧ y = .str z ∧ Q (.bl (if n then !decide (c ∈ z.cps.toList) else decide (c ∈ z.cps.toList))) H)
    (h2 : OpR X (compareOp op) fun x y H Q => ∃ i j, x = .str i ∧ y = .str j ∧ Q (.bl (if n then !(!(Builtin.Str.occurrences j i 0 j.length 1).isEmpty) else !(Builtin.Str.occurrences j i 0 j.length 1).isEmpty)) H)
    (h3 : OpR X (compareOp op) (rIn X.K n)) (h4 : OpR X (compareOp op) fun y x H Q => ∃ a o, x = .ref a ∧ DGet H a y o ∧ Q (.bl (if n then !o.isSome else o.isSome)) H) : OpD X (compareOp op) (rInD n) := OpD.of (h1.or (h2.or (h3.or h4))) fun K dx dy x y S H q Q hK R rx ry h g => by
  cases dy with
  | str cs =>
    cases ry
    cases dx with
    | str a =>
      cases rx
      match a, h with
      | [c], h => exact .inl ⟨c, mkS cs, rfl, rfl, g.bl R h⟩
      | [], h => exact .inr (.inl ⟨_, _, rfl, rfl, g.bl R (by rw [mkS_length]; exact h)⟩)
      | _ :: _ :: _, h => exact .inr (.inl ⟨_, _, rfl, rfl, g.bl R (by rw [mkS_length]; exact h)⟩)
    | _ => exact False.elim h
  | lst ds =>
    obtain ⟨a, vs, rfl, la, ra⟩ := ry
    have h' : flatD dx = true ∧ ds.all flatD = true ∧ q (.bl (if n then !inD dx ds else inD dx ds)) S := h
    exact .inr (.inr (.inl (hK ▸ in_up R g rx (.inl la.sq) ra h')))
  | tup ds =>
    obtain ⟨a, vs, rfl, la, ra⟩ := ry
    have h' : flatD dx = true ∧ ds.all flatD = true ∧ q (.bl (if n then !inD dx ds else inD dx ds)) S := h
    exact .inr (.inr (.inl (hK ▸ in_up R g rx (.inr la.sq) ra h')))
  | ref a =>
    cases ry
    have h : inO n dx (S a) S q := h
    cases e : S a with
    | none => rw [e] at h; exact h.elim
    | some o =>
      rw [e] at h
      cases o with
      | lst ds =>
        obtain ⟨vs, e1, ra⟩ := (show ∃ vs, H a = some (.lst vs) ∧ Rps _ S H ds vs from R.ob a _ e)
        exact .inr (.inr (.inl (hK ▸ in_up R g rx (.inl (SqL.of e1)) ra h)))
      | dct kvs =>
        obtain ⟨vs, e1, ra⟩ := dct_up R e
        have h : inK n kvs (keyD dx) S q := h
        unfold inK at h
        split at h
        · rename_i k ek
          have ev := rx.key ek
          subst ev
          refine .inr (.inr (.inr ⟨a, _, rfl, DGet.k e1, ?_⟩))
          rw [val_is ra]
          exact g.bl R h
        · exact h.elim
      | ins _ _ => exact h.elim
      | xd _ => exact h.elim
      | cell _ _ => exact h.elim
      | tbl _ => exact h.elim
  | _ => exact False.elim h
theorem opd_in {X : Cx} (hu : X.A.units + 1 < cLine) : OpD X (compareOp .In) (rInD false) := in_all false .In op_in_sign op_in_str op_in_seq (op_din hu)
theorem opd_notin {X : Cx} (hu : X.A.units + 1 < cLine) : OpD X (compareOp .NotIn) (rInD true) := in_all true .NotIn op_notIn_sign op_notin_str op_notIn_seq (op_dnotin hu)
/-! ### - -/
def rNegD : D → Sto → QD → Prop
  | .int i, S, q => q (.int (-i)) S
  | _, _, _ => False
def UnD (X : Cx) (f : Value → Sem Value) (r : D → Sto → QD → Prop) : Prop := ∀ B, UnR X f fun x H Q => ∃ dx S q, Rel ⟨X.K, B⟩ S H ∧ Rp ⟨X.K, B⟩ S H dx x ∧ r dx S q ∧ Got ⟨X.K, B⟩ S H q Q
theorem _root_.L2.UnR.imp {X : Cx} {f : Value → Sem Value} {r r' : V → Hp → VK → Prop} (h : UnR X f r) (i : ∀ x H Q, r' x H Q → r x H Q) : UnR X f r' := fun pins s σ H x v Q I rx q => h pins s σ H x v Q I rx (i x H Q q)
theorem und_neg {X : Cx} : UnD X (unaryOp .USub) rNegD := fun B => un_neg.imp fun x H Q ⟨dx, S, q, R, rx, h, g⟩ => by
  cases dx <;> first | exact h.elim | skip
  cases rx; exact ⟨_, rfl, g.int R h⟩
theorem pd_un {X : Cx} {a : Expr} {op : UnaryOp} {r : D → Sto → QD → Prop} {ta : ED} {pos : Pos} (ho : UnD X (unaryOp op) r) (ha : PD X a ta) : PD X (.UnaryOp op a pos) (eUn r ta) :=
  ⟨fun B W tk => (pe_un (ho B) (ha.up B W tk)).imp fun σ H Q h => by
    obtain ⟨ρ, S, q, w, R, L, O, h, k⟩ := h
    exact ⟨ρ, S, _, w, R, L, O, h, fun d v S1 H1 e1 R1 r1 q1 => ⟨d, S1, q, R1, r1, q1, fun d2 v2 S2 H2 e2 => k d2 v2 S2 H2 (e1.trans e2)⟩⟩⟩
end DL

namespace DL
open PySem PySem.Spec PyProof.Rows L2

/-! ### truth -/
def truO (o : Option O) (k : Bool → Prop) : Prop := match o with
  | some (.lst ds) => k (!ds.isEmpty)
  | some (.dct kvs) => k (!kvs.isEmpty)
  | _ => False
def tru (x : D) (S : Sto) (k : Bool → Prop) : Prop := match x with
  | .non => k false
  | .bl b => k b
  | .int i => k (i != 0)
  | .str cs => cs.length ≤ sizeLine ∧ k (!cs.isEmpty)
  | .lst ds => k (!ds.isEmpty)
  | .tup ds => k (!ds.isEmpty)
  | .rol ds => k (!ds.isEmpty)
  | .ref a => truO (S a) k
  | .ty _ => False
  | .clo _ _ _ => False
theorem Rps.isEmpty {K : KB} {S : Sto} {H : Hp} {ds : List D} {vs : List V} (r : Rps K S H ds vs) : vs.isEmpty = ds.isEmpty := by
  cases ds with
  | nil => cases r; rfl
  | cons d ds => obtain ⟨_, _, e, _⟩ := r; subst e; rfl
theorem tru_up {K : KB} {S : Sto} {H : Hp} {d : D} {v : V} (R : Rel K S H) (r : Rp K S H d v) {k : Bool → Prop} (h : tru d S k) : ∃ b, TruV K.k v H b ∧ k b := by
  cases d with
  | non => cases r; exact ⟨_, rfl, h⟩
  | bl b => cases r; exact ⟨_, rfl, h⟩
  | int i => cases r; exact ⟨_, rfl, h⟩
  | str cs =>
    cases r
    refine ⟨_, ⟨by rw [mkS_length]; exact h.1, rfl⟩, ?_⟩
    have e : (((mkS cs).length : Int) != 0) = !cs.isEmpty := by
      rw [mkS_length]
      cases cs with
      | nil => rfl
      | cons a l => simp; omega
    rw [e]; exact h.2
  | lst ds => obtain ⟨a, vs, rfl, l, r⟩ := r; exact ⟨_, .inl ⟨vs, l.sq, rfl⟩, by rw [r.isEmpty]; exact h⟩
  | tup ds => obtain ⟨a, vs, rfl, l, r⟩ := r; exact ⟨_, .inr (.inl ⟨vs, l.sq, rfl⟩), by rw [r.isEmpty]; exact h⟩
  | rol ds => obtain ⟨a, vs, rfl, l, r⟩ := r; exact ⟨_, .inl ⟨vs, l.sq, rfl⟩, by rw [r.isEmpty]; exact h⟩
  | ref a =>
    cases r
    have h : truO (S a) k := h
    cases e : S a with
    | none => rw [e] at h; exact h.elim
    | some o =>
      rw [e] at h
      have ro := R.ob a o e
      cases o with
      | lst ds =>
        obtain ⟨vs, e1, r⟩ := (show ∃ vs, H a = some (.lst vs) ∧ Rps K S H ds vs from ro)
        exact ⟨_, .inl ⟨vs, SqL.of e1, rfl⟩, by rw [r.isEmpty]; exact h⟩
      | ins C fs => exact h.elim
      | xd _ => exact h.elim
      | cell _ _ => exact h.elim
      | tbl _ => exact h.elim
      | dct kvs =>
        obtain ⟨vs, e1, r⟩ := (show ∃ vs, H a = some (.dK ((kvs.map (·.1)).zip vs)) ∧ Rps K S H (kvs.map (·.2)) vs from ro)
        refine ⟨_, .inr (.inr ⟨_, e1, rfl⟩), ?_⟩
        have hl := r.length
        have e2 : ((kvs.map (·.1)).zip vs).isEmpty = kvs.isEmpty := by
          cases kvs with
          | nil => rfl
          | cons a l =>
            cases vs with
            | nil => simp at hl
            | cons _ _ => rfl
        rw [e2]; exact h
  | ty n => exact h.elim
  | clo _ _ _ => exact h.elim

/-! ### tests -/
def asB (k : Bool → Sto → Prop) : QD := fun d S => match d with
  | .bl b => k b S
  | _ => False
theorem asB_up {K : KB} {S : Sto} {H : Hp} {d : D} {v : V} {k : Bool → Sto → Prop} (r : Rp K S H d v) (h : asB k d S) : ∃ b, v = .bl b ∧ k b S := by
  cases d <;> first | exact h.elim | skip
  cases r; exact ⟨_, rfl, h⟩
/-- the value is True or False -/
def eB (t : ED) : TD := fun w ρ S k => t w ρ S (asB k)
/-- the value's truth -/
def eTr (t : ED) : TD := fun w ρ S k => t w ρ S fun d S1 => tru d S1 fun b => k b S1
theorem pdt_cmp {X : Cx} {a b : Expr} {op : CmpOp} {r : D → D → Sto → QD → Prop} {ta tb : ED} {pos : Pos} (ho : OpD X (compareOp op) r) (ha : PD X a ta) (hb : PD X b tb) (hm : behindInMarks op b = false) : PDT X (.Compare a [op] [b] pos) (eB (eOp r ta tb)) :=
  ⟨fun B W tk => (pt_cmpR (ho B) (ha.up B W tk) (hb.up B W tk) hm).imp fun σ H Q h => by
    obtain ⟨ρ, S, q, w, R, L, O, h, k⟩ := h
    refine two_up R L O h fun dx dy x y S' H' e R' rx ry q' => ⟨dx, dy, S', _, R', rx, ry, q', fun d v S2 H2 e2 R2 r2 q2 => ?_⟩
    obtain ⟨b, rfl, q3⟩ := asB_up r2 q2
    exact ⟨b, rfl, k b S2 H2 (e.trans e2) R2 q3⟩⟩
theorem pdt_tr {X : Cx} {a : Expr} {ta : ED} (ha : PD X a ta) (he : ∀ whole, isTrue a X.env whole = (do let v ← whole; standAt a.pos; holding [v] (truthy v))) : PDT X a (eTr ta) :=
  ⟨fun B W tk => (pt_truth (ha.up B W tk) he).imp fun σ H Q h => by
    obtain ⟨ρ, S, q, w, R, L, O, h, k⟩ := h
    refine ⟨ρ, S, _, w, R, L, O, h, fun d v S1 H1 e1 R1 r1 q1 => ?_⟩
    obtain ⟨b, t, q2⟩ := tru_up R1 r1 q1
    exact ⟨b, t, k b S1 H1 e1 R1 q2⟩⟩
def eNotT (t : TD) : TD := fun w ρ S k => t w ρ S fun b S1 => k (!b) S1
theorem pdt_not {X : Cx} {a : Expr} {ta : TD} {pos : Pos} (ha : PDT X a ta) : PDT X (.UnaryOp .Not a pos) (eNotT ta) :=
  ⟨fun B W tk => (pt_not (ha.up B W tk)).imp fun σ H Q h => by
    obtain ⟨ρ, S, q, w, R, L, O, h, k⟩ := h
    exact ⟨ρ, S, _, w, R, L, O, h, fun b S1 H1 e1 R1 q1 => k _ S1 H1 e1 R1 q1⟩⟩
def eAndT (a b : TD) : TD := fun w ρ S k => a w ρ S fun c S1 => if c = true then b w ρ S1 k else k false S1
def eOrT (a b : TD) : TD := fun w ρ S k => a w ρ S fun c S1 => if c = true then k true S1 else b w ρ S1 k
theorem pdw_and1 {X : Cx} {a : Expr} {ta : TD} {pos : Pos} (ha : PDT X a ta) : PDW X (.BoolOp .And [a] pos) ta := ⟨fun B W tk => pw_and1 (ha.up B W tk)⟩
theorem pdw_or1 {X : Cx} {a : Expr} {ta : TD} {pos : Pos} (ha : PDT X a ta) : PDW X (.BoolOp .Or [a] pos) ta := ⟨fun B W tk => pw_or1 (ha.up B W tk)⟩
theorem pdw_and {X : Cx} {a b : Expr} {rest : List Expr} {ta tb : TD} {pos : Pos} (ha : PDT X a ta) (hb : PDW X (.BoolOp .And (b :: rest) pos) tb) : PDW X (.BoolOp .And (a :: b :: rest) pos) (eAndT ta tb) :=
  ⟨fun B W tk => (pw_and (ha.up B W tk) (hb.up B W tk)).imp fun σ H Q h => by
    obtain ⟨ρ, S, q, w, R, L, O, h, k⟩ := h
    refine ⟨ρ, S, _, w, R, L, O, h, fun b S1 H1 e1 R1 q1 => ?_⟩
    cases b with
    | true => exact ⟨ρ, S1, _, w, R1, L.ext e1, O.ext e1, q1, fun b S2 H2 e2 => k b S2 H2 (e1.trans e2)⟩
    | false => exact k _ S1 H1 e1 R1 q1⟩
theorem pdw_or {X : Cx} {a b : Expr} {rest : List Expr} {ta tb : TD} {pos : Pos} (ha : PDT X a ta) (hb : PDW X (.BoolOp .Or (b :: rest) pos) tb) : PDW X (.BoolOp .Or (a :: b :: rest) pos) (eOrT ta tb) :=
  ⟨fun B W tk => (pw_or (ha.up B W tk) (hb.up B W tk)).imp fun σ H Q h => by
    obtain ⟨ρ, S, q, w, R, L, O, h, k⟩ := h
    refine ⟨ρ, S, _, w, R, L, O, h, fun b S1 H1 e1 R1 q1 => ?_⟩
    cases b with
    | true => exact k _ S1 H1 e1 R1 q1
    | false => exact ⟨ρ, S1, _, w, R1, L.ext e1, O.ext e1, q1, fun b S2 H2 e2 => k b S2 H2 (e1.trans e2)⟩⟩
theorem PDW.pdt {X : Cx} {e : Expr} {t : TD} (h : PDW X e t) : PDT X e t := ⟨fun B W tk => (h.up B W tk).pt⟩
/-- not, and, or as values -/
def eNot (t : ED) : ED := fun w ρ S q => t w ρ S fun d S1 => tru d S1 fun b => q (.bl (!b)) S1
def eAnd (a b : ED) : ED := fun w ρ S q => a w ρ S fun d S1 => tru d S1 fun c => if c = true then b w ρ S1 q else q d S1
def eOr (a b : ED) : ED := fun w ρ S q => a w ρ S fun d S1 => tru d S1 fun c => if c = true then q d S1 else b w ρ S1 q
theorem pd_not {X : Cx} {a : Expr} {ta : ED} {pos : Pos} (ha : PD X a ta) : PD X (.UnaryOp .Not a pos) (eNot ta) :=
  ⟨fun B W tk => (pe_notT (ha.up B W tk)).imp fun σ H Q h => by
    obtain ⟨ρ, S, q, w, R, L, O, h, k⟩ := h
    refine ⟨ρ, S, _, w, R, L, O, h, fun d v S1 H1 e1 R1 r1 q1 => ?_⟩
    obtain ⟨b, t, q2⟩ := tru_up R1 r1 q1
    exact ⟨b, t, k (.bl _) _ S1 H1 e1 R1 rfl q2⟩⟩
theorem pd_one {X : Cx} {a : Expr} {op : BoolOp} {ta : ED} {pos : Pos} (ha : PD X a ta) : PD X (.BoolOp op [a] pos) ta := ⟨fun B W tk => pe_one (ha.up B W tk)⟩
theorem pd_and {X : Cx} {a b : Expr} {rest : List Expr} {ta tb : ED} {pos : Pos} (ha : PD X a ta) (hb : PD X (.BoolOp .And (b :: rest) pos) tb) : PD X (.BoolOp .And (a :: b :: rest) pos) (eAnd ta tb) :=
  ⟨fun B W tk => (pe_andT (ha.up B W tk) (hb.up B W tk)).imp fun σ H Q h => by
    obtain ⟨ρ, S, q, w, R, L, O, h, k⟩ := h
    refine ⟨ρ, S, _, w, R, L, O, h, fun d v S1 H1 e1 R1 r1 q1 => ?_⟩
    obtain ⟨b, t, q2⟩ := tru_up R1 r1 q1
    refine ⟨b, t, ?_⟩
    cases b with
    | true => exact ⟨ρ, S1, _, w, R1, L.ext e1, O.ext e1, q2, fun d v S2 H2 e2 => k d v S2 H2 (e1.trans e2)⟩
    | false => exact k d v S1 H1 e1 R1 r1 q2⟩
theorem pd_or {X : Cx} {a b : Expr} {rest : List Expr} {ta tb : ED} {pos : Pos} (ha : PD X a ta) (hb : PD X (.BoolOp .Or (b :: rest) pos) tb) : PD X (.BoolOp .Or (a :: b :: rest) pos) (eOr ta tb) :=
  ⟨fun B W tk => (pe_orT (ha.up B W tk) (hb.up B W tk)).imp fun σ H Q h => by
    obtain ⟨ρ, S, q, w, R, L, O, h, k⟩ := h
    refine ⟨ρ, S, _, w, R, L, O, h, fun d v S1 H1 e1 R1 r1 q1 => ?_⟩
    obtain ⟨b, t, q2⟩ := tru_up R1 r1 q1
    refine ⟨b, t, ?_⟩
    cases b with
    | true => exact k d v S1 H1 e1 R1 r1 q2
    | false => exact ⟨ρ, S1, _, w, R1, L.ext e1, O.ext e1, q2, fun d v S2 H2 e2 => k d v S2 H2 (e1.trans e2)⟩⟩
def eIf (c : TD) (a b : ED) : ED := fun w ρ S q => c w ρ S fun k S1 => if k = true then a w ρ S1 q else b w ρ S1 q
theorem pd_ifExp {X : Cx} {c a b : Expr} {tc : TD} {ta tb : ED} {pos : Pos} (hc : PDT X c tc) (ha : PD X a ta) (hb : PD X b tb) : PD X (.IfExp c a b pos) (eIf tc ta tb) :=
  ⟨fun B W tk => (pe_ifExp (hc.up B W tk) (ha.up B W tk) (hb.up B W tk)).imp fun σ H Q h => by
    obtain ⟨ρ, S, q, w, R, L, O, h, k⟩ := h
    refine ⟨ρ, S, _, w, R, L, O, h, fun b S1 H1 e1 R1 q1 => ?_⟩
    cases b with
    | true => exact ⟨ρ, S1, _, w, R1, L.ext e1, O.ext e1, q1, fun d v S2 H2 e2 => k d v S2 H2 (e1.trans e2)⟩
    | false => exact ⟨ρ, S1, _, w, R1, L.ext e1, O.ext e1, q1, fun d v S2 H2 e2 => k d v S2 H2 (e1.trans e2)⟩⟩
/-- a op b op' c -/
def eChain (r r' : D → D → Sto → QD → Prop) (a b c : ED) : ED := fun w ρ S q => a w ρ S fun x S1 => b w ρ S1 fun y S2 => r x y S2 (asB fun k S3 => if k = true then c w ρ S3 fun z S4 => r' y z S4 q else q (.bl false) S3)
theorem chain_up {K : KB} {W : WX} {a b c : ED} {r r' : D → D → Sto → QD → Prop} {σ : St} {H : Hp} {Q : VK} (h : upE K W (eChain r r' a b c) σ H Q) : tChain (opH K r) (opH K r') (upE K W a) (upE K W b) (upE K W c) σ H Q := by
  obtain ⟨ρ, S, q, w, R, L, O, h, k⟩ := h
  refine ⟨ρ, S, _, w, R, L, O, h, fun d1 v1 S1 H1 e1 R1 r1 q1 => ⟨ρ, S1, _, w, R1, L.ext e1, O.ext e1, q1, fun d2 v2 S2 H2 e2 R2 r2 q2 => ⟨d1, d2, S2, _, R2, r1.ext e2, r2, q2, fun d3 v3 S3 H3 e3 R3 r3 q3 => ?_⟩⟩⟩
  obtain ⟨b, rfl, q4⟩ := asB_up r3 q3
  refine ⟨b, rfl, ?_⟩
  cases b with
  | true => exact ⟨ρ, S3, _, w, R3, ((L.ext e1).ext e2).ext e3, ((O.ext e1).ext e2).ext e3, q4, fun d4 v4 S4 H4 e4 R4 r4 q5 => ⟨d2, d4, S4, q, R4, (r2.ext e3).ext e4, r4, q5, fun d v S5 H5 e5 => k d v S5 H5 (e1.trans (e2.trans (e3.trans (e4.trans e5))))⟩⟩
  | false => exact k (.bl _) _ S3 H3 (e1.trans (e2.trans e3)) R3 rfl q4
theorem pd_chain {X : Cx} {op op' : CmpOp} {a b c : Expr} {r r' : D → D → Sto → QD → Prop} {ta tb tc : ED} {pos : Pos} (ho : OpD X (compareOp op) r) (ho' : OpD X (compareOp op') r') (ha : PD X a ta) (hb : PD X b tb) (hc : PD X c tc)
    (hm : behindInMarks op' c = false) : PD X (.Compare a [op, op'] [b, c] pos) (eChain r r' ta tb tc) :=
  ⟨fun B W tk => (pe_chain (ho B) (ho' B) (ha.up B W tk) (hb.up B W tk) (hc.up B W tk) hm).imp fun σ H Q h => chain_up h⟩
theorem pdt_chain {X : Cx} {op op' : CmpOp} {a b c : Expr} {r r' : D → D → Sto → QD → Prop} {ta tb tc : ED} {pos : Pos} (ho : OpD X (compareOp op) r) (ho' : OpD X (compareOp op') r') (ha : PD X a ta) (hb : PD X b tb) (hc : PD X c tc)
    (hm : behindInMarks op' c = false) : PDT X (.Compare a [op, op'] [b, c] pos) (eB (eChain r r' ta tb tc)) :=
  ⟨fun B W tk => (pt_chain (ho B) (ho' B) (ha.up B W tk) (hb.up B W tk) (hc.up B W tk) hm).imp fun σ H Q h => by
    obtain ⟨ρ, S, q, w, R, L, O, h, k⟩ := h
    refine chain_up ⟨ρ, S, asB q, w, R, L, O, h, fun d v S1 H1 e1 R1 r1 q1 => ?_⟩
    obtain ⟨b, rfl, q3⟩ := asB_up r1 q1
    exact ⟨b, rfl, k b S1 H1 e1 R1 q3⟩⟩

/-! ### arguments, displays -/
def aNil : AD := fun _ _ S q => q [] S
def aCons (a : ED) (r : AD) : AD := fun w ρ S q => a w ρ S fun d S1 => r w ρ S1 fun ds S2 => q (d :: ds) S2
theorem pda_nil {X : Cx} : PDA X [] aNil := ⟨fun B W tk => pa_nil.imp fun σ H Q h => by
  obtain ⟨ρ, S, q, w, R, L, O, h, k⟩ := h
  exact k [] [] _ _ .refl R rfl h⟩
theorem pda_cons {X : Cx} {e : Expr} {es : List Expr} {ta : ED} {t : AD} (ha : PD X e ta) (hr : PDA X es t) (hs : starEach (e :: es) X.env = (false, eval e X.env) :: starEach es X.env) : PDA X (e :: es) (aCons ta t) :=
  ⟨fun B W tk => (pa_cons (ha.up B W tk) (hr.up B W tk) hs).imp fun σ H Q h => by
    obtain ⟨ρ, S, q, w, R, L, O, h, k⟩ := h
    exact ⟨ρ, S, _, w, R, L, O, h, fun d v S1 H1 e1 R1 r1 q1 => ⟨ρ, S1, _, w, R1, L.ext e1, O.ext e1, q1, fun ds vs S2 H2 e2 R2 r2 q2 => k (d :: ds) (v :: vs) S2 H2 (e1.trans e2) R2 ⟨v, vs, rfl, r1.ext e2, r2⟩ q2⟩⟩⟩
def eTup (t : AD) : ED := fun w ρ S q => t w ρ S fun ds S1 => ds.length ≤ sizeLine ∧ q (.tup ds) S1
/-- a list: as data, or (M) as a thing that will change -/
def eLst (t : AD) : ED := fun w ρ S q => t w ρ S fun ds S1 => ds.length ≤ sizeLine ∧ q (.lst ds) S1
def eLstM (t : AD) : ED := fun w ρ S q => t w ρ S fun ds S1 => ds.length ≤ sizeLine ∧ ∀ p, S1 p = none → q (.ref p) (S1.set p (.lst ds))
theorem pd_tup {X : Cx} {es : List Expr} {k : Nat} {t : AD} {pos : Pos} (h : PDA X es t) : PD X (.Tuple es k pos) (eTup t) :=
  ⟨fun B W tk => (pe_tup (h.up B W tk)).imp fun σ H Q h => by
    obtain ⟨ρ, S, q, w, R, L, O, h, k⟩ := h
    refine ⟨ρ, S, _, w, R, L, O, h, fun ds vs S1 H1 e1 R1 r1 q1 => ⟨by rw [← r1.length]; exact q1.1, fun p hp => ?_⟩⟩
    exact Got.tup (fun d v S2 H2 e2 => k d v S2 H2 (e1.trans e2)) R1 r1 q1.2 hp⟩
theorem pd_lst {X : Cx} {es : List Expr} {t : AD} {pos : Pos} (h : PDA X es t) : PD X (.List es pos) (eLst t) :=
  ⟨fun B W tk => (pe_lst (h.up B W tk)).imp fun σ H Q h => by
    obtain ⟨ρ, S, q, w, R, L, O, h, k⟩ := h
    refine ⟨ρ, S, _, w, R, L, O, h, fun ds vs S1 H1 e1 R1 r1 q1 => ⟨by rw [← r1.length]; exact q1.1, fun p hp => ?_⟩⟩
    exact Got.lst (fun d v S2 H2 e2 => k d v S2 H2 (e1.trans e2)) R1 r1 q1.2 hp⟩
theorem Got.lstM {K : KB} {S : Sto} {H : Hp} {q : QD} {Q : VK} (g : Got K S H q Q) (R : Rel K S H) {ds : List D} {vs : List V} (r : Rps K S H ds vs) {p : Addr} (hp : H p = none) (h : q (.ref p) (S.set p (.lst ds))) : Q (.ref p) (upd H p (.lst vs)) :=
  g (.ref p) _ _ _ (Ext.lay R hp _ _) (Rel.lay R hp (show RO K (S.set p (.lst ds)) (upd H p (.lst vs)) p (.lst ds) from ⟨vs, upd_same, r.ext (Ext.lay R hp _ _)⟩)) rfl h
theorem pd_lstM {X : Cx} {es : List Expr} {t : AD} {pos : Pos} (h : PDA X es t) : PD X (.List es pos) (eLstM t) :=
  ⟨fun B W tk => (pe_lst (h.up B W tk)).imp fun σ H Q h => by
    obtain ⟨ρ, S, q, w, R, L, O, h, k⟩ := h
    refine ⟨ρ, S, _, w, R, L, O, h, fun ds vs S1 H1 e1 R1 r1 q1 => ⟨by rw [← r1.length]; exact q1.1, fun p hp => ?_⟩⟩
    exact Got.lstM (fun d v S2 H2 e2 => k d v S2 H2 (e1.trans e2)) R1 r1 hp (q1.2 p (R1.free hp))⟩

/-! ### calls of built-ins -/
def CallD (X : Cx) (f : Value) (r : List D → Sto → QD → Prop) : Prop := ∀ B, CallR X f fun vs H Q => ∃ ds S q, Rel ⟨X.K, B⟩ S H ∧ Rps ⟨X.K, B⟩ S H ds vs ∧ r ds S q ∧ Got ⟨X.K, B⟩ S H q Q
theorem _root_.L2.CallR.imp {X : Cx} {f : Value} {r r' : List V → Hp → VK → Prop} (h : CallR X f r) (i : ∀ x H Q, r' x H Q → r x H Q) : CallR X f r' := fun pins s σ H x v Q I rx q => h pins s σ H x v Q I rx (i x H Q q)
theorem CallD.of {X : Cx} {f : Value} {r : List D → Sto → QD → Prop} {r1 : List V → Hp → VK → Prop} (h : CallR X f r1) (i : ∀ (K : KB) ds vs S H q Q, K.k = X.K → Rel K S H → Rps K S H ds vs → r ds S q → Got K S H q Q → r1 vs H Q) : CallD X f r :=
  fun B => h.imp fun vs H Q ⟨ds, S, q, R, r, h, g⟩ => i _ ds vs S H q Q rfl R r h g
def eCall (r : List D → Sto → QD → Prop) (t : AD) : ED := fun w ρ S q => t w ρ S fun ds S1 => r ds S1 q
theorem pd_callB {X : Cx} {x : Str} {p pos : Pos} {e : Expr} {es : List Expr} {t : AD} {id : String} {r : List D → Sto → QD → Prop} (hc : CallD X (.builtin id) r) (hg : Gl X x) (hm : X.mg x = none) (hv : bootBuiltins x = some (.builtin id)) (ha : PDA X (e :: es) t) (hn : x ≠ "__name__") (hdb : (x == ("__debug__" : Str)) = false)
    (he : starEach (e :: es) X.env = (false, eval e X.env) :: starEach es X.env) (hpl : (backTo pos (starEach es X.env)).any (·.1) = false) : PD X (.Call (.Name x p) (e :: es) [] pos) (eCall r t) :=
  ⟨fun B W tk => (pe_callB (hc B) hg hm hv (ha.up B W tk) hn hdb he hpl).imp fun σ H Q h => by
    obtain ⟨ρ, S, q, w, R, L, O, h, k⟩ := h
    exact ⟨ρ, S, _, w, R, L, O, h, fun ds vs S1 H1 e1 R1 r1 q1 => ⟨ds, S1, q, R1, r1, q1, fun d v S2 H2 e2 => k d v S2 H2 (e1.trans e2)⟩⟩⟩
theorem pd_callTy {X : Cx} {x : Str} {p pos : Pos} {e : Expr} {es : List Expr} {t : AD} {T : String} {r : List D → Sto → QD → Prop} (hc : CallD X (.type T) r) (hg : Gl X x) (hm : X.mg x = none) (hv : bootBuiltins x = some (.type T)) (ha : PDA X (e :: es) t) (hn : x ≠ "__name__") (hdb : (x == ("__debug__" : Str)) = false)
    (he : starEach (e :: es) X.env = (false, eval e X.env) :: starEach es X.env) (hpl : (backTo pos (starEach es X.env)).any (·.1) = false) : PD X (.Call (.Name x p) (e :: es) [] pos) (eCall r t) :=
  ⟨fun B W tk => (pe_callTy (hc B) hg hm hv (ha.up B W tk) hn hdb he hpl).imp fun σ H Q h => by
    obtain ⟨ρ, S, q, w, R, L, O, h, k⟩ := h
    exact ⟨ρ, S, _, w, R, L, O, h, fun ds vs S1 H1 e1 R1 r1 q1 => ⟨ds, S1, q, R1, r1, q1, fun d v S2 H2 e2 => k d v S2 H2 (e1.trans e2)⟩⟩⟩

/-! len, abs, int, all, any, list, isinstance -/
def b1 (f : D → Sto → QD → Prop) : List D → Sto → QD → Prop
  | [x], S, q => f x S q
  | _, _, _ => False
def b2 (f : D → D → Sto → QD → Prop) : List D → Sto → QD → Prop
  | [x, y], S, q => f x y S q
  | _, _, _ => False
theorem CallD.of1 {X : Cx} {f : Value} {g : D → Sto → QD → Prop} {r1 : List V → Hp → VK → Prop} (h : CallR X f r1) (i : ∀ (K : KB) d v S H q Q, K.k = X.K → Rel K S H → Rp K S H d v → g d S q → Got K S H q Q → r1 [v] H Q) : CallD X f (b1 g) :=
  CallD.of h fun K ds vs S H q Q hK R r h k => by
    match ds, r, h with
    | [x], r, h =>
      obtain ⟨v, rfl, rv⟩ := r.one
      exact i K x v S H q Q hK R rv h k
    | [], _, h => exact (show False from h).elim
    | _ :: _ :: _, _, h => exact (show False from h).elim
theorem CallD.of2 {X : Cx} {f : Value} {g : D → D → Sto → QD → Prop} {r1 : List V → Hp → VK → Prop} (h : CallR X f r1) (i : ∀ (K : KB) d e v u S H q Q, K.k = X.K → Rel K S H → Rp K S H d v → Rp K S H e u → g d e S q → Got K S H q Q → r1 [v, u] H Q) : CallD X f (b2 g) :=
  CallD.of h fun K ds vs S H q Q hK R r h k => by
    match ds, r, h with
    | [x, y], r, h =>
      obtain ⟨v, r', rfl, rx, rt⟩ := r
      obtain ⟨v2, rfl, r2⟩ := Rps.one rt
      exact i K x y v v2 S H q Q hK R rx r2 h k
    | [], _, h => exact (show False from h).elim
    | [_], _, h => exact (show False from h).elim
    | _ :: _ :: _ :: _, _, h => exact (show False from h).elim
def lenO (o : Option O) (k : Nat → Prop) : Prop := match o with
  | some (.lst ds) => k ds.length
  | some (.dct kvs) => k kvs.length
  | _ => False
def lenD (x : D) (S : Sto) (k : Nat → Prop) : Prop := match x with
  | .str cs => cs.length ≤ sizeLine ∧ k cs.length
  | .lst ds => k ds.length
  | .tup ds => k ds.length
  | .rol ds => k ds.length
  | .ref a => lenO (S a) k
  | _ => False
def bLen : List D → Sto → QD → Prop := b1 fun x S q => lenD x S fun n => q (.int n) S
theorem bd_len {X : Cx} : CallD X (.builtin "len") bLen := CallD.of1 (call_len.or cr_lenD) fun K x v S H q Q hK R r h g => by
  cases x with
  | str cs => cases r; exact .inl ⟨_, cs.length, rfl, ⟨by rw [mkS_length]; exact h.1, (mkS_length _).symm⟩, g.int R h.2⟩
  | lst ds => obtain ⟨a, vs, rfl, l, r⟩ := r; exact .inl ⟨_, _, rfl, .inl ⟨vs, hK ▸ l.sq, r.length⟩, g.int R h⟩
  | tup ds => obtain ⟨a, vs, rfl, l, r⟩ := r; exact .inl ⟨_, _, rfl, .inr ⟨vs, hK ▸ l.sq, r.length⟩, g.int R h⟩
  | rol ds => obtain ⟨a, vs, rfl, l, r⟩ := r; exact .inl ⟨_, _, rfl, .inl ⟨vs, hK ▸ l.sq, r.length⟩, g.int R h⟩
  | ref a =>
    cases r
    have h : lenO (S a) fun n => q (.int n) S := h
    cases e : S a with
    | none => rw [e] at h; exact h.elim
    | some o =>
      rw [e] at h
      have ro := R.ob a o e
      cases o with
      | lst ds =>
        obtain ⟨vs, e1, r⟩ := (show ∃ vs, H a = some (.lst vs) ∧ Rps _ S H ds vs from ro)
        exact .inl ⟨_, _, rfl, .inl ⟨vs, SqL.of e1, r.length⟩, g.int R h⟩
      | ins C fs => exact h.elim
      | xd _ => exact h.elim
      | cell _ _ => exact h.elim
      | tbl _ => exact h.elim
      | dct kvs =>
        obtain ⟨vs, e1, ra⟩ := dct_up R e
        refine .inr ⟨a, _, rfl, e1, ?_⟩
        have hl : ((kvs.map (·.1)).zip vs).length = kvs.length := by
          have := ra.length
          rw [List.length_zip, List.length_map]
          rw [List.length_map] at this
          omega
        rw [hl]
        exact g.int R h
  | non => exact (show False from h).elim
  | bl _ => exact (show False from h).elim
  | int _ => exact (show False from h).elim
  | ty _ => exact (show False from h).elim
  | clo _ _ _ => exact (show False from h).elim
def rAbs : D → Sto → QD → Prop
  | .int i, S, q => q (.int (if i < 0 then -i else i)) S
  | _, _, _ => False
theorem bd_abs {X : Cx} : CallD X (.builtin "abs") (b1 rAbs) := CallD.of1 call_abs fun K x v S H q Q hK R r h g => by
  cases x <;> first | exact h.elim | skip
  cases r; exact ⟨_, rfl, g.int R h⟩
def rInt : D → Sto → QD → Prop
  | .int i, S, q => q (.int i) S
  | .bl b, S, q => q (.int (if b then 1 else 0)) S
  | _, _, _ => False
theorem bd_int {X : Cx} : CallD X (.type "int") (b1 rInt) := CallD.of1 call_int1 fun K x v S H q Q hK R r h g => by
  cases x <;> first | exact h.elim | skip
  · cases r; exact .inr ⟨_, rfl, g.int R h⟩
  · cases r; exact .inl ⟨_, rfl, g.int R h⟩
/-- the items are True or False -/
def bools : List D → Option (List Bool)
  | [] => some []
  | .bl b :: r => (bools r).map (b :: ·)
  | _ :: _ => none
theorem bools_up {K : KB} {S : Sto} {H : Hp} : ∀ {ds : List D} {bs : List Bool} {vs : List V}, bools ds = some bs → Rps K S H ds vs → vs = bs.map V.bl
  | [], _, _, e, r => by cases r; cases e; rfl
  | d :: ds, bs, _, e, ⟨v, r', e1, h, t⟩ => by
    cases e1
    cases d <;> first | cases e; done | skip
    cases h
    have e : (bools ds).map (_ :: ·) = some bs := e
    cases q : bools ds with
    | none => rw [q] at e; cases e
    | some cs => rw [q] at e; cases e; rw [bools_up q t]; rfl
def boolsK (ds : List D) (k : List Bool → Prop) : Prop := match bools ds with
  | some bs => k bs
  | none => False
def rAllD : D → Sto → QD → Prop
  | .lst ds, S, q => boolsK ds fun bs => q (.bl (bs.all id)) S
  | _, _, _ => False
def rAnyD : D → Sto → QD → Prop
  | .lst ds, S, q => boolsK ds fun bs => q (.bl (bs.any id)) S
  | _, _, _ => False
theorem boolsK_up {K : KB} {S : Sto} {H : Hp} {ds : List D} {vs : List V} {k : List Bool → Prop} (h : boolsK ds k) (r : Rps K S H ds vs) : ∃ bs, vs = bs.map V.bl ∧ k bs := by
  unfold boolsK at h
  split at h
  · rename_i bs e; exact ⟨bs, bools_up e r, h⟩
  · exact h.elim
theorem bd_all {X : Cx} (hc : X.calm = true) : CallD X (.builtin "all") (b1 rAllD) := CallD.of1 (cr_all hc) fun K x v S H q Q hK R r h g => by
  cases x <;> first | exact h.elim | skip
  obtain ⟨a, vs, rfl, l, r⟩ := r
  obtain ⟨bs, rfl, h⟩ := boolsK_up h r
  exact ⟨a, bs, rfl, hK ▸ l.sq, g.bl R h⟩
theorem bd_any {X : Cx} (hc : X.calm = true) : CallD X (.builtin "any") (b1 rAnyD) := CallD.of1 (cr_any hc) fun K x v S H q Q hK R r h g => by
  cases x <;> first | exact h.elim | skip
  obtain ⟨a, vs, rfl, l, r⟩ := r
  obtain ⟨bs, rfl, h⟩ := boolsK_up h r
  exact ⟨a, bs, rfl, hK ▸ l.sq, g.bl R h⟩
/-! isinstance of a built-in class, or of a written tuple of such -/
def tyN : D → Option String
  | .non => some "NoneType"
  | .bl _ => some "bool"
  | .int _ => some "int"
  | .str _ => some "str"
  | .lst _ => some "list"
  | .tup _ => some "tuple"
  | _ => none
/-- .. also of lists and dicts of the store -/
def tyO : Option O → Option String
  | some (.lst _) => some "list"
  | some (.dct _) => some "dict"
  | _ => none
def tyS (S : Sto) : D → Option String
  | .ref a => tyO (S a)
  | d => tyN d
def isiB (a b : String) : Bool := a == b || (a == "bool" && b == "int")
def isiTy : List String := ["int", "str", "bool", "list", "tuple", "dict"]
def ty2 : List D → Option (String × String)
  | [.ty n, .ty m] => some (n, m)
  | _ => none
theorem ty2_eq {ds : List D} {p : String × String} (h : ty2 ds = some p) : ds = [.ty p.1, .ty p.2] := by
  unfold ty2 at h
  split at h
  · cases h; rfl
  · cases h
def isiA (a : String) (c : D) (k : Bool → Prop) : Prop := match c with
  | .ty n => n ∈ isiTy ∧ k (isiB a n)
  | .tup ds => (match ty2 ds with
    | some p => p.1 ∈ isiTy ∧ p.2 ∈ isiTy ∧ k (isiB a p.1 || isiB a p.2)
    | none => False)
  | _ => False
def isiK (x c : D) (S : Sto) (k : Bool → Prop) : Prop := match tyS S x with
  | some a => isiA a c k
  | none => False
def rIsiD : D → D → Sto → QD → Prop := fun x c S q => isiK x c S fun b => q (.bl b) S
theorem tyN_up {K : KB} {S : Sto} {H : Hp} {d : D} {v : V} {a : String} (r : Rp K S H d v) (e : tyN d = some a) : TyX K.k H v (.type a) := by
  cases d <;> first | cases e; done | skip
  · cases e; cases r; exact .base .non
  · cases e; cases r; exact .base (.bl _)
  · cases e; cases r; exact .base (.int _)
  · cases e; cases r; exact .base (.str _)
  · cases e; obtain ⟨a, vs, rfl, l, _⟩ := r; exact .base (.lst l.1)
  · cases e; obtain ⟨a, vs, rfl, l, _⟩ := r
    rcases l with ⟨l, _⟩ | ⟨o, its, n, e, c, _⟩
    · exact .base (.tup l)
    · exact .kTuple e c
theorem tyS_ty {K : KB} {S : Sto} {H : Hp} {d : D} {v : V} {a : String} (R : Rel K S H) (r : Rp K S H d v) (e : tyS S d = some a) : TyX K.k H v (.type a) := by
  cases d with
  | ref p =>
    cases r
    have e : tyO (S p) = some a := e
    cases eo : S p with
    | none => rw [eo] at e; cases e
    | some o =>
      rw [eo] at e
      cases o with
      | lst ds =>
        cases e
        obtain ⟨vs, hH, _⟩ := (show ∃ vs, H p = some (.lst vs) ∧ Rps _ S H ds vs from R.ob p _ eo)
        exact .base (.lst hH)
      | dct kvs =>
        cases e
        obtain ⟨vs, hH, _⟩ := (show ∃ vs, H p = some (.dK ((kvs.map (·.1)).zip vs)) ∧ Rps _ S H (kvs.map (·.2)) vs from R.ob p _ eo)
        exact .base (.dK hH)
      | ins _ _ => cases e
      | xd _ => cases e
      | cell _ _ => cases e
      | tbl _ => cases e
  | _ => exact tyN_up r (show tyN _ = some a from e)
theorem kitB_all : ∀ a ∈ ["NoneType", "bool", "int", "str", "list", "tuple", "dict"], ∀ b ∈ ["int", "str", "bool", "list", "tuple", "dict"], kitB a b = some (isiB a b) := by decide +kernel
theorem tyN_mem {d : D} {a : String} (e : tyN d = some a) : a ∈ ["NoneType", "bool", "int", "str", "list", "tuple", "dict"] := by
  cases d <;> first | cases e; done | (cases e; decide)
theorem tyS_eq {S : Sto} {d : D} (h : ∀ p, d ≠ .ref p) : tyS S d = tyN d := by
  cases d <;> first | rfl | exact absurd rfl (h _)
theorem tyS_mem {S : Sto} {d : D} {a : String} (e : tyS S d = some a) : a ∈ ["NoneType", "bool", "int", "str", "list", "tuple", "dict"] := by
  by_cases h : ∃ p, d = .ref p
  · obtain ⟨p, rfl⟩ := h
    have e : tyO (S p) = some a := e
    unfold tyO at e
    split at e <;> first | (cases e; decide) | (cases e; done)
  · rw [tyS_eq fun p z => h ⟨p, z⟩] at e
    exact tyN_mem e
theorem isi_tup {X : Cx} {K : KB} (hK : K.k = X.K) {S : Sto} {H : Hp} {q : QD} {Q : VK} {x : D} {v : V} {a n m : String} {tp : Addr} {us : List V} (R : Rel K S H) (rx : Rp K S H x v) (e : tyS S x = some a) (l : TAt K S H tp us) (r3 : Rps K S H [.ty n, .ty m] us)
    (h : n ∈ isiTy ∧ m ∈ isiTy ∧ q (.bl (isiB a n || isiB a m)) S) (g : Got K S H q Q) : rIsiT X.K [v, .ref tp] H Q ∨ rIsiK X.K [v, .ref tp] H Q := by
  obtain ⟨u1, r4, rfl, e1, t1⟩ := r3
  obtain ⟨u2, rfl, e2⟩ := Rps.one t1
  cases e1; cases e2
  have ka : PySem.W.kitAny X.K (.type a) [.type n, .type m] = some (isiB a n || isiB a m) := by
    refine kitAny_cons (kit_ty (kitB_all a (tyS_mem e) n h.1)) (fun z => ?_) (fun z => by rw [z]; rfl)
    rw [z, Bool.false_or]
    refine kitAny_cons (kit_ty (kitB_all a (tyS_mem e) m h.2.1)) (fun z => ?_) (fun z => z)
    rw [z]; rfl
  rcases l with ⟨l, hn⟩ | ⟨o, its, n', e', c, ed, _, rv⟩
  · exact .inl ⟨v, tp, [.ty n, .ty m], .type a, [.type n, .type m], _, rfl, l, .cons (.ty n) (.cons (.ty m) .nil), hK ▸ tyS_ty R rx e, ka, g.bl R h.2.2⟩
  · refine .inr ⟨v, tp, o.dict, [.type n, .type m], n', o.slots, .type a, _, rfl, ?_, hK ▸ tyS_ty R rx e, ka, g.bl R h.2.2⟩
    have e3 : its.toList = [.type n, .type m] := by
      generalize its.toList = l at rv
      cases rv with
      | cons r1 t1 => cases t1 with
        | cons r2 t2 => cases t2; cases r1; cases r2; rfl
    have e4 : its = [Value.type n, Value.type m].toArray := by rw [← e3]
    subst e4
    obtain ⟨oc, od, dt, sl⟩ := o
    have c : oc = _ := c
    have ed : dt = _ := ed
    subst c
    subst ed
    exact hK ▸ e'
theorem bd_isi {X : Cx} : CallD X (.builtin "isinstance") (b2 rIsiD) := CallD.of2 (call_isi.or (call_isiT.or call_isiK)) fun K x c v u S H q Q hK R rx rc h g => by
  have h : isiK x c S fun b => q (.bl b) S := h
  unfold isiK at h
  cases e : tyS S x with
  | none => rw [e] at h; exact (show False from h).elim
  | some a =>
    rw [e] at h
    have h : isiA a c fun b => q (.bl b) S := h
    cases c with
    | ty n =>
      cases rc
      have h : n ∈ isiTy ∧ q (.bl (isiB a n)) S := h
      exact .inl ⟨v, .ty n, .type a, .type n, isiB a n, rfl, .ty n, hK ▸ tyS_ty R rx e, kit_ty (kitB_all a (tyS_mem e) n h.1), g.bl R h.2⟩
    | tup ds =>
      unfold isiA at h
      cases e2 : ty2 ds with
      | none => simp only [e2] at h
      | some p =>
        simp only [e2] at h
        have := ty2_eq e2
        subst this
        obtain ⟨tp, us, rfl, l, r3⟩ := rc
        exact .inr (isi_tup hK R rx e l r3 h g)
    | non => exact (show False from h).elim
    | clo _ _ _ => exact (show False from h).elim
    | bl _ => exact (show False from h).elim
    | int _ => exact (show False from h).elim
    | str _ => exact (show False from h).elim
    | lst _ => exact (show False from h).elim
    | rol _ => exact (show False from h).elim
    | ref _ => exact (show False from h).elim
end DL

namespace DL
open PySem PySem.Spec PyProof.Rows L2

/-! ### items, slices -/
theorem ixN_lt {n : Nat} {i : Int} {j : Nat} (h : ixN n i = some j) : j < n := (ixN_seq h).2.1
def ixK (kvs : List (Key × D)) (k : Key) (S : Sto) (q : QD) : Prop := ∃ d, valD kvs k = some d ∧ q d S
def ixO (o : Option O) (i : Int) (S : Sto) (q : QD) : Prop := match o with
  | some (.lst ds) => ∃ d, atI ds i = some d ∧ q d S
  | some (.dct kvs) => ixK kvs (.inl i) S q
  | _ => False
def ixT (o : Option O) (cs : List Nat) (S : Sto) (q : QD) : Prop := match o with
  | some (.dct kvs) => ixK kvs (.inr (mkS cs)) S q
  | _ => False
def rIxD (x y : D) (S : Sto) (q : QD) : Prop := match y with
  | .int i => (match x with
    | .str cs => cs.length ≤ sizeLine ∧ ∃ c, atI cs i = some c ∧ q (.str [c]) S
    | .lst ds => ∃ d, atI ds i = some d ∧ q d S
    | .rol ds => ∃ d, atI ds i = some d ∧ q d S
    | .tup ds => ∃ d, atI ds i = some d ∧ q d S
    | .ref a => ixO (S a) i S q
    | _ => False)
  | .str cs => (match x with
    | .ref a => ixT (S a) cs S q
    | _ => False)
  | _ => False
theorem ixK_up {K : KB} {S : Sto} {H : Hp} {q : QD} {Q : VK} {a : Addr} {kvs : List (Key × D)} {k : Key} (R : Rel K S H) (g : Got K S H q Q) (e : S a = some (.dct kvs)) (h : ixK kvs k S q) : ∃ v, DGet H a (kV k) (some v) ∧ Q v H := by
  obtain ⟨d, hd, h⟩ := h
  obtain ⟨vs, e1, ra⟩ := dct_up R e
  obtain ⟨v, h1, h2⟩ := val_some ra hd
  refine ⟨v, ?_, g.val R h2 h⟩
  rw [← h1]
  exact DGet.k e1
def IxD (X : Cx) (r : D → D → Sto → QD → Prop) : Prop := ∀ B, IxR X (opH ⟨X.K, B⟩ r)
theorem _root_.L2.IxR.imp {X : Cx} {r r' : R2} (h : IxR X r) (i : ∀ x y H Q, r' x y H Q → r x y H Q) : IxR X r' := fun va sl pins s σ H x y v u Q I rx ry q => h va sl pins s σ H x y v u Q I rx ry (i x y H Q q)
theorem Rps.atI {K : KB} {S : Sto} {H : Hp} {ds : List D} {vs : List V} {i : Int} {d : D} (r : Rps K S H ds vs) (h : atI ds i = some d) : ∃ v, L2.atI vs i = some v ∧ Rp K S H d v := by
  unfold L2.atI at h ⊢
  rw [← r.length]
  cases e : ixN ds.length i with
  | none => rw [e] at h; cases h
  | some j =>
    rw [e] at h
    have h : ds[j]? = some d := h
    obtain ⟨v, h1, h2⟩ := r.get h
    exact ⟨v, h1, h2⟩
theorem ixd_seq {X : Cx} (hu : X.A.units + 1 < cLine) : IxD X rIxD := fun B => (ix_seq.or (ix_dict hu)).imp fun x y H Q ⟨dx, dy, S, q, R, rx, ry, h, g⟩ => by
  have g : Got _ S H q Q := g
  cases dy with
  | int i =>
    cases ry
    cases dx with
    | str cs =>
      cases rx
      obtain ⟨hl, c, hc, h⟩ := (show cs.length ≤ sizeLine ∧ ∃ c, atI cs i = some c ∧ q (.str [c]) S from h)
      exact .inl (.inr (.inr ⟨_, i, c, rfl, rfl, by rw [mkS_length]; exact hl, hc, g.str R h⟩))
    | lst ds =>
      obtain ⟨a, vs, rfl, l, r⟩ := rx
      obtain ⟨d, hd, h⟩ := (show ∃ d, atI ds i = some d ∧ q d S from h)
      obtain ⟨v, h1, h2⟩ := r.atI hd
      exact .inl (.inl ⟨a, vs, i, v, rfl, rfl, l.sq, h1, g.val R h2 h⟩)
    | rol ds =>
      obtain ⟨a, vs, rfl, l, r⟩ := rx
      obtain ⟨d, hd, h⟩ := (show ∃ d, atI ds i = some d ∧ q d S from h)
      obtain ⟨v, h1, h2⟩ := r.atI hd
      exact .inl (.inl ⟨a, vs, i, v, rfl, rfl, l.sq, h1, g.val R h2 h⟩)
    | tup ds =>
      obtain ⟨a, vs, rfl, l, r⟩ := rx
      obtain ⟨d, hd, h⟩ := (show ∃ d, atI ds i = some d ∧ q d S from h)
      obtain ⟨v, h1, h2⟩ := r.atI hd
      exact .inl (.inr (.inl ⟨a, vs, i, v, rfl, rfl, l.sq, h1, g.val R h2 h⟩))
    | ref a =>
      cases rx
      have h : ixO (S a) i S q := h
      cases e : S a with
      | none => rw [e] at h; exact h.elim
      | some o =>
        rw [e] at h
        have ro := R.ob a o e
        cases o with
        | lst ds =>
          obtain ⟨vs, e1, r⟩ := (show ∃ vs, H a = some (.lst vs) ∧ Rps _ S H ds vs from ro)
          obtain ⟨d, hd, h⟩ := (show ∃ d, atI ds i = some d ∧ q d S from h)
          obtain ⟨v, h1, h2⟩ := r.atI hd
          exact .inl (.inl ⟨a, vs, i, v, rfl, rfl, SqL.of e1, h1, g.val R h2 h⟩)
        | ins C fs => exact h.elim
        | xd _ => exact h.elim
        | cell _ _ => exact h.elim
        | tbl _ => exact h.elim
        | dct kvs =>
          obtain ⟨v, h1, h2⟩ := ixK_up R g e h
          exact .inr ⟨a, v, rfl, h1, h2⟩
    | non => exact (show False from h).elim
    | bl _ => exact (show False from h).elim
    | int _ => exact (show False from h).elim
    | ty _ => exact (show False from h).elim
    | clo _ _ _ => exact (show False from h).elim
  | non => exact (show False from h).elim
  | bl _ => exact (show False from h).elim
  | str cs =>
    cases ry
    cases dx with
    | ref a =>
      cases rx
      have h : ixT (S a) cs S q := h
      cases e : S a with
      | none => rw [e] at h; exact h.elim
      | some o =>
        rw [e] at h
        cases o with
        | dct kvs =>
          obtain ⟨v, h1, h2⟩ := ixK_up R g e h
          exact .inr ⟨a, v, rfl, h1, h2⟩
        | lst _ => exact h.elim
        | ins _ _ => exact h.elim
        | xd _ => exact h.elim
        | cell _ _ => exact h.elim
        | tbl _ => exact h.elim
    | _ => exact (show False from h).elim
  | lst _ => exact (show False from h).elim
  | tup _ => exact (show False from h).elim
  | rol _ => exact (show False from h).elim
  | ref _ => exact (show False from h).elim
  | ty _ => exact (show False from h).elim
  | clo _ _ _ => exact (show False from h).elim
theorem pd_ix {X : Cx} {a b : Expr} {r : D → D → Sto → QD → Prop} {ta tb : ED} {pos : Pos} (hr : IxD X r) (ha : PD X a ta) (hb : PD X b tb) (hs : PlainIx b) : PD X (.Subscript a b pos) (eOp r ta tb) :=
  ⟨fun B W tk => (pe_ix (hr B) (ha.up B W tk) (hb.up B W tk) hs).imp fun σ H Q h => by
    obtain ⟨ρ, S, q, w, R, L, O, h, k⟩ := h
    exact two_up R L O h fun dx dy x y S' H' e R' rx ry q' => ⟨dx, dy, S', q, R', rx, ry, q', fun d v S2 H2 e2 => k d v S2 H2 (e.trans e2)⟩⟩
/-- an optional part of a slice -/
abbrev OD := XD → St' → Sto → (Option Int → Sto → Prop) → Prop
def oNo : OD := fun _ _ S q => q none S
def oSome (t : ED) : OD := fun w ρ S q => t w ρ S fun d S1 => match d with
  | .int i => q (some i) S1
  | _ => False
def upO (K : KB) (W : WX) (t : OD) : TO := fun σ H Q => ∃ (ρ : St') (S : Sto) (q : Option Int → Sto → Prop) (w : XD), Rel K S H ∧ Sl K S H ρ σ ∧ WOk K S H w W ∧ t w ρ S q ∧ ∀ o S' H', Ext S H S' H' → Rel K S' H' → q o S' → Q o H'
structure PDO (X : Cx) (e : Option Expr) (t : OD) : Prop where
  up : ∀ B W, L2N.Takes X W → PO X e (upO ⟨X.K, B⟩ W t)
theorem _root_.L2.PO.imp {X : Cx} {e : Option Expr} {t1 t2 : TO} (h : PO X e t1) (f : ∀ σ H Q, t2 σ H Q → t1 σ H Q) : PO X e t2 := ⟨fun pins s σ H Q I q => h.run pins s σ H Q I (f σ H Q q)⟩
theorem pdo_no {X : Cx} : PDO X none oNo := ⟨fun B W tk => po_none.imp fun σ H Q h => by
  obtain ⟨ρ, S, q, w, R, L, O, h, k⟩ := h
  exact k none _ _ .refl R h⟩
theorem pdo_some {X : Cx} {e : Expr} {t : ED} (h : PD X e t) : PDO X (some e) (oSome t) := ⟨fun B W tk => (po_some (h.up B W tk)).imp fun σ H Q h => by
  obtain ⟨ρ, S, q, w, R, L, O, h, k⟩ := h
  refine ⟨ρ, S, _, w, R, L, O, h, fun d v S1 H1 e1 R1 r1 q1 => ?_⟩
  cases d <;> first | exact (show False from q1).elim | skip
  cases r1
  exact ⟨_, rfl, k _ _ _ e1 R1 q1⟩⟩
def cutD {α : Type} (xs : List α) (lo hi : Option Int) : List α := (xs.drop (HT.sIx xs.length 0 lo)).take (HT.sIx xs.length xs.length hi - HT.sIx xs.length 0 lo)
def rSlD (x : D) (lo hi : Option Int) (S : Sto) (q : QD) : Prop := match x with
  | .str cs => cs.length ≤ sizeLine ∧ q (.str (cutD cs lo hi)) S
  | .lst ds => q (.lst (cutD ds lo hi)) S
  | .rol ds => q (.lst (cutD ds lo hi)) S
  | .tup ds => q (.tup (cutD ds lo hi)) S
  | _ => False
def eSl (r : D → Option Int → Option Int → Sto → QD → Prop) (t : ED) (lo hi : OD) : ED := fun w ρ S q => t w ρ S fun x S1 => lo w ρ S1 fun l S2 => hi w ρ S2 fun u S3 => r x l u S3 q
def SlD (X : Cx) (r : D → Option Int → Option Int → Sto → QD → Prop) : Prop := ∀ B, L2.SlR X fun x lo hi H Q => ∃ dx S q, Rel ⟨X.K, B⟩ S H ∧ Rp ⟨X.K, B⟩ S H dx x ∧ r dx lo hi S q ∧ Got ⟨X.K, B⟩ S H q Q
theorem _root_.L2.SlR.imp {X : Cx} {r r' : V → Option Int → Option Int → Hp → VK → Prop} (h : L2.SlR X r) (i : ∀ x l u H Q, r' x l u H Q → r x l u H Q) : L2.SlR X r' := fun pins s σ H x v vl vu lo hi sl Q I rx h1 h2 h3 q => h pins s σ H x v vl vu lo hi sl Q I rx h1 h2 h3 (i x lo hi H Q q)
theorem Rps.cut {K : KB} {S : Sto} {H : Hp} {ds : List D} {vs : List V} (r : Rps K S H ds vs) (lo hi : Option Int) : Rps K S H (cutD ds lo hi) (cutV vs lo hi) := by
  unfold cutD cutV
  rw [r.length]
  exact (r.drop _).take _
theorem cut_all {α : Type} {xs : List α} {lo hi : Option Int} (h : HT.sIx xs.length 0 lo = 0 ∧ HT.sIx xs.length xs.length hi = xs.length) : cutD xs lo hi = xs := by
  unfold cutD
  rw [h.1, h.2]; simp
theorem sld_seq {X : Cx} : SlD X rSlD := fun B => (L2.SlR.or sl_list (L2.SlR.or sl_str sl_tupA)).imp fun x lo hi H Q ⟨dx, S, q, R, rx, h, g⟩ => by
  cases dx with
  | str cs =>
    cases rx
    obtain ⟨hl, h⟩ := (show cs.length ≤ sizeLine ∧ q (.str (cutD cs lo hi)) S from h)
    refine .inr (.inl ⟨_, rfl, by rw [mkS_length]; exact hl, ?_⟩)
    exact g.str R (cs := cutD cs lo hi) h
  | lst ds =>
    obtain ⟨a, vs, rfl, l, r⟩ := rx
    exact .inl ⟨a, vs, rfl, l.sq, fun p hp => g.lst R (r.cut lo hi) h hp⟩
  | rol ds =>
    obtain ⟨a, vs, rfl, l, r⟩ := rx
    exact .inl ⟨a, vs, rfl, l.sq, fun p hp => g.lst R (r.cut lo hi) h hp⟩
  | tup ds =>
    obtain ⟨a, vs, rfl, l, r⟩ := rx
    refine .inr (.inr ⟨a, vs, rfl, l.sq, fun z => ?_, fun _ p hp => g.tup R (r.cut lo hi) h hp⟩)
    refine g.val R (d := .tup ds) ⟨a, vs, rfl, l, r⟩ ?_
    have h : q (.tup (cutD ds lo hi)) S := h
    rwa [cut_all (by rw [r.length]; exact z)] at h
  | non => exact (show False from h).elim
  | bl _ => exact (show False from h).elim
  | int _ => exact (show False from h).elim
  | ref _ => exact (show False from h).elim
  | ty _ => exact (show False from h).elim
  | clo _ _ _ => exact (show False from h).elim
theorem pd_slice {X : Cx} {e : Expr} {lo hi : Option Expr} {t : ED} {tl th : OD} {p2 pos : Pos} {r : D → Option Int → Option Int → Sto → QD → Prop} (hr : SlD X r) (he : PD X e t) (hl : PDO X lo tl) (hh : PDO X hi th) : PD X (.Subscript e (.Slice lo hi none p2) pos) (eSl r t tl th) :=
  ⟨fun B W tk => (pe_slice (hr B) (he.up B W tk) (hl.up B W tk) (hh.up B W tk)).imp fun σ H Q h => by
    obtain ⟨ρ, S, q, w, R, L, O, h, k⟩ := h
    refine ⟨ρ, S, _, w, R, L, O, h, fun d v S1 H1 e1 R1 r1 q1 => ⟨ρ, S1, _, w, R1, L.ext e1, O.ext e1, q1, fun l S2 H2 e2 R2 q2 => ⟨ρ, S2, _, w, R2, (L.ext e1).ext e2, (O.ext e1).ext e2, q2, fun u S3 H3 e3 R3 q3 => ?_⟩⟩⟩
    exact ⟨d, S3, q, R3, (r1.ext e2).ext e3, q3, fun d' v' S4 H4 e4 => k d' v' S4 H4 (e1.trans (e2.trans (e3.trans e4)))⟩⟩

/-! ### statements -/
structure EnD where
  nx : St' → Sto → Prop
  rt : QD
  w : XD
  bk : St' → Sto → Prop
  ct : St' → Sto → Prop
abbrev SD := EnD → St' → Sto → Prop
structure EnOk (K : KB) (S : Sto) (H : Hp) (E : EnD) (D : Ends) : Prop where
  nx : ∀ ρ σ S' H', Ext S H S' H' → Rel K S' H' → Sl K S' H' ρ σ → E.nx ρ S' → D.nx σ H'
  rt : ∀ d v S' H', Ext S H S' H' → Rel K S' H' → Rp K S' H' d v → E.rt d S' → D.rt v H'
  bk : ∀ ρ σ S' H', Ext S H S' H' → Rel K S' H' → Sl K S' H' ρ σ → E.bk ρ S' → D.bk σ H'
  ct : ∀ ρ σ S' H', Ext S H S' H' → Rel K S' H' → Sl K S' H' ρ σ → E.ct ρ S' → D.ct σ H'
theorem EnOk.ext {K : KB} {S S1 : Sto} {H H1 : Hp} {E : EnD} {D : Ends} (h : EnOk K S H E D) (e : Ext S H S1 H1) : EnOk K S1 H1 E D :=
  ⟨fun ρ σ S' H' e' => h.nx ρ σ S' H' (e.trans e'), fun d v S' H' e' => h.rt d v S' H' (e.trans e'), fun ρ σ S' H' e' => h.bk ρ σ S' H' (e.trans e'), fun ρ σ S' H' e' => h.ct ρ σ S' H' (e.trans e')⟩
def upS (K : KB) (W : WX) (t : SD) : TS := fun D σ H => ∃ (ρ : St') (S : Sto) (E : EnD), Rel K S H ∧ Sl K S H ρ σ ∧ WOk K S H E.w W ∧ EnOk K S H E D ∧ t E ρ S
structure PDS (X : Cx) (st : Stmt) (t : SD) : Prop where
  up : ∀ B W, L2N.Takes X W → PS X st (upS ⟨X.K, B⟩ W t)
structure PDB (X : Cx) (sts : List Stmt) (t : SD) : Prop where
  up : ∀ B W, L2N.Takes X W → PSs X sts (upS ⟨X.K, B⟩ W t)
def sNext : SD := fun E ρ S => E.nx ρ S
def sSeq (t u : SD) : SD := fun E ρ S => t { E with nx := u E } ρ S
theorem pdb_nil {X : Cx} : PDB X [] sNext := ⟨fun B W tk => pss_nil.imp fun D σ H h => by
  obtain ⟨ρ, S, E, R, L, O, k, h⟩ := h
  exact k.nx ρ σ S H .refl R L h⟩
theorem pdb_cons {X : Cx} {st : Stmt} {rest : List Stmt} {t u : SD} (h1 : PDS X st t) (h2 : PDB X rest u) : PDB X (st :: rest) (sSeq t u) :=
  ⟨fun B W tk => (pss_cons (h1.up B W tk) (h2.up B W tk)).imp fun D σ H h => by
    obtain ⟨ρ, S, E, R, L, O, k, h⟩ := h
    exact ⟨ρ, S, { E with nx := u E }, R, L, O, ⟨fun ρ1 σ1 S1 H1 e1 R1 L1 q1 => ⟨ρ1, S1, E, R1, L1, O.ext e1, k.ext e1, q1⟩, k.rt, k.bk, k.ct⟩, h⟩⟩
theorem pdb_one {X : Cx} {st : Stmt} {t : SD} (h : PDS X st t) : PDB X [st] t := ⟨fun B W tk => pss_one (h.up B W tk)⟩
theorem pds_pass {X : Cx} {pos : Pos} : PDS X (.Pass pos) sNext := ⟨fun B W tk => ps_pass.imp fun D σ H h => by
  obtain ⟨ρ, S, E, R, L, O, k, h⟩ := h
  exact k.nx ρ σ S H .refl R L h⟩
def sBrk : SD := fun E ρ S => E.bk ρ S
def sCnt : SD := fun E ρ S => E.ct ρ S
theorem pds_break {X : Cx} {pos : Pos} : PDS X (.Break pos) sBrk := ⟨fun B W tk => ps_break.imp fun D σ H h => by
  obtain ⟨ρ, S, E, R, L, O, k, h⟩ := h
  exact k.bk ρ σ S H .refl R L h⟩
theorem pds_continue {X : Cx} {pos : Pos} : PDS X (.Continue pos) sCnt := ⟨fun B W tk => ps_continue.imp fun D σ H h => by
  obtain ⟨ρ, S, E, R, L, O, k, h⟩ := h
  exact k.ct ρ σ S H .refl R L h⟩
/-- return: a list that the def made may be handed back as data (frozen) -/
def sRet (t : ED) : SD := fun E ρ S => t E.w ρ S fun d S1 => E.rt d S1
theorem pds_ret {X : Cx} {e : Expr} {t : ED} {pos : Pos} (h : PD X e t) : PDS X (.Return (some e) pos) (sRet t) := ⟨fun B W tk => (ps_ret (h.up B W tk)).imp fun D σ H h => by
  obtain ⟨ρ, S, E, R, L, O, k, h⟩ := h
  exact ⟨ρ, S, _, E.w, R, L, O, h, fun d v S' H' e R' r q => k.rt d v S' H' e R' r q⟩⟩
def sRetN : SD := fun E _ S => E.rt .non S
theorem pds_retN {X : Cx} {pos : Pos} : PDS X (.Return none pos) sRetN := ⟨fun B W tk => ps_retN.imp fun D σ H h => by
  obtain ⟨ρ, S, E, R, L, O, k, h⟩ := h
  exact k.rt .non .non S H .refl R rfl h⟩
def sIf (c : TD) (t u : SD) : SD := fun E ρ S => c E.w ρ S fun b S1 => if b = true then t E ρ S1 else u E ρ S1
theorem pds_if {X : Cx} {c : Expr} {a b : List Stmt} {tc : TD} {t u : SD} {pos : Pos} (hc : PDT X c tc) (ha : PDB X a t) (hb : PDB X b u) : PDS X (.If c a b pos) (sIf tc t u) :=
  ⟨fun B W tk => (ps_if (hc.up B W tk) (ha.up B W tk) (hb.up B W tk)).imp fun D σ H h => by
    obtain ⟨ρ, S, E, R, L, O, k, h⟩ := h
    refine ⟨ρ, S, _, E.w, R, L, O, h, fun b S1 H1 e1 R1 q1 => ?_⟩
    cases b with
    | true => exact ⟨ρ, S1, E, R1, L.ext e1, O.ext e1, k.ext e1, q1⟩
    | false => exact ⟨ρ, S1, E, R1, L.ext e1, O.ext e1, k.ext e1, q1⟩⟩
def sExpr (t : ED) : SD := fun E ρ S => t E.w ρ S fun _ S1 => E.nx ρ S1
theorem pds_expr {X : Cx} {e : Expr} {t : ED} {pos : Pos} (h : PD X e t) (hs : swapsWith e none pos.line X.env = pure false) : PDS X (.Expr e pos) (sExpr t) := ⟨fun B W tk => (ps_expr (h.up B W tk) hs).imp fun D σ H h => by
  obtain ⟨ρ, S, E, R, L, O, k, h⟩ := h
  exact ⟨ρ, S, _, E.w, R, L, O, h, fun d v S' H' e R' r q => k.nx ρ σ S' H' e R' (L.ext e) q⟩⟩
theorem pds_doc {X : Cx} {x j pos pos'} : PDS X (.Expr (.Constant (.str x) j pos) pos') sNext := ⟨fun B W tk => ps_doc.imp fun D σ H h => by
  obtain ⟨ρ, S, E, R, L, O, k, h⟩ := h
  exact k.nx ρ σ S H .refl R L h⟩

/-! ### targets -/
abbrev GD := D → XD → St' → Sto → (St' → Sto → Prop) → Prop
abbrev GDs := List D → XD → St' → Sto → (St' → Sto → Prop) → Prop
theorem wipe_get (σ : St) (j : Nat) : ∀ vs : List Nat, (wipe σ vs)[j]? = if j ∈ vs then σ[j]?.map (fun _ => none) else σ[j]?
  | [] => by simp [wipe]
  | v :: vs => by
    unfold wipe
    rw [List.getElem?_set]
    by_cases hv : v = j
    · subst hv
      rw [if_pos rfl, if_pos (List.mem_cons_self ..), wipe_length]
      by_cases hl : v < σ.length
      · rw [if_pos hl, List.getElem?_eq_getElem hl]; rfl
      · rw [if_neg hl, List.getElem?_eq_none (by omega)]; rfl
    · rw [if_neg hv, wipe_get σ j vs]
      have e : (j ∈ v :: vs) = (j ∈ vs) := by
        simp only [List.mem_cons, eq_iff_iff]
        exact ⟨fun h => h.elim (fun z => absurd z.symm hv) id, .inr⟩
      simp only [e]
theorem wipe_set {σ : St} {i : Nat} {x : Option V} {vs : List Nat} (h : i ∈ vs) : wipe (σ.set i x) vs = wipe σ vs := by
  apply List.ext_getElem?
  intro j
  rw [wipe_get, wipe_get, List.getElem?_set]
  by_cases hj : i = j
  · subst hj
    rw [if_pos h, if_pos h, if_pos rfl]
    by_cases hl : i < σ.length
    · rw [if_pos hl, List.getElem?_eq_getElem hl]; rfl
    · rw [if_neg hl, List.getElem?_eq_none (by omega)]
  · rw [if_neg hj]
/-- Z: the slots that may be changed -/
def upG (K : KB) (W : WX) (Z : List Nat) (g : GD) : TG := fun v σ H Q => ∃ (d : D) (ρ : St') (S : Sto) (q : St' → Sto → Prop) (w : XD), Rel K S H ∧ Sl K S H ρ σ ∧ WOk K S H w W ∧ Rp K S H d v ∧ g d w ρ S q ∧
  ∀ ρ' σ' S' H', wipe σ' Z = wipe σ Z → Ext S H S' H' → Rel K S' H' → Sl K S' H' ρ' σ' → q ρ' S' → Q σ' H'
def upGs (K : KB) (W : WX) (Z : List Nat) (g : GDs) : TGs := fun vs σ H Q => ∃ (ds : List D) (ρ : St') (S : Sto) (q : St' → Sto → Prop) (w : XD), Rel K S H ∧ Sl K S H ρ σ ∧ WOk K S H w W ∧ Rps K S H ds vs ∧ g ds w ρ S q ∧
  ∀ ρ' σ' S' H', wipe σ' Z = wipe σ Z → Ext S H S' H' → Rel K S' H' → Sl K S' H' ρ' σ' → q ρ' S' → Q σ' H'
theorem _root_.L2.PG.imp {X : Cx} {e : Expr} {t1 t2 : TG} (h : PG X e t1) (f : ∀ v σ H Q, t2 v σ H Q → t1 v σ H Q) : PG X e t2 := ⟨fun pins s σ H x u Q I r q => h.run pins s σ H x u Q I r (f x σ H Q q)⟩
theorem _root_.L2.PGs.imp {X : Cx} {e : List Expr} {t1 t2 : TGs} (h : PGs X e t1) (f : ∀ v σ H Q, t2 v σ H Q → t1 v σ H Q) : PGs X e t2 := ⟨fun pins s σ H x u Q I r q => h.run pins s σ H x u Q I r (f x σ H Q q)⟩
structure PDG (X : Cx) (e : Expr) (Z : List Nat) (g : GD) : Prop where
  up : ∀ B W, L2N.Takes X W → PG X e (upG ⟨X.K, B⟩ W Z g)
structure PDGs (X : Cx) (es : List Expr) (Z : List Nat) (g : GDs) : Prop where
  up : ∀ B W, L2N.Takes X W → PGs X es (upGs ⟨X.K, B⟩ W Z g)
def dName (i : Nat) : GD := fun d _ ρ S q => q (ρ.set i (some d)) S
theorem pdg_name {X : Cx} {i : Nat} {x : Str} {pos : Pos} {Z : List Nat} (hz : i ∈ Z) (h : PG X (.Name x pos) (gName i)) : PDG X (.Name x pos) Z (dName i) := ⟨fun B W tk => h.imp fun v σ H Q h => by
  obtain ⟨d, ρ, S, q, w, R, L, O, r, h, k⟩ := h
  exact k _ _ S H (wipe_set hz) .refl R (L.set r) h⟩
def dNil : GDs := fun ds _ ρ S q => ds = [] ∧ q ρ S
def dCons (g : GD) (gs : GDs) : GDs := fun ds w ρ S q => match ds with
  | d :: r => g d w ρ S fun ρ1 S1 => gs r w ρ1 S1 q
  | [] => False
theorem pdgs_nil {X : Cx} {Z : List Nat} : PDGs X [] Z dNil := ⟨fun B W tk => pgs_nil.imp fun v σ H Q h => by
  obtain ⟨ds, ρ, S, q, w, R, L, O, r, ⟨h1, h⟩, k⟩ := h
  subst h1
  cases r
  exact ⟨rfl, k _ _ S H rfl .refl R L h⟩⟩
theorem pdgs_cons {X : Cx} {e : Expr} {es : List Expr} {Z : List Nat} {g : GD} {gs : GDs} (h1 : PDG X e Z g) (h2 : PDGs X es Z gs) (hs : (assignEach (e :: es) X.env).map (·.2) = assign e X.env :: (assignEach es X.env).map (·.2)) : PDGs X (e :: es) Z (dCons g gs) := ⟨fun B W tk => (pgs_cons (h1.up B W tk) (h2.up B W tk) hs).imp fun v σ H Q h => by
  obtain ⟨ds, ρ, S, q, w, R, L, O, r, h, k⟩ := h
  cases ds with
  | nil => exact (show False from h).elim
  | cons d ds =>
    obtain ⟨v1, vr, rfl, r1, rr⟩ := r
    exact ⟨v1, vr, rfl, d, ρ, S, _, w, R, L, O, r1, h, fun ρ1 σ1 S1 H1 z1 e1 R1 L1 q1 => ⟨ds, ρ1, S1, q, w, R1, L1, O.ext e1, rr.ext e1, q1, fun ρ2 σ2 S2 H2 z2 e2 => k ρ2 σ2 S2 H2 (z2.trans z1) (e1.trans e2)⟩⟩⟩
def dTup (n : Nat) (g : GDs) : GD := fun d w ρ S q => match d with
  | .tup ds => ds.length = n ∧ g ds w ρ S q
  | .lst ds => ds.length = n ∧ g ds w ρ S q
  | _ => False
theorem pg_seqT {X : Cx} {es : List Expr} {k : Nat} {t : TGs} {n : Nat} {pos : Pos} (h1 : PG X (.Tuple es k pos) (gTup X.K n t)) (h2 : PG X (.Tuple es k pos) (gLst X.K n t)) : PG X (.Tuple es k pos) (fun v σ H Q => gTup X.K n t v σ H Q ∨ gLst X.K n t v σ H Q) :=
  ⟨fun pins s σ H v u Q I r q => q.elim (fun q => h1.run pins s σ H v u Q I r q) fun q => h2.run pins s σ H v u Q I r q⟩
theorem pdg_tup {X : Cx} {es : List Expr} {k : Nat} {g : GDs} {n : Nat} {pos : Pos} (h : ∀ {t : TGs}, PGs X es t → PG X (.Tuple es k pos) (fun v σ H Q => gTup X.K n t v σ H Q ∨ gLst X.K n t v σ H Q)) {Z : List Nat} (hg : PDGs X es Z g) : PDG X (.Tuple es k pos) Z (dTup n g) := ⟨fun B W tk => (h (hg.up B W tk)).imp fun v σ H Q h => by
  obtain ⟨d, ρ, S, q, w, R, L, O, r, h, k⟩ := h
  cases d <;> first | exact (show False from h).elim | skip
  · rename_i ds
    obtain ⟨hl, h⟩ := (show ds.length = n ∧ g ds w ρ S q from h)
    obtain ⟨a, vs, rfl, l, r⟩ := r
    exact .inr ⟨a, vs, rfl, l.sq, by rw [← r.length]; exact hl, ds, ρ, S, q, w, R, L, O, r, h, k⟩
  · rename_i ds
    obtain ⟨hl, h⟩ := (show ds.length = n ∧ g ds w ρ S q from h)
    obtain ⟨a, vs, rfl, l, r⟩ := r
    exact .inl ⟨a, vs, rfl, l.sq, by rw [← r.length]; exact hl, ds, ρ, S, q, w, R, L, O, r, h, k⟩⟩
/-- xs[i] = v -/
def setK (kvs : List (Key × D)) (k : Key) (a : Addr) (d : D) (S : Sto) (q : Sto → Prop) : Prop := kvs.length < sizeLine ∧ q (S.set a (.dct (DL.setD kvs k d)))
def setO (o : Option O) (a : Addr) (i : Int) (d : D) (S : Sto) (q : Sto → Prop) : Prop := match o with
  | some (.lst ds) => ∃ j, ixN ds.length i = some j ∧ q (S.set a (.lst (ds.set j d)))
  | some (.dct kvs) => setK kvs (.inl i) a d S q
  | _ => False
def setT (o : Option O) (a : Addr) (cs : List Nat) (d : D) (S : Sto) (q : Sto → Prop) : Prop := match o with
  | some (.dct kvs) => setK kvs (.inr (mkS cs)) a d S q
  | _ => False
def rSetD (o i d : D) (S : Sto) (q : Sto → Prop) : Prop := match o with
  | .ref a => (match i with
    | .int n => setO (S a) a n d S q
    | .str cs => setT (S a) a cs d S q
    | _ => False)
  | _ => False
def dSub (to ti : ED) (r : D → D → D → Sto → (Sto → Prop) → Prop) : GD := fun d w ρ S q => to w ρ S fun o S1 => ti w ρ S1 fun i S2 => r o i d S2 fun S3 => q ρ S3
def SetD (X : Cx) (r : D → D → D → Sto → (Sto → Prop) → Prop) : Prop := ∀ B, PSet X fun o i v H Q => ∃ dO dI dv S q, Rel ⟨X.K, B⟩ S H ∧ Rp ⟨X.K, B⟩ S H dO o ∧ Rp ⟨X.K, B⟩ S H dI i ∧ Rp ⟨X.K, B⟩ S H dv v ∧ r dO dI dv S q ∧ ∀ S' H', Ext S H S' H' → Rel ⟨X.K, B⟩ S' H' → q S' → Q H'
theorem _root_.L2.PSet.imp {X : Cx} {r r' : TSet} (h : PSet X r) (i : ∀ o x v H Q, r' o x v H Q → r o x v H Q) : PSet X r' := fun pins s σ H o x v ov iv u Q I h1 h2 h3 q => h pins s σ H o x v ov iv u Q I h1 h2 h3 (i o x v H Q q)
theorem _root_.L2.PSet.or {X : Cx} {r r' : TSet} (h : PSet X r) (h' : PSet X r') : PSet X fun o x v H Q => r o x v H Q ∨ r' o x v H Q := fun pins s σ H o x v ov iv u Q I h1 h2 h3 q => q.elim (fun q => h pins s σ H o x v ov iv u Q I h1 h2 h3 q) fun q => h' pins s σ H o x v ov iv u Q I h1 h2 h3 q
theorem setK_up {K : KB} {S : Sto} {H : Hp} {q : Sto → Prop} {Q : Hp → Prop} {a : Addr} {kvs : List (Key × D)} {k : Key} {d : D} {v : V} (R : Rel K S H) (rv : Rp K S H d v) (g : ∀ S' H', Ext S H S' H' → Rel K S' H' → q S' → Q H') (e : S a = some (.dct kvs)) (h : setK kvs k a d S q) : ∃ H', DPut H a (kV k) v H' ∧ Q H' := by
  obtain ⟨hl, h⟩ := h
  obtain ⟨vs, e1, ra⟩ := dct_up R e
  obtain ⟨us, e2, ru⟩ := put_up (k := k) rv ra
  have hz : ((kvs.map (·.1)).zip vs).length < sizeLine := by
    have := ra.length
    rw [List.length_zip, List.length_map]
    omega
  refine ⟨_, DPut.k e1 hz, ?_⟩
  rw [e2]
  have ex : Ext S H (S.set a (.dct (DL.setD kvs k d))) (upd H a (.dK (((DL.setD kvs k d).map (·.1)).zip us))) := Ext.put e _
  exact g _ _ ex (Rel.put R e (show RO _ _ _ a (.dct _) from ⟨us, upd_same, ru.ext ex⟩)) h
theorem setd_list {X : Cx} (hu : X.A.units + 1 < cLine) : SetD X rSetD := fun B => (set_list.or (set_dict hu)).imp fun o i v H Q ⟨dO, dI, dv, S, q, R, ro, ri, rv, h, k⟩ => by
  cases dO <;> first | exact (show False from h).elim | skip
  rename_i a
  cases dI <;> first | exact (show False from h).elim | skip
  · rename_i n
    cases ro; cases ri
    have h : setO (S a) a n dv S q := h
    cases e : S a with
    | none => rw [e] at h; exact h.elim
    | some ob =>
      rw [e] at h
      have r := R.ob a ob e
      cases ob with
      | lst ds =>
        obtain ⟨vs, e1, r⟩ := (show ∃ vs, H a = some (.lst vs) ∧ Rps _ S H ds vs from r)
        obtain ⟨j, hj, h⟩ := (show ∃ j, ixN ds.length n = some j ∧ q (S.set a (.lst (ds.set j dv))) from h)
        refine .inl ⟨a, vs, n, j, rfl, rfl, e1, by rw [← r.length]; exact hj, ?_⟩
        have ex : Ext S H (S.set a (.lst (ds.set j dv))) (upd H a (.lst (vs.set j v))) := Ext.put e _
        exact k _ _ ex (Rel.put R e (show RO ⟨X.K, B⟩ (S.set a (.lst (ds.set j dv))) (upd H a (.lst (vs.set j v))) a (.lst (ds.set j dv)) from ⟨_, upd_same, (r.set j rv).ext ex⟩)) h
      | ins C fs => exact h.elim
      | xd _ => exact h.elim
      | cell _ _ => exact h.elim
      | tbl _ => exact h.elim
      | dct kvs =>
        obtain ⟨H', h1, h2⟩ := setK_up R rv k e h
        exact .inr ⟨a, H', rfl, h1, h2⟩
  · rename_i cs
    cases ro; cases ri
    have h : setT (S a) a cs dv S q := h
    cases e : S a with
    | none => rw [e] at h; exact h.elim
    | some ob =>
      rw [e] at h
      cases ob with
      | dct kvs =>
        obtain ⟨H', h1, h2⟩ := setK_up R rv k e h
        exact .inr ⟨a, H', rfl, h1, h2⟩
      | lst _ => exact h.elim
      | ins C fs => exact h.elim
      | xd _ => exact h.elim
      | cell _ _ => exact h.elim
      | tbl _ => exact h.elim
theorem pdg_sub {X : Cx} {o i : Expr} {to ti : ED} {r : D → D → D → Sto → (Sto → Prop) → Prop} {pos : Pos} (ho : PD X o to) (hi : PD X i ti) (hs : SetD X r)
    (ha : ∀ v, assign (.Subscript o i pos) X.env v = (do
      let ov ← holding [v] (eval o X.env)
      let iv ← holding [v, ov] (eval i X.env)
      standAt pos
      holding [v, ov, iv] (setItem ov iv v)
      release [v, ov, iv] [])) : PDG X (.Subscript o i pos) [] (dSub to ti r) := ⟨fun B W tk => (pg_sub (ho.up B W tk) (hi.up B W tk) (hs B) ha).imp fun v σ H Q h => by
  obtain ⟨d, ρ, S, q, w, R, L, O, rd, h, k⟩ := h
  refine two_up (r := fun o i S2 => r o i d S2 fun S3 => q ρ S3) R L O h fun dx dy x y S' H' e R' rx ry q' => ⟨dx, dy, d, S', _, R', rx, ry, rd.ext e, q', fun S2 H2 e2 R2 q2 => k ρ σ S2 H2 rfl (e.trans e2) R2 (L.ext (e.trans e2)) q2⟩⟩
def sAsg (t : ED) (g : GD) : SD := fun E ρ S => t E.w ρ S fun d S1 => g d E.w ρ S1 E.nx
theorem asg_up {K : KB} {W : WX} {Z : List Nat} {t : ED} {g : GD} {D : Ends} {σ : St} {H : Hp} (h : upS K W (sAsg t g) D σ H) : tAsg (upE K W t) (upG K W Z g) D σ H := by
  obtain ⟨ρ, S, E, R, L, O, k, h⟩ := h
  exact ⟨ρ, S, _, E.w, R, L, O, h, fun d v S1 H1 e1 R1 r1 q1 => ⟨d, ρ, S1, E.nx, E.w, R1, L.ext e1, O.ext e1, r1, q1, fun ρ2 σ2 S2 H2 _ e2 R2 L2 q2 => k.nx ρ2 σ2 S2 H2 (e1.trans e2) R2 L2 q2⟩⟩
theorem pds_asg {X : Cx} {tg e : Expr} {t : ED} {g : GD} {Z : List Nat} {pos : Pos} (he : PD X e t) (hg : PDG X tg Z g) (hs : swapsWithSole [tg] e pos.line X.env = pure false) (hw : swappedStores [tg] e X.env = pure none) (h1 : (assignEach [tg] X.env).map (·.2) = [assign tg X.env]) : PDS X (.Assign [tg] e pos) (sAsg t g) :=
  ⟨fun B W tk => (ps_asg (he.up B W tk) (hg.up B W tk) hs hw h1).imp fun D σ H h => asg_up h⟩
end DL

namespace DL
open PySem PySem.Spec PyProof.Rows L2 RZ

/-- one more list is being made -/
def KB.add (K : KB) (L : Addr) : KB := ⟨K.k, fun a => K.b a ∨ a = L⟩
section
variable {K : KB} {S : Sto} {H : Hp} {L : Addr}
theorem XAt.add {a : Addr} {o : HO} (n : H L = none) (l : XAt K S H a o) : XAt (K.add L) S H a o := ⟨l.1, l.2.1, fun z => z.elim l.2.2 fun e => by have q := l.1; rw [e, n] at q; cases q⟩
theorem CloAt.add {F : NdefX.NF} {e : Expr} {T : Option Addr} {f : Addr} (n : H L = none) (h : CloAt K S H F e T f) : CloAt (K.add L) S H F e T f := ⟨h.fn.add n, h.cd.add n, h.df⟩
mutual
theorem Rp.add (n : H L = none) : ∀ {d : D} {v : V}, Rp K S H d v → Rp (K.add L) S H d v
  | .non, _, h => h
  | .bl _, _, h => h
  | .int _, _, h => h
  | .str _, _, h => h
  | .lst _, _, ⟨a, vs, e1, l, r⟩ => ⟨a, vs, e1, ⟨l.1, l.2.1, fun z => z.elim l.2.2 fun e => by have q := l.1; rw [e, n] at q; cases q⟩, Rps.add n r⟩
  | .rol _, _, ⟨a, vs, e1, l, r⟩ => ⟨a, vs, e1, l.imp (fun l => ⟨l.1, l.2.1, fun z => z.elim l.2.2 fun e => by
      rcases l.1 with q | ⟨o, q⟩
      · rw [e, n] at q; cases q
      · rw [e, n] at q; cases q⟩) id, Rps.add n r⟩
  | .tup _, _, ⟨a, vs, e1, l, r⟩ => ⟨a, vs, e1, l, Rps.add n r⟩
  | .ref _, _, h => h
  | .ty _, _, h => h
  | .clo _ _ _, _, ⟨f, e1, c⟩ => ⟨f, e1, c.add n⟩
theorem Rps.add (n : H L = none) : ∀ {ds : List D} {vs : List V}, Rps K S H ds vs → Rps (K.add L) S H ds vs
  | [], _, h => h
  | _ :: _, _, ⟨v, r, e1, h, t⟩ => ⟨v, r, e1, h.add n, Rps.add n t⟩
end
theorem XAt.rem {a : Addr} {o : HO} (l : XAt (K.add L) S H a o) : XAt K S H a o := ⟨l.1, l.2.1, fun z => l.2.2 (.inl z)⟩
theorem CloAt.rem {F : NdefX.NF} {e : Expr} {T : Option Addr} {f : Addr} (h : CloAt (K.add L) S H F e T f) : CloAt K S H F e T f := ⟨h.fn.rem, h.cd.rem, h.df⟩
mutual
theorem Rp.rem : ∀ {d : D} {v : V}, Rp (K.add L) S H d v → Rp K S H d v
  | .non, _, h => h
  | .bl _, _, h => h
  | .int _, _, h => h
  | .str _, _, h => h
  | .lst _, _, ⟨a, vs, e1, l, r⟩ => ⟨a, vs, e1, ⟨l.1, l.2.1, fun z => l.2.2 (.inl z)⟩, Rps.rem r⟩
  | .rol _, _, ⟨a, vs, e1, l, r⟩ => ⟨a, vs, e1, l.imp (fun l => ⟨l.1, l.2.1, fun z => l.2.2 (.inl z)⟩) id, Rps.rem r⟩
  | .tup _, _, ⟨a, vs, e1, l, r⟩ => ⟨a, vs, e1, l, Rps.rem r⟩
  | .ref _, _, h => h
  | .ty _, _, h => h
  | .clo _ _ _, _, ⟨f, e1, c⟩ => ⟨f, e1, c.rem⟩
theorem Rps.rem : ∀ {ds : List D} {vs : List V}, Rps (K.add L) S H ds vs → Rps K S H ds vs
  | [], _, h => h
  | _ :: _, _, ⟨v, r, e1, h, t⟩ => ⟨v, r, e1, h.rem, Rps.rem t⟩
end
end
theorem RAt.add {K : KB} {S : Sto} {H : Hp} {L a : Addr} {vs : List V} (n : H L = none) (l : RAt K S H a vs) : RAt (K.add L) S H a vs := l.imp (fun l => ⟨l.1, l.2.1, fun z => z.elim l.2.2 fun e => by
  rcases l.1 with q | ⟨o, q⟩
  · rw [e, n] at q; cases q
  · rw [e, n] at q; cases q⟩) id
theorem Sl.add {K : KB} {S : Sto} {H : Hp} {L : Addr} {ρ : St'} {σ : St} (h : Sl K S H ρ σ) (n : H L = none) : Sl (K.add L) S H ρ σ := ⟨h.len, fun i d q => let ⟨v, a, r⟩ := h.at_ i d q; ⟨v, a, r.add n⟩⟩
theorem Sl.rem {K : KB} {S : Sto} {H : Hp} {L : Addr} {ρ : St'} {σ : St} (h : Sl (K.add L) S H ρ σ) : Sl K S H ρ σ := ⟨h.len, fun i d q => let ⟨v, a, r⟩ := h.at_ i d q; ⟨v, a, r.rem⟩⟩
theorem RO.add {K : KB} {S : Sto} {H : Hp} {L a : Addr} {o : O} (n : H L = none) (h : RO K S H a o) : RO (K.add L) S H a o := by
  cases o with
  | lst ds => obtain ⟨vs, h, r⟩ := h; exact ⟨vs, h, r.add n⟩
  | ins C fs => obtain ⟨dx, vs, h, x, d, r⟩ := h; exact ⟨dx, vs, h, x, d, r.add n⟩
  | dct kvs => obtain ⟨vs, h, r⟩ := h; exact ⟨vs, h, r.add n⟩
  | xd fs => obtain ⟨vs, h, r⟩ := h; exact ⟨vs, h, r.add n⟩
  | cell o d => obtain ⟨h, v, u, z, y, r⟩ := h; exact ⟨h, v, u, z, y, r.add n⟩
  | tbl q => obtain ⟨ps, h, t, r⟩ := h; exact ⟨ps, h, t, fun p cv z => let ⟨c, e1, x⟩ := r p cv z; ⟨c, e1, x.add n⟩⟩
theorem RO.rem {K : KB} {S : Sto} {H : Hp} {L a : Addr} {o : O} (h : RO (K.add L) S H a o) : RO K S H a o := by
  cases o with
  | lst ds => obtain ⟨vs, h, r⟩ := h; exact ⟨vs, h, r.rem⟩
  | ins C fs => obtain ⟨dx, vs, h, x, d, r⟩ := h; exact ⟨dx, vs, h, x, d, r.rem⟩
  | dct kvs => obtain ⟨vs, h, r⟩ := h; exact ⟨vs, h, r.rem⟩
  | xd fs => obtain ⟨vs, h, r⟩ := h; exact ⟨vs, h, r.rem⟩
  | cell o d => obtain ⟨h, v, u, z, y, r⟩ := h; exact ⟨h, v, u, z, y, r.rem⟩
  | tbl q => obtain ⟨ps, h, t, r⟩ := h; exact ⟨ps, h, t, fun p cv z => let ⟨c, e1, x⟩ := r p cv z; ⟨c, e1, x.rem⟩⟩
theorem Rel.rem {K : KB} {S : Sto} {H : Hp} {L : Addr} (R : Rel (K.add L) S H) : Rel K S H := ⟨fun a o h => (R.ob a o h).rem, fun a z => R.bl a (.inl z)⟩
/-- the new list is laid -/
theorem Rel.begin {K : KB} {S : Sto} {H : Hp} {L : Addr} (R : Rel K S H) (n : H L = none) (o : HO) : Rel (K.add L) S (upd H L o) :=
  ⟨fun a u h => ((R.ob a u h).add n).ext (Ext.new R n o) (by
    obtain ⟨v, e⟩ := (R.ob a u h).at
    exact upd_ne (ne_of_none e n)), fun a z => by
    rcases z with z | rfl
    · obtain ⟨⟨u, e⟩, s⟩ := R.bl a z
      exact ⟨⟨u, by rw [upd_ne (ne_of_none e n)]; exact e⟩, s⟩
    · exact ⟨⟨o, upd_same⟩, R.free n⟩⟩
theorem RAt.grow {K : KB} {S : Sto} {H : Hp} {L a : Addr} {vs : List V} {o : HO} (l : RAt (K.add L) S H a vs) : RAt (K.add L) S (upd H L o) a vs := l.imp (fun l => ⟨l.1.imp (fun q => by rw [upd_ne fun e => l.2.2 (.inr e)]; exact q) fun ⟨o, q⟩ => ⟨o, by rw [upd_ne fun e => l.2.2 (.inr e)]; exact q⟩, l.2⟩) id
theorem TAt.grow {K : KB} {S : Sto} {H : Hp} {L a : Addr} {vs : List V} {o : HO} (n : ∀ xs, H L ≠ some (.tup xs)) (l : TAt (K.add L) S H a vs) : TAt (K.add L) S (upd H L o) a vs := l.imp (fun l => ⟨by rw [upd_ne fun e => n _ (by rw [← e]; exact l.1)]; exact l.1, l.2⟩) id
section
variable {K : KB} {S : Sto} {H : Hp} {L : Addr} {o : HO}
theorem XAt.grow {a : Addr} {u : HO} (l : XAt (K.add L) S H a u) : XAt (K.add L) S (upd H L o) a u := ⟨by rw [upd_ne fun e => l.2.2 (.inr e)]; exact l.1, l.2⟩
theorem CloAt.grow {F : NdefX.NF} {e : Expr} {T : Option Addr} {f : Addr} (n : ∀ xs, H L ≠ some (.tup xs)) (h : CloAt (K.add L) S H F e T f) : CloAt (K.add L) S (upd H L o) F e T f := ⟨h.fn.grow, h.cd.grow, fun a z => (h.df a z).grow n⟩
mutual
theorem Rp.grow : ∀ {d : D} {v : V}, (∀ xs, H L ≠ some (.tup xs)) → Rp (K.add L) S H d v → Rp (K.add L) S (upd H L o) d v
  | .non, _, _, h => h
  | .bl _, _, _, h => h
  | .int _, _, _, h => h
  | .str _, _, _, h => h
  | .lst _, _, n, ⟨a, vs, e1, l, r⟩ => ⟨a, vs, e1, ⟨by rw [upd_ne fun e => l.2.2 (.inr e)]; exact l.1, l.2⟩, Rps.grow n r⟩
  | .rol _, _, n, ⟨a, vs, e1, l, r⟩ => ⟨a, vs, e1, l.imp (fun l => ⟨l.1.imp (fun q => by rw [upd_ne fun e => l.2.2 (.inr e)]; exact q) fun ⟨o, q⟩ => ⟨o, by rw [upd_ne fun e => l.2.2 (.inr e)]; exact q⟩, l.2⟩) id, Rps.grow n r⟩
  | .tup _, _, n, ⟨a, vs, e1, l, r⟩ => ⟨a, vs, e1, l.imp (fun l => ⟨by rw [upd_ne fun e => n _ (by rw [← e]; exact l.1)]; exact l.1, l.2⟩) id, Rps.grow n r⟩
  | .ref _, _, _, h => h
  | .ty _, _, _, h => h
  | .clo _ _ _, _, n, ⟨f, e1, c⟩ => ⟨f, e1, c.grow n⟩
theorem Rps.grow : ∀ {ds : List D} {vs : List V}, (∀ xs, H L ≠ some (.tup xs)) → Rps (K.add L) S H ds vs → Rps (K.add L) S (upd H L o) ds vs
  | [], _, _, h => h
  | _ :: _, _, n, ⟨v, r, e1, h, t⟩ => ⟨v, r, e1, h.grow n, Rps.grow n t⟩
end
theorem RO.grow {a : Addr} {u : O} (n : ∀ xs, H L ≠ some (.tup xs)) (no : ∀ x, H L ≠ some (.own x)) (ha : a ≠ L) (h : RO (K.add L) S H a u) : RO (K.add L) S (upd H L o) a u := by
  cases u with
  | lst ds => obtain ⟨vs, h, r⟩ := h; exact ⟨vs, by rw [upd_ne ha]; exact h, r.grow n⟩
  | ins C fs => obtain ⟨dx, vs, h, x, d, r⟩ := h; exact ⟨dx, vs, by rw [upd_ne ha]; exact h, x, by rw [upd_ne fun e => no _ (by rw [← e]; exact d)]; exact d, r.grow n⟩
  | dct kvs => obtain ⟨vs, h, r⟩ := h; exact ⟨vs, by rw [upd_ne ha]; exact h, r.grow n⟩
  | xd fs => obtain ⟨vs, h, r⟩ := h; exact ⟨vs, by rw [upd_ne ha]; exact h, r.grow n⟩
  | cell o d => obtain ⟨h, v, u, z, y, r⟩ := h; exact ⟨by rw [upd_ne ha]; exact h, v, u, z, y, r.grow n⟩
  | tbl q => obtain ⟨ps, h, t, r⟩ := h; exact ⟨ps, by rw [upd_ne ha]; exact h, t, fun p cv z => let ⟨c, e1, x⟩ := r p cv z; ⟨c, e1, x.grow⟩⟩
theorem Rel.grow (R : Rel (K.add L) S H) (n : ∀ xs, H L ≠ some (.tup xs)) (no : ∀ x, H L ≠ some (.own x)) : Rel (K.add L) S (upd H L o) := ⟨fun a u h => (R.ob a u h).grow n no (fun e => by
    have := (R.bl L (.inr rfl)).2
    rw [← e, h] at this; cases this), fun a z => by
    obtain ⟨⟨u, e⟩, s⟩ := R.bl a z
    by_cases ha : a = L
    · exact ⟨⟨o, by rw [ha]; exact upd_same⟩, s⟩
    · exact ⟨⟨u, by rw [upd_ne ha]; exact e⟩, s⟩⟩
end

/-! ### what a for walks -/
/-- a condition at each turn -/
abbrev KP := Option (Sto → Prop)
def kpOk (kp : KP) (S : Sto) : Prop := match kp with
  | none => True
  | some k => k S
def kpAnd (a b : KP) : KP := match a with
  | none => b
  | some x => (match b with
    | none => some x
    | some y => some fun S => x S ∧ y S)
theorem kpAnd_ok {a b : KP} {S : Sto} (h : kpOk (kpAnd a b) S) : kpOk a S ∧ kpOk b S := by
  cases a with
  | none => exact ⟨trivial, h⟩
  | some x =>
    cases b with
    | none => exact ⟨h, trivial⟩
    | some y => exact h
structure Walks (k : PySem.W.Frag) (J : It) (kp : KP) (ds : List D) (G : KB → Sto → Hp → Prop) : Prop where
  ext : ∀ K S H S' H', G K S H → Ext S H S' H' → G K S' H'
  add : ∀ K S H L, G K S H → H L = none → G (K.add L) S H
  grow : ∀ K S H L o, G (KB.add K L) S H → (∀ xs, H L ≠ some (.tup xs)) → G (KB.add K L) S (upd H L o)
  go : ∀ (K : KB) i S H, K.k = k → Rel K S H → G K S H → kpOk kp S → i < ds.length → J.go i H
  yld : ∀ (K : KB) i S H x H', K.k = k → Rel K S H → G K S H → kpOk kp S → J.yld i H x H' → ∀ d, ds[i]? = some d → Rel K S H' ∧ Ext S H S H' ∧ Rp K S H' d x
  stop : ∀ (K : KB) S H, K.k = k → Rel K S H → G K S H → kpOk kp S → J.stop ds.length H
abbrev ID := XD → St' → Sto → (KP → List D → Sto → Prop) → Prop
def upI (K : KB) (W : WX) (t : ID) : TI := fun σ H R => ∃ (ρ : St') (S : Sto) (q : KP → List D → Sto → Prop) (w : XD), Rel K S H ∧ Sl K S H ρ σ ∧ WOk K S H w W ∧ t w ρ S q ∧
  ∀ J kp ds G S' H', Ext S H S' H' → Rel K S' H' → G K S' H' → Walks K.k J kp ds G → q kp ds S' → R J H'
structure PDI (X : Cx) (tg iter : Expr) (t : ID) : Prop where
  up : ∀ B W, L2N.Takes X W → PI X tg iter (upI ⟨X.K, B⟩ W t)
theorem _root_.L2.PI.imp {X : Cx} {tg e : Expr} {t1 t2 : TI} (h : PI X tg e t1) (f : ∀ σ H Q, t2 σ H Q → t1 σ H Q) : PI X tg e t2 := ⟨fun pins s σ H R I q => h.run pins s σ H R I (f σ H R q)⟩

theorem LAt.rat {K : KB} {S : Sto} {H : Hp} {a : Addr} {vs : List V} (h : LAt K S H a vs) : RAt K S H a vs := .inl ⟨.inl h.1, h.2⟩
def signs (cs : List Nat) : List D := cs.map fun c => .str [c]
/-! what is walked, as data -/
structure SrcOk (k : PySem.W.Frag) (x : Sq) (kp : KP) (ds : List D) (G : KB → Sto → Hp → Prop) : Prop where
  ext : ∀ K S H S' H', G K S H → Ext S H S' H' → G K S' H'
  add : ∀ K S H L, G K S H → H L = none → G (K.add L) S H
  grow : ∀ K S H L o, G (KB.add K L) S H → (∀ xs, H L ≠ some (.tup xs)) → G (KB.add K L) S (upd H L o)
  at_ : ∀ (K : KB) S H, K.k = k → Rel K S H → G K S H → kpOk kp S → ∃ vs, x.at_ K.k H vs ∧ Rps K S H ds vs
section
variable {k : PySem.W.Frag}
theorem src_list {a : Addr} {ds : List D} {vs : List V} : SrcOk k (.l a) none ds (fun K S H => RAt K S H a vs ∧ Rps K S H ds vs) :=
  ⟨fun K S H S' H' ⟨h1, h2⟩ e => ⟨h1.ext e, h2.ext e⟩, fun K S H L ⟨h1, h2⟩ n => ⟨h1.add n, h2.add n⟩, fun K S H L o ⟨h1, h2⟩ n => ⟨h1.grow, h2.grow n⟩, fun K S H _ _ ⟨h, r⟩ _ => ⟨vs, h.sq, r⟩⟩
theorem src_tup {a : Addr} {ds : List D} {vs : List V} : SrcOk k (.t a) none ds (fun K S H => TAt K S H a vs ∧ Rps K S H ds vs) :=
  ⟨fun K S H S' H' ⟨h1, h2⟩ e => ⟨h1.ext e, h2.ext e⟩, fun K S H L ⟨h1, h2⟩ n => ⟨h1, h2.add n⟩, fun K S H L o ⟨h1, h2⟩ n => ⟨h1.grow n, h2.grow n⟩, fun K S H _ _ ⟨h, r⟩ _ => ⟨vs, h.sq, r⟩⟩
theorem rps_signs {K : KB} {S : Sto} {H : Hp} : ∀ {cs : List Nat}, Rps K S H (signs cs) (cs.map fun c => V.str ⟨#[c]⟩)
  | [] => rfl
  | c :: cs => ⟨_, _, rfl, rfl, rps_signs⟩
theorem src_str {cs : List Nat} : SrcOk k (.s (mkS cs)) none (signs cs) (fun _ _ _ => True) :=
  ⟨fun _ _ _ _ _ _ _ => trivial, fun _ _ _ _ _ _ => trivial, fun _ _ _ _ _ _ _ => trivial, fun K S H _ _ _ _ => ⟨_, rfl, by
    show Rps K S H (signs cs) (cs.toArray.toList.map _)
    rw [List.toList_toArray]; exact rps_signs⟩⟩
theorem src_ref {a : Addr} {ds : List D} : SrcOk k (.l a) (some fun S => S a = some (.lst ds)) ds (fun _ _ _ => True) :=
  ⟨fun _ _ _ _ _ _ _ => trivial, fun _ _ _ _ _ _ => trivial, fun _ _ _ _ _ _ _ => trivial, fun K S H _ R _ h => by
    obtain ⟨vs, e, r⟩ := (show ∃ vs, H a = some (.lst vs) ∧ Rps K S H ds vs from R.ob a _ h)
    exact ⟨vs, SqL.of e, r⟩⟩
def itOf (k : PySem.W.Frag) : Sq → It
  | .l a => Itl k a
  | .t a => Itt k a
  | .s z => Its z
theorem walks_one {x : Sq} {kp : KP} {ds : List D} {G : KB → Sto → Hp → Prop} (s : SrcOk k x kp ds G) : Walks k (itOf k x) kp ds G := by
  refine ⟨s.ext, s.add, s.grow, fun K i S H hk R g c hi => ?_, fun K i S H v H' hk R g c y d hd => ?_, fun K S H hk R g c => ?_⟩
  · obtain ⟨vs, h, r⟩ := s.at_ K S H hk R g c
    obtain ⟨v, hv, _⟩ := r.get (List.getElem?_eq_getElem hi)
    cases x with
    | l a => exact ⟨vs, v, hk ▸ h, hv⟩
    | t a => exact ⟨vs, v, hk ▸ h, hv⟩
    | s z =>
      have h : vs = _ := h
      subst h
      rw [List.getElem?_map] at hv
      show i < z.cps.size
      cases e : z.cps.toList[i]? with
      | none => rw [e] at hv; cases hv
      | some c =>
        have := (List.getElem?_eq_some_iff.mp e).1
        rwa [Array.length_toList] at this
  · obtain ⟨vs, h, r⟩ := s.at_ K S H hk R g c
    obtain ⟨u, hu, ru⟩ := r.get hd
    cases x with
    | l a =>
      obtain ⟨e, y⟩ := y
      subst e
      have := y vs (hk ▸ h)
      rw [hu] at this; cases this
      exact ⟨R, .refl, ru⟩
    | t a =>
      obtain ⟨e, y⟩ := y
      subst e
      have := y vs (hk ▸ h)
      rw [hu] at this; cases this
      exact ⟨R, .refl, ru⟩
    | s z =>
      obtain ⟨e, c, hc, ex⟩ := y
      subst e ex
      have h : vs = _ := h
      subst h
      have hc : z.cps[i]? = some c := hc
      rw [List.getElem?_map, Array.getElem?_toList, hc] at hu
      cases hu
      exact ⟨R, .refl, ru⟩
  · obtain ⟨vs, h, r⟩ := s.at_ K S H hk R g c
    cases x with
    | l a => exact ⟨vs, hk ▸ h, by rw [r.length]; exact Nat.le_refl _⟩
    | t a => exact ⟨vs, hk ▸ h, by rw [r.length]; exact Nat.le_refl _⟩
    | s z =>
      have h : vs = _ := h
      subst h
      have := r.length
      rw [List.length_map, Array.length_toList] at this
      exact Nat.le_of_eq this.symm
def intsD (lo : Int) : Nat → List D
  | 0 => []
  | n + 1 => .int lo :: intsD (lo + 1) n
theorem intsD_length : ∀ (n : Nat) (lo : Int), (intsD lo n).length = n
  | 0, _ => rfl
  | n + 1, lo => by simp [intsD, intsD_length n]
theorem intsD_get : ∀ (n : Nat) (lo : Int) (i : Nat), i < n → (intsD lo n)[i]? = some (.int (lo + i))
  | 0, _, _, h => absurd h (Nat.not_lt_zero _)
  | n + 1, lo, 0, _ => by simp [intsD]
  | n + 1, lo, i + 1, h => by
    have e := intsD_get n (lo + 1) i (Nat.lt_of_succ_lt_succ h)
    simp only [intsD, List.getElem?_cons_succ]
    rw [e]
    congr 2
    omega
theorem walks_rng {lo : Int} {n : Nat} : Walks k (Itr lo n) none (intsD lo n) (fun _ _ _ => True) := by
  refine ⟨fun K S H S' H' _ e => trivial, fun K S H L _ n => trivial, fun K S H L o _ n => trivial, fun K i S H hk R _ _ hi => ?_, fun K i S H x H' hk R _ _ y d hd => ?_, fun K S H hk R _ _ => ?_⟩
  · rw [intsD_length] at hi; exact hi
  · obtain ⟨e, ex⟩ := y
    subst e ex
    have hi : i < n := by
      have := (List.getElem?_eq_some_iff.mp hd).1
      rwa [intsD_length] at this
    rw [intsD_get n lo i hi] at hd
    cases hd
    exact ⟨R, .refl, rfl⟩
  · show n ≤ _
    rw [intsD_length]; exact Nat.le_refl _
def pairs : List D → List D → List D
  | a :: as, b :: bs => .tup [a, b] :: pairs as bs
  | _, _ => []
theorem pairs_get : ∀ {as bs : List D} {i : Nat} {d : D}, (pairs as bs)[i]? = some d → ∃ a b, as[i]? = some a ∧ bs[i]? = some b ∧ d = .tup [a, b]
  | [], _, _, _, h => by simp [pairs] at h
  | _ :: _, [], _, _, h => by simp [pairs] at h
  | a :: as, b :: bs, 0, d, h => by simp [pairs] at h; exact ⟨a, b, rfl, rfl, h.symm⟩
  | a :: as, b :: bs, i + 1, d, h => by
    simp only [pairs, List.getElem?_cons_succ] at h
    obtain ⟨x, y, h1, h2, h3⟩ := pairs_get h
    exact ⟨x, y, by simpa using h1, by simpa using h2, h3⟩
theorem pairs_length : ∀ (as bs : List D), (pairs as bs).length = min as.length bs.length
  | [], _ => by simp [pairs]
  | _ :: _, [] => by simp [pairs]
  | _ :: as, _ :: bs => by simp [pairs, pairs_length as bs]
theorem pair_yld {K : KB} {S : Sto} {H : Hp} {T : Addr} {d e : D} {x y : V} (R : Rel K S H) (hT : H T = none) (rd : Rp K S H d x) (re : Rp K S H e y) :
    Rel K S (upd H T (.tup [x, y])) ∧ Ext S H S (upd H T (.tup [x, y])) ∧ Rp K S (upd H T (.tup [x, y])) (.tup [d, e]) (.ref T) := by
  have ex := Ext.new R hT (.tup [x, y])
  exact ⟨Rel.new R hT _, ex, T, [x, y], rfl, .inl ⟨upd_same, R.free hT⟩, ⟨x, _, rfl, rd.ext ex, y, _, rfl, re.ext ex, rfl⟩⟩
theorem walks_zip {x y : Sq} {k1 k2 : KP} {ds es : List D} {G1 G2 : KB → Sto → Hp → Prop} (s1 : SrcOk k x k1 ds G1) (s2 : SrcOk k y k2 es G2) : Walks k (ItzG k x y) (kpAnd k1 k2) (pairs ds es) (fun K S H => G1 K S H ∧ G2 K S H) := by
  refine ⟨fun K S H S' H' h e => ⟨s1.ext _ _ _ _ _ h.1 e, s2.ext _ _ _ _ _ h.2 e⟩, fun K S H L h n => ⟨s1.add _ _ _ _ h.1 n, s2.add _ _ _ _ h.2 n⟩, fun K S H L o h n => ⟨s1.grow _ _ _ _ _ h.1 n, s2.grow _ _ _ _ _ h.2 n⟩, fun K i S H hk R g c hi => ?_, fun K i S H v H' hk R g c yl d hd => ?_, fun K S H hk R g c => ?_⟩
  · obtain ⟨c1, c2⟩ := kpAnd_ok c
    obtain ⟨vs, h, r⟩ := s1.at_ K S H hk R g.1 c1
    obtain ⟨us, h3, r3⟩ := s2.at_ K S H hk R g.2 c2
    obtain ⟨p, q, h1, h2, _⟩ := pairs_get (List.getElem?_eq_getElem hi)
    obtain ⟨v, hv, _⟩ := r.get h1
    obtain ⟨u, hu, _⟩ := r3.get h2
    exact ⟨vs, us, v, u, hk ▸ h, hk ▸ h3, hv, hu⟩
  · obtain ⟨c1, c2⟩ := kpAnd_ok c
    obtain ⟨vs, h, r⟩ := s1.at_ K S H hk R g.1 c1
    obtain ⟨us, h3, r3⟩ := s2.at_ K S H hk R g.2 c2
    obtain ⟨p, q, h1, h2, rfl⟩ := pairs_get hd
    obtain ⟨T, v, u, ex, hT, eH, y1, y2⟩ := yl
    subst ex eH
    obtain ⟨v', hv, rv⟩ := r.get h1
    obtain ⟨u', hu, ru⟩ := r3.get h2
    have e1 := y1 vs (hk ▸ h)
    have e2 := y2 us (hk ▸ h3)
    rw [hv] at e1; cases e1
    rw [hu] at e2; cases e2
    exact pair_yld R hT rv ru
  · obtain ⟨c1, c2⟩ := kpAnd_ok c
    obtain ⟨vs, h, r⟩ := s1.at_ K S H hk R g.1 c1
    obtain ⟨us, h3, r3⟩ := s2.at_ K S H hk R g.2 c2
    refine ⟨vs, us, hk ▸ h, hk ▸ h3, ?_, ?_, ?_⟩
    · rw [pairs_length, r.length, r3.length]; omega
    · rw [pairs_length, r.length, r3.length]; omega
    · rw [pairs_length, r.length, r3.length]; omega
def enum (lo : Int) : List D → List D
  | [] => []
  | d :: ds => .tup [.int lo, d] :: enum (lo + 1) ds
theorem enum_get : ∀ {ds : List D} {lo : Int} {i : Nat} {d : D}, (enum lo ds)[i]? = some d → ∃ a, ds[i]? = some a ∧ d = .tup [.int (lo + i), a]
  | [], _, _, _, h => by simp [enum] at h
  | a :: as, lo, 0, d, h => by simp [enum] at h; exact ⟨a, rfl, by rw [← h]; simp⟩
  | a :: as, lo, i + 1, d, h => by
    simp only [enum, List.getElem?_cons_succ] at h
    obtain ⟨x, h1, h3⟩ := enum_get h
    refine ⟨x, by simpa using h1, ?_⟩
    rw [h3]; congr 3; omega
theorem enum_length : ∀ (ds : List D) (lo : Int), (enum lo ds).length = ds.length
  | [], _ => rfl
  | _ :: ds, lo => by simp [enum, enum_length ds]
theorem walks_enum {x : Sq} {kp : KP} {ds : List D} {G : KB → Sto → Hp → Prop} (s : SrcOk k x kp ds G) : Walks k (IteG k x) kp (enum 0 ds) G := by
  refine ⟨s.ext, s.add, s.grow, fun K i S H hk R g c hi => ?_, fun K i S H v H' hk R g c y d hd => ?_, fun K S H hk R g c => ?_⟩
  · obtain ⟨vs, h, r⟩ := s.at_ K S H hk R g c
    obtain ⟨p, h1, _⟩ := enum_get (List.getElem?_eq_getElem hi)
    obtain ⟨v, hv, _⟩ := r.get h1
    exact ⟨vs, v, hk ▸ h, hv⟩
  · obtain ⟨vs, h, r⟩ := s.at_ K S H hk R g c
    obtain ⟨p, h1, rfl⟩ := enum_get hd
    obtain ⟨T, v, ex, hT, eH, y1⟩ := y
    subst ex eH
    obtain ⟨v', hv, rv⟩ := r.get h1
    have e1 := y1 vs (hk ▸ h)
    rw [hv] at e1; cases e1
    exact pair_yld R hT (show Rp K S H (.int (0 + i)) (.int i) by show V.int _ = V.int _; simp) rv
  · obtain ⟨vs, h, r⟩ := s.at_ K S H hk R g c
    exact ⟨vs, hk ▸ h, by rw [enum_length, r.length]⟩
end

/-- the items of a list, a tuple, a text; of a list of the store, as long as it stays so -/
def seqR (o : Option O) (a : Addr) (k : KP → List D → Prop) : Prop := match o with
  | some (.lst ds) => k (some fun S => S a = some (.lst ds)) ds
  | _ => False
abbrev hSeqR_0 (S : Sto) (a : Addr) (k : KP → List D → Prop) : Prop := seqR (S a) a k
@[irreducible] noncomputable def hSeqR (S : Sto) (a : Addr) (k : KP → List D → Prop) : Prop := stuck (@hSeqR_0) S a k
theorem hSeqR_eq (S : Sto) (a : Addr) (k : KP → List D → Prop) : hSeqR S a k = seqR (S a) a k := by unfold hSeqR; rw [stuck_eq]
noncomputable def seqK (x : D) (S : Sto) (k : KP → List D → Prop) : Prop := match x with
  | .str cs => k none (signs cs)
  | .lst ds => k none ds
  | .rol ds => k none ds
  | .tup ds => k none ds
  | .ref a => hSeqR S a k
  | _ => False
theorem seqK_ok {K : KB} {S : Sto} {H : Hp} {x : D} {v : V} {k : KP → List D → Prop} (R : Rel K S H) (r : Rp K S H x v) (h : seqK x S k) : ∃ (sq : Sq) (kp : KP) (ds : List D) (G : KB → Sto → Hp → Prop) (vs : List V), v = sq.val ∧ sq.at_ K.k H vs ∧ SrcOk K.k sq kp ds G ∧ G K S H ∧ k kp ds := by
  cases x with
  | str cs => cases r; exact ⟨.s (mkS cs), _, _, _, _, rfl, rfl, src_str, trivial, h⟩
  | lst ds => obtain ⟨a, vs, rfl, l, r⟩ := r; exact ⟨.l a, _, _, _, vs, rfl, l.sq, src_list, ⟨l.rat, r⟩, h⟩
  | rol ds => obtain ⟨a, vs, rfl, l, r⟩ := r; exact ⟨.l a, _, _, _, vs, rfl, l.sq, src_list, ⟨l, r⟩, h⟩
  | tup ds => obtain ⟨a, vs, rfl, l, r⟩ := r; exact ⟨.t a, _, _, _, vs, rfl, l.sq, src_tup, ⟨l, r⟩, h⟩
  | ref a =>
    cases r
    have h : hSeqR S a k := h
    rw [hSeqR_eq] at h
    unfold seqR at h
    split at h
    · rename_i ds e
      obtain ⟨vs, e1, r⟩ := (show ∃ vs, H a = some (.lst vs) ∧ Rps K S H ds vs from R.ob a _ e)
      exact ⟨.l a, _, _, _, vs, rfl, SqL.of e1, src_ref, trivial, h⟩
    · exact h.elim
  | non => exact (show False from h).elim
  | bl _ => exact (show False from h).elim
  | int _ => exact (show False from h).elim
  | ty _ => exact (show False from h).elim
  | clo _ _ _ => exact (show False from h).elim
def iAny (K : PySem.W.Frag) (t : TE) : TI := fun σ H R => t σ H fun x H1 => ∃ (sq : Sq) (xs : List V), x = sq.val ∧ sq.at_ K H1 xs ∧ R (itOf K sq) H1
theorem pi_any {X : Cx} {tg e : Expr} {te : TE} (he : PE X e te) : PI X tg e (iAny X.K te) := by
  refine ⟨fun pins s σ H R I h => ?_⟩
  refine thn (he.run pins s σ H _ I h) fun v s1 ⟨x, H1, I1, r1, sq, xs, e, hq, q⟩ => ?_
  subst e
  cases sq with
  | l a =>
    cases r1
    obtain ⟨its, rv, p, hz⟩ := I1.list hq
    exact wpAny_pyIter_list p.isList (pi_one (tk := s1.toks) I1 _ (turn_list a _) ⟨_, Heap.get?_push_size _ rfl, rfl, rfl⟩ q)
  | t a =>
    cases r1
    obtain ⟨its, rv, p, hz⟩ := I1.tuple hq
    exact wpAny_pyIter_tuple (show s1.heap.IsTuple a its.toArray from p) (pi_one (tk := s1.toks) I1 _ (turn_tuple a _) ⟨_, Heap.get?_push_size _ rfl, rfl, rfl⟩ q)
  | s z =>
    obtain ⟨t, rfl⟩ := r1
    cases ha : z.cps.all (· < 128)
    · exact wpAny_pyIter_wide ha (pi_one (tk := s1.toks) I1 _ (turn_str _ z t "str_iterator" (.inr rfl)) ⟨_, Heap.get?_push_size _ rfl, rfl, rfl⟩ q)
    · exact wpAny_pyIter_ascii ha (pi_one (tk := s1.toks) I1 _ (turn_str _ z t "str_ascii_iterator" (.inl rfl)) ⟨_, Heap.get?_push_size _ rfl, rfl, rfl⟩ q)
noncomputable def iIt (t : ED) : ID := fun w ρ S q => t w ρ S fun d S1 => seqK d S1 fun kp ds => q kp ds S1
theorem pdi_any {X : Cx} {tg e : Expr} {t : ED} (he : PD X e t) : PDI X tg e (iIt t) := ⟨fun B W tk => (pi_any (he.up B W tk)).imp fun σ H R h => by
  obtain ⟨ρ, S, q, w, Rl, L, O, h, k⟩ := h
  refine ⟨ρ, S, _, w, Rl, L, O, h, fun d v S1 H1 e1 R1 r1 q1 => ?_⟩
  obtain ⟨sq, kp, ds, G, vs, rfl, hq, s, g, h1⟩ := seqK_ok R1 r1 q1
  exact ⟨sq, vs, rfl, hq, k _ _ _ G S1 H1 e1 R1 g (walks_one s) h1⟩⟩
def small62 (i : Int) : Prop := -(2 ^ 62) ≤ i ∧ i < 2 ^ 62
def iRg1 (t : AD) : ID := fun w ρ S q => t w ρ S fun ds S1 => match ds with
  | [.int n] => small62 n ∧ q none (intsD 0 n.toNat) S1
  | _ => False
def iRg2 (t : AD) : ID := fun w ρ S q => t w ρ S fun ds S1 => match ds with
  | [.int a, .int b] => small62 a ∧ small62 b ∧ q none (intsD a (b - a).toNat) S1
  | _ => False
theorem one_int {ds : List D} {S1 : Sto} {P : Int → Prop} (h : match ds with | [.int n] => P n | _ => False) : ∃ n, ds = [.int n] ∧ P n := by
  split at h
  · exact ⟨_, rfl, h⟩
  · exact h.elim
theorem two_int {ds : List D} {P : Int → Int → Prop} (h : match ds with | [.int n, .int m] => P n m | _ => False) : ∃ n m, ds = [.int n, .int m] ∧ P n m := by
  split at h
  · exact ⟨_, _, rfl, h⟩
  · exact h.elim
theorem pdi_range1 {X : Cx} {tg a : Expr} {t : AD} {p pos : Pos} (hg : Gl X "range") (hm : X.mg "range" = none) (ha : PDA X [a] t) (hs : starEach [a] X.env = [(false, eval a X.env)]) : PDI X tg (.Call (.Name "range" p) [a] [] pos) (iRg1 t) :=
  ⟨fun B W tk => (pi_range1 hg hm (ha.up B W tk) hs).imp fun σ H R h => by
    obtain ⟨ρ, S, q, w, Rl, L, O, h, k⟩ := h
    refine ⟨ρ, S, _, w, Rl, L, O, h, fun ds vs S1 H1 e1 R1 r1 q1 => ?_⟩
    obtain ⟨n, rfl, hn, q1⟩ := one_int (S1 := S1) (P := fun n => small62 n ∧ q none (intsD 0 n.toNat) S1) q1
    obtain ⟨v, rfl, rv⟩ := r1.one
    cases rv
    exact ⟨n, rfl, hn.1, hn.2, k _ _ _ _ S1 H1 e1 R1 trivial walks_rng q1⟩⟩
theorem pdi_range2 {X : Cx} {tg a b : Expr} {t : AD} {p pos : Pos} (hg : Gl X "range") (hm : X.mg "range" = none) (ha : PDA X [a, b] t) (hs : starEach [a, b] X.env = [(false, eval a X.env), (false, eval b X.env)]) (hs2 : starEach [b] X.env = [(false, eval b X.env)]) : PDI X tg (.Call (.Name "range" p) [a, b] [] pos) (iRg2 t) :=
  ⟨fun B W tk => (pi_range2 hg hm (ha.up B W tk) hs hs2).imp fun σ H R h => by
    obtain ⟨ρ, S, q, w, Rl, L, O, h, k⟩ := h
    refine ⟨ρ, S, _, w, Rl, L, O, h, fun ds vs S1 H1 e1 R1 r1 q1 => ?_⟩
    obtain ⟨n, m, rfl, hn, hm, q1⟩ := two_int (P := fun a b => small62 a ∧ small62 b ∧ q none (intsD a (b - a).toNat) S1) q1
    obtain ⟨v, r, rfl, rv, rr⟩ := r1
    obtain ⟨u, rfl, ru⟩ := rr.one
    cases rv; cases ru
    exact ⟨n, m, rfl, ⟨hn.1, hn.2, hm.1, hm.2⟩, k _ _ _ _ S1 H1 e1 R1 trivial walks_rng q1⟩⟩
noncomputable def zip2 (ds : List D) (S : Sto) (q : KP → List D → Prop) : Prop := match ds with
  | [x, y] => seqK x S fun k1 a => seqK y S fun k2 b => q (kpAnd k1 k2) (pairs a b)
  | _ => False
noncomputable def iZip2 (t : AD) : ID := fun w ρ S q => t w ρ S fun ds S1 => zip2 ds S1 fun kp l => q kp l S1
theorem pdi_zip {X : Cx} {a b : Expr} {t : AD} {p pos tpos : Pos} {elts : List Expr} {kk : Nat} (hg : Gl X "zip") (hm : X.mg "zip" = none) (ha : PDA X [a, b] t) (hs : starEach [a, b] X.env = (false, eval a X.env) :: starEach [b] X.env) (hpl : (backTo pos (starEach [b] X.env)).any (·.1) = false) :
    PDI X (.Tuple elts kk tpos) (.Call (.Name "zip" p) [a, b] [] pos) (iZip2 t) :=
  ⟨fun B W tk => (pi_zipG hg hm (ha.up B W tk) hs hpl).imp fun σ H R h => by
    obtain ⟨ρ, S, q, w, Rl, L, O, h, k⟩ := h
    refine ⟨ρ, S, _, w, Rl, L, O, h, fun ds vs S1 H1 e1 R1 r1 q1 => ?_⟩
    unfold zip2 at q1
    split at q1
    · rename_i x y
      obtain ⟨v, r, rfl, rx, rr⟩ := r1
      obtain ⟨u, rfl, ry⟩ := rr.one
      obtain ⟨sq, k1, ds1, G1, vs1, rfl, hq1, s1, g1, q2⟩ := seqK_ok R1 rx q1
      obtain ⟨sq2, k2, ds2, G2, vs2, rfl, hq2, s2, g2, q3⟩ := seqK_ok R1 ry q2
      exact ⟨sq, sq2, vs1, vs2, rfl, hq1, hq2, k _ _ _ _ S1 H1 e1 R1 ⟨g1, g2⟩ (walks_zip s1 s2) q3⟩
    · exact q1.elim⟩
noncomputable def enum1 (ds : List D) (S : Sto) (q : KP → List D → Prop) : Prop := match ds with
  | [x] => seqK x S fun kp a => q kp (enum 0 a)
  | _ => False
noncomputable def iEnu (t : AD) : ID := fun w ρ S q => t w ρ S fun ds S1 => enum1 ds S1 fun kp l => q kp l S1
theorem pdi_enum {X : Cx} {a : Expr} {t : AD} {p pos tpos : Pos} {elts : List Expr} {kk : Nat} (hg : Gl X "enumerate") (hm : X.mg "enumerate" = none) (ha : PDA X [a] t) (hs : starEach [a] X.env = [(false, eval a X.env)]) :
    PDI X (.Tuple elts kk tpos) (.Call (.Name "enumerate" p) [a] [] pos) (iEnu t) :=
  ⟨fun B W tk => (pi_enumG hg hm (ha.up B W tk) hs).imp fun σ H R h => by
    obtain ⟨ρ, S, q, w, Rl, L, O, h, k⟩ := h
    refine ⟨ρ, S, _, w, Rl, L, O, h, fun ds vs S1 H1 e1 R1 r1 q1 => ?_⟩
    unfold enum1 at q1
    split at q1
    · rename_i x
      obtain ⟨u, rfl, rx⟩ := r1.one
      obtain ⟨sq, kp, ds1, G1, vs1, rfl, hq1, s1, g1, q2⟩ := seqK_ok R1 rx q1
      exact ⟨sq, vs1, rfl, hq1, k _ _ _ _ S1 H1 e1 R1 g1 (walks_enum s1) q2⟩
    · exact q1.elim⟩

/-! ### for -/
def forGo (kp : KP) (g : GD) (tb : SD) (E : EnD) : List D → St' → Sto → Prop
  | [], ρ, S => kpOk kp S ∧ E.nx ρ S
  | d :: ds, ρ, S => kpOk kp S ∧ g d E.w ρ S fun ρ1 S1 => tb { E with nx := forGo kp g tb E ds, ct := forGo kp g tb E ds, bk := E.nx } ρ1 S1
def sFor (ti : ID) (g : GD) (tb : SD) : SD := fun E ρ S => ti E.w ρ S fun kp ds S1 => forGo kp g tb E ds ρ S1
theorem pds_for {X : Cx} {tg iter : Expr} {body : List Stmt} {ti : ID} {g : GD} {Z : List Nat} {tb : SD} {pos : Pos} (hp : PassesOwn (model X.prog X.w) X.A X.env X.xe) (hc : X.calm = true) (hi : PDI X tg iter ti) (hg : PDG X tg Z g) (hb : PDB X body tb) (hs : ∀ x, foldedSetIterable iter X.env x = pure x) :
    PDS X (.For tg iter body [] pos) (sFor ti g tb) := ⟨fun B W tk => (ps_for hp hc (hi.up B W tk) (hg.up B W tk) (hb.up B W tk) hs).imp fun D σ H h => by
  obtain ⟨ρ, S, E, R, L, O, k, h⟩ := h
  refine ⟨ρ, S, _, E.w, R, L, O, h, fun J kp ds G S1 H1 e1 R1 g1 Wk q1 => ?_⟩
  refine ⟨fun i m σ2 H2 => m = ds.length - i ∧ i ≤ ds.length ∧ ∃ ρ2 S2, Ext S H S2 H2 ∧ Rel ⟨X.K, B⟩ S2 H2 ∧ Sl ⟨X.K, B⟩ S2 H2 ρ2 σ2 ∧ G ⟨X.K, B⟩ S2 H2 ∧ forGo kp g tb E (ds.drop i) ρ2 S2, ⟨ds.length, by simp, Nat.zero_le _, ρ, S1, e1, R1, L.ext e1, g1, by simpa using q1⟩, ?_⟩
  rintro i m σ2 H2 ⟨rfl, hi, ρ2, S2, e2, R2, L2, g2, q2⟩
  have cc : kpOk kp S2 := by
    cases e : ds.drop i with
    | nil => rw [e] at q2; exact q2.1
    | cons d r => rw [e] at q2; exact q2.1
  by_cases hlt : i < ds.length
  · refine .inr ⟨Wk.go ⟨X.K, B⟩ i S2 H2 rfl R2 g2 cc hlt, fun σ3 H3 => ∃ ρ3 S3, Ext S H S3 H3 ∧ Rel ⟨X.K, B⟩ S3 H3 ∧ Sl ⟨X.K, B⟩ S3 H3 ρ3 σ3 ∧ G ⟨X.K, B⟩ S3 H3 ∧ forGo kp g tb E (ds.drop (i + 1)) ρ3 S3, fun σ3 H3 h3 => ⟨ds.length - (i + 1), by omega, rfl, hlt, h3⟩, fun x H3 y => ?_⟩
    obtain ⟨R3, e3, rx⟩ := Wk.yld ⟨X.K, B⟩ i S2 H2 x H3 rfl R2 g2 cc y ds[i] (List.getElem?_eq_getElem hlt)
    rw [List.drop_eq_getElem_cons hlt] at q2
    have q2 : g ds[i] E.w ρ2 S2 fun ρ1 S1 => tb { E with nx := forGo kp g tb E (ds.drop (i + 1)), ct := forGo kp g tb E (ds.drop (i + 1)), bk := E.nx } ρ1 S1 := q2.2
    have e23 := e2.trans e3
    refine ⟨ds[i], ρ2, S2, _, E.w, R3, L2.ext e3, O.ext e23, rx, q2, fun ρ4 σ4 S4 H4 _ e4 R4 L4 q4 => ?_⟩
    have e24 := e23.trans e4
    have fin : ∀ ρ5 σ5 S5 H5, Ext S4 H4 S5 H5 → Rel ⟨X.K, B⟩ S5 H5 → Sl ⟨X.K, B⟩ S5 H5 ρ5 σ5 → forGo kp g tb E (ds.drop (i + 1)) ρ5 S5 → ∃ ρ3 S3, Ext S H S3 H5 ∧ Rel ⟨X.K, B⟩ S3 H5 ∧ Sl ⟨X.K, B⟩ S3 H5 ρ3 σ5 ∧ G ⟨X.K, B⟩ S3 H5 ∧ forGo kp g tb E (ds.drop (i + 1)) ρ3 S3 :=
      fun ρ5 σ5 S5 H5 e5 R5 L5 q5 => ⟨ρ5, S5, e24.trans e5, R5, L5, Wk.ext _ _ _ _ _ (Wk.ext _ _ _ _ _ (Wk.ext _ _ _ _ _ g2 e3) e4) e5, q5⟩
    exact ⟨ρ4, S4, { E with nx := forGo kp g tb E (ds.drop (i + 1)), ct := forGo kp g tb E (ds.drop (i + 1)), bk := E.nx }, R4, L4, O.ext e24, ⟨fin, fun d v S5 H5 e5 => k.rt d v S5 H5 (e24.trans e5), fun ρ5 σ5 S5 H5 e5 => k.nx ρ5 σ5 S5 H5 (e24.trans e5), fin⟩, q4⟩
  · have e : i = ds.length := by omega
    subst e
    rw [List.drop_length] at q2
    exact .inl ⟨Wk.stop ⟨X.K, B⟩ S2 H2 rfl R2 g2 cc, k.nx ρ2 σ2 S2 H2 e2 R2 L2 q2.2⟩⟩

/-! ### [elt for target in iter if ..] -/
def wipeD (ρ : St') : List Nat → St'
  | [] => ρ
  | v :: vs => (wipeD ρ vs).set v none
theorem Sl.wipe {K : KB} {S : Sto} {H : Hp} {ρ : St'} {σ : St} (h : Sl K S H ρ σ) : ∀ vs, Sl K S H (wipeD ρ vs) (wipe σ vs)
  | [] => h
  | v :: vs => Sl.drop (Sl.wipe h vs)
def lcGo (kp : KP) (g : GD) (tt : TD) (te : ED) (w : XD) (ρ : St') (q : QD) : List D → List D → Sto → Prop
  | [], acc, S => kpOk kp S ∧ q (.lst acc) S
  | d :: ds, acc, S => kpOk kp S ∧ g d w ρ S fun ρ1 S1 => tt w ρ1 S1 fun b S2 => if b = true then te w ρ1 S2 fun y S3 => acc.length < sizeLine ∧ lcGo kp g tt te w ρ q ds (acc ++ [y]) S3 else lcGo kp g tt te w ρ q ds acc S2
def noX : XD := fun _ _ _ _ => False
def eLc (ti : ID) (g : GD) (tt : TD) (te : ED) (vs : List Nat) : ED := fun w ρ S q => ti w ρ S fun kp ds S1 => lcGo kp g tt te noX (wipeD ρ vs) q ds [] S1
/-- a clause's tests over data -/
structure PDTs (X : Cx) (ifs : List Expr) (t : TD) : Prop where
  up : ∀ B W, L2N.Takes X W → PTs X ifs (upT ⟨X.K, B⟩ W t)
def eYes : TD := fun _ _ S k => k true S
theorem _root_.L2.PTs.imp {X : Cx} {e : List Expr} {t1 t2 : TT} (h : PTs X e t1) (f : ∀ σ H Q, t2 σ H Q → t1 σ H Q) : PTs X e t2 := ⟨fun pins s σ H Q I q => h.run pins s σ H Q I (f σ H Q q)⟩
theorem pdts_nil {X : Cx} : PDTs X [] eYes := ⟨fun B W tk => pts_nil.imp fun σ H Q h => by
  obtain ⟨ρ, S, q, w, R, L, O, h, k⟩ := h
  exact k true S H .refl R h⟩
theorem pdts_one {X : Cx} {c : Expr} {t : TD} (h : PDT X c t) : PDTs X [c] t := ⟨fun B W tk => pts_one (h.up B W tk)⟩
abbrev noW : WX := fun _ _ _ _ => False
def exG (k : PySem.W.Frag) (Z : List Nat) (g : GD) : TG := fun v σ H Q => ∃ B, upG ⟨k, B⟩ noW Z g v σ H Q
def exT (k : PySem.W.Frag) (t : TD) : TT := fun σ H Q => ∃ B, upT ⟨k, B⟩ noW t σ H Q
def exE (k : PySem.W.Frag) (t : ED) : TE := fun σ H Q => ∃ B, upE ⟨k, B⟩ noW t σ H Q
theorem lc_core {K : KB} {ti : ID} {g : GD} {tt : TD} {te : ED} {vs : List Nat} {W : WX} {σ : St} {H : Hp} {Q : VK} {ρ : St'} {S : Sto} {q : QD} {w : XD} (R : Rel K S H) (Ls : Sl K S H ρ σ) (O : WOk K S H w W) (h : eLc ti g tt te vs w ρ S q)
    (k : ∀ S1 H1 L acc av S2 H2, Ext S H S1 H1 → H1 L = none → ¬ K.b L → Ext S1 H1 S2 H2 → Rel (K.add L) S2 H2 → H2 L = some (.lst av) → Rps (K.add L) S2 H2 acc av → q (.lst acc) S2 → Q (.ref L) H2) :
    tLc (upI K W ti) (exG K.k vs g) (exT K.k tt) (exE K.k te) vs σ H Q := by
  refine ⟨ρ, S, _, w, R, Ls, O, h, fun J kp ds G S1 H1 e1 R1 g1 Wk q1 L hL => ?_⟩
  -- behind i turns: L holds what is made so far
  let Inv' : Nat → Hp → Prop := fun i H2 => ∃ S2 acc av, H2 L = some (.lst av) ∧ Rel (K.add L) S2 H2 ∧ Ext S1 H1 S2 H2 ∧ Rps (K.add L) S2 H2 acc av ∧ G (K.add L) S2 H2 ∧ lcGo kp g tt te noX (wipeD ρ vs) q (ds.drop i) acc S2
  refine ⟨fun i m H2 => m = ds.length - i ∧ i ≤ ds.length ∧ Inv' i H2, ⟨ds.length, by simp, Nat.zero_le _, S1, [], [], upd_same, Rel.begin R1 hL _, Ext.new R1 hL _, rfl, Wk.ext _ _ _ _ _ (Wk.add _ _ _ _ g1 hL) (Ext.new R1 hL _), by simpa using q1⟩, ?_⟩
  rintro i m H2 ⟨rfl, hi, S2, acc, av, hLv, R2, e2, ra, g2, q2⟩
  have sl0 : Sl (K.add L) S2 H2 (wipeD ρ vs) (wipe σ vs) := (((Ls.ext e1).add hL).ext e2).wipe vs
  have cc : kpOk kp S2 := by
    cases e : ds.drop i with
    | nil => rw [e] at q2; exact q2.1
    | cons d r => rw [e] at q2; exact q2.1
  by_cases hlt : i < ds.length
  · refine .inr ⟨Wk.go (K.add L) i S2 H2 rfl R2 g2 cc hlt, Inv' (i + 1), fun H' h' => ⟨ds.length - (i + 1), by omega, rfl, hlt, h'⟩, fun x H3 y => ?_⟩
    obtain ⟨R3, e3, rx⟩ := Wk.yld (K.add L) i S2 H2 x H3 rfl R2 g2 cc y ds[i] (List.getElem?_eq_getElem hlt)
    rw [List.drop_eq_getElem_cons hlt] at q2
    have q2 : g ds[i] noX (wipeD ρ vs) S2 fun ρ1 S1 => tt noX ρ1 S1 fun b S2 => if b = true then te noX ρ1 S2 fun y S3 => acc.length < sizeLine ∧ lcGo kp g tt te noX (wipeD ρ vs) q (ds.drop (i + 1)) (acc ++ [y]) S3 else lcGo kp g tt te noX (wipeD ρ vs) q (ds.drop (i + 1)) acc S2 := q2.2
    have now : ∀ {S H}, WOk (K.add L) S H noX noW := fun {S H} C dd fs vs ρ' σ' S' H' _ _ _ _ _ _ z => z.elim
    have L3 := sl0.ext e3
    have hS2 : S2 L = none := (R2.bl L (.inr rfl)).2
    have hL3 : H3 L = some (.lst av) := (e3 L _ hLv hS2).1
    refine ⟨(K.add L).b, ds[i], wipeD ρ vs, S2, _, noX, R3, L3, now, rx, q2, fun ρ4 σ4 S4 H4 z4 e4 R4 L4 q4 => ⟨?_, ?_⟩⟩
    · rw [z4]
      apply List.ext_getElem?
      intro j
      rw [wipe_get, wipe_get]
      by_cases hj : j ∈ vs
      · rw [if_pos hj, if_pos hj]
        cases σ[j]? <;> rfl
      · rw [if_neg hj, if_neg hj]
    have hL4 : H4 L = some (.lst av) := (e4 L _ hL3 hS2).1
    have e24 := e3.trans e4
    refine ⟨(K.add L).b, ρ4, S4, _, noX, R4, L4, now, q4, fun b S5 H5 e5 R5 q5 => ?_⟩
    have hS4 : S4 L = none := (R4.bl L (.inr rfl)).2
    have hL5 : H5 L = some (.lst av) := (e5 L _ hL4 hS4).1
    cases b with
    | false => exact ⟨S5, acc, av, hL5, R5, e2.trans (e24.trans e5), ra.ext (e24.trans e5), Wk.ext _ _ _ _ _ g2 (e24.trans e5), q5⟩
    | true =>
      refine ⟨(K.add L).b, ρ4, S5, _, noX, R5, L4.ext e5, now, q5, fun y' v S6 H6 e6 R6 r6 q6 => ?_⟩
      have hS5 : S5 L = none := (R5.bl L (.inr rfl)).2
      have hL6 : H6 L = some (.lst av) := (e6 L _ hL5 hS5).1
      have e26 := e24.trans (e5.trans e6)
      have nt : ∀ xs, H6 L ≠ some (.tup xs) := fun xs z => by rw [hL6] at z; cases z
      have no : ∀ x, H6 L ≠ some (.own x) := fun x z => by rw [hL6] at z; cases z
      refine ⟨av, hL6, by rw [← ra.length]; exact q6.1, S6, acc ++ [y'], av ++ [v], upd_same, Rel.grow R6 nt no, ?_, ((ra.ext e26).append (.single r6)).grow nt, ?_, q6.2⟩
      · intro a o ha hs
        have hne : a ≠ L := ne_of_none ha hL
        obtain ⟨h1, h2⟩ := (e2.trans e26) a o ha hs
        exact ⟨by rw [upd_ne hne]; exact h1, h2⟩
      · exact Wk.grow _ _ _ _ _ (Wk.ext _ _ _ _ _ g2 e26) nt
  · have e : i = ds.length := by omega
    subst e
    rw [List.drop_length] at q2
    refine .inl ⟨Wk.stop (K.add L) S2 H2 rfl R2 g2 cc, ?_⟩
    exact k S1 H1 L acc av S2 H2 e1 hL (fun z => R1.nb hL z) e2 R2 hLv ra q2.2
theorem lc_up {K : KB} {ti : ID} {g : GD} {tt : TD} {te : ED} {vs : List Nat} {W : WX} {σ : St} {H : Hp} {Q : VK} (h : upE K W (eLc ti g tt te vs) σ H Q) :
    tLc (upI K W ti) (exG K.k vs g) (exT K.k tt) (exE K.k te) vs σ H Q := by
  obtain ⟨ρ, S, q, w, R, Ls, O, h, k⟩ := h
  exact lc_core R Ls O h fun S1 H1 L acc av S2 H2 e1 hL nb e2 R2 hLv ra q2 => k (.lst acc) (.ref L) S2 H2 (e1.trans e2) R2.rem ⟨L, av, rfl, ⟨hLv, (R2.bl L (.inr rfl)).2, nb⟩, ra.rem⟩ q2
/-! ### a comprehension's list that will change -/
def thw (q : QD) : QD := fun d S => match d with
  | .lst ds => ∀ p, S p = none → q (.ref p) (S.set p (.lst ds))
  | _ => False
section
variable {K : KB} {S : Sto} {H : Hp} {L : Addr} {o : O} {av : List V}
theorem XAt.thaw {a : Addr} {u : HO} (l : XAt (K.add L) S H a u) : XAt K (S.set L o) H a u := ⟨l.1, by rw [Sto.set_ne fun e => l.2.2 (.inr e)]; exact l.2.1, fun z => l.2.2 (.inl z)⟩
theorem CloAt.thaw {F : NdefX.NF} {e : Expr} {T : Option Addr} {f : Addr} (hL : H L = some (.lst av)) (h : CloAt (K.add L) S H F e T f) : CloAt K (S.set L o) H F e T f := ⟨h.fn.thaw, h.cd.thaw, fun a z => (h.df a z).imp (fun l => ⟨l.1, by rw [Sto.set_ne fun e => by have := l.1; rw [e, hL] at this; cases this]; exact l.2⟩) id⟩
mutual
theorem Rp.thaw (hL : H L = some (.lst av)) : ∀ {d : D} {v : V}, Rp (K.add L) S H d v → Rp K (S.set L o) H d v
  | .non, _, h => h
  | .bl _, _, h => h
  | .int _, _, h => h
  | .str _, _, h => h
  | .lst _, _, ⟨a, vs, e1, l, r⟩ => ⟨a, vs, e1, ⟨l.1, by rw [Sto.set_ne fun e => l.2.2 (.inr e)]; exact l.2.1, fun z => l.2.2 (.inl z)⟩, Rps.thaw hL r⟩
  | .rol _, _, ⟨a, vs, e1, l, r⟩ => ⟨a, vs, e1, l.imp (fun l => ⟨l.1, by rw [Sto.set_ne fun e => l.2.2 (.inr e)]; exact l.2.1, fun z => l.2.2 (.inl z)⟩) id, Rps.thaw hL r⟩
  | .tup _, _, ⟨a, vs, e1, l, r⟩ => ⟨a, vs, e1, l.imp (fun l => ⟨l.1, by rw [Sto.set_ne fun e => by have := l.1; rw [e, hL] at this; cases this]; exact l.2⟩) id, Rps.thaw hL r⟩
  | .ref _, _, h => h
  | .ty _, _, h => h
  | .clo _ _ _, _, ⟨f, e1, c⟩ => ⟨f, e1, c.thaw hL⟩
theorem Rps.thaw (hL : H L = some (.lst av)) : ∀ {ds : List D} {vs : List V}, Rps (K.add L) S H ds vs → Rps K (S.set L o) H ds vs
  | [], _, h => h
  | _ :: _, _, ⟨v, r, e1, h, t⟩ => ⟨v, r, e1, h.thaw hL, Rps.thaw hL t⟩
end
theorem RO.thaw {a : Addr} {u : O} (hL : H L = some (.lst av)) (h : RO (K.add L) S H a u) : RO K (S.set L o) H a u := by
  cases u with
  | lst ds => obtain ⟨vs, h, r⟩ := h; exact ⟨vs, h, r.thaw hL⟩
  | ins C fs => obtain ⟨dx, vs, h, x, d, r⟩ := h; exact ⟨dx, vs, h, by rw [Sto.set_ne fun e => by rw [e, hL] at d; cases d]; exact x, d, r.thaw hL⟩
  | dct kvs => obtain ⟨vs, h, r⟩ := h; exact ⟨vs, h, r.thaw hL⟩
  | xd fs => obtain ⟨vs, h, r⟩ := h; exact ⟨vs, h, r.thaw hL⟩
  | cell o d => obtain ⟨h, v, u, z, y, r⟩ := h; exact ⟨h, v, u, z, y, r.thaw hL⟩
  | tbl q => obtain ⟨ps, h, t, r⟩ := h; exact ⟨ps, h, t, fun p cv z => let ⟨c, e1, x⟩ := r p cv z; ⟨c, e1, x.thaw⟩⟩
theorem Rel.thaw (R : Rel (K.add L) S H) (nb : ¬ K.b L) {acc : List D} (hL : H L = some (.lst av)) (r : Rps (K.add L) S H acc av) : Rel K (S.set L (.lst acc)) H :=
  ⟨fun a u h => by
    by_cases e : a = L
    · subst e
      rw [Sto.set_same] at h
      cases h
      exact ⟨av, hL, r.thaw hL⟩
    · rw [Sto.set_ne e] at h
      exact (R.ob a u h).thaw hL, fun a z => by
    obtain ⟨h1, h2⟩ := R.bl a (.inl z)
    exact ⟨h1, by rw [Sto.set_ne (fun e => nb (by rw [← e]; exact z))]; exact h2⟩⟩
end
def kLcM (t : ED) : ED := fun w ρ S q => t w ρ S (thw q)
theorem lc_upM {K : KB} {ti : ID} {g : GD} {tt : TD} {te : ED} {vs : List Nat} {W : WX} {σ : St} {H : Hp} {Q : VK} (h : upE K W (kLcM (eLc ti g tt te vs)) σ H Q) :
    tLc (upI K W ti) (exG K.k vs g) (exT K.k tt) (exE K.k te) vs σ H Q := by
  obtain ⟨ρ, S, q, w, R, Ls, O, h, k⟩ := h
  refine lc_core R Ls O h fun S1 H1 L acc av S2 H2 e1 hL nb e2 R2 hLv ra q2 => ?_
  have hq : ∀ p, S2 p = none → q (.ref p) (S2.set p (.lst acc)) := q2
  refine k (.ref L) (.ref L) (S2.set L (.lst acc)) H2 (fun a o ha hs => ?_) (R2.thaw nb hLv ra) rfl (hq L (R2.bl L (.inr rfl)).2)
  obtain ⟨h1, s1⟩ := e1 a o ha hs
  obtain ⟨h2, s2⟩ := e2 a o h1 s1
  exact ⟨h2, by rw [Sto.set_ne (ne_of_none h1 hL)]; exact s2⟩
theorem pd_lc {X : Cx} {elt tg iter : Expr} {ifs : List Expr} {scope : Scope} {own : List (Str × Nat)} {pos : Pos} {ti : ID} {g : GD} {tt : TD} {te : ED} (hc : X.calm = true) (hN : X.N.Nodup) (hi : PDI X tg iter ti) (ok : BlkOk X.N X.env.scope scope own)
    (hg : ∀ (s : Shared) (H : Hp) (C : Addr) (cl : List (Str × Addr)) (fp : List Addr), PDG (X.blk s H scope (compEnvC scope cl C X.env) fp) tg (own.map (·.2)) g) (ht : ∀ (s : Shared) (H : Hp) (C : Addr) (cl : List (Str × Addr)) (fp : List Addr), PDTs (X.blk s H scope (compEnvC scope cl C X.env) fp) ifs tt)
    (he : ∀ (s : Shared) (H : Hp) (C : Addr) (cl : List (Str × Addr)) (fp : List Addr), PD (X.blk s H scope (compEnvC scope cl C X.env) fp) elt te) (hs : ∀ x, foldedSetIterable iter X.env x = pure x) {t' : ED} (up' : ∀ {K : KB} {W : WX} {σ : St} {H : Hp} {Q : VK}, upE K W t' σ H Q → tLc (upI K W ti) (exG K.k (own.map (·.2)) g) (exT K.k tt) (exE K.k te) (own.map (·.2)) σ H Q) :
    PD X (.ListComp elt [⟨tg, iter, ifs, 0⟩] scope pos) t' := by
  refine ⟨fun B W tk => (pe_lc hc hN (hi.up B W tk) ok (fun s H C cl fp => ?_) (fun s H C cl fp => ?_) (fun s H C cl fp => ?_) hs).imp fun σ H Q h => up' h⟩
  · exact ⟨fun pins s σ H x u Q I r ⟨B, q⟩ => ((hg _ _ _ _ _).up B noW takes0N).run pins s σ H x u Q I r q⟩
  · exact ⟨fun pins s σ H Q I ⟨B, q⟩ => ((ht _ _ _ _ _).up B noW takes0N).run pins s σ H Q I q⟩
  · exact ⟨fun pins s σ H Q I ⟨B, q⟩ => ((he _ _ _ _ _).up B noW takes0N).run pins s σ H Q I q⟩
theorem pds_setLc {X : Cx} {i : Nat} {y : Str} {py : Pos} {elt tg iter : Expr} {ifs : List Expr} {scope : Scope} {own : List (Str × Nat)} {pos spos : Pos} {ti : ID} {g : GD} {tt : TD} {te : ED} (hc : X.calm = true) (hN : X.N.Nodup) (hy : X.N[i]? = some y) (hyl : X.env.scope.names.lookup y = some .local)
    (hsw : swapsWith (.ListComp elt [⟨tg, iter, ifs, 0⟩] scope pos) (some (.Name y py)) spos.line X.env = pure true) (hi : PDI X tg iter ti) (ok : BlkOk X.N X.env.scope scope own)
    (hg : ∀ (s : Shared) (H : Hp) (C : Addr) (cl : List (Str × Addr)) (fp : List Addr), PDG (X.blk s H scope (compEnvC scope cl C X.env) fp) tg (own.map (·.2)) g) (ht : ∀ (s : Shared) (H : Hp) (C : Addr) (cl : List (Str × Addr)) (fp : List Addr), PDTs (X.blk s H scope (compEnvC scope cl C X.env) fp) ifs tt)
    (he : ∀ (s : Shared) (H : Hp) (C : Addr) (cl : List (Str × Addr)) (fp : List Addr), PD (X.blk s H scope (compEnvC scope cl C X.env) fp) elt te) (hs : ∀ x, foldedSetIterable iter X.env x = pure x) {t' : ED} (up' : ∀ {K : KB} {W : WX} {σ : St} {H : Hp} {Q : VK}, upE K W t' σ H Q → tLc (upI K W ti) (exG K.k (own.map (·.2)) g) (exT K.k tt) (exE K.k te) (own.map (·.2)) σ H Q) :
    PDS X (.Assign [.Name y py] (.ListComp elt [⟨tg, iter, ifs, 0⟩] scope pos) spos) (sAsg t' (dName i)) := by
  refine ⟨fun B W tk => (ps_setLc (g := exG X.K (own.map (·.2)) g) (tt := exT X.K tt) (te := exE X.K te) hc hN hy hyl hsw (hi.up B W tk) ok (fun s H C cl fp => ?_) (fun s H C cl fp => ?_) (fun s H C cl fp => ?_) hs).imp fun D σ H h => ?_⟩
  · exact ⟨fun pins s σ H x u Q I r ⟨B, q⟩ => ((hg _ _ _ _ _).up B noW takes0N).run pins s σ H x u Q I r q⟩
  · exact ⟨fun pins s σ H Q I ⟨B, q⟩ => ((ht _ _ _ _ _).up B noW takes0N).run pins s σ H Q I q⟩
  · exact ⟨fun pins s σ H Q I ⟨B, q⟩ => ((he _ _ _ _ _).up B noW takes0N).run pins s σ H Q I q⟩
  · obtain ⟨ρ, S, E, R, L, O, k, h⟩ := h
    exact up' (K := ⟨X.K, B⟩) ⟨ρ, S, _, E.w, R, L, O, h, fun d v S1 H1 e1 R1 r1 q1 => k.nx _ _ S1 H1 e1 R1 ((L.ext e1).set r1) q1⟩
end DL

namespace DL
open PySem PySem.Spec PyProof.Rows L2

/-! ### what a def promises -/
abbrev ExD := Nat → List (Nat × D) → Sto → Prop
abbrev SpD := List D → Sto → QD → ExD → Prop
def upSp (k : PySem.W.Frag) (sp : SpD) : Sp := fun vs H Q E => ∃ (B : Addr → Prop) (ds : List D) (S : Sto) (q : QD) (e : ExD), Rel ⟨k, B⟩ S H ∧ Rps ⟨k, B⟩ S H ds vs ∧ sp ds S q e ∧ Got ⟨k, B⟩ S H q Q ∧
  ∀ (C : Nat) (dd : Addr) (fs : List (Nat × D)) (us : List V) (S' : Sto) (H' : Hp), Ext S H S' H' → Rel ⟨k, B⟩ S' H' → H' dd = some (.xd ((fs.map fun p => fN p.1).zip us)) → S' dd = none → Rps ⟨k, B⟩ S' H' (fs.map (·.2)) us → e C fs S' → E (.ref (cA k C)) (some dd) H'
/-! ### the forms of a call: how many values stand, which names, what goes to which parameter -/
inductive Src where
  | p (i : Nat) | k (i : Nat) | d (i : Nat)
structure Ent where
  n : Nat
  ks : List Str
  src : List Src
structure Sig where
  ents : List Ent
  dfs : List D
  frz : Bool
def pick {α : Type} (z : α) (src : List Src) (us ws ds : List α) : List α := src.map fun
  | .p i => us[i]?.getD z
  | .k i => ws[i]?.getD z
  | .d i => ds[i]?.getD z
theorem vals_getD {vs : List V} {us : List Value} (r : Vals vs us) (i : Nat) : RelV (vs[i]?.getD .non) (us[i]?.getD .none) := by
  cases e : vs[i]? with
  | some v =>
    obtain ⟨u, h, q⟩ := r.get e
    rw [h]; exact q
  | none =>
    have : us[i]? = none := by
      rw [List.getElem?_eq_none_iff] at e ⊢
      rw [← r.length]; exact e
    rw [this]; exact rfl
theorem pick_vals {vs zs dv : List V} {us ws du : List Value} (r : Vals vs us) (rz : Vals zs ws) (rd : Vals dv du) : ∀ src, Vals (pick .non src vs zs dv) (pick .none src us ws du)
  | [] => .nil
  | .p i :: src => .cons (vals_getD r i) (pick_vals r rz rd src)
  | .k i :: src => .cons (vals_getD rz i) (pick_vals r rz rd src)
  | .d i :: src => .cons (vals_getD rd i) (pick_vals r rz rd src)
theorem Rps.getD {K : KB} {S : Sto} {H : Hp} {ds : List D} {vs : List V} (r : Rps K S H ds vs) (i : Nat) : Rp K S H (ds[i]?.getD .non) (vs[i]?.getD .non) := by
  cases e : ds[i]? with
  | some d =>
    obtain ⟨v, h, q⟩ := r.get e
    rw [h]; exact q
  | none =>
    have : vs[i]? = none := by
      rw [List.getElem?_eq_none_iff] at e ⊢
      rw [← r.length]; exact e
    rw [this]; exact rfl
theorem pick_rps {K : KB} {S : Sto} {H : Hp} {ds es fs : List D} {vs zs dv : List V} (r : Rps K S H ds vs) (rz : Rps K S H es zs) (rd : Rps K S H fs dv) : ∀ src, Rps K S H (pick .non src ds es fs) (pick .non src vs zs dv)
  | [] => rfl
  | .p i :: src => ⟨_, _, rfl, r.getD i, pick_rps r rz rd src⟩
  | .k i :: src => ⟨_, _, rfl, rz.getD i, pick_rps r rz rd src⟩
  | .d i :: src => ⟨_, _, rfl, rd.getD i, pick_rps r rz rd src⟩
structure EntOk (K : PySem.W.Frag) (fd : FuncData) (ps : List Str) (du : List Value) (e : Ent) : Prop where
  to : ∀ (s : Shared) (us ws : List Value), K.In s.heap → us.length = e.n → ws.length = e.ks.length → BindsTo s fd ⟨us, e.ks.zip ws⟩ (ps.zip (pick .none e.src us ws du))
/-- f stands behind the name x and may be called in the forms of sg -/
structure FnAt (P : Program) (w : World) (K : PySem.W.Frag) (mg : Str → Option Value) (base : Heap) (k : Nat) (x : Str) (sg : Sig) (sp : SpD) : Prop where
  ex : ∃ (f : Addr) (fd : FuncData) (ps : List Str) (dv : List V) (du : List Value), mg x = some (.ref f) ∧ PySem.W.keepIn K (.ref f) = true ∧ (∀ e ∈ sg.ents, EntOk K fd ps du e) ∧ Vals dv du ∧ (∀ B S H, Rps ⟨K, B⟩ S H sg.dfs dv) ∧ FnOk P w K mg base (L2N.CX P w) k f fd ps (upSp K sp)
theorem FnAt.mono {P : Program} {w : World} {K : PySem.W.Frag} {mg : Str → Option Value} {base : Heap} {j k : Nat} {x : Str} {sg : Sig} {sp : SpD} (h : FnAt P w K mg base j x sg sp) (hj : j ≤ k) : FnAt P w K mg base k x sg sp := by
  obtain ⟨f, fd, ps, dv, du, a, b, c, c1, c2, d⟩ := h.ex
  exact ⟨f, fd, ps, dv, du, a, b, c, c1, c2, d.mono hj⟩
/-- f(t, .., names = tk) -/
def eCallK (sg : Sig) (e : Ent) (sp : SpD) (t tk : AD) : ED := fun w ρ S q => t w ρ S fun ds S1 => tk w ρ S1 fun zs S2 => ds.length = e.n ∧ zs.length = e.ks.length ∧ sp (pick .non e.src ds zs sg.dfs) S2 q fun C fs S' => w C fs ρ S'
/-- the keywords' values -/
structure PDK (X : Cx) (kws : List Keyword) (t : AD) : Prop where
  up : ∀ B W, L2N.Takes X W → PK X kws (upA ⟨X.K, B⟩ W t)
theorem _root_.L2.PK.imp {X : Cx} {kws : List Keyword} {t1 t2 : TA} (h : PK X kws t1) (f : ∀ σ H Q, t2 σ H Q → t1 σ H Q) : PK X kws t2 := ⟨fun pos pins s σ H Q I q => h.run pos pins s σ H Q I (f σ H Q q)⟩
theorem pdk_nil {X : Cx} : PDK X [] aNil := ⟨fun B W tk => pk_nil.imp fun σ H Q h => by
  obtain ⟨ρ, S, q, w, R, L, O, h, k⟩ := h
  exact k [] [] _ _ .refl R rfl h⟩
theorem pdk_cons {X : Cx} {nm : Option Str} {kpos : Pos} {e : Expr} {kws : List Keyword} {ta : ED} {t : AD} (ha : PD X e ta) (hr : PDK X kws t) : PDK X (⟨nm, e, kpos⟩ :: kws) (aCons ta t) :=
  ⟨fun B W tk => (pk_cons (ha.up B W tk) (hr.up B W tk)).imp fun σ H Q h => by
    obtain ⟨ρ, S, q, w, R, L, O, h, k⟩ := h
    exact ⟨ρ, S, _, w, R, L, O, h, fun d v S1 H1 e1 R1 r1 q1 => ⟨ρ, S1, _, w, R1, L.ext e1, O.ext e1, q1, fun ds vs S2 H2 e2 R2 r2 q2 => k (d :: ds) (v :: vs) S2 H2 (e1.trans e2) R2 ⟨v, vs, rfl, r1.ext e2, r2⟩ q2⟩⟩⟩
def kwNames : List Keyword → List (Option Str)
  | [] => []
  | ⟨nm, _, _⟩ :: r => nm :: kwNames r
theorem kw_names {pos : Pos} {env : Env} : ∀ {kws : List Keyword} {ks : List Str}, kwNames kws = ks.map some → (backToKw pos (keywordEach kws env)).all (·.1.isSome) = true ∧ (backToKw pos (keywordEach kws env)).filterMap (·.1) = ks ∧ (backToKw pos (keywordEach kws env)).any (·.1.isNone) = false
  | [], [], _ => ⟨rfl, rfl, rfl⟩
  | [], _ :: _, h => by cases h
  | ⟨nm, e, p⟩ :: kws, [], h => by cases h
  | ⟨nm, e, p⟩ :: kws, k :: ks, h => by
    have h : nm :: kwNames kws = some k :: ks.map some := h
    injection h with h1 h2
    subst h1
    obtain ⟨i1, i2, i3⟩ := kw_names (pos := pos) (env := env) h2
    refine ⟨?_, ?_, ?_⟩
    · show (true && (backToKw pos (keywordEach kws env)).all (·.1.isSome)) = true
      rw [i1]; rfl
    · show k :: (backToKw pos (keywordEach kws env)).filterMap (·.1) = _
      rw [i2]
    · show (false || (backToKw pos (keywordEach kws env)).any (·.1.isNone)) = false
      rw [i3]; rfl
section
variable {X : Cx} {k : Nat} {f : Addr} {fd : FuncData} {ps : List Str} {sp : Sp} {E : St → XK} {ent : Ent} {du : List Value} {dv : List V}
theorem run_fnE {pins : List (Addr × Obj)} {σ : St} {H : Hp} {s : Shared} {Q : VK} {us ws : List Value} {vs zs : List V} (F : FnOk X.prog X.w X.K X.mg X.base (L2N.CX X.prog X.w) k f fd ps sp) (hr : Room k X.A) (hb : EntOk X.K fd ps du ent) (hd : Vals dv du) (hx : PassesAt (L2N.CX X.prog X.w) X σ (E σ))
    (I : Inv X pins σ H s) (r : Vals vs us) (rz : Vals zs ws) (l1 : vs.length = ent.n) (l2 : zs.length = ent.ks.length) (h : sp (pick .non ent.src vs zs dv) H Q (E σ)) : wpAny (model X.prog X.w) X.A (call (.ref f) us (ent.ks.zip ws)) (EP X pins σ Q) X.xe s := by
  have r2 := pick_vals r rz hd ent.src
  refine wpAny_call (codeAny_mono (F.run X.A X.stack s H ⟨us, ent.ks.zip ws⟩ _ _ Q (E σ) hr I.env0 (hb.to s us ws I.kIn (r.length.symm.trans l1) (rz.length.symm.trans l2)) r2 h) fun r s' hq => ?_)
  cases r with
  | error e => exact hx pins H s e s' I hq
  | ok fl =>
    cases fl with
    | ret u => exact I.after hq
    | next => exact False.elim hq
    | brk => exact False.elim hq
    | cont => exact False.elim hq
def tCallE (ent : Ent) (sp : Sp) (dv : List V) (E : St → XK) (t tk : TA) : TE := fun σ H Q => t σ H fun vs H1 => tk σ H1 fun zs H2 => vs.length = ent.n ∧ zs.length = ent.ks.length ∧ sp (pick .non ent.src vs zs dv) H2 Q (E σ)
theorem pe_callE {x : Str} {p pos : Pos} {es : List Expr} {kws : List Keyword} {t tk : TA} (F : FnOk X.prog X.w X.K X.mg X.base (L2N.CX X.prog X.w) k f fd ps sp) (hr : Room k X.A) (hg : Gl X x) (hm : X.mg x = some (.ref f)) (hk : PySem.W.keepIn X.K (.ref f) = true) (hb : EntOk X.K fd ps du ent) (hd : Vals dv du) (hx : ∀ σ, PassesAt (L2N.CX X.prog X.w) X σ (E σ))
    {e : Expr} (ha : PA X (e :: es) t) (hkw : PK X kws tk) (hks : kwNames kws = ent.ks.map some) (hdb : (x == ("__debug__" : Str)) = false)
    (he : starEach (e :: es) X.env = (false, eval e X.env) :: starEach es X.env) (hpl : (backTo pos (starEach (e :: es) X.env)).any (·.1) = false) :
    PE X (.Call (.Name x p) (e :: es) kws pos) (tCallE ent sp dv E t tk) := by
  obtain ⟨n1, n2, n3⟩ := kw_names (pos := pos) (env := X.env) hks
  have hpl2 : ((backTo pos (starEach (e :: es) X.env)).any (·.1) || (backToKw pos (keywordEach kws X.env)).any (·.1.isNone)) = false := by rw [hpl, n3]; rfl
  refine ⟨fun pins s σ H Q I h => ?_⟩
  refine wpAny_Call_Name_kw (ld_glob I hg hm ?_ hdb)
  refine PySem.W.callWith_KW (h₀ := X.base) I.ok.mod.kin hk n1 (thn (ha.run pos pins s σ H _ I h) fun us s1 ⟨vs, H1, I1, r, q⟩ => ?_) hpl2 he
  refine thn (hkw.run pos pins s1 σ H1 _ I1 q) fun ws s2 ⟨zs, H2, I2, rz, l1, l2, q2⟩ => ⟨I2.kIn, ?_⟩
  rw [n2]
  exact run_fnE F hr hb hd (hx σ) I2 r rz l1 l2 q2
theorem pe_callE0 {x : Str} {p pos : Pos} {kws : List Keyword} {tk : TA} (F : FnOk X.prog X.w X.K X.mg X.base (L2N.CX X.prog X.w) k f fd ps sp) (hr : Room k X.A) (hg : Gl X x) (hm : X.mg x = some (.ref f)) (hk : PySem.W.keepIn X.K (.ref f) = true) (hb : EntOk X.K fd ps du ent) (hd : Vals dv du) (hx : ∀ σ, PassesAt (L2N.CX X.prog X.w) X σ (E σ))
    (hkw : PK X kws tk) (hks : kwNames kws = ent.ks.map some) (hdb : (x == ("__debug__" : Str)) = false) :
    PE X (.Call (.Name x p) [] kws pos) (tCallE ent sp dv E tNil tk) := by
  obtain ⟨n1, n2, n3⟩ := kw_names (pos := pos) (env := X.env) hks
  refine ⟨fun pins s σ H Q I h => ?_⟩
  refine wpAny_Call_Name_kw (ld_glob I hg hm ?_ hdb)
  refine PySem.W.callWith_KW0 (h₀ := X.base) I.ok.mod.kin hk n1 ?_ (show (false || _) = false from n3)
  refine thn (hkw.run pos pins s σ H _ I h) fun ws s2 ⟨zs, H2, I2, rz, l1, l2, q2⟩ => ⟨I2.kIn, ?_⟩
  rw [n2]
  exact run_fnE (us := []) F hr hb hd (hx σ) I2 .nil rz l1 l2 q2
theorem callE_up {B : Addr → Prop} {W : WX} {sg : Sig} {sp : SpD} {t tk : AD} {σ : St} {H : Hp} {Q : VK} (hdv : ∀ B S H, Rps ⟨X.K, B⟩ S H sg.dfs dv) (h : upE ⟨X.K, B⟩ W (eCallK sg ent sp t tk) σ H Q) : tCallE ent (upSp X.K sp) dv (fun σ => WE W σ) (upA ⟨X.K, B⟩ W t) (upA ⟨X.K, B⟩ W tk) σ H Q := by
  obtain ⟨ρ, S, q, w, R, L, O, h, k⟩ := h
  refine ⟨ρ, S, _, w, R, L, O, h, fun ds vs S1 H1 e1 R1 r1 q1 => ⟨ρ, S1, _, w, R1, L.ext e1, O.ext e1, q1, fun es zs S2 H2 e2 R2 r2 q2 => ⟨?_, ?_, ?_⟩⟩⟩
  · rw [← r1.length]; exact q2.1
  · rw [← r2.length]; exact q2.2.1
  · have e12 := e1.trans e2
    exact ⟨B, _, S2, q, _, R2, pick_rps (r1.ext e2) r2 (hdv B S2 H2) _, q2.2.2, fun d v S3 H3 e3 => k d v S3 H3 (e12.trans e3), fun C dd fs us S' H' e' R' hd hn ru he => O C dd fs us ρ σ S' H' (e12.trans e') R' (L.ext (e12.trans e')) hd hn ru he⟩
end
theorem pd_callE {X : Cx} {k : Nat} {x : Str} {p pos : Pos} {es : List Expr} {kws : List Keyword} {sg : Sig} {ent : Ent} {sp : SpD} {t tk : AD} (F : FnAt X.prog X.w X.K X.mg X.base k x sg sp) (hr : Room k X.A) (hg : Gl X x) (hent : ent ∈ sg.ents) (ha : PDA X es t) (hkw : PDK X kws tk) (h0 : es = [] → t = aNil)
    (hks : kwNames kws = ent.ks.map some) (hdb : (x == ("__debug__" : Str)) = false) (he : ∀ e es', es = e :: es' → starEach (e :: es') X.env = (false, eval e X.env) :: starEach es' X.env) (hpl : (backTo pos (starEach es X.env)).any (·.1) = false) :
    PD X (.Call (.Name x p) es kws pos) (eCallK sg ent sp t tk) := by
  obtain ⟨f, fd, ps, dv, du, hm, hk, hb, hd, hdv, G⟩ := F.ex
  cases es with
  | nil =>
    rw [h0 rfl]
    refine ⟨fun B W tk' => (pe_callE0 G hr hg hm hk (hb ent hent) hd (fun σ => L2N.passAt tk' σ) (hkw.up B W tk') hks hdb).imp fun σ H Q h => ?_⟩
    obtain ⟨vs, H1, e⟩ : ∃ vs : List V, ∃ H1 : Hp, vs = [] := ⟨[], H, rfl⟩
    have h2 := callE_up (ent := ent) hdv h
    obtain ⟨ρ, S, q, w, R, L, O, h2, k⟩ := h2
    exact k [] [] S H .refl R rfl h2
  | cons e es => exact ⟨fun B W tk' => (pe_callE G hr hg hm hk (hb ent hent) hd (fun σ => L2N.passAt tk' σ) (ha.up B W tk') (hkw.up B W tk') hks hdb (he e es rfl) hpl).imp fun σ H Q h => callE_up hdv h⟩

/-! ### a list that is changed no more -/
/-- what is wanted of a fresh list that may be frozen -/
def frz (q : QD) : QD := fun d S => q d S ∨ ∃ p ds, d = .ref p ∧ S p = some (.lst ds) ∧ q (.lst ds) (S.del p)
theorem frz_up {K : KB} {S : Sto} {H : Hp} {q : QD} {Q : VK} (g : Got K S H q Q) : Got K S H (frz q) Q := fun d v S' H' e R r h => by
  rcases h with h | ⟨p, ds, rfl, hp, h⟩
  · exact g d v S' H' e R r h
  · cases r
    obtain ⟨vs, hH, rv⟩ := (show ∃ vs, H' p = some (.lst vs) ∧ Rps K S' H' ds vs from R.ob p _ hp)
    have nb : ¬ K.b p := fun z => by have := (R.bl p z).2; rw [hp] at this; cases this
    exact g (.lst ds) (.ref p) (S'.del p) H' (e.trans (Ext.freeze hp)) (Rel.freeze R hp) ⟨p, vs, rfl, ⟨hH, Sto.del_same, nb⟩, rv.ext (Ext.freeze hp)⟩ h
def eFrz (t : ED) : ED := fun w ρ S q => t w ρ S (frz q)
theorem pd_frz {X : Cx} {e : Expr} {t : ED} (h : PD X e t) : PD X e (eFrz t) := ⟨fun B W tk => (h.up B W tk).imp fun σ H Q h => by
  obtain ⟨ρ, S, q, w, R, L, O, h, k⟩ := h
  exact ⟨ρ, S, _, w, R, L, O, h, frz_up k⟩⟩

/-! ### what nobody asks for any more is forgotten -/
def Sto.Le (S' S : Sto) : Prop := ∀ b, S' b = S b ∨ S' b = none
theorem Sto.Le.refl {S : Sto} : Sto.Le S S := fun _ => .inl rfl
theorem Sto.Le.none {S S' : Sto} {b : Addr} (h : Sto.Le S' S) (e : S b = none) : S' b = none := by
  rcases h b with z | z
  · rw [z]; exact e
  · exact z
theorem Ext.le {S S' : Sto} {H : Hp} (h : Sto.Le S' S) : Ext S H S' H := fun _ _ q s => ⟨q, h.none s⟩
theorem Rel.le {K : KB} {S S' : Sto} {H : Hp} (R : Rel K S H) (h : Sto.Le S' S) : Rel K S' H := ⟨fun a o e => ((h a).elim (fun z => (R.ob a o (z ▸ e)).ext (Ext.le h) rfl) (fun z => by rw [z] at e; cases e)), fun a z => by
    obtain ⟨e, s⟩ := R.bl a z
    exact ⟨e, h.none s⟩⟩
def gcq (q : QD) : QD := fun d S => ∃ S', Sto.Le S' S ∧ q d S'
def gce (e : ExD) : ExD := fun C fs S => ∃ S', Sto.Le S' S ∧ e C fs S'
theorem gcq_up {K : KB} {S : Sto} {H : Hp} {q : QD} {Q : VK} (g : Got K S H q Q) : Got K S H (gcq q) Q := fun d v S' H' e R r h => by
  obtain ⟨S2, le, h⟩ := h
  exact g d v S2 H' (e.trans (Ext.le le)) (R.le le) (r.ext (Ext.le le)) h
def gcS (sp : SpD) : SpD := fun ds S q' e' => ∃ q e, q' = gcq q ∧ e' = gce e ∧ sp ds S q e
theorem upSp_gc {k : PySem.W.Frag} {sp : SpD} {vs : List V} {H : Hp} {Q : VK} {E : XK} (h : upSp k sp vs H Q E) : upSp k (gcS sp) vs H Q E := by
  obtain ⟨B, ds, S, q, e, R, r, h, g, ex⟩ := h
  refine ⟨B, ds, S, _, _, R, r, ⟨q, e, rfl, rfl, h⟩, gcq_up g, fun C dd fs us S' H' e' R' hd hn ru he => ?_⟩
  obtain ⟨S2, le, he⟩ := he
  exact ex C dd fs us S2 H' (e'.trans (Ext.le le)) (R'.le le) hd (le.none hn) (ru.ext (Ext.le le)) he
theorem FnOk.impD {P : Program} {w : World} {K : PySem.W.Frag} {mg : Str → Option Value} {base : Heap} {CX : CXT} {k : Nat} {f : Addr} {fd : FuncData} {ps : List Str} {sp sp' : Sp} (F : FnOk P w K mg base CX k f fd ps sp') (i : ∀ vs H Q E, sp vs H Q E → sp' vs H Q E) : FnOk P w K mg base CX k f fd ps sp :=
  ⟨fun vs H Q E h => F.len vs H Q E (i _ _ _ _ h), fun A outer s H args us vs Q E hr e0 hb r h => F.run A outer s H args us vs Q E hr e0 hb r (i _ _ _ _ h)⟩
theorem FnAt.gc {P : Program} {w : World} {K : PySem.W.Frag} {mg : Str → Option Value} {base : Heap} {k : Nat} {x : Str} {sg : Sig} {sp : SpD} (F : FnAt P w K mg base k x sg (gcS sp)) : FnAt P w K mg base k x sg sp := by
  obtain ⟨f, fd, ps, dv, du, hm, hk, hb, hd, hdv, G⟩ := F.ex
  exact ⟨f, fd, ps, dv, du, hm, hk, hb, hd, hdv, FnOk.impD G fun _ _ _ _ h => upSp_gc h⟩

/-! ### a def keeps its promise -/
def startD (n : Nat) (ds : List D) : St' := ds.map some ++ List.replicate (n - ds.length) none
theorem sl_start {K : KB} {S : Sto} {H : Hp} {N : List Str} {ds : List D} {vs : List V} (r : Rps K S H ds vs) : Sl K S H (startD N.length ds) (L2.start N vs) := by
  refine ⟨by simp [startD, L2.start, r.length], fun i d h => ?_⟩
  have hi : i < ds.length := by
    unfold startD at h
    by_cases hi : i < ds.length
    · exact hi
    · rw [List.getElem?_append_right (by simpa using hi), List.getElem?_replicate] at h
      split at h <;> cases h
  have h1 : ds[i]? = some d := by
    unfold startD at h
    rw [List.getElem?_append_left (by simpa using hi), List.getElem?_map] at h
    cases e : ds[i]? with
    | none => rw [e] at h; cases h
    | some a => rw [e] at h; cases h; rfl
  obtain ⟨v, hv, rv⟩ := r.get h1
  refine ⟨v, ?_, rv⟩
  unfold L2.start
  rw [List.getElem?_append_left (by rw [List.length_map, ← r.length]; exact hi), List.getElem?_map, hv]; rfl
def endD (q : QD) (e : ExD) : EnD := { nx := fun _ S => q .non S, rt := q, w := fun C fs _ S => e C fs S, bk := fun _ _ => False, ct := fun _ _ => False }
end DL

namespace DL
open PySem PySem.Spec PyProof.Rows L2
def keyT : Key → D
  | .inl i => .int i
  | .inr x => .str x.cps.toList
/-- list(x), as data -/
def rList (x : D) (S : Sto) (q : QD) : Prop := match x with
  | .lst ds => q (.lst ds) S
  | .tup ds => q (.lst ds) S
  | .rol ds => q (.lst ds) S
  | .str cs => cs.length ≤ sizeLine ∧ q (.lst (cs.map fun c => .str [c])) S
  | .ref a => (match S a with
    | some (.lst ds) => q (.lst ds) S
    | some (.dct kvs) => q (.lst (kvs.map fun kv => keyT kv.1)) S
    | _ => False)
  | _ => False
theorem rps_keys {K : KB} {S : Sto} {H : Hp} : ∀ {kvs : List (Key × D)} {vs : List V}, kvs.length = vs.length → Rps K S H (kvs.map fun kv => keyT kv.1) (((kvs.map (·.1)).zip vs).map fun kv => kV kv.1)
  | [], _, _ => rfl
  | (k, x) :: kvs, [], h => by cases h
  | (k, x) :: kvs, v :: vs, h => by
    refine ⟨kV k, _, rfl, ?_, rps_keys (by simpa using h)⟩
    cases k with
    | inl i => rfl
    | inr z => show V.str z = V.str (mkS z.cps.toList); simp [mkS]
def rListV (K : PySem.W.Frag) : List V → Hp → VK → Prop := fun xs H Q => (∃ p ys, xs = [.ref p] ∧ (SqL K H p ys ∨ SqT K H p ys) ∧ ∀ l, H l = none → Q (.ref l) (upd H l (.lst ys))) ∨
  ∃ z : Str, xs = [.str z] ∧ z.length ≤ sizeLine ∧ ∀ l, H l = none → Q (.ref l) (upd H l (.lst (z.cps.toList.map fun c => V.str ⟨#[c]⟩)))
theorem items_signs {x : Str} : ∀ {n : Nat} {us : List Value}, us.length + n = x.cps.size → (∀ j v, us[j]? = some v → SignAt x (n + j) v) → Vals ((x.cps.toList.drop n).map fun c => V.str ⟨#[c]⟩) us
  | n, [], h, _ => by
    have e : x.cps.toList.drop n = [] := List.drop_eq_nil_of_le (by simp only [List.length_nil] at h; rw [Array.length_toList]; omega)
    rw [e]; exact .nil
  | n, u :: us, h, k => by
    obtain ⟨c, t, hc, rfl⟩ := k 0 u rfl
    have e1 : x.cps.toList[n]? = some c := by rw [Array.getElem?_toList]; exact hc
    have hn : n < x.cps.toList.length := (List.getElem?_eq_some_iff.mp e1).1
    have e2 : x.cps.toList.drop n = c :: x.cps.toList.drop (n + 1) := by
      rw [List.drop_eq_getElem_cons hn]
      congr 1
      exact Option.some.inj ((List.getElem?_eq_getElem hn).symm.trans e1)
    rw [e2]
    refine .cons ⟨t, rfl⟩ (items_signs (n := n + 1) (by simp only [List.length_cons] at h; omega) fun j v hv => ?_)
    have := k (j + 1) v hv
    rwa [show n + (j + 1) = n + 1 + j by omega] at this
theorem cr_list {X : Cx} (hc : X.calm = true) : CallR X (.type "list") (rListV X.K) := by
  intro pins s σ H xs us Q I r h
  rcases h with h | ⟨z, rfl, hz, q⟩
  · exact call_list_of pins s σ H xs us Q I r h
  · obtain ⟨u, rfl, t, rfl⟩ := vals1 r
    refine call_list_str (I.ok.hd hc) z t (hn := hz) fun h' tk acc c kp hS it => ?_
    have V1 : Vals (z.cps.toList.map fun c => V.str ⟨#[c]⟩) acc.toList := items_signs (n := 0) (by rw [Array.length_toList]; exact it.1) fun j v hv => by
      rw [Nat.zero_add]
      exact it.2 j v (by rw [← Array.getElem?_toList]; exact hv)
    refine ⟨.ref s.heap.objs.size, _, I.laid (t' := tk) kp (Nat.le_refl _) (show ObjOk X.prog X.w _ h' _ (.lst _) from ⟨?_, acc.toList, c, V1, by simpa using hS⟩), rfl, q _ (I.hok.fresh (Nat.le_refl _))⟩
    rw [List.length_map, Array.length_toList]; exact hz
theorem bd_list {X : Cx} (hc : X.calm = true) : CallD X (.type "list") (b1 rList) := CallD.of1 ((cr_list hc).or (call_list_dK hc)) fun K x v S H q Q hK R r h g => by
  cases x with
  | lst ds => obtain ⟨a, vs, rfl, l, r⟩ := r; exact .inl (.inl ⟨a, vs, rfl, .inl (hK ▸ l.sq), fun p hp => Got.lst g R r h hp⟩)
  | rol ds => obtain ⟨a, vs, rfl, l, r⟩ := r; exact .inl (.inl ⟨a, vs, rfl, .inl (hK ▸ l.sq), fun p hp => Got.lst g R r h hp⟩)
  | tup ds => obtain ⟨a, vs, rfl, l, r⟩ := r; exact .inl (.inl ⟨a, vs, rfl, .inr (hK ▸ l.sq), fun p hp => Got.lst g R r h hp⟩)
  | str cs =>
    cases r
    obtain ⟨len, h⟩ := (show cs.length ≤ sizeLine ∧ _ from h)
    refine .inl (.inr ⟨mkS cs, rfl, by show cs.toArray.size ≤ _; simpa using len, fun p hp => ?_⟩)
    have e : Rps K S H (cs.map fun c => .str [c]) ((mkS cs).cps.toList.map fun c => V.str ⟨#[c]⟩) := by
      have : (mkS cs).cps.toList = cs := by simp
      rw [this]
      exact rps_signs (cs := cs)
    exact Got.lst g R e h hp
  | ref a =>
    cases r
    have h : (match S a with
      | some (.lst ds) => q (.lst ds) S
      | some (.dct kvs) => q (.lst (kvs.map fun kv => keyT kv.1)) S
      | _ => False) := h
    cases eS : S a with
    | none => rw [eS] at h; exact h.elim
    | some o =>
      rw [eS] at h
      cases o with
      | lst ds =>
        obtain ⟨vs, hH, r⟩ := (show ∃ vs, H a = some (.lst vs) ∧ Rps _ S H ds vs from R.ob a _ eS)
        exact .inl (.inl ⟨a, vs, rfl, .inl (SqL.of hH), fun p hp => Got.lst g R r h hp⟩)
      | ins _ _ => exact h.elim
      | xd _ => exact h.elim
      | cell _ _ => exact h.elim
      | tbl _ => exact h.elim
      | dct kvs =>
        obtain ⟨vs, e1, ra⟩ := dct_up R eS
        have hl : kvs.length = vs.length := by have := ra.length; simpa using this
        exact .inr ⟨a, _, rfl, e1, fun p hp => Got.lst g R (rps_keys hl) h hp⟩
  | _ => exact (show False from h).elim
/-! ### heads at which a walk over a reading stops -/
abbrev hAnd_0 (P Q : Prop) : Prop := P ∧ Q
@[irreducible] noncomputable def hAnd (P Q : Prop) : Prop := stuck (@hAnd_0) P Q
theorem hAnd_eq (P Q : Prop) : hAnd P Q = (P ∧ Q) := by unfold hAnd; rw [stuck_eq]
abbrev hIf_0 (b : Bool) (A B : Prop) : Prop := if b = true then A else B
@[irreducible] noncomputable def hIf (b : Bool) (A B : Prop) : Prop := stuck (@hIf_0) b A B
theorem hIf_eq (b : Bool) (A B : Prop) : hIf b A B = (if b = true then A else B) := by unfold hIf; rw [stuck_eq]
@[irreducible] noncomputable def hTru : D → Sto → (Bool → Prop) → Prop := stuck (tru)
theorem hTru_eq : hTru = (tru) := by unfold hTru; exact stuck_eq _
@[irreducible] noncomputable def hAdd : D → D → Sto → QD → Prop := stuck (rAddD)
theorem hAdd_eq : hAdd = (rAddD) := by unfold hAdd; exact stuck_eq _
@[irreducible] noncomputable def hSub : D → D → Sto → QD → Prop := stuck (rSubD)
theorem hSub_eq : hSub = (rSubD) := by unfold hSub; exact stuck_eq _
@[irreducible] noncomputable def hMul : D → D → Sto → QD → Prop := stuck (rMulD)
theorem hMul_eq : hMul = (rMulD) := by unfold hMul; exact stuck_eq _
@[irreducible] noncomputable def hMod : D → D → Sto → QD → Prop := stuck (rModD)
theorem hMod_eq : hMod = (rModD) := by unfold hMod; exact stuck_eq _
@[irreducible] noncomputable def hDiv : D → D → Sto → QD → Prop := stuck (rDivD)
theorem hDiv_eq : hDiv = (rDivD) := by unfold hDiv; exact stuck_eq _
@[irreducible] noncomputable def hPow : D → D → Sto → QD → Prop := stuck (rPowD)
theorem hPow_eq : hPow = (rPowD) := by unfold hPow; exact stuck_eq _
@[irreducible] noncomputable def hLt : D → D → Sto → QD → Prop := stuck (rLtD)
theorem hLt_eq : hLt = (rLtD) := by unfold hLt; exact stuck_eq _
@[irreducible] noncomputable def hLe : D → D → Sto → QD → Prop := stuck (rLeD)
theorem hLe_eq : hLe = (rLeD) := by unfold hLe; exact stuck_eq _
@[irreducible] noncomputable def hGt : D → D → Sto → QD → Prop := stuck (rGtD)
theorem hGt_eq : hGt = (rGtD) := by unfold hGt; exact stuck_eq _
@[irreducible] noncomputable def hGe : D → D → Sto → QD → Prop := stuck (rGeD)
theorem hGe_eq : hGe = (rGeD) := by unfold hGe; exact stuck_eq _
@[irreducible] noncomputable def hEq : D → D → Sto → QD → Prop := stuck (rEqD')
theorem hEq_eq : hEq = (rEqD') := by unfold hEq; exact stuck_eq _
@[irreducible] noncomputable def hNe : D → D → Sto → QD → Prop := stuck (rNeD')
theorem hNe_eq : hNe = (rNeD') := by unfold hNe; exact stuck_eq _
@[irreducible] noncomputable def hIs : D → D → Sto → QD → Prop := stuck (rIsD)
theorem hIs_eq : hIs = (rIsD) := by unfold hIs; exact stuck_eq _
@[irreducible] noncomputable def hIsN : D → D → Sto → QD → Prop := stuck (rIsNotD)
theorem hIsN_eq : hIsN = (rIsNotD) := by unfold hIsN; exact stuck_eq _
@[irreducible] noncomputable def hIn : D → D → Sto → QD → Prop := stuck (rInD false)
theorem hIn_eq : hIn = (rInD false) := by unfold hIn; exact stuck_eq _
@[irreducible] noncomputable def hNotIn : D → D → Sto → QD → Prop := stuck (rInD true)
theorem hNotIn_eq : hNotIn = (rInD true) := by unfold hNotIn; exact stuck_eq _
@[irreducible] noncomputable def hIx : D → D → Sto → QD → Prop := stuck (rIxD)
theorem hIx_eq : hIx = (rIxD) := by unfold hIx; exact stuck_eq _
@[irreducible] noncomputable def hNeg : D → Sto → QD → Prop := stuck (rNegD)
theorem hNeg_eq : hNeg = (rNegD) := by unfold hNeg; exact stuck_eq _
@[irreducible] noncomputable def hLen : D → Sto → QD → Prop := stuck (fun x S q => lenD x S fun n => q (.int n) S)
theorem hLen_eq : hLen = (fun x S q => lenD x S fun n => q (.int n) S) := by unfold hLen; exact stuck_eq _
@[irreducible] noncomputable def hAbs : D → Sto → QD → Prop := stuck (rAbs)
theorem hAbs_eq : hAbs = (rAbs) := by unfold hAbs; exact stuck_eq _
@[irreducible] noncomputable def hInt : D → Sto → QD → Prop := stuck (rInt)
theorem hInt_eq : hInt = (rInt) := by unfold hInt; exact stuck_eq _
@[irreducible] noncomputable def hAll : D → Sto → QD → Prop := stuck (rAllD)
theorem hAll_eq : hAll = (rAllD) := by unfold hAll; exact stuck_eq _
@[irreducible] noncomputable def hAny : D → Sto → QD → Prop := stuck (rAnyD)
theorem hAny_eq : hAny = (rAnyD) := by unfold hAny; exact stuck_eq _
@[irreducible] noncomputable def hIsi : D → D → Sto → QD → Prop := stuck (rIsiD)
theorem hIsi_eq : hIsi = (rIsiD) := by unfold hIsi; exact stuck_eq _
@[irreducible] noncomputable def hList : D → Sto → QD → Prop := stuck (rList)
theorem hList_eq : hList = (rList) := by unfold hList; exact stuck_eq _
@[irreducible] noncomputable def hSl : D → Option Int → Option Int → Sto → QD → Prop := stuck (rSlD)
theorem hSl_eq : hSl = (rSlD) := by unfold hSl; exact stuck_eq _
@[irreducible] noncomputable def hSet : D → D → D → Sto → (Sto → Prop) → Prop := stuck (rSetD)
theorem hSet_eq : hSet = (rSetD) := by unfold hSet; exact stuck_eq _
abbrev hFrz_0 (q : QD) (d : D) (S : Sto) : Prop := frz q d S
@[irreducible] noncomputable def hFrz (q : QD) (d : D) (S : Sto) : Prop := stuck (@hFrz_0) q d S
theorem hFrz_eq (q : QD) (d : D) (S : Sto) : hFrz q d S = (frz q d S) := by unfold hFrz; rw [stuck_eq]
abbrev hFor_0 (kp : KP) (g : GD) (tb : SD) (E : EnD) (ds : List D) (ρ : St') (S : Sto) : Prop := forGo kp g tb E ds ρ S
@[irreducible] noncomputable def hFor (kp : KP) (g : GD) (tb : SD) (E : EnD) (ds : List D) (ρ : St') (S : Sto) : Prop := stuck (@hFor_0) kp g tb E ds ρ S
theorem hFor_eq (kp : KP) (g : GD) (tb : SD) (E : EnD) (ds : List D) (ρ : St') (S : Sto) : hFor kp g tb E ds ρ S = (forGo kp g tb E ds ρ S) := by unfold hFor; rw [stuck_eq]
abbrev hLc_0 (kp : KP) (g : GD) (tt : TD) (te : ED) (w : XD) (ρ : St') (q : QD) (ds acc : List D) (S : Sto) : Prop := lcGo kp g tt te w ρ q ds acc S
@[irreducible] noncomputable def hLc (kp : KP) (g : GD) (tt : TD) (te : ED) (w : XD) (ρ : St') (q : QD) (ds acc : List D) (S : Sto) : Prop := stuck (@hLc_0) kp g tt te w ρ q ds acc S
theorem hLc_eq (kp : KP) (g : GD) (tt : TD) (te : ED) (w : XD) (ρ : St') (q : QD) (ds acc : List D) (S : Sto) : hLc kp g tt te w ρ q ds acc S = (lcGo kp g tt te w ρ q ds acc S) := by unfold hLc; rw [stuck_eq]
/-! the readings by these heads -/
def kTr (t : ED) : TD := fun w ρ S k => t w ρ S fun d S1 => hTru d S1 fun b => k b S1
def kAndT (a b : TD) : TD := fun w ρ S k => a w ρ S fun c S1 => hIf c (b w ρ S1 k) (k false S1)
def kOrT (a b : TD) : TD := fun w ρ S k => a w ρ S fun c S1 => hIf c (k true S1) (b w ρ S1 k)
def kNot (t : ED) : ED := fun w ρ S q => t w ρ S fun d S1 => hTru d S1 fun b => q (.bl (!b)) S1
def kAnd (a b : ED) : ED := fun w ρ S q => a w ρ S fun d S1 => hTru d S1 fun c => hIf c (b w ρ S1 q) (q d S1)
def kOr (a b : ED) : ED := fun w ρ S q => a w ρ S fun d S1 => hTru d S1 fun c => hIf c (q d S1) (b w ρ S1 q)
def kIf (c : TD) (a b : ED) : ED := fun w ρ S q => c w ρ S fun k S1 => hIf k (a w ρ S1 q) (b w ρ S1 q)
def kChain (r r' : D → D → Sto → QD → Prop) (a b c : ED) : ED := fun w ρ S q => a w ρ S fun x S1 => b w ρ S1 fun y S2 => r x y S2 (asB fun k S3 => hIf k (c w ρ S3 fun z S4 => r' y z S4 q) (q (.bl false) S3))
def kTup (t : AD) : ED := fun w ρ S q => t w ρ S fun ds S1 => hAnd (ds.length ≤ sizeLine) (q (.tup ds) S1)
def kLst (t : AD) : ED := fun w ρ S q => t w ρ S fun ds S1 => hAnd (ds.length ≤ sizeLine) (q (.lst ds) S1)
def kLstM (t : AD) : ED := fun w ρ S q => t w ρ S fun ds S1 => hAnd (ds.length ≤ sizeLine) (∀ p, S1 p = none → q (.ref p) (S1.set p (.lst ds)))
def kSif (c : TD) (t u : SD) : SD := fun E ρ S => c E.w ρ S fun b S1 => hIf b (t E ρ S1) (u E ρ S1)
def kNil : GDs := fun ds _ ρ S q => hAnd (ds = []) (q ρ S)
def kTupG (n : Nat) (g : GDs) : GD := fun d w ρ S q => match d with
  | .tup ds => hAnd (ds.length = n) (g ds w ρ S q)
  | .lst ds => hAnd (ds.length = n) (g ds w ρ S q)
  | _ => False
def kRg1 (t : AD) : ID := fun w ρ S q => t w ρ S fun ds S1 => match ds with
  | [.int n] => hAnd (small62 n) (q none (intsD 0 n.toNat) S1)
  | _ => False
def kRg2 (t : AD) : ID := fun w ρ S q => t w ρ S fun ds S1 => match ds with
  | [.int a, .int b] => hAnd (small62 a) (hAnd (small62 b) (q none (intsD a (b - a).toNat) S1))
  | _ => False
def kFor (ti : ID) (g : GD) (tb : SD) : SD := fun E ρ S => ti E.w ρ S fun kp ds S1 => hFor kp g tb E ds ρ S1
def kLc (ti : ID) (g : GD) (tt : TD) (te : ED) (vs : List Nat) : ED := fun w ρ S q => ti w ρ S fun kp ds S1 => hLc kp g tt te noX (wipeD ρ vs) q ds [] S1
def kCallK (sg : Sig) (e : Ent) (sp : SpD) (t tk : AD) : ED := fun w ρ S q => t w ρ S fun ds S1 => tk w ρ S1 fun zs S2 => hAnd (ds.length = e.n) (hAnd (zs.length = e.ks.length) (sp (pick .non e.src ds zs sg.dfs) S2 q fun C fs S' => w C fs ρ S'))
def kFrz (t : ED) : ED := fun w ρ S q => t w ρ S (hFrz q)


section
variable {t u : ED} {a b : TD} {s s2 : SD} {ti : ID} {g : GD} {gs : GDs} {ta : AD} {n : Nat} {r r' : D → D → Sto → QD → Prop} {c : ED}
theorem kTr_eq : kTr t = eTr t := by unfold kTr eTr; simp only [hTru_eq]
theorem kAndT_eq : kAndT a b = eAndT a b := by unfold kAndT eAndT; simp only [hIf_eq]
theorem kOrT_eq : kOrT a b = eOrT a b := by unfold kOrT eOrT; simp only [hIf_eq]
theorem kNot_eq : kNot t = eNot t := by unfold kNot eNot; simp only [hTru_eq]
theorem kAnd_eq : kAnd t u = eAnd t u := by unfold kAnd eAnd; simp only [hTru_eq, hIf_eq]
theorem kOr_eq : kOr t u = eOr t u := by unfold kOr eOr; simp only [hTru_eq, hIf_eq]
theorem kIf_eq : kIf a t u = eIf a t u := by unfold kIf eIf; simp only [hIf_eq]
theorem kChain_eq : kChain r r' t u c = eChain r r' t u c := by unfold kChain eChain; simp only [hIf_eq]
theorem kTup_eq : kTup ta = eTup ta := by unfold kTup eTup; simp only [hAnd_eq]
theorem kLst_eq : kLst ta = eLst ta := by unfold kLst eLst; simp only [hAnd_eq]
theorem kLstM_eq : kLstM ta = eLstM ta := by unfold kLstM eLstM; simp only [hAnd_eq]
theorem kSif_eq : kSif a s s2 = sIf a s s2 := by unfold kSif sIf; simp only [hIf_eq]
theorem kNil_eq : kNil = dNil := by unfold kNil dNil; simp only [hAnd_eq]
theorem kTupG_eq : kTupG n gs = dTup n gs := by unfold kTupG dTup; simp only [hAnd_eq] <;> rfl
theorem kRg1_eq : kRg1 ta = iRg1 ta := by unfold kRg1 iRg1; simp only [hAnd_eq] <;> rfl
theorem kRg2_eq : kRg2 ta = iRg2 ta := by unfold kRg2 iRg2; simp only [hAnd_eq] <;> rfl
theorem kFor_eq : kFor ti g s = sFor ti g s := by unfold kFor sFor; simp only [hFor_eq]
theorem kLc_eq {vs : List Nat} : kLc ti g a t vs = eLc ti g a t vs := by unfold kLc eLc; simp only [hLc_eq]
theorem kCallK_eq {sg : Sig} {e : Ent} {sp : SpD} {tk : AD} : kCallK sg e sp ta tk = eCallK sg e sp ta tk := by unfold kCallK eCallK; simp only [hAnd_eq]
theorem kFrz_eq : kFrz t = eFrz t := by
  funext w ρ S q
  show t w ρ S (hFrz q) = t w ρ S (frz q)
  rw [show hFrz q = frz q from by funext d S; rw [hFrz_eq]]
end
end DL

namespace DL
open PySem PySem.Spec PyProof.Rows L2

/-! ### what may be called, in one form -/
/-- φ of the values by place, the names, the values by name -/
abbrev PhD := List D → List Str → List D → Sto → QD → ExD → Prop
abbrev PhV := List V → List Str → List V → Hp → VK → XK → Prop
def FG (P : Program) (w : World) (K : PySem.W.Frag) (mg : Str → Option Value) (base : Heap) (k : Nat) (f : Addr) (φ : PhV) : Prop :=
  ∀ (A : Around) (outer : List Env) (s : Shared) (H : Hp) (us ws : List Value) (vs zs : List V) (ks : List Str) (Q : VK) (E : XK), Room k A → Env0 P w K mg base A outer s H → Vals vs us → Vals zs ws → φ vs ks zs H Q E →
    codeAny (model P w) A (.call (.ref f) ⟨us, ks.zip ws⟩) (CR (L2N.CX P w) outer P w H s Q E) s
theorem FG.mono {P : Program} {w : World} {K : PySem.W.Frag} {mg : Str → Option Value} {base : Heap} {j k : Nat} {f : Addr} {φ : PhV} (h : FG P w K mg base j f φ) (hj : j ≤ k) : FG P w K mg base k f φ :=
  fun A outer s H us ws vs zs ks Q E hr => h A outer s H us ws vs zs ks Q E (hr.mono hj)
def exUp (K : KB) (S : Sto) (H : Hp) (e : ExD) (E : XK) : Prop :=
  ∀ (C : Nat) (dd : Addr) (fs : List (Nat × D)) (us : List V) (S' : Sto) (H' : Hp), Ext S H S' H' → Rel K S' H' → H' dd = some (.xd ((fs.map fun p => fN p.1).zip us)) → S' dd = none → Rps K S' H' (fs.map (·.2)) us → e C fs S' → E (.ref (cA K.k C)) (some dd) H'
def upPh (k : PySem.W.Frag) (φ : PhD) : PhV := fun vs ks zs H Q E => ∃ (B : Addr → Prop) (ds es : List D) (S : Sto) (q : QD) (e : ExD), Rel ⟨k, B⟩ S H ∧ Rps ⟨k, B⟩ S H ds vs ∧ Rps ⟨k, B⟩ S H es zs ∧ φ ds ks es S q e ∧ Got ⟨k, B⟩ S H q Q ∧ exUp ⟨k, B⟩ S H e E
inductive CI where
  | fix (sg : Sig) (sp : SpD) | raw (sp : SpD)
def frzIf (b : Bool) (q : QD) : QD := if b = true then frz q else q
theorem frzIf_up {K : KB} {S : Sto} {H : Hp} {q : QD} {Q : VK} {b : Bool} (g : Got K S H q Q) : Got K S H (frzIf b q) Q := by
  cases b with
  | true => exact frz_up g
  | false => exact g
def ciP : CI → PhD
  | .fix sg sp => fun ds ks zs S q e => ∃ ent ∈ sg.ents, ds.length = ent.n ∧ ks = ent.ks ∧ zs.length = ks.length ∧ sp (pick .non ent.src ds zs sg.dfs) S (frzIf sg.frz q) e
  | .raw sp => fun ds ks zs S q e => ks = [] ∧ zs = [] ∧ sp ds S q e
section
variable {P : Program} {w : World} {K : PySem.W.Frag} {mg : Str → Option Value} {base : Heap} {k : Nat} {f : Addr}
theorem fg_fix {fd : FuncData} {ps : List Str} {du : List Value} {dv : List V} {sg : Sig} {sp : SpD} (F : FnOk P w K mg base (L2N.CX P w) k f fd ps (upSp K sp)) (hents : ∀ e ∈ sg.ents, EntOk K fd ps du e) (hd : Vals dv du) (hdv : ∀ B S H, Rps ⟨K, B⟩ S H sg.dfs dv) : FG P w K mg base k f (upPh K (ciP (.fix sg sp))) := by
  rintro A outer s H us ws vs zs ks Q E hr e0 r rz ⟨B, ds, es, S, q, e, R, r1, r2, ⟨ent, he, l1, rfl, l2, h⟩, g, ex⟩
  have kin : K.In s.heap := e0.mod.kin.keeps fun b o q => (e0.bs b o q).1
  refine F.run A outer s H ⟨us, ent.ks.zip ws⟩ _ _ Q E hr e0 ((hents ent he).to s us ws kin ?_ ?_) (pick_vals r rz hd ent.src) ⟨B, _, S, _, e, R, pick_rps r1 r2 (hdv B S H) ent.src, h, frzIf_up g, ex⟩
  · rw [← r.length, ← r1.length]; exact l1
  · rw [← rz.length, ← r2.length]; exact l2
theorem fg_raw {sp : SpD} (F : FnR P w K mg base (L2N.CX P w) k f (upSp K sp)) : FG P w K mg base k f (upPh K (ciP (.raw sp))) := by
  rintro A outer s H us ws vs zs ks Q E hr e0 r rz ⟨B, ds, es, S, q, e, R, r1, r2, ⟨rfl, rfl, h⟩, g, ex⟩
  cases r2
  cases rz
  exact F A outer s H us vs Q E hr e0 r ⟨B, ds, S, q, e, R, r1, h, g, ex⟩
end
section
variable {X : Cx} {pins : List (Addr × Obj)} {σ : St} {H : Hp} {s : Shared} {k : Nat} {f : Addr} {φ : PhV} {us ws : List Value} {vs zs : List V} {ks : List Str} {Q : VK} {E : XK}
theorem run_fg (F : FG X.prog X.w X.K X.mg X.base k f φ) (hr : Room k X.A) (hx : PassesAt (L2N.CX X.prog X.w) X σ E) (I : Inv X pins σ H s) (r : Vals vs us) (rz : Vals zs ws) (h : φ vs ks zs H Q E) : wpAny (model X.prog X.w) X.A (call (.ref f) us (ks.zip ws)) (EP X pins σ Q) X.xe s := by
  refine wpAny_call (codeAny_mono (F X.A X.stack s H us ws vs zs ks Q E hr I.env0 r rz h) fun r s' hq => ?_)
  cases r with
  | error e => exact hx pins H s e s' I hq
  | ok fl =>
    cases fl with
    | ret u => exact I.after hq
    | next => exact False.elim hq
    | brk => exact False.elim hq
    | cont => exact False.elim hq
theorem run_mkg {C : Addr} (M : Mk X.K C f) (F : FG X.prog X.w X.K X.mg X.base k f φ) (hr : Room (k + 1) X.A) (hx : PassesAt (L2N.CX X.prog X.w) X σ E) (I : Inv X pins σ H s) (r : Vals vs us) (rz : Vals zs ws)
    (h : ∀ x dx, H x = none → H dx = none → dx ≠ x → φ (.ref x :: vs) ks zs (upd (upd H dx (.own x)) x (.ins C dx [])) (fun v H2 => v = .non ∧ Q (.ref x) H2) E) : wpAny (model X.prog X.w) X.A (call (.ref C) us (ks.zip ws)) (EP X pins σ Q) X.xe s := by
  have hq := h (s.heap.objs.size + 1) s.heap.objs.size (I.hok.fresh (Nat.le_succ _)) (I.hok.fresh (Nat.le_refl _)) (Nat.ne_of_lt (Nat.lt_succ_self _))
  have J := Inv.made (C := C) I
  refine wpAny_call (make_map (f := f) I.kIn M.makes M.init (beq_iff_eq.mp M.fn) (codeAny_mono (F _ X.stack _ _ (Value.ref (s.heap.objs.size + 1) :: us) ws (V.ref (s.heap.objs.size + 1) :: vs) zs ks _ E (hr.make C us (ks.zip ws)) (J.env0.make C us (ks.zip ws)) (.cons rfl r) rz hq) fun r s' hq' => ?_))
  cases r with
  | error e => exact hx pins _ _ e s' J hq'
  | ok fl =>
    cases fl with
    | ret u =>
      obtain ⟨v, H', I3, rv, ev, q3⟩ := J.after hq'
      subst ev
      exact ⟨rv, ⟨V.ref (s.heap.objs.size + 1), H', I3, rfl, q3⟩⟩
    | next => exact False.elim hq'
    | brk => exact False.elim hq'
    | cont => exact False.elim hq'
end

/-! ### argument lists: by place (with stars or without), by name -/
/-- the arguments of a call: all kinds of values by place, then by name -/
structure ArgsOk (X : Cx) (args : List Expr) (kws : List Keyword) (ks : List Str) (pos : Pos) : Prop where
  ks : kwNames kws = ks.map some
  one : ∀ e es, args = e :: es → starEach (e :: es) X.env = (false, eval e X.env) :: starEach es X.env
  st : (backTo pos (starEach args X.env)).any (·.1) = false ∨ (kws = [] ∧ ∃ e es, args = e :: es ∧ (backTo pos (starEach es X.env)).any (·.1) = true)
section
variable {X : Cx} {pins : List (Addr × Obj)} {σ : St} {H : Hp} {s : Shared} {args : List Expr} {kws : List Keyword} {ks : List Str} {pos : Pos} {t tk : TA} {first : List Value} {fv : Value} {Q : Value → Shared → Prop} {E : Value → Shared → Prop}
theorem callw {cond : List V → List V → Hp → Prop} (ao : ArgsOk X args kws ks pos) (ha : PA X args t) (hk : PK X kws tk) (h0 : args = [] → t = tNil) (h0k : kws = [] → tk = tNil) (hf : PySem.W.keepIn X.K fv = true) (I : Inv X pins σ H s)
    (h : t σ H fun vs H1 => tk σ H1 fun zs H2 => cond vs zs H2) (run : ∀ vs zs us ws H2 s2, Inv X pins σ H2 s2 → Vals vs us → Vals zs ws → cond vs zs H2 → wpAny (model X.prog X.w) X.A (call fv (first ++ us) (ks.zip ws)) Q X.xe s2) :
    wpAny (model X.prog X.w) X.A (callWith pos fv first (backTo pos (starEach args X.env)) (backToKw pos (keywordEach kws X.env))) Q X.xe s := by
  obtain ⟨n1, n2, n3⟩ := kw_names (pos := pos) (env := X.env) ao.ks
  cases args with
  | nil =>
    rw [h0 rfl] at h
    refine PySem.W.callWith_KW0 (h₀ := X.base) I.ok.mod.kin hf n1 ?_ (show (false || _) = false from n3)
    refine thn (hk.run pos pins s σ H _ I h) fun ws s2 ⟨zs, H2, I2, rz, q2⟩ => ⟨I2.kIn, ?_⟩
    rw [n2]
    exact run [] zs [] ws H2 s2 I2 .nil rz q2
  | cons e es =>
    rcases ao.st with hp | ⟨rfl, e', es', he, hp⟩
    · refine PySem.W.callWith_KW (h₀ := X.base) I.ok.mod.kin hf n1 (thn (ha.run pos pins s σ H _ I h) fun us s1 ⟨vs, H1, I1, r, q1⟩ => ?_) (by rw [hp, n3]; rfl) (ao.one e es rfl)
      refine thn (hk.run pos pins s1 σ H1 _ I1 q1) fun ws s2 ⟨zs, H2, I2, rz, q2⟩ => ⟨I2.kIn, ?_⟩
      rw [n2]
      exact run vs zs us ws H2 s2 I2 r rz q2
    · obtain ⟨rfl, rfl⟩ : e = e' ∧ es = es' := by cases he; exact ⟨rfl, rfl⟩
      have hks : ks = [] := by
        have : ([] : List (Option Str)) = ks.map some := ao.ks
        cases ks with
        | nil => rfl
        | cons a l => cases this
      subst hks
      refine PySem.W.callWith_S2 (h₀ := X.base) I.ok.mod.kin hf (thn (ha.run pos pins s σ H _ I h) fun us s1 ⟨vs, H1, I1, r, q1⟩ => ⟨I1.kIn, ?_⟩) (ao.one e es rfl) hp
      rw [h0k rfl] at q1
      exact run vs [] us [] H1 s1 I1 r .nil q1
end
end DL

namespace DL
open PySem PySem.Spec PyProof.Rows L2

/-! ### the rules over the heap -/
def tMakeG (C : Addr) (φ : PhV) (ks : List Str) (E : St → XK) (t tk : TA) : TE := fun σ H Q => t σ H fun vs H1 => tk σ H1 fun zs H2 => ∀ x dx, H2 x = none → H2 dx = none → dx ≠ x → φ (.ref x :: vs) ks zs (upd (upd H2 dx (.own x)) x (.ins C dx [])) (fun v H3 => v = .non ∧ Q (.ref x) H3) (E σ)
/-- what is asked where the receiver is the instance a -/
def tMethG (ks : List Str) (E : St → XK) (cond : Addr → Hp → (PhV → Prop) → Prop) (to : TE) (t tk : TA) : TE := fun σ H Q => to σ H fun x H1 => ∃ a, x = .ref a ∧ cond a H1 fun φ => t σ H1 fun vs H2 => tk σ H2 fun zs H3 => φ (.ref a :: vs) ks zs H3 Q (E σ)
section
variable {X : Cx} {k : Nat} {f C : Addr} {φ : PhV} {x m : Str} {p pos apos : Pos} {args : List Expr} {kws : List Keyword} {ks : List Str} {t tk : TA} {to : TE} {o : Expr} {E : St → XK}
theorem pe_mkG (M : Mk X.K C f) (F : FG X.prog X.w X.K X.mg X.base k f φ) (hr : Room (k + 1) X.A) (hg : Gl X x) (hm : X.mg x = some (.ref C)) (hx : ∀ σ, PassesAt (L2N.CX X.prog X.w) X σ (E σ)) (ao : ArgsOk X args kws ks pos) (ha : PA X args t) (hk : PK X kws tk) (h0 : args = [] → t = tNil) (h0k : kws = [] → tk = tNil)
    (hdb : (x == ("__debug__" : Str)) = false) : PE X (.Call (.Name x p) args kws pos) (tMakeG C φ ks E t tk) :=
  ⟨fun pins s σ H Q I h => wpAny_Call_Name_kw (ld_glob I hg hm (callw (first := []) ao ha hk h0 h0k M.kp I h fun _ _ _ _ _ _ I2 r rz q => run_mkg M F hr (hx σ) I2 r rz q) hdb)⟩
/-- the evaluation of a call of an attribute -/
theorem meth_eval {prog : Program} {w : World} {env : Env} {A : Around} {s : Shared} {Q : Value → Shared → Prop} {E : Value → Shared → Prop} (hb : attributeBase o m env (eval o env) = eval o env)
    (hfew : methodCallForm (args.length + kws.length) (backTo pos (starEach args env)) (backToKw pos (keywordEach kws env)) = true) (hl : (apos.endLine == pos.line) = true)
    (h : wpAny (model prog w) A (eval o env) (fun ov s1 => wpAny (model prog w) A (getMethod ov m (importBound o env >>= fun b => pure (b.getD true))) (fun fx s2 => wpAny (model prog w) A (callWith pos fx.1 fx.2 (backTo pos (starEach args env)) (backToKw pos (keywordEach kws env))) Q E s2) E s1) E s) :
    wpAny (model prog w) A (eval (.Call (.Attribute o m apos) args kws pos) env) Q E s := by
  rw [arm_eval_Call, hb]
  refine wpAny_bind (wpAny_mono h (fun ov s1 h1 => wpAny_bind (wpAny_standAt ?_)) fun _ _ x => x)
  have hpos : methodCallPos true o env apos pos = pure pos := by unfold methodCallPos; simp [hl]
  unfold methodCall
  rw [hfew]
  exact wpAny_bind (wpAny_holding (wpAny_mono h1 (fun fx s2 h2 => wpAny_bind (wpAny_of_eq hpos h2)) fun _ _ x => x))
/-- what is known of the receiver's class -/
structure MetOf (X : Cx) (C : Addr) (m : Str) (φ : PhV) : Prop where
  c : Cls X.K C
  ex : ∃ g k, Meth X.K C m g ∧ Room k X.A ∧ FG X.prog X.w X.K X.mg X.base k g φ
def CondM (X : Cx) (m : Str) (a : Addr) (H : Hp) (k : PhV → Prop) : Prop := ∃ C dx fs φ, H a = some (.ins C dx fs) ∧ fs.lookup m = none ∧ MetOf X C m φ ∧ k φ
theorem pe_methG (hx : ∀ σ, PassesAt (L2N.CX X.prog X.w) X σ (E σ)) (ao : ArgsOk X args kws ks pos) (ho : PE X o to) (ha : PA X args t) (hk : PK X kws tk) (h0 : args = [] → t = tNil) (h0k : kws = [] → tk = tNil)
    (hb : attributeBase o m X.env (eval o X.env) = eval o X.env) (hfew : methodCallForm (args.length + kws.length) (backTo pos (starEach args X.env)) (backToKw pos (keywordEach kws X.env)) = true) (hl : (apos.endLine == pos.line) = true) :
    PE X (.Call (.Attribute o m apos) args kws pos) (tMethG ks E (CondM X m) to t tk) :=
  ⟨fun pins s σ H Q I h => meth_eval hb hfew hl (thn (ho.run pins s σ H _ I h) fun u s1 ⟨x, H1, I1, rx, a, ex, C, dx, fs, φ, ea, l, ⟨c, g, k, hm, hr, F⟩, q⟩ => by
    subst ex
    obtain rfl : u = Value.ref a := rx
    exact getmeth_ok I1 ea c hm l (callw (first := [.ref a]) ao ha hk h0 h0k hm.kp I1 q fun vs zs us ws H2 s2 I2 r rz q2 => run_fg (us := .ref a :: us) (vs := .ref a :: vs) F hr (hx σ) I2 (.cons rfl r) rz q2))⟩
/-- C.m(..), m a staticmethod -/
structure StatOf (K : PySem.W.Frag) (C : Addr) (m : Str) (g : Addr) : Prop where
  ex : ∃ mc p rest, ClX.CRead K C mc ∧ PySem.W.findCls K (.ref C) mc m = some (.get (.builtin "staticmethod.__get__") (.ref p) .none (.ref C)) ∧ PySem.W.recIn K p "staticmethod" = some (.ref g :: rest)
  kp : PySem.W.keepIn K (.ref g) = true
theorem getstat_ok {pins : List (Addr × Obj)} {σ : St} {H : Hp} {s : Shared} {g : Addr} {pl : Sem Bool} {A : Around} {E : Value → Shared → Prop} {Q : Value × List Value → Shared → Prop} (I : Inv X pins σ H s) (k : StatOf X.K C m g) (h : ∀ s', Inv X pins σ H s' → Q (.ref g, []) s') :
    wpAny (model X.prog X.w) A (getMethod (.ref C) m pl) Q E s := by
  obtain ⟨mc, p, rest, r, e, hp⟩ := k.ex
  refine PySem.W.method_cls I.kIn r.ga (PySem.W.cls_bind I.kIn r.rd e (wpAny_call (PySem.W.sm_get (s := { s with toks := s.toks + 1 }) I.kIn hp (PySem.W.handed_on rfl ?_))))
  exact h _ (I.tok _)
def tStatG (φ : PhV) (ks : List Str) (E : St → XK) (t tk : TA) : TE := fun σ H Q => t σ H fun vs H1 => tk σ H1 fun zs H2 => φ vs ks zs H2 Q (E σ)
theorem pe_statG {g : Addr} {q : Pos} (sk : StatOf X.K C m g) (F : FG X.prog X.w X.K X.mg X.base k g φ) (hr : Room k X.A) (hg : Gl X x) (hm : X.mg x = some (.ref C)) (hdb : (x == ("__debug__" : Str)) = false) (hx : ∀ σ, PassesAt (L2N.CX X.prog X.w) X σ (E σ)) (ao : ArgsOk X args kws ks pos) (ha : PA X args t) (hk : PK X kws tk) (h0 : args = [] → t = tNil) (h0k : kws = [] → tk = tNil)
    (hb : attributeBase (.Name x q) m X.env (eval (.Name x q) X.env) = eval (.Name x q) X.env) (hfew : methodCallForm (args.length + kws.length) (backTo pos (starEach args X.env)) (backToKw pos (keywordEach kws X.env)) = true) (hl : (apos.endLine == pos.line) = true) :
    PE X (.Call (.Attribute (.Name x q) m apos) args kws pos) (tStatG φ ks E t tk) :=
  ⟨fun pins s σ H Q I h => meth_eval hb hfew hl (ld_glob I hg hm (getstat_ok I sk fun s1 I1 => callw (first := []) ao ha hk h0 h0k sk.kp I1 h fun vs zs us ws H2 s2 I2 r rz q2 => run_fg F hr (hx σ) I2 r rz q2) hdb)⟩
/-- an attribute read: a field, a constant of the class, a property -/
inductive AtV (X : Cx) (f : Str) (C : Addr) (a : Addr) (fs : List (Str × V)) (H : Hp) (Q : VK) : Prop where
  | fld (c : Cls X.K C) (n : NoAttr X.K C f) (v : V) (l : fs.lookup f = some v) (q : Q v H)
  | con (c : Cls X.K C) (v : V) (u : Value) (n : Con X.K C f v u) (l : fs.lookup f = none) (q : Q v H)
  | prop (c : Cls X.K C) (p g : Addr) (k : Nat) (φ : PhV) (hp : PropOf X.K C f p g) (hr : Room (k + 1) X.A) (F : FG X.prog X.w X.K X.mg X.base k g φ) (q : φ [.ref a] [] [] H Q fun _ _ _ => False)
def tAttG (X : Cx) (f : Str) (to : TE) : TE := fun σ H Q => to σ H fun x H1 => ∃ a C dx fs, x = .ref a ∧ H1 a = some (.ins C dx fs) ∧ AtV X f C a fs H1 Q
theorem prop_ok {pins : List (Addr × Obj)} {σ : St} {H : Hp} {s : Shared} {a dx p g : Addr} {fs : List (Str × V)} {fn : Str} {b : Bool} {Q : VK} {E' : Value → Shared → Prop} (I : Inv X pins σ H s) (ea : H a = some (.ins C dx fs)) (c : Cls X.K C) (hp : PropOf X.K C fn p g) (hr : Room (k + 1) X.A)
    (F : FG X.prog X.w X.K X.mg X.base k g φ) (h : φ [.ref a] [] [] H Q fun _ _ _ => False) : wpAny (model X.prog X.w) X.A (getAttr (.ref a) fn b) (EP X pins σ Q) E' s := by
  obtain ⟨mA, O, _⟩ := ins_get I.hok ea
  obtain ⟨od, J, _⟩ := O.look
  obtain ⟨rest, hrec⟩ := hp.rec_
  have J1 := I.tok (s.toks + 1)
  have hc : (PySem.W.clsIn X.K C).isSome = true := by
    obtain ⟨cd, hc, _⟩ := PySem.W.any_some c.hd
    rw [hc]; rfl
  refine PySem.W.get_bind I.kIn J (PySem.W.plainGet_of (c.get fn)).1 (PySem.W.findObj_data hc hp.at_ hp.get hp.tak) (PySem.W.plainGet_of (c.get fn)).2 (wpAny_call (PySem.W.prop_get (s := { s with toks := s.toks + 1 }) I.kIn hrec ?_))
  refine codeAny_mono (F X.A.in1 X.stack { s with toks := s.toks + 1 } H [.ref a] [] [.ref a] [] [] Q _ hr.in1 J1.env0.in1 (.cons rfl .nil) .nil h) fun r s' hq => ?_
  cases r with
  | error er =>
    obtain ⟨_, _, _, _, _, _, _, _, _, _, _, _, z⟩ := hq
    exact z.elim
  | ok fl =>
    cases fl with
    | ret u =>
      obtain ⟨v, H', I3, rv, q3⟩ := J1.after hq
      show wpAny _ _ (handedOut u) _ _ _
      rw [PySem.W.handedOut_of (handed_of rv)]
      exact wpAny_pure ⟨v, H', I3, rv, q3⟩
    | next => exact False.elim hq
    | brk => exact False.elim hq
    | cont => exact False.elim hq
theorem pe_attG {fn : Str} (ho : PE X o to) (hb : attributeBase o fn X.env (eval o X.env) = eval o X.env) : PE X (.Attribute o fn pos) (tAttG X fn to) :=
  ⟨fun pins s σ H Q I h => attr_of hb (thn (ho.run pins s σ H _ I h) fun u s1 ⟨x, H1, I1, rx, a, C, dx, fs, ex, ea, at_⟩ => by
    subst ex
    obtain rfl : u = Value.ref a := rx
    cases at_ with
    | fld c n v l q => exact getattr_ok I1 ea c n l fun u' s2 I2 ru => ⟨v, H1, I2, ru, q⟩
    | con c v u n l q => exact getcon_ok I1 ea c n l fun s2 I2 => ⟨v, H1, I2, n.rel, q⟩
    | prop c p g k φ hp hr F q => exact prop_ok I1 ea c hp hr F q)⟩
end
end DL

namespace DL
open PySem PySem.Spec PyProof.Rows L2

/-! ### names by numbers -/
theorem fN_out {j : Nat} (h : attNames.length ≤ j) : fN j = "" := by unfold fN; rw [List.getD_eq_getElem?_getD, List.getElem?_eq_none h]; rfl
theorem fN_at {j : Nat} (h : j < attNames.length) : fN j ∈ attNames := by
  unfold fN
  rw [List.getD_eq_getElem?_getD, List.getElem?_eq_getElem h]
  exact List.getElem_mem h
theorem att_ne : ∀ x ∈ attNames, x ≠ ("" : Str) := by decide +kernel
theorem att_inj : ∀ i ∈ List.range attNames.length, ∀ j ∈ List.range attNames.length, fN j = fN i → j = i := by decide +kernel
theorem fN_inj {i j : Nat} (hi : i < attNames.length) (h : fN j = fN i) : j = i := by
  by_cases hj : j < attNames.length
  · exact att_inj i (List.mem_range.mpr hi) j (List.mem_range.mpr hj) h
  · rw [fN_out (Nat.le_of_not_lt hj)] at h
    exact absurd h.symm (att_ne _ (fN_at hi))
/-- the number of a name -/
def attI (m : Str) : Option Nat := attNames.findIdx? (· == m)
theorem attI_some {m : Str} {i : Nat} (h : attI m = some i) : i < attNames.length ∧ fN i = m := by
  obtain ⟨h1, h2, _⟩ := List.findIdx?_eq_some_iff_getElem.mp h
  refine ⟨h1, ?_⟩
  unfold fN
  rw [List.getD_eq_getElem?_getD, List.getElem?_eq_getElem h1]
  exact eq_of_beq h2
theorem attI_none {m : Str} (h : attI m = none) (hm : m ≠ "") (j : Nat) : fN j ≠ m := by
  have h2 := List.findIdx?_eq_none_iff.mp h
  intro e
  by_cases hj : j < attNames.length
  · have := h2 _ (fN_at hj)
    rw [e] at this
    simp at this
  · rw [fN_out (Nat.le_of_not_lt hj)] at e
    exact hm e.symm
/-- no field of that name -/
def noAtt (i : Option Nat) (fs : List (Nat × D)) : Prop := match i with
  | none => True
  | some i => fs.lookup i = none
def putD (i : Nat) (d : D) : List (Nat × D) → List (Nat × D)
  | [] => [(i, d)]
  | (j, x) :: r => if i = j then (j, d) :: r else (j, x) :: putD i d r
section
variable {K : KB} {S : Sto} {H : Hp}
theorem look_fs {i : Nat} {d : D} (hi : i < attNames.length) : ∀ {fs : List (Nat × D)} {vs : List V}, Rps K S H (fs.map (·.2)) vs → fs.lookup i = some d → ∃ v, ((fs.map fun p => fN p.1).zip vs).lookup (fN i) = some v ∧ Rp K S H d v
  | [], _, _, h => by cases h
  | (j, x) :: fs, _, ⟨v, r, e, h1, h2⟩, h => by
    subst e
    rw [List.map_cons, List.zip_cons_cons, List.lookup_cons]
    rw [List.lookup_cons] at h
    by_cases hj : i = j
    · subst hj
      simp only [beq_self_eq_true] at h ⊢
      cases h
      exact ⟨v, rfl, h1⟩
    · have b1 : (i == j) = false := by simpa using hj
      have b2 : (fN i == fN j) = false := by simpa using fun z => hj (fN_inj hi z.symm).symm
      simp only [b1] at h
      simp only [b2]
      exact look_fs hi h2 h
theorem look_no {m : Str} : ∀ {fs : List (Nat × D)} {vs : List V}, (∀ p ∈ fs, fN p.1 ≠ m) → ((fs.map fun p => fN p.1).zip vs).lookup m = none
  | [], _, _ => rfl
  | (j, x) :: fs, [], _ => rfl
  | (j, x) :: fs, v :: vs, h => by
    rw [List.map_cons, List.zip_cons_cons, List.lookup_cons]
    have b : (m == fN j) = false := by simpa using fun z => h _ (List.mem_cons_self ..) z.symm
    simp only [b]
    exact look_no fun p hp => h p (List.mem_cons_of_mem _ hp)
theorem look_none {m : Str} {fs : List (Nat × D)} {vs : List V} (hm : m ≠ "") (h : noAtt (attI m) fs) : ((fs.map fun p => fN p.1).zip vs).lookup m = none := by
  refine look_no fun p hp e => ?_
  cases q : attI m with
  | none => exact attI_none q hm _ e
  | some i =>
    rw [q] at h
    obtain ⟨h1, rfl⟩ := attI_some q
    have hp1 := fN_inj h1 e
    have h : fs.lookup i = none := h
    rw [← hp1] at h
    exact absurd (List.lookup_eq_none_iff.mp h p hp) (by simp)
theorem put_fs {i : Nat} {d : D} {v : V} (hi : i < attNames.length) (rd : Rp K S H d v) : ∀ {fs : List (Nat × D)} {vs : List V}, Rps K S H (fs.map (·.2)) vs →
    ∃ us, putF (fN i) v ((fs.map fun p => fN p.1).zip vs) = ((putD i d fs).map fun p => fN p.1).zip us ∧ Rps K S H ((putD i d fs).map (·.2)) us
  | [], vs, h => by
    cases h
    exact ⟨[v], rfl, ⟨v, [], rfl, rd, rfl⟩⟩
  | (j, x) :: fs, _, ⟨u, r, e, h1, h2⟩ => by
    subst e
    by_cases hj : i = j
    · subst hj
      refine ⟨v :: r, ?_, ?_⟩
      · show (if fN i = fN i then _ else _) = _
        rw [if_pos rfl]
        show _ = ((putD i d ((i, x) :: fs)).map fun p => fN p.1).zip (v :: r)
        unfold putD
        rw [if_pos rfl]; rfl
      · unfold putD
        rw [if_pos rfl]
        exact ⟨v, r, rfl, rd, h2⟩
    · obtain ⟨us, e1, e2⟩ := put_fs hi rd h2
      refine ⟨u :: us, ?_, ?_⟩
      · show (if fN j = fN i then _ else (fN j, u) :: putF (fN i) v ((fs.map fun p => fN p.1).zip r)) = _
        rw [if_neg fun z => hj (fN_inj hi z).symm, e1, show putD i d ((j, x) :: fs) = (j, x) :: putD i d fs from if_neg hj]; rfl
      · unfold putD
        rw [if_neg hj]
        exact ⟨u, us, rfl, h1, e2⟩
end
/-! ### readings over data -/
def fK (sg : Sig) (ent : Ent) (sp : SpD) : List D → List D → Sto → QD → ExD → Prop := fun ds zs S q e => hAnd (ds.length = ent.n) (hAnd (zs.length = ent.ks.length) (sp (pick .non ent.src ds zs sg.dfs) S q e))
def fR (sp : SpD) : List D → List D → Sto → QD → ExD → Prop := fun ds zs S q e => hAnd (zs = []) (sp ds S q e)
abbrev Fm := List D → List D → Sto → QD → ExD → Prop
def fKz (sg : Sig) (ent : Ent) (sp : SpD) : List D → List D → Sto → QD → ExD → Prop := fun ds zs S q e => hAnd (ds.length = ent.n) (hAnd (zs.length = ent.ks.length) (sp (pick .non ent.src ds zs sg.dfs) S (hFrz q) e))
theorem fK_ok {sg : Sig} {ent : Ent} {sp : SpD} {ks : List Str} (h : ent ∈ sg.ents) (hk : ks = ent.ks) (hz : sg.frz = false) {ds zs : List D} {S : Sto} {q : QD} {e : ExD} (f : fK sg ent sp ds zs S q e) : ciP (.fix sg sp) ds ks zs S q e := by
  unfold fK at f
  simp only [hAnd_eq] at f
  exact ⟨ent, h, f.1, hk, by rw [hk]; exact f.2.1, by rw [hz]; exact f.2.2⟩
theorem fKz_ok {sg : Sig} {ent : Ent} {sp : SpD} {ks : List Str} (h : ent ∈ sg.ents) (hk : ks = ent.ks) (hz : sg.frz = true) {ds zs : List D} {S : Sto} {q : QD} {e : ExD} (f : fKz sg ent sp ds zs S q e) : ciP (.fix sg sp) ds ks zs S q e := by
  unfold fKz at f
  simp only [hAnd_eq] at f
  refine ⟨ent, h, f.1, hk, by rw [hk]; exact f.2.1, ?_⟩
  rw [hz]
  have e : hFrz q = frz q := by funext d S; rw [hFrz_eq]
  have := f.2.2
  rw [e] at this
  exact this
theorem fR_ok {sp : SpD} {ds zs : List D} {S : Sto} {q : QD} {e : ExD} (f : fR sp ds zs S q e) : ciP (.raw sp) ds [] zs S q e := by
  unfold fR at f
  simp only [hAnd_eq] at f
  exact ⟨rfl, f.1, f.2⟩
def kMake (n : Nat) (Φ : Fm) (t tk : AD) : ED := fun w ρ S q => t w ρ S fun ds S1 => tk w ρ S1 fun zs S2 => ∀ x, S2 x = none → Φ (.ref x :: ds) zs (S2.set x (.ins n [])) (fun d S' => hAnd (d = .non) (q (.ref x) S')) fun C fs S' => w C fs ρ S'
def rMth (i : Option Nat) (tab : List (Nat × Fm)) (d : D) (S : Sto) (k : Fm → Prop) : Prop := match d with
  | .ref a => (match S a with
    | some (.ins C fs) => noAtt i fs ∧ (match tab.lookup C with
      | some Φ => k Φ
      | none => False)
    | _ => False)
  | _ => False
@[irreducible] noncomputable def hMth : Option Nat → List (Nat × Fm) → D → Sto → (Fm → Prop) → Prop := stuck rMth
theorem hMth_eq : hMth = rMth := by unfold hMth; exact stuck_eq _
noncomputable def kMth (i : Option Nat) (tab : List (Nat × Fm)) (to : ED) (t tk : AD) : ED := fun w ρ S q => to w ρ S fun d S1 => hMth i tab d S1 fun Φ => t w ρ S1 fun ds S2 => tk w ρ S2 fun zs S3 => Φ (d :: ds) zs S3 q fun C fs S' => w C fs ρ S'
def kStat (Φ : Fm) (t tk : AD) : ED := fun w ρ S q => t w ρ S fun ds S1 => tk w ρ S1 fun zs S2 => Φ ds zs S2 q fun C fs S' => w C fs ρ S'
inductive AtD where
  | fld | con (d : D) | prop (Φ : Fm)
def rAtt (i : Option Nat) (tab : List (Nat × AtD)) (d : D) (S : Sto) (q : QD) : Prop := match d with
  | .ref a => (match S a with
    | some (.ins C fs) => (match tab.lookup C with
      | some .fld => (match i with
        | some i => (match fs.lookup i with
          | some v => q v S
          | none => False)
        | none => False)
      | some (.con v) => noAtt i fs ∧ q v S
      | some (.prop Φ) => Φ [.ref a] [] S q fun _ _ _ => False
      | none => False)
    | _ => False)
  | _ => False
@[irreducible] noncomputable def hAtt : Option Nat → List (Nat × AtD) → D → Sto → QD → Prop := stuck rAtt
theorem hAtt_eq : hAtt = rAtt := by unfold hAtt; exact stuck_eq _
noncomputable def kAtt (i : Option Nat) (tab : List (Nat × AtD)) (to : ED) : ED := fun w ρ S q => to w ρ S fun d S1 => hAtt i tab d S1 q
def rPutF (i : Option Nat) (cl : List Nat) (x d : D) (S : Sto) (k : Sto → Prop) : Prop := match x with
  | .ref a => (match S a with
    | some (.ins C fs) => C ∈ cl ∧ fs.length < 900 ∧ (match i with
      | some i => k (S.set a (.ins C (putD i d fs)))
      | none => False)
    | _ => False)
  | _ => False
@[irreducible] noncomputable def hPutF : Option Nat → List Nat → D → D → Sto → (Sto → Prop) → Prop := stuck rPutF
theorem hPutF_eq : hPutF = rPutF := by unfold hPutF; exact stuck_eq _
noncomputable def sPutF (i : Option Nat) (cl : List Nat) (te to : ED) : SD := fun E ρ S => te E.w ρ S fun d S1 => to E.w ρ S1 fun x S2 => hPutF i cl x d S2 fun S3 => E.nx ρ S3
theorem Rps.consD {K : KB} {S : Sto} {H : Hp} {d : D} {v : V} {ds : List D} {vs : List V} (h : Rp K S H d v) (t : Rps K S H ds vs) : Rps K S H (d :: ds) (v :: vs) := ⟨v, vs, rfl, h, t⟩
/-! arguments -/
def tAx (K : KB) (W : WX) (args : List Expr) (t : AD) : TA := match args with
  | [] => tNil
  | _ :: _ => upA K W t
def tKx (K : KB) (W : WX) (kws : List Keyword) (t : AD) : TA := match kws with
  | [] => tNil
  | _ :: _ => upA K W t
section
variable {X : Cx} {B : Addr → Prop} {W : WX} {σ : St} {H : Hp} {ρ : St'} {S : Sto} {w : XD}
theorem tAx_up {args : List Expr} {t : AD} {qd : List D → Sto → Prop} {Q : List V → Hp → Prop} (h0 : args = [] → t = aNil) (R : Rel ⟨X.K, B⟩ S H) (L : Sl ⟨X.K, B⟩ S H ρ σ) (O : WOk ⟨X.K, B⟩ S H w W) (h : t w ρ S qd)
    (k : ∀ ds vs S' H', Ext S H S' H' → Rel ⟨X.K, B⟩ S' H' → Rps ⟨X.K, B⟩ S' H' ds vs → qd ds S' → Q vs H') : tAx ⟨X.K, B⟩ W args t σ H Q := by
  cases args with
  | nil =>
    rw [h0 rfl] at h
    exact k [] [] _ _ .refl R rfl h
  | cons e es => exact ⟨ρ, S, qd, w, R, L, O, h, k⟩
theorem tKx_up {kws : List Keyword} {t : AD} {qd : List D → Sto → Prop} {Q : List V → Hp → Prop} (h0 : kws = [] → t = aNil) (R : Rel ⟨X.K, B⟩ S H) (L : Sl ⟨X.K, B⟩ S H ρ σ) (O : WOk ⟨X.K, B⟩ S H w W) (h : t w ρ S qd)
    (k : ∀ ds vs S' H', Ext S H S' H' → Rel ⟨X.K, B⟩ S' H' → Rps ⟨X.K, B⟩ S' H' ds vs → qd ds S' → Q vs H') : tKx ⟨X.K, B⟩ W kws t σ H Q := by
  cases kws with
  | nil =>
    rw [h0 rfl] at h
    exact k [] [] _ _ .refl R rfl h
  | cons e es => exact ⟨ρ, S, qd, w, R, L, O, h, k⟩
theorem tAx_ok {args : List Expr} {t : AD} (ha : PDA X args t) (tk : L2N.Takes X W) : PA X args (tAx ⟨X.K, B⟩ W args t) := by
  cases args with
  | nil => exact pa_nil
  | cons e es => exact ha.up B W tk
theorem tKx_ok {kws : List Keyword} {t : AD} (ha : PDK X kws t) (tk : L2N.Takes X W) : PK X kws (tKx ⟨X.K, B⟩ W kws t) := by
  cases kws with
  | nil => exact pk_nil
  | cons e es => exact ha.up B W tk
/-- a def's form, over the heap -/
theorem ph_up {φ : PhD} {ds es : List D} {vs zs : List V} {ks : List Str} {q : QD} {Q : VK} (R : Rel ⟨X.K, B⟩ S H) (L : Sl ⟨X.K, B⟩ S H ρ σ) (O : WOk ⟨X.K, B⟩ S H w W) (r : Rps ⟨X.K, B⟩ S H ds vs) (rz : Rps ⟨X.K, B⟩ S H es zs) (h : φ ds ks es S q fun C fs S' => w C fs ρ S') (g : Got ⟨X.K, B⟩ S H q Q) :
    upPh X.K φ vs ks zs H Q (WE W σ) := ⟨B, ds, es, S, q, _, R, r, rz, h, g, fun C dd fs us S' H' e' R' hd hn ru he => O C dd fs us ρ σ S' H' e' R' (L.ext e') hd hn ru he⟩
end
section
variable {X : Cx} {k : Nat} {f : Addr} {n : Nat} {ci : CI} {Φ : Fm} {x m : Str} {p pos apos : Pos} {args : List Expr} {kws : List Keyword} {ks : List Str} {t tk : AD} {to te : ED} {o : Expr}
theorem pd_make (M : Mk X.K (cA X.K n) f) (F : FG X.prog X.w X.K X.mg X.base k f (upPh X.K (ciP ci))) (hr : Room (k + 1) X.A) (hg : Gl X x) (hm : X.mg x = some (.ref (cA X.K n))) (ao : ArgsOk X args kws ks pos) (ha : PDA X args t) (hk : PDK X kws tk) (h0 : args = [] → t = aNil) (h0k : kws = [] → tk = aNil)
    (hdb : (x == ("__debug__" : Str)) = false) (hΦ : ∀ {ds zs S q e}, Φ ds zs S q e → ciP ci ds ks zs S q e) : PD X (.Call (.Name x p) args kws pos) (kMake n Φ t tk) :=
  ⟨fun B W tk' => (pe_mkG M F hr hg hm (fun σ => L2N.passAt tk' σ) ao (tAx_ok (B := B) ha tk') (tKx_ok (B := B) hk tk') (fun z => by subst z; rfl) (fun z => by subst z; rfl) hdb).imp fun σ H Q h => by
    obtain ⟨ρ, S, q, w, R, L, O, h, g⟩ := h
    refine tAx_up h0 R L O h fun ds vs S1 H1 e1 R1 r1 h1 => tKx_up h0k R1 (L.ext e1) (O.ext e1) h1 fun es zs S2 H2 e2 R2 r2 h2 y dx ny nd ne => ?_
    have h2 : Φ (.ref y :: ds) es (S2.set y (.ins n [])) (fun d S' => hAnd (d = .non) (q (.ref y) S')) (fun C fs S' => w C fs ρ S') := h2 y (R2.free ny)
    have R3 := Rel.new R2 nd (.own y)
    have E3 := Ext.new R2 nd (.own y)
    have ny3 : upd H2 dx (.own y) y = none := by rw [upd_ne (fun z => ne z.symm)]; exact ny
    have sd : S2 dx = none := R2.free nd
    have E4 : Ext S2 (upd H2 dx (.own y)) (S2.set y (.ins n [])) (upd (upd H2 dx (.own y)) y (.ins (cA X.K n) dx [])) := Ext.lay R3 ny3 _ _
    have R4 : Rel ⟨X.K, B⟩ (S2.set y (.ins n [])) (upd (upd H2 dx (.own y)) y (.ins (cA X.K n) dx [])) := Rel.lay R3 ny3 (show RO _ _ _ y (.ins n []) from ⟨dx, [], upd_same, by rw [Sto.set_ne ne]; exact sd, by rw [upd_ne ne, upd_same], rfl⟩)
    have E := e2.trans (E3.trans E4)
    refine ph_up R4 (L.ext (e1.trans E)) (O.ext (e1.trans E)) (Rps.consD (d := .ref y) rfl (r1.ext E)) (r2.ext (E3.trans E4)) (hΦ h2) fun d v S5 H5 e5 R5 r5 h5 => ?_
    rw [hAnd_eq] at h5
    obtain ⟨rfl, h5⟩ := h5
    exact ⟨r5, g (.ref y) (.ref y) S5 H5 (e1.trans (E.trans e5)) R5 rfl h5⟩⟩
theorem pd_stat {C g : Addr} {q0 : Pos} (sk : StatOf X.K C m g) (F : FG X.prog X.w X.K X.mg X.base k g (upPh X.K (ciP ci))) (hr : Room k X.A) (hg : Gl X x) (hm : X.mg x = some (.ref C)) (hdb : (x == ("__debug__" : Str)) = false) (ao : ArgsOk X args kws ks pos) (ha : PDA X args t) (hk : PDK X kws tk) (h0 : args = [] → t = aNil) (h0k : kws = [] → tk = aNil)
    (hb : attributeBase (.Name x q0) m X.env (eval (.Name x q0) X.env) = eval (.Name x q0) X.env) (hfew : methodCallForm (args.length + kws.length) (backTo pos (starEach args X.env)) (backToKw pos (keywordEach kws X.env)) = true) (hl : (apos.endLine == pos.line) = true)
    (hΦ : ∀ {ds zs S q e}, Φ ds zs S q e → ciP ci ds ks zs S q e) : PD X (.Call (.Attribute (.Name x q0) m apos) args kws pos) (kStat Φ t tk) :=
  ⟨fun B W tk' => (pe_statG sk F hr hg hm hdb (fun σ => L2N.passAt tk' σ) ao (tAx_ok (B := B) ha tk') (tKx_ok (B := B) hk tk') (fun z => by subst z; rfl) (fun z => by subst z; rfl) hb hfew hl).imp fun σ H Q h => by
    obtain ⟨ρ, S, q, w, R, L, O, h, g⟩ := h
    refine tAx_up h0 R L O h fun ds vs S1 H1 e1 R1 r1 h1 => tKx_up h0k R1 (L.ext e1) (O.ext e1) h1 fun es zs S2 H2 e2 R2 r2 h2 => ?_
    exact ph_up R2 (L.ext (e1.trans e2)) (O.ext (e1.trans e2)) (r1.ext e2) r2 (hΦ h2) fun d v S3 H3 e3 => g d v S3 H3 (e1.trans (e2.trans e3))⟩
theorem ins_up {K : KB} {S : Sto} {H : Hp} {a : Addr} {C : Nat} {fs : List (Nat × D)} (R : Rel K S H) (h : S a = some (.ins C fs)) : ∃ dx vs, H a = some (.ins (cA K.k C) dx ((fs.map fun p => fN p.1).zip vs)) ∧ S dx = none ∧ H dx = some (.own a) ∧ Rps K S H (fs.map (·.2)) vs := R.ob a _ h
theorem mth_ex {i : Option Nat} {tab : List (Nat × Fm)} {d : D} {S : Sto} {k : Fm → Prop} (h : hMth i tab d S k) : ∃ a C fs Φ, d = .ref a ∧ S a = some (.ins C fs) ∧ noAtt i fs ∧ tab.lookup C = some Φ ∧ k Φ := by
  rw [hMth_eq] at h
  unfold rMth at h
  split at h
  · split at h
    · rename_i e
      obtain ⟨h1, h⟩ := h
      split at h
      · rename_i e2
        exact ⟨_, _, _, _, rfl, e, h1, e2, h⟩
      · exact h.elim
    · exact h.elim
  · exact h.elim
/-- a table of methods tells the truth -/
def TabM (X : Cx) (m : Str) (ks : List Str) (tab : List (Nat × Fm)) : Prop := ∀ C Φ, tab.lookup C = some Φ → ∃ φ, MetOf X (cA X.K C) m (upPh X.K φ) ∧ ∀ {ds zs S q e}, Φ ds zs S q e → φ ds ks zs S q e
theorem pd_meth {tab : List (Nat × Fm)} (T : TabM X m ks tab) (hne : m ≠ "") (ao : ArgsOk X args kws ks pos) (ho : PD X o to) (ha : PDA X args t) (hk : PDK X kws tk) (h0 : args = [] → t = aNil) (h0k : kws = [] → tk = aNil)
    (hb : attributeBase o m X.env (eval o X.env) = eval o X.env) (hfew : methodCallForm (args.length + kws.length) (backTo pos (starEach args X.env)) (backToKw pos (keywordEach kws X.env)) = true) (hl : (apos.endLine == pos.line) = true) :
    PD X (.Call (.Attribute o m apos) args kws pos) (kMth (attI m) tab to t tk) :=
  ⟨fun B W tk' => (pe_methG (fun σ => L2N.passAt tk' σ) ao (ho.up B W tk') (tAx_ok (B := B) ha tk') (tKx_ok (B := B) hk tk') (fun z => by subst z; rfl) (fun z => by subst z; rfl) hb hfew hl).imp fun σ H Q h => by
    obtain ⟨ρ, S, q, w, R, L, O, h, g⟩ := h
    refine ⟨ρ, S, _, w, R, L, O, h, fun d v S0 H0 e0 R0 r0 hh => ?_⟩
    obtain ⟨a, C, fs, Φ, rfl, hS, hna, ht, hh⟩ := mth_ex hh
    cases r0
    obtain ⟨dx, vs0, ha0, _, _, _⟩ := ins_up R0 hS
    obtain ⟨φ, mo, hΦ⟩ := T C Φ ht
    refine ⟨a, rfl, cA X.K C, dx, _, _, ha0, look_none hne hna, mo, ?_⟩
    refine tAx_up h0 R0 (L.ext e0) (O.ext e0) hh fun ds vs S1 H1 e1 R1 r1 h1 => tKx_up h0k R1 (L.ext (e0.trans e1)) (O.ext (e0.trans e1)) h1 fun es zs S2 H2 e2 R2 r2 h2 => ?_
    have E := e0.trans (e1.trans e2)
    exact ph_up R2 (L.ext E) (O.ext E) (Rps.consD (d := .ref a) rfl (r1.ext e2)) r2 (hΦ h2) fun d v S3 H3 e3 => g d v S3 H3 (E.trans e3)⟩
/-- a table of attributes -/
def TabA (X : Cx) (f : Str) (tab : List (Nat × AtD)) : Prop := ∀ C i, tab.lookup C = some i → Cls X.K (cA X.K C) ∧ match i with
  | .fld => NoAttr X.K (cA X.K C) f
  | .con d => ∃ v u, Con X.K (cA X.K C) f v u ∧ ∀ B S H, Rp ⟨X.K, B⟩ S H d v
  | .prop Φ => ∃ p g k φ, PropOf X.K (cA X.K C) f p g ∧ Room (k + 1) X.A ∧ FG X.prog X.w X.K X.mg X.base k g (upPh X.K φ) ∧ ∀ {ds zs S q e}, Φ ds zs S q e → φ ds [] zs S q e
theorem pd_att {tab : List (Nat × AtD)} {fn : Str} (T : TabA X fn tab) (hne : fn ≠ "") (ho : PD X o to) (hb : attributeBase o fn X.env (eval o X.env) = eval o X.env) : PD X (.Attribute o fn pos) (kAtt (attI fn) tab to) :=
  ⟨fun B W tk' => (pe_attG (ho.up B W tk') hb).imp fun σ H Q h => by
    obtain ⟨ρ, S, q, w, R, L, O, h, g⟩ := h
    refine ⟨ρ, S, _, w, R, L, O, h, fun d v S0 H0 e0 R0 r0 hh => ?_⟩
    rw [hAtt_eq] at hh
    unfold rAtt at hh
    split at hh
    · rename_i a
      cases r0
      split at hh
      · rename_i C fs hS
        obtain ⟨dx, vs, ha, _, _, rv⟩ := ins_up R0 hS
        refine ⟨a, cA X.K C, dx, _, rfl, ha, ?_⟩
        have G : Got ⟨X.K, B⟩ S0 H0 q Q := fun d v S1 H1 e1 => g d v S1 H1 (e0.trans e1)
        split at hh
        · rename_i ht
          obtain ⟨c, n⟩ := T C _ ht
          split at hh
          · rename_i i hi
            obtain ⟨h1, h2⟩ := attI_some hi
            split at hh
            · rename_i v hv
              obtain ⟨u, l, ru⟩ := look_fs h1 rv hv
              rw [h2] at l
              exact .fld c n u l (G v u _ _ .refl R0 ru hh)
            · exact hh.elim
          · exact hh.elim
        · rename_i v ht
          obtain ⟨c, u, uu, n, ru⟩ := T C _ ht
          exact .con c u uu n (look_none hne hh.1) (G v u _ _ .refl R0 (ru B S0 H0) hh.2)
        · rename_i Φ ht
          obtain ⟨c, p, g1, k, φ, hp, hr, F, hΦ⟩ := T C _ ht
          exact .prop c p g1 k _ hp hr F ⟨B, _, [], S0, q, _, R0, Rps.consD (d := .ref a) (ds := []) rfl rfl, rfl, hΦ hh, G, fun _ _ _ _ _ _ _ _ _ _ _ z => z.elim⟩
        · exact hh.elim
      · exact hh.elim
    · exact hh.elim⟩
/-- o.f = e -/
theorem pds_putF {cl : List Nat} {fn : Str} {e : Expr} {p' : Pos} (T : ∀ C ∈ cl, Cls X.K (cA X.K C) ∧ NoAttr X.K (cA X.K C) fn) (he : PD X e te) (ho : PD X o to) (hs : swapsWith e (some (.Attribute o fn p')) pos.line X.env = pure false) : PDS X (.Assign [.Attribute o fn p'] e pos) (sPutF (attI fn) cl te to) :=
  ⟨fun B W tk => (ps_fld (ho.up B W tk) (he.up B W tk) hs).imp fun D σ H h => by
    obtain ⟨ρ, S, E, R, L, O, k, h⟩ := h
    refine ⟨ρ, S, _, E.w, R, L, O, h, fun d v S1 H1 e1 R1 r1 h1 => ⟨ρ, S1, _, E.w, R1, L.ext e1, O.ext e1, h1, fun x u S2 H2 e2 R2 r2 h2 => ?_⟩⟩
    rw [hPutF_eq] at h2
    unfold rPutF at h2
    split at h2
    · rename_i a
      cases r2
      split at h2
      · rename_i C fs hS
        obtain ⟨hc, hl, h2⟩ := h2
        split at h2
        · rename_i i hi
          obtain ⟨i1, i2⟩ := attI_some hi
          obtain ⟨dx, vs, ha, sd, hd, rv⟩ := ins_up R2 hS
          obtain ⟨us, e3, ru⟩ := put_fs i1 (r1.ext e2) rv
          rw [i2] at e3
          refine ⟨a, cA X.K C, dx, _, rfl, ha, (T C hc).1, (T C hc).2, ?_, ?_⟩
          · rw [List.length_zip, List.length_map]
            omega
          · rw [e3]
            have nda : dx ≠ a := fun z => by rw [z, ha] at hd; cases hd
            have ex : Ext S2 H2 (S2.set a (.ins C (putD i d fs))) (upd H2 a (.ins (cA X.K C) dx (((putD i d fs).map fun p => fN p.1).zip us))) := Ext.put hS _
            exact k.nx ρ σ _ _ (e1.trans (e2.trans ex)) (Rel.put R2 hS (show RO _ _ _ a (.ins C (putD i d fs)) from ⟨dx, us, upd_same, by rw [Sto.set_ne nda]; exact sd, by rw [upd_ne nda]; exact hd, ru.ext ex⟩)) (L.ext (e1.trans (e2.trans ex))) h2
        · exact h2.elim
      · exact h2.elim
    · exact h2.elim⟩
end
end DL

namespace DL
open PySem PySem.Spec PyProof.Rows L2
/-! side conditions by the form of the expression -/
def starred : Expr → Bool
  | .Starred .. => true
  | _ => false
theorem star_cons {e : Expr} {es : List Expr} {env : Env} (h : starred e = false) : starEach (e :: es) env = (false, eval e env) :: starEach es env := by
  cases e <;> first | rfl | cases h
theorem star_plain {pos : Pos} {env : Env} : ∀ {es : List Expr}, es.all (fun e => !starred e) = true → (backTo pos (starEach es env)).any (·.1) = false := fun {es} h => by
  have : ∀ es : List Expr, es.all (fun e => !starred e) = true → (starEach es env).any (·.1) = false := fun es => by
    induction es with
    | nil => intro _; rfl
    | cons e es ih =>
      intro h
      rw [List.all_cons, Bool.and_eq_true] at h
      rw [star_cons (by simpa using h.1)]
      rw [List.any_cons, ih h.2]; rfl
  have h2 := this es h
  unfold backTo
  rw [List.any_map]
  simpa [Function.comp_def] using h2

/-! ### stars -/
def rItm (d : D) (S : Sto) (k : List D → Prop) : Prop := match d with
  | .lst ds => k ds
  | .tup ds => k ds
  | .rol ds => k ds
  | .ref a => (match S a with
    | some (.lst ds) => k ds
    | _ => False)
  | _ => False
@[irreducible] noncomputable def hItm : D → Sto → (List D → Prop) → Prop := stuck rItm
theorem hItm_eq : hItm = rItm := by unfold hItm; exact stuck_eq _
noncomputable def aStar (t : ED) (r : AD) : AD := fun w ρ S q => t w ρ S fun d S1 => hItm d S1 fun es => r w ρ S1 fun ds S2 => q (es ++ ds) S2
theorem itm_up {K : KB} {S : Sto} {H : Hp} {d : D} {v : V} {k : List D → Prop} (R : Rel K S H) (r : Rp K S H d v) (h : hItm d S k) : ∃ ds a vs, v = .ref a ∧ (SqT K.k H a vs ∨ SqL K.k H a vs) ∧ Rps K S H ds vs ∧ k ds := by
  rw [hItm_eq] at h
  cases d <;> first | exact (show False from h).elim | skip
  · obtain ⟨a, vs, rfl, l, r⟩ := r; exact ⟨_, a, vs, rfl, .inr l.sq, r, h⟩
  · obtain ⟨a, vs, rfl, l, r⟩ := r; exact ⟨_, a, vs, rfl, .inl l.sq, r, h⟩
  · rename_i a
    cases r
    have h : (match S a with
      | some (.lst ds) => k ds
      | _ => False) := h
    cases e : S a with
    | none => rw [e] at h; exact h.elim
    | some o =>
      rw [e] at h
      cases o with
      | lst ds =>
        obtain ⟨vs, hH, r⟩ := (show ∃ vs, H a = some (.lst vs) ∧ Rps K S H ds vs from R.ob a _ e)
        exact ⟨_, a, vs, rfl, .inr (SqL.of hH), r, h⟩
      | ins _ _ => exact h.elim
      | xd _ => exact h.elim
      | cell _ _ => exact h.elim
      | tbl _ => exact h.elim
      | dct _ => exact h.elim
  · obtain ⟨a, vs, rfl, l, r⟩ := r; exact ⟨_, a, vs, rfl, .inr l.sq, r, h⟩
theorem pda_star {X : Cx} {e : Expr} {p : Pos} {es : List Expr} {te : ED} {t : AD} (he : PD X e te) (hr : PDA X es t) : PDA X (.Starred e p :: es) (aStar te t) :=
  ⟨fun B W tk => (StX.pa_star (he.up B W tk) (hr.up B W tk)).imp fun σ H Q h => by
    obtain ⟨ρ, S, q, w, R, L, O, h, k⟩ := h
    refine ⟨ρ, S, _, w, R, L, O, h, fun d v S1 H1 e1 R1 r1 h1 => ?_⟩
    obtain ⟨ds, a, vs, rfl, sq, rv, h1⟩ := itm_up R1 r1 h1
    exact ⟨a, vs, rfl, sq, ρ, S1, _, w, R1, L.ext e1, O.ext e1, h1, fun es us S2 H2 e2 R2 r2 q2 => k (ds ++ es) (vs ++ us) S2 H2 (e1.trans e2) R2 ((rv.ext e2).append r2) q2⟩⟩

/-! ### f-strings -/
def rFmt (d : D) (S : Sto) (q : QD) : Prop := match d with
  | .str cs => cs.length ≤ sizeLine ∧ q (.str cs) S
  | .int i => i.natAbs.log2 < 1920 ∧ q (.str (TL.tl (toString i))) S
  | _ => False
@[irreducible] noncomputable def hFmt : D → Sto → QD → Prop := stuck rFmt
theorem hFmt_eq : hFmt = rFmt := by unfold hFmt; exact stuck_eq _
noncomputable def kFmt (t : ED) : ED := fun w ρ S q => t w ρ S fun d S1 => hFmt d S1 q
theorem mk_tl (x : Str) : mkS (TL.tl x) = x := TL.mk_tl x
theorem pd_fmt {X : Cx} {e : Expr} {t : ED} {pos : Pos} (he : PD X e t) : PD X (.FormattedValue e (-1) none pos) (kFmt t) :=
  ⟨fun B W tk => (pe_fmt (he.up B W tk)).imp fun σ H Q h => by
    obtain ⟨ρ, S, q, w, R, L, O, h, k⟩ := h
    refine ⟨ρ, S, _, w, R, L, O, h, fun d v S1 H1 e1 R1 r1 h1 => ?_⟩
    rw [hFmt_eq] at h1
    have G : Got ⟨X.K, B⟩ S1 H1 q Q := fun d v S3 H3 e3 => k d v S3 H3 (e1.trans e3)
    cases d <;> first | exact (show False from h1).elim | skip
    · rename_i i
      obtain ⟨len, h1⟩ := (show i.natAbs.log2 < 1920 ∧ _ from h1)
      cases r1
      refine .inr ⟨i, rfl, len, ?_⟩
      have := G.str R1 h1
      rwa [mk_tl] at this
    · rename_i cs
      obtain ⟨len, h1⟩ := (show cs.length ≤ sizeLine ∧ _ from h1)
      cases r1
      exact .inl ⟨mkS cs, rfl, by rw [mkS_length]; exact len, G.str R1 h1⟩⟩
/-- the parts one behind the other -/
noncomputable def kJs : List ED → D → ED
  | [], acc => fun _ _ S q => q acc S
  | t :: ts, acc => fun w ρ S q => t w ρ S fun d S1 => hAdd acc d S1 fun z S2 => kJs ts z w ρ S2 q
inductive PDJ (X : Cx) : List Expr → List ED → Prop where
  | nil : PDJ X [] []
  | cons {e : Expr} {t : ED} {es : List Expr} {ts : List ED} (h : PD X e t) (r : PDJ X es ts) : PDJ X (e :: es) (t :: ts)
theorem PDJ.pj {X : Cx} {es : List Expr} {ts : List ED} (h : PDJ X es ts) (B : Addr → Prop) (W : WX) (tk : L2N.Takes X W) : PJ X es (ts.map (upE ⟨X.K, B⟩ W)) := by
  induction h with
  | nil => exact .nil
  | cons h r ih => exact .cons (h.up B W tk) ih
theorem js_up {K : KB} {W : WX} {σ : St} {ρ : St'} {w : XD} {q : QD} : ∀ {ts : List ED} {acc : List Nat} {S : Sto} {H : Hp} {Q : Str → Hp → Prop}, Rel K S H → Sl K S H ρ σ → WOk K S H w W → kJs ts (.str acc) w ρ S q → (∀ z S' H', Ext S H S' H' → Rel K S' H' → q (.str z) S' → Q (mkS z) H') → tJs (ts.map (upE K W)) (mkS acc) σ H Q
  | [], acc, S, H, Q, R, L, O, h, k => k acc S H .refl R h
  | t :: ts, acc, S, H, Q, R, L, O, h, k => by
    refine ⟨ρ, S, _, w, R, L, O, h, fun d v S1 H1 e1 R1 r1 h1 => ?_⟩
    rw [hAdd_eq] at h1
    cases d <;> first | exact (show False from h1).elim | skip
    rename_i cs
    obtain ⟨len, h1⟩ := (show acc.length + cs.length ≤ sizeLine ∧ kJs ts (.str (acc ++ cs)) w ρ S1 q from h1)
    cases r1
    refine ⟨mkS cs, rfl, by rw [← mkS_append, mkS_length, List.length_append]; exact len, ?_⟩
    rw [← mkS_append]
    exact js_up R1 (L.ext e1) (O.ext e1) h1 fun z S' H' e' => k z S' H' (e1.trans e')
noncomputable def kJoin (ts : List ED) : ED := kJs ts (.str [])
theorem js_str {w : XD} {ρ : St'} {q : QD} : ∀ {ts : List ED} {acc : List Nat} {S : Sto}, (∀ d S, q d S → ∃ z, d = .str z) → True := fun _ => trivial
theorem pd_joined {X : Cx} {v1 v2 : Expr} {rest : List Expr} {ts : List ED} {pos : Pos} (h : PDJ X (v1 :: v2 :: rest) ts) : PD X (.JoinedStr (v1 :: v2 :: rest) pos) (kJoin ts) :=
  ⟨fun B W tk => (pe_joined (h.pj B W tk)).imp fun σ H Q h => by
    obtain ⟨ρ, S, q, w, R, L, O, h, k⟩ := h
    exact js_up (acc := []) R L O h fun z S' H' e' R' hq => k (.str z) _ S' H' e' R' rfl hq⟩
theorem pd_joined1 {X : Cx} {e : Expr} {t : ED} {pos : Pos} (h : PD X e t) : PD X (.JoinedStr [e] pos) t := ⟨fun B W tk => pe_joined1 (h.up B W tk)⟩

end DL

namespace DL
open PySem PySem.Spec PyProof.Rows L2

/-! ### == and != of instances with an own == -/
section
variable {prog : Program} {w : World} {A : Around} {E : Value → Shared → Prop} {s : Shared} {K : PySem.W.Frag} {x C L f : Addr} {h₀ : Heap} {m : Str → Option Value} {ox : Obj} {od : Option Obj} {name : Str} {b tb : Value}
theorem bind_ne (self : Value) : bindSpecial (.builtin "object.__ne__") self = pure (.builtin "object.__ne__", [self]) := F.cmp_object.ne.bind self
theorem ifBound_ne {M : Model} {args : List Value} {Q : Option Value → Shared → Prop} (X : K.In s.heap) (I : PySem.W.InstAt s.heap x ox C od) (hs : PySem.W.findIn K (.ref C) "__ne__" = some (some (.builtin "object.__ne__")))
    (h : wpAny M A (call (.builtin "object.__ne__") (.ref x :: args)) (fun v => Q (some v)) E s) : wpAny M A (callSpecialIfBound? (.ref x) "__ne__" args) Q E s := by
  simp only [callSpecialIfBound?, bindSpecialIfBound?]
  refine wpAny_holding (wpAny_bind (wpAny_bind (wpAny_bind (I.type.here ((PySem.W.looks_findIn X hs).here ?_)))))
  refine wpAny_bind (wpAny_askSetting (wpAny_ite ?_))
  have fin : wpAny M A (call (.builtin "object.__ne__") ([.ref x] ++ args) >>= fun v => pure (some v)) Q E s := wpAny_bind (wpAny_mono h (fun v s' h' => wpAny_pure h') fun _ _ h' => h')
  rw [bind_ne]
  split
  · exact wpAny_bind (wpAny_pure (wpAny_pure fin))
  · exact wpAny_tryCatch (wpAny_bind (wpAny_pure (wpAny_pure fin)))
theorem objNe_K {Q : Fin → Shared → Prop} (hu : A.units < cLine) (X : K.In s.heap) (I : PySem.W.InstAt s.heap x ox C od) (hs : PySem.W.findIn K (.ref C) "__eq__" = some (some (.ref f))) (hf : PySem.W.isFn K (.ref f) = true)
    (hcall : wpAny (model prog w) A (call (.ref f) [.ref x, b]) (fun v s' => ∃ r, v = .bool r ∧ Q (.done (.ret (.bool (!r)))) s') E s) :
    wpAny (model prog w) A (Builtin.«object.__ne__» ⟨[.ref x, b], []⟩) Q E s := by
  unfold Builtin.«object.__ne__»
  repeat (first
    | with_reducible refine wpAny_cRoomFor hu ?_
    | (refine wpAny_bind (m := callSpecialIfBound? (.ref x) (Str.ofString "__eq__") [b]) (PySem.W.ifBound_K X I hs hf (wpAny_mono hcall (fun r s' hr => by
          obtain ⟨b, rfl, hq⟩ := hr
          repeat (first | exact hq | exact wpAny_pure hq | exact wpAny_truthy_bool hq | (refine wpAny_bind (m := truthy (.bool _)) (wpAny_truthy_bool ?_)) | wp_step)) fun _ _ e => e)))
    | wp_step)
theorem ne_K {Q : Value → Shared → Prop} (hu : A.units + 1 < cLine) (F₀ : Fr h₀ L s.heap m) (X₀ : K.In h₀) (I : PySem.W.InstAt s.heap x ox C od) (hb : PySem.W.Looks (model prog w) s.heap (typeOf b) tb) (hn : PySem.W.notFirst K C tb = true)
    (hne : PySem.W.findIn K (.ref C) "__ne__" = some (some (.builtin "object.__ne__"))) (hm : PySem.W.mroIn K C (.type "object") = some true) (hs : PySem.W.findIn K (.ref C) "__eq__" = some (some (.ref f))) (hf : PySem.W.isFn K (.ref f) = true)
    (h : wpAny (model prog w) A.in1 (call (.ref f) [.ref x, b]) (fun v s' => ∃ r, v = .bool r ∧ Q (.bool (!r)) s') E s) : wpAny (model prog w) A (richCompare .NotEq (.ref x) b) Q E s := by
  have X := X₀.keeps F₀.keep
  have ck : PySem.W.Looks (model prog w) s.heap (isInstance (.ref x) (.type "object")) true := I.type.andThen (PySem.W.looks_mroIn X hm)
  have one : wpAny (model prog w) A (tryCompare (.ref x) (cmpInfo .NotEq).2.1 b) (fun r s' => ∃ v, r = some v ∧ Q v s') E s := by
    unfold tryCompare
    refine wpAny_bind (ifBound_ne X I hne (wpAny_call (codeAny_call_builtin F.cmp_object.ne.plain F.cmpEntry_ne (PySem.W.check_slot F.cmpKind_ne F.cmpSplit_ne ck (F.cmpArgs_ne _ _) (objNe_K (A := A.in1) hu X I hs hf (wpAny_mono h (fun v s' hv => ?_) fun _ _ e => e))))))
    obtain ⟨r, rfl, hq⟩ := hv
    exact ⟨r, rfl, wpAny_pure ⟨_, rfl, hq⟩⟩
  unfold richCompare
  simp only [oneThing_ref]
  refine wpAny_holding (wpAny_bind (wpAny_cRoomFor (Nat.lt_of_succ_lt hu) ?_))
  refine wpAny_bind (I.type.here (wpAny_bind (hb.here ?_)))
  split
  · rename_i q
    have e : PySem.W.subIn K tb (.ref C) = some false := by
      rcases Bool.or_eq_true_iff.mp hn with e | e
      · rw [beq_iff_eq.mp e] at q; simp at q
      · exact beq_iff_eq.mp e
    refine wpAny_bind ((PySem.W.looks_subIn X e).here ?_)
    simp only [Bool.false_eq_true, if_false]
    refine wpAny_bind (wpAny_mono one (fun r s' z => ?_) fun _ _ e => e)
    obtain ⟨v, rfl, hq⟩ := z
    exact wpAny_pure hq
  · refine wpAny_bind (wpAny_pure ?_)
    simp only [Bool.false_eq_true, if_false]
    refine wpAny_bind (wpAny_mono one (fun r s' z => ?_) fun _ _ e => e)
    obtain ⟨v, rfl, hq⟩ := z
    exact wpAny_pure hq
end

/-! a special method of the class -/
structure SpK (P : Program) (w : World) (K : PySem.W.Frag) (mg : Str → Option Value) (base : Heap) (A : Around) (C : Addr) (m : Str) (φ : PhV) : Prop where
  ex : ∃ f k, PySem.W.findIn K (.ref C) m = some (some (.ref f)) ∧ PySem.W.isFn K (.ref f) = true ∧ Room (k + 1) A ∧ FG P w K mg base k f φ
/-- != is not to be the text's own -/
structure NeK (K : PySem.W.Frag) (C : Addr) : Prop where
  ne : PySem.W.findIn K (.ref C) "__ne__" = some (some (.builtin "object.__ne__"))
  ob : PySem.W.mroIn K C (.type "object") = some true
section
variable {X : Cx} {pins : List (Addr × Obj)} {σ : St} {H : Hp} {s : Shared} {k : Nat} {f : Addr} {φ : PhV} {us : List Value} {vs : List V} {Q : VK} {E' : Value → Shared → Prop} {A : Around}
theorem env0_at (I : Inv X pins σ H s) (ha : A.frames = X.A.frames) : Env0 X.prog X.w X.K X.mg X.base A X.stack s H := by
  have e := I.env0
  exact ⟨by rw [ha]; exact e.frames, e.mod, e.bs, e.bsz, e.funs, e.frf, e.hok, e.bare⟩
/-- a call that raises nothing, from below the body -/
theorem run_fgN (F : FG X.prog X.w X.K X.mg X.base k f φ) (hr : Room k A) (ha : A.frames = X.A.frames) (I : Inv X pins σ H s) (r : Vals vs us) (h : φ vs [] [] H Q fun _ _ _ => False) : wpAny (model X.prog X.w) A (call (.ref f) us) (EP X pins σ Q) E' s := by
  refine wpAny_call (codeAny_mono (F A X.stack s H us [] vs [] [] Q _ hr (env0_at I ha) r .nil h) fun r s' hq => ?_)
  cases r with
  | error er =>
    obtain ⟨_, _, _, _, _, _, _, _, _, _, _, _, z⟩ := hq
    exact z.elim
  | ok fl =>
    cases fl with
    | ret u => exact I.after hq
    | next => exact False.elim hq
    | brk => exact False.elim hq
    | cont => exact False.elim hq
end
/-- a value of C's or of a built-in type -/
inductive TyS (K : PySem.W.Frag) (C : Addr) (H : Hp) : V → Prop where
  | own {b dy : Addr} {gs : List (Str × V)} (h : H b = some (.ins C dy gs)) : TyS K C H (.ref b)
  | ty {v : V} {T : String} (h : TyX K H v (.type T)) (m : T ∈ ["NoneType", "bool", "int", "str", "list", "tuple", "dict"]) : TyS K C H v
theorem fast_some : ∀ T ∈ ["NoneType", "bool", "int", "str", "list", "tuple", "dict"], (PySem.fastFind? T).isSome = true := by decide +kernel
theorem sub_ty {K : PySem.W.Frag} {C : Addr} {T : String} (m : T ∈ ["NoneType", "bool", "int", "str", "list", "tuple", "dict"]) : PySem.W.subIn K (.type T) (.ref C) = some false := by
  obtain ⟨y, e⟩ := Option.isSome_iff_exists.mp (fast_some T m)
  show (PySem.fastBuiltinMro T).map (·.contains (Value.ref C)) = some false
  unfold PySem.fastBuiltinMro
  rw [e]
  simp
theorem tys_ty {X : Cx} {pins : List (Addr × Obj)} {σ : St} {H : Hp} {s : Shared} {C : Addr} {v : V} {u : Value} (I : Inv X pins σ H s) (r : RelV v u) (h : TyS X.K C H v) : ∃ tb, PySem.W.Looks (model X.prog X.w) s.heap (typeOf u) tb ∧ PySem.W.notFirst X.K C tb = true := by
  cases h with
  | own h =>
    cases r
    obtain ⟨m, J, _⟩ := ins_get I.hok h
    obtain ⟨od, J, _⟩ := J.look
    exact ⟨_, J.type, by simp [PySem.W.notFirst]⟩
  | ty h m =>
    obtain ⟨P, Z, p, _⟩ := kit_of I r h
    refine ⟨_, Z.ty _ _ I.kIn p, ?_⟩
    unfold PySem.W.notFirst
    rw [sub_ty m]
    simp
def rOwnEq (X : Cx) (n : Bool) : R2 := fun x y H Q => ∃ a C dx fs φ, x = .ref a ∧ H a = some (.ins C dx fs) ∧ SpK X.prog X.w X.K X.mg X.base X.A C "__eq__" φ ∧ (n = true → NeK X.K C) ∧ TyS X.K C H y ∧ φ [x, y] [] [] H (fun v H' => ∃ b, v = .bl b ∧ Q (.bl (if n then !b else b)) H') fun _ _ _ => False
theorem op_own {X : Cx} (n : Bool) : OpR X (compareOp (if n then .NotEq else .Eq)) (rOwnEq X n) := by
  intro pins s σ H x y v u Q I rx ry h
  obtain ⟨a, C, dx, fs, φ, rfl, ha, ⟨f, k, hs, hf, hr, F⟩, hn, ty, h⟩ := h
  cases rx
  obtain ⟨mA, J, _⟩ := ins_get I.hok ha
  obtain ⟨od, J, _⟩ := J.look
  obtain ⟨tb, lb, nf⟩ := tys_ty I ry ty
  obtain ⟨m, hF⟩ := I.fr
  have r2 : Vals [V.ref a, y] [Value.ref a, u] := .cons rfl (.cons ry .nil)
  cases n with
  | false =>
    show wpAny (model X.prog X.w) X.A (richCompare .Eq (.ref a) u) (EP X pins σ Q) X.xe s
    have hu : X.A.units < cLine := by have := hr.un; omega
    refine PySem.W.cmp_K (op := .Eq) (tb := tb) hu hF I.ok.mod.kin J lb nf hs hf (wpAny_mono (run_fgN F (hr.mono (Nat.le_succ _)) rfl I r2 h) (fun r s' q => ?_) fun _ _ e => e)
    obtain ⟨z, H', I', rz, b, rfl, q⟩ := q
    cases rz
    exact ⟨.bl b, H', I', rfl, q⟩
  | true =>
    show wpAny (model X.prog X.w) X.A (richCompare .NotEq (.ref a) u) (EP X pins σ Q) X.xe s
    have hu : X.A.units + 1 < cLine := by have := hr.un; omega
    refine ne_K (tb := tb) hu hF I.ok.mod.kin J lb nf (hn rfl).ne (hn rfl).ob hs hf (wpAny_mono (run_fgN F hr.in1 rfl I r2 h) (fun r s' q => ?_) fun _ _ e => e)
    obtain ⟨z, H', I', rz, b, rfl, q⟩ := q
    cases rz
    exact ⟨b, rfl, .bl (!b), H', I', rfl, q⟩
/-! over data -/
def sameC (C : Nat) (y : D) (S : Sto) : Prop := match y with
  | .ref b => (match S b with
    | some (.ins C' _) => C' = C
    | some (.lst _) => True
    | some (.dct _) => True
    | _ => False)
  | y => (tyN y).isSome = true
@[irreducible] noncomputable def hSameC : Nat → D → Sto → Prop := stuck sameC
theorem hSameC_eq : hSameC = sameC := by unfold hSameC; exact stuck_eq _
def asBl (n : Bool) (q : QD) : QD := fun d S => match d with
  | .bl b => q (.bl (if n then !b else b)) S
  | _ => False
/-- == (n: !=) where the left one may be an instance -/
def rEqO (n : Bool) (tab : List (Nat × Fm)) (x y : D) (S : Sto) (q : QD) : Prop := match x with
  | .ref a => (match S a with
    | some (.ins C _) => (match tab.lookup C with
      | some Φ => hAnd (hSameC C y S) (Φ [x, y] [] S (asBl n q) fun _ _ _ => False)
      | none => False)
    | _ => False)
  | x => (if n then hNe x y S q else hEq x y S q)
@[irreducible] noncomputable def hEqO : Bool → List (Nat × Fm) → D → D → Sto → QD → Prop := stuck rEqO
theorem hEqO_eq : hEqO = rEqO := by unfold hEqO; exact stuck_eq _
def TabE (X : Cx) (n : Bool) (tab : List (Nat × Fm)) : Prop := ∀ C Φ, tab.lookup C = some Φ → ∃ φ, SpK X.prog X.w X.K X.mg X.base X.A (cA X.K C) "__eq__" (upPh X.K φ) ∧ (n = true → NeK X.K (cA X.K C)) ∧ ∀ {ds zs S q e}, Φ ds zs S q e → φ ds [] zs S q e
theorem tyS_up {K : KB} {S : Sto} {H : Hp} {C : Nat} {y : D} {v : V} (R : Rel K S H) (r : Rp K S H y v) (h : sameC C y S) : TyS K.k (cA K.k C) H v := by
  cases y with
  | ref b =>
    cases r
    have h : (match S b with
      | some (.ins C' _) => C' = C
      | some (.lst _) => True
      | some (.dct _) => True
      | _ => False) := h
    split at h
    · rename_i C' fs e
      subst h
      obtain ⟨dx, vs, hb, _⟩ := ins_up R e
      exact .own hb
    · rename_i ds eS
      exact .ty (tyS_ty (S := S) (d := .ref b) (a := "list") R rfl (by show tyO (S b) = _; rw [eS]; rfl)) (by decide)
    · rename_i ds eS
      exact .ty (tyS_ty (S := S) (d := .ref b) (a := "dict") R rfl (by show tyO (S b) = _; rw [eS]; rfl)) (by decide)
    · exact h.elim
  | ty n => cases h
  | clo _ _ _ => cases h
  | rol _ => cases h
  | non => exact .ty (tyN_up (d := .non) r rfl) (by decide)
  | bl b => exact .ty (tyN_up (d := .bl b) r rfl) (by decide)
  | int i => exact .ty (tyN_up (d := .int i) r rfl) (by decide)
  | str c => exact .ty (tyN_up (d := .str c) r rfl) (by decide)
  | lst c => exact .ty (tyN_up (d := .lst c) r rfl) (by decide)
  | tup c => exact .ty (tyN_up (d := .tup c) r rfl) (by decide)
theorem opd_eqO {X : Cx} {n : Bool} {tab : List (Nat × Fm)} (hu : X.A.units + 64 < cLine) (T : TabE X n tab) : OpD X (compareOp (if n then .NotEq else .Eq)) (hEqO n tab) := fun B => by
  have base : ∀ B, OpR X (compareOp (if n then .NotEq else .Eq)) (opH ⟨X.K, B⟩ (fun x y S q => if n then rNeD' x y S q else rEqD' x y S q)) := fun B => by
    cases n with
    | true => exact opd_ne hu B
    | false => exact opd_eq hu B
  refine ((op_own n).or (base B)).imp fun x y H Q h => ?_
  obtain ⟨dx, dy, S, q, R, rx, ry, h, g⟩ := h
  rw [hEqO_eq] at h
  cases dx with
  | ref a =>
    left
    cases rx
    have h : (match S a with
      | some (.ins C _) => (match tab.lookup C with
        | some Φ => hAnd (hSameC C dy S) (Φ [.ref a, dy] [] S (asBl n q) fun _ _ _ => False)
        | none => False)
      | _ => False) := h
    split at h
    · rename_i C fs hS
      split at h
      · rename_i Φ ht
        rw [hAnd_eq, hSameC_eq] at h
        obtain ⟨hc, h⟩ := h
        obtain ⟨φ, sk, ne, hΦ⟩ := T C Φ ht
        obtain ⟨dx, vs, ha, _⟩ := ins_up R hS
        refine ⟨a, cA X.K C, dx, _, _, rfl, ha, sk, ne, tyS_up R ry hc, B, [.ref a, dy], [], S, _, _, R, Rps.consD (d := .ref a) rfl (.single ry), rfl, hΦ h, fun d v S' H' e' R' r' q' => ?_, fun _ _ _ _ _ _ _ _ _ _ _ z => z.elim⟩
        unfold asBl at q'
        split at q'
        · cases r'
          exact ⟨_, rfl, g (.bl _) _ S' H' e' R' rfl q'⟩
        · exact q'.elim
      · exact h.elim
    · exact h.elim
  | _ =>
    right
    refine ⟨_, dy, S, q, R, rx, ry, ?_, g⟩
    cases n with
    | true => have h : hNe _ dy S q := h; rw [hNe_eq] at h; exact h
    | false => have h : hEq _ dy S q := h; rw [hEq_eq] at h; exact h
end DL

namespace DL
open PySem PySem.Spec PyProof.Rows L2

/-! ### isinstance(x, C), C a class of the text -/
/-- an instance of C answers to __class__ plainly -/
structure InsK (K : PySem.W.Frag) (C : Addr) : Prop where
  c : Cls K C
  ha : PySem.W.findIn K (.ref C) "__class__" = some (some (.builtin "object.__class__"))
  hn : PySem.W.specialIn K (.builtin "object.__class__") "__get__" = some (some (.builtin "getset_descriptor.__get__"))
  ht : PySem.W.takesIn K (.builtin "object.__class__") = some true
  hm : PySem.W.mroIn K C (.type "object") = some true
/-- what isinstance answers of D -/
structure IsK (K : PySem.W.Frag) (D : Addr) (tab : List (Nat × Bool)) : Prop where
  own : ∀ C b, tab.lookup C = some b → InsK K (cA K C) ∧ PySem.W.kitOne K (.ref (cA K C)) (.ref D) = some b
  ty : ∀ T ∈ tyL, PySem.W.kitOne K (.type T) (.ref D) = some false
def rIsO (tab : List (Nat × Bool)) (d : D) (S : Sto) (q : QD) : Prop := match d with
  | .ref a => (match S a with
    | some (.ins C _) => (match tab.lookup C with
      | some b => q (.bl b) S
      | none => False)
    | some (.lst _) => q (.bl false) S
    | some (.dct _) => q (.bl false) S
    | _ => False)
  | d => hAnd ((tyN d).isSome = true) (q (.bl false) S)
@[irreducible] noncomputable def hIsO : List (Nat × Bool) → D → Sto → QD → Prop := stuck rIsO
theorem hIsO_eq : hIsO = rIsO := by unfold hIsO; exact stuck_eq _
noncomputable def kIsO (tab : List (Nat × Bool)) (t : ED) : ED := fun w ρ S q => t w ρ S fun d S1 => hIsO tab d S1 q
theorem tyN_mem' {d : D} (h : (tyN d).isSome = true) : ∃ T, tyN d = some T ∧ T ∈ tyL := by
  obtain ⟨T, e⟩ := Option.isSome_iff_exists.mp h
  exact ⟨T, e, tyN_mem e⟩
section
variable {X : Cx} {e : Expr} {t : ED} {c : Str} {C : Addr} {tab : List (Nat × Bool)} {p pc pos : Pos} {f : Str}
theorem pd_isO (g1 : Gl X "isinstance") (m1 : X.mg "isinstance" = none) (g2 : Gl X c) (m2 : X.mg c = some (.ref C)) (hc : (c == ("__debug__" : Str)) = false) (K : IsK X.K C tab) (hs : starred e = false) (he : PD X e t) :
    PD X (.Call (.Name "isinstance" p) [e, .Name c pc] [] pos) (kIsO tab t) :=
  ⟨fun B W tk => (pe_callB call_isi g1 m1 (by decide +kernel) (pa_cons (he.up B W tk) (pa_cons (pe_glob (pos := pc) (v := .ref C) g2 m2 rfl hc) pa_nil rfl) (star_cons hs)) (by decide) (by decide) (star_cons hs) rfl).imp fun σ H Q h => by
    obtain ⟨ρ, S, q, w, R, L, O, h, k⟩ := h
    refine ⟨ρ, S, _, w, R, L, O, h, fun d v S1 H1 e1 R1 r1 h1 => ?_⟩
    rw [hIsO_eq] at h1
    have G : Got ⟨X.K, B⟩ S1 H1 q Q := fun d v S3 H3 e3 => k d v S3 H3 (e1.trans e3)
    have plain : (tyN d).isSome = true → q (.bl false) S1 → rIsi X.K [v, .ref C] H1 Q := fun h2 h3 => by
      obtain ⟨T, e2, m⟩ := tyN_mem' h2
      exact ⟨v, .ref C, .type T, .ref C, false, rfl, .own C, tyN_up r1 e2, K.ty T m, G.bl R1 h3⟩
    show rIsi X.K [v, .ref C] H1 Q
    cases d with
    | ref a =>
      cases r1
      have h1 : (match S1 a with
        | some (.ins C _) => (match tab.lookup C with
          | some b => q (.bl b) S1
          | none => False)
        | some (.lst _) => q (.bl false) S1
        | some (.dct _) => q (.bl false) S1
        | _ => False) := h1
      split at h1
      · rename_i D fs hS
        split at h1
        · rename_i b ht
          obtain ⟨dx, vs, ha, _⟩ := ins_up R1 hS
          obtain ⟨i, ki⟩ := K.own D b ht
          exact ⟨.ref a, .ref C, .ref (cA X.K D), .ref C, b, rfl, .own C, .base (.ins ha i.c i.ha i.hn i.ht i.hm), ki, G.bl R1 h1⟩
        · exact h1.elim
      · rename_i ds eS
        exact ⟨.ref a, .ref C, .type "list", .ref C, false, rfl, .own C, tyS_ty (S := S1) (d := .ref a) R1 rfl (by show tyO (S1 a) = _; rw [eS]; rfl), K.ty _ (by decide), G.bl R1 h1⟩
      · rename_i ds eS
        exact ⟨.ref a, .ref C, .type "dict", .ref C, false, rfl, .own C, tyS_ty (S := S1) (d := .ref a) R1 rfl (by show tyO (S1 a) = _; rw [eS]; rfl), K.ty _ (by decide), G.bl R1 h1⟩
      · exact h1.elim
    | _ => exact plain ((hAnd_eq _ _ ▸ (show hAnd _ _ from h1)).1) ((hAnd_eq _ _ ▸ (show hAnd _ _ from h1)).2)⟩
/-! ### C.f, a constant of the class -/
structure ConK (K : PySem.W.Frag) (C : Addr) (f : Str) (d : D) : Prop where
  ex : ∃ mc v u, ClX.CRead K C mc ∧ ClX.CVal K C mc f v u ∧ ∀ B S H, Rp ⟨K, B⟩ S H d v
theorem pd_clsCon {d : D} (g2 : Gl X c) (m2 : X.mg c = some (.ref C)) (hc : (c == ("__debug__" : Str)) = false) (K : ConK X.K C f d) (hb : attributeBase (.Name c pc) f X.env (eval (.Name c pc) X.env) = eval (.Name c pc) X.env) : PD X (.Attribute (.Name c pc) f pos) (eC d) :=
  ⟨fun B W tk => (ClX.pe_cval (pe_glob (pos := pc) (v := .ref C) g2 m2 rfl hc) hb).imp fun σ H Q h => by
    obtain ⟨ρ, S, q, w, R, L, O, h, k⟩ := h
    obtain ⟨mc, v, u, r, cv, rv⟩ := K.ex
    exact ⟨C, mc, v, u, rfl, r, cv, k d v S H .refl R (rv B S H) h⟩⟩
end
/-! ### a list in a slot is changed no more -/
def rFz (d : D) (S : Sto) (k : D → Sto → Prop) : Prop := match d with
  | .ref p => (match S p with
    | some (.lst ds) => k (.lst ds) (S.del p)
    | _ => False)
  | _ => False
@[irreducible] noncomputable def hFz : D → Sto → (D → Sto → Prop) → Prop := stuck rFz
theorem hFz_eq : hFz = rFz := by unfold hFz; exact stuck_eq _
noncomputable def sFz (i : Nat) (t : SD) : SD := fun E ρ S => eVar i E.w ρ S fun d S1 => hFz d S1 fun d2 S2 => t E (ρ.set i (some d2)) S2
theorem Sl.put {K : KB} {S : Sto} {H : Hp} {ρ : St'} {σ : St} (h : Sl K S H ρ σ) {i : Nat} {d : D} {v : V} (hv : σ[i]? = some (some v)) (r : Rp K S H d v) : Sl K S H (ρ.set i (some d)) σ := by
  have := h.set (i := i) r
  have e : σ.set i (some v) = σ := by
    apply List.ext_getElem?
    intro j
    by_cases hj : i = j
    · subst hj
      rw [List.getElem?_set_self (List.getElem?_eq_some_iff.mp hv).1, hv]
    · rw [List.getElem?_set_ne hj]
  rwa [e] at this
theorem pds_fz {X : Cx} {st : Stmt} {i : Nat} {t : SD} (h : PDS X st t) : PDS X st (sFz i t) :=
  ⟨fun B W tk => (h.up B W tk).imp fun D σ H h => by
    obtain ⟨ρ, S, E, R, L, O, k, h⟩ := h
    unfold sFz eVar at h
    split at h
    · rename_i d e
      rw [hFz_eq] at h
      obtain ⟨v, hv, rv⟩ := L.at_ i d e
      unfold rFz at h
      split at h
      · rename_i p
        split at h
        · rename_i ds hp
          cases rv
          obtain ⟨vs, hH, rv⟩ := (show ∃ vs, H p = some (.lst vs) ∧ Rps ⟨X.K, B⟩ S H ds vs from R.ob p _ hp)
          have nb : ¬ B p := fun z => by have := (R.bl p z).2; rw [hp] at this; cases this
          have ex : Ext S H (S.del p) H := Ext.freeze hp
          exact ⟨ρ.set i (some (.lst ds)), S.del p, E, R.freeze hp, (L.ext ex).put hv ⟨p, vs, rfl, ⟨hH, Sto.del_same, nb⟩, rv.ext ex⟩, O.ext ex, k.ext ex, h⟩
        · exact h.elim
      · exact h.elim
    · exact h.elim⟩
end DL

namespace DL
open PySem PySem.Spec PyProof.Rows L2

/-! ### the form of a call -/
def entOf (sg : Sig) (n : Nat) (kws : List (Option Str)) : Option Ent := sg.ents.find? fun e => decide (e.n = n) && decide (kws = e.ks.map some)
theorem entOf_ok {sg : Sig} {n : Nat} {kws : List (Option Str)} {e : Ent} (h : entOf sg n kws = some e) : e ∈ sg.ents ∧ kws = e.ks.map some := by
  unfold entOf at h
  refine ⟨List.mem_of_find?_eq_some h, ?_⟩
  have := List.find?_some h
  simp only [Bool.and_eq_true, decide_eq_true_eq] at this
  exact this.2
/-- n: how many by place, none: there are stars -/
def fmOf (ci : CI) (n : Option Nat) (ks : List (Option Str)) : Option Fm := match ci with
  | .fix sg sp => (match n with
    | some n => (match entOf sg n ks with
      | some e => some (if sg.frz then fKz sg e sp else fK sg e sp)
      | none => none)
    | none => none)
  | .raw sp => if ks = [] then some (fR sp) else none
theorem fmOf_ok {ci : CI} {n : Option Nat} {ks : List (Option Str)} {Φ : Fm} (h : fmOf ci n ks = some Φ) : ks = (ks.filterMap id).map some ∧ ∀ {ds zs S q e}, Φ ds zs S q e → ciP ci ds (ks.filterMap id) zs S q e := by
  unfold fmOf at h
  split at h
  · rename_i sg sp
    split at h
    · rename_i n
      split at h
      · rename_i ent he
        obtain ⟨m, e⟩ := entOf_ok he
        cases h
        have e2 : ks.filterMap id = ent.ks := by rw [e]; simp [List.filterMap_map]
        refine ⟨by rw [e2]; exact e, fun {ds zs S q e'} f => ?_⟩
        rw [e2]
        cases hz : sg.frz with
        | true => rw [hz] at f; exact fKz_ok m rfl hz f
        | false => rw [hz] at f; exact fK_ok m rfl hz f
      · cases h
    · cases h
  · split at h
    · rename_i hk
      cases h
      subst hk
      exact ⟨rfl, fun f => fR_ok f⟩
    · cases h

/-! ### the tables of the classes -/
inductive AtG where
  | fld | con (d : D) | prop (ci : CI)
structure GT where
  ma : List (Str × Nat × CI)
  mt : List (Str × Nat × CI)
  at_ : List (Str × Nat × AtG)
  put : List (Str × Nat)
  sm : List (Str × Str × CI)
  cc : List (Str × Str × D)
  is_ : List (Str × List (Nat × Bool))
  sp : List (Str × Nat × CI)
  ne : List Nat
def GT.nil : GT := ⟨[], [], [], [], [], [], [], [], []⟩
section
variable (Rm : Nat → Prop) (P : Program) (w : World) (K : PySem.W.Frag) (mg : Str → Option Value) (base : Heap)
structure MkAt (p : Str × Nat × CI) : Prop where
  ex : mg p.1 = some (.ref (cA K p.2.1)) ∧ ∃ f k, Mk K (cA K p.2.1) f ∧ Rm (k + 1) ∧ FG P w K mg base k f (upPh K (ciP p.2.2))
structure MtAt (p : Str × Nat × CI) : Prop where
  ex : Cls K (cA K p.2.1) ∧ ∃ g k, Meth K (cA K p.2.1) p.1 g ∧ Rm k ∧ FG P w K mg base k g (upPh K (ciP p.2.2))
structure AtAt (p : Str × Nat × AtG) : Prop where
  c : Cls K (cA K p.2.1)
  ex : match p.2.2 with
    | .fld => NoAttr K (cA K p.2.1) p.1
    | .con d => ∃ v u, Con K (cA K p.2.1) p.1 v u ∧ ∀ B S H, Rp ⟨K, B⟩ S H d v
    | .prop ci => ∃ q g k, PropOf K (cA K p.2.1) p.1 q g ∧ Rm (k + 1) ∧ FG P w K mg base k g (upPh K (ciP ci))
structure PutAt (p : Str × Nat) : Prop where
  ex : Cls K (cA K p.2) ∧ NoAttr K (cA K p.2) p.1
structure SmAt (p : Str × Str × CI) : Prop where
  ex : ∃ C g k, mg p.1 = some (.ref C) ∧ StatOf K C p.2.1 g ∧ Rm k ∧ FG P w K mg base k g (upPh K (ciP p.2.2))
structure CcAt (p : Str × Str × D) : Prop where
  ex : ∃ C, mg p.1 = some (.ref C) ∧ ConK K C p.2.1 p.2.2
structure IsAt (p : Str × List (Nat × Bool)) : Prop where
  ex : ∃ C, mg p.1 = some (.ref C) ∧ IsK K C p.2
structure SpAt (p : Str × Nat × CI) : Prop where
  ex : ∃ f k, PySem.W.findIn K (.ref (cA K p.2.1)) p.1 = some (some (.ref f)) ∧ PySem.W.isFn K (.ref f) = true ∧ PySem.W.fnIn K f = true ∧ Rm (k + 1) ∧ FG P w K mg base k f (upPh K (ciP p.2.2))
structure GTOk (t : GT) : Prop where
  ma : ∀ p ∈ t.ma, MkAt Rm P w K mg base p
  mt : ∀ p ∈ t.mt, MtAt Rm P w K mg base p
  at_ : ∀ p ∈ t.at_, AtAt Rm P w K mg base p
  put : ∀ p ∈ t.put, PutAt K p
  sm : ∀ p ∈ t.sm, SmAt Rm P w K mg base p
  cc : ∀ p ∈ t.cc, CcAt K mg p
  is_ : ∀ p ∈ t.is_, IsAt K mg p
  sp : ∀ p ∈ t.sp, SpAt Rm P w K mg base p
  ne : ∀ C ∈ t.ne, NeK K (cA K C)
end
section
variable {Rm Rm' : Nat → Prop} {P : Program} {w : World} {K : PySem.W.Frag} {mg : Str → Option Value} {base : Heap} {t : GT}
theorem GTOk.mono (h : GTOk Rm P w K mg base t) (m : ∀ k, Rm k → Rm' k) : GTOk Rm' P w K mg base t where
  ma p hp := let ⟨⟨a, f, k, b, c, d⟩⟩ := h.ma p hp; ⟨a, f, k, b, m _ c, d⟩
  mt p hp := let ⟨⟨a, f, k, b, c, d⟩⟩ := h.mt p hp; ⟨a, f, k, b, m _ c, d⟩
  at_ p hp := ⟨(h.at_ p hp).c, by
    have := (h.at_ p hp).ex
    obtain ⟨x, C, a⟩ := p
    cases a with
    | fld => exact this
    | con d => exact this
    | prop ci => obtain ⟨q, g, k, b, c, d⟩ := this; exact ⟨q, g, k, b, m _ c, d⟩⟩
  put := h.put
  sm p hp := let ⟨⟨C, g, k, a, b, c, d⟩⟩ := h.sm p hp; ⟨C, g, k, a, b, m _ c, d⟩
  cc := h.cc
  is_ := h.is_
  sp p hp := let ⟨⟨f, k, a, b, b2, c, d⟩⟩ := h.sp p hp; ⟨f, k, a, b, b2, m _ c, d⟩
  ne := h.ne
theorem all_nil {α : Type} {p : α → Prop} : ∀ x ∈ ([] : List α), p x := fun _ h => by cases h
theorem all_cons {α : Type} {p : α → Prop} {a : α} {l : List α} (h : p a) (t : ∀ x ∈ l, p x) : ∀ x ∈ a :: l, p x := fun x hx => by
  rcases List.mem_cons.mp hx with rfl | hx
  · exact h
  · exact t x hx
theorem GTOk.nil : GTOk Rm P w K mg base GT.nil := ⟨all_nil, all_nil, all_nil, all_nil, all_nil, all_nil, all_nil, all_nil, all_nil⟩
end
/-! the tables as readings take them -/
def mtTab (t : GT) (m : Str) (n : Option Nat) (ks : List (Option Str)) : List (Nat × Fm) := t.mt.filterMap fun p => if p.1 = m then (fmOf p.2.2 n ks).map fun Φ => (p.2.1, Φ) else none
def spTab (t : GT) (m : Str) (n : Nat) : List (Nat × Fm) := t.sp.filterMap fun p => if p.1 = m then (fmOf p.2.2 (some n) []).map fun Φ => (p.2.1, Φ) else none
def atD (a : AtG) : Option AtD := match a with
  | .fld => some .fld
  | .con d => some (.con d)
  | .prop ci => (fmOf ci (some 1) []).map .prop
def atTab (t : GT) (f : Str) : List (Nat × AtD) := t.at_.filterMap fun p => if p.1 = f then (atD p.2.2).map fun a => (p.2.1, a) else none
def putTab (t : GT) (f : Str) : List Nat := t.put.filterMap fun p => if p.1 = f then some p.2 else none
theorem lookup_memN {α : Type} {C : Nat} {a : α} : ∀ {k : List (Nat × α)}, k.lookup C = some a → (C, a) ∈ k
  | [], h => by cases h
  | (y, z) :: k, h => by
    rw [List.lookup_cons] at h
    split at h
    · rename_i e
      cases eq_of_beq e
      cases h
      exact List.mem_cons_self ..
    · exact List.mem_cons_of_mem _ (lookup_memN h)
theorem tab_mem {α β : Type} {f : β → Option α} {l : List (Str × Nat × β)} {m : Str} {C : Nat} {a : α} (h : (l.filterMap fun p => if p.1 = m then (f p.2.2).map fun a => (p.2.1, a) else none).lookup C = some a) : ∃ b, (m, C, b) ∈ l ∧ f b = some a := by
  have h2 := lookup_memN h
  obtain ⟨⟨x, D, b⟩, hm, e⟩ := List.mem_filterMap.mp h2
  dsimp only at e
  split at e
  · rename_i hx
    subst hx
    cases hb : f b with
    | none => rw [hb] at e; cases e
    | some y => rw [hb] at e; cases e; exact ⟨b, hm, hb⟩
  · cases e
section
variable {X : Cx} {t : GT} (g : GTOk (fun k => Room k X.A) X.prog X.w X.K X.mg X.base t)
include g
theorem tabM_ok {m : Str} {n : Option Nat} {ks : List (Option Str)} : TabM X m (ks.filterMap id) (mtTab t m n ks) := fun C Φ h => by
  obtain ⟨ci, hm, e⟩ := tab_mem (f := fun ci => fmOf ci n ks) h
  obtain ⟨c, gg, k, hme, hr, F⟩ := (g.mt _ hm).ex
  exact ⟨_, ⟨c, gg, k, hme, hr, F⟩, (fmOf_ok e).2⟩
theorem tabE_ok {b : Bool} (hn : b = true → ∀ C Φ, (spTab t "__eq__" 2).lookup C = some Φ → C ∈ t.ne) : TabE X b (spTab t "__eq__" 2) := fun C Φ h => by
  obtain ⟨ci, hm, e⟩ := tab_mem (f := fun ci => fmOf ci (some 2) []) h
  obtain ⟨f, k, a, b, _, hr, F⟩ := (g.sp _ hm).ex
  exact ⟨_, ⟨f, k, a, b, hr, F⟩, fun z => g.ne _ (hn z C Φ h), (fmOf_ok e).2⟩
theorem tabA_ok {f : Str} : TabA X f (atTab t f) := fun C a h => by
  obtain ⟨b, hm, e⟩ := tab_mem (f := atD) h
  have h1 := (g.at_ _ hm).ex
  refine ⟨(g.at_ _ hm).c, ?_⟩
  cases b with
  | fld => cases e; exact h1
  | con d => cases e; exact h1
  | prop ci =>
    cases hf : fmOf ci (some 1) [] with
    | none => simp only [atD, hf] at e; cases e
    | some Φ =>
      simp only [atD, hf] at e
      cases e
      obtain ⟨q, gg, k, hp, hr, F⟩ := h1
      exact ⟨q, gg, k, _, hp, hr, F, (fmOf_ok hf).2⟩
theorem tabP_ok {f : Str} : ∀ C ∈ putTab t f, Cls X.K (cA X.K C) ∧ NoAttr X.K (cA X.K C) f := fun C h => by
  obtain ⟨p, hm, e⟩ := List.mem_filterMap.mp h
  split at e
  · rename_i hx
    cases e
    subst hx
    exact (g.put _ hm).ex
  · cases e
end
end DL

namespace DL
open PySem PySem.Spec PyProof.Rows L2

/-! ### len, repr of instances -/
section
variable {X : Cx}
theorem cr_lenO : CallR X (.builtin "len") fun vs H Q => ∃ a C dx fs φ, vs = [.ref a] ∧ H a = some (.ins C dx fs) ∧ SpK X.prog X.w X.K X.mg X.base X.A C "__len__" φ ∧
    φ [.ref a] [] [] H (fun v H' => ∃ n : Int, v = .int n ∧ 0 ≤ n ∧ n < 2 ^ 63 ∧ Q (.int n) H') fun _ _ _ => False := by
  intro pins s σ H vs us Q I r h
  obtain ⟨a, C, dx, fs, φ, rfl, ha, ⟨f, k, hs, hf, hr, F⟩, h⟩ := h
  rw [Vals.ref1 r]
  obtain ⟨mA, J, _⟩ := ins_get I.hok ha
  obtain ⟨od, J, _⟩ := J.look
  obtain ⟨m, hF⟩ := I.fr
  have r2 : Vals [V.ref a] [Value.ref a] := .cons rfl .nil
  refine PySem.W.len_K hF I.ok.mod.kin J hs hf (wpAny_mono (run_fgN F hr.in1 rfl I r2 h) (fun u s' q => ?_) fun _ _ e => e)
  obtain ⟨z, H', I', rz, n, rfl, h0, h1, q⟩ := q
  obtain ⟨t, rfl⟩ := rz
  exact ⟨⟨h0, h1⟩, .int n, H', I'.tok _, ⟨_, rfl⟩, q⟩
theorem cr_reprO : CallR X (.builtin "repr") fun vs H Q => ∃ a C dx fs φ, vs = [.ref a] ∧ H a = some (.ins C dx fs) ∧ SpK X.prog X.w X.K X.mg X.base X.A C "__repr__" φ ∧
    φ [.ref a] [] [] H (fun v H' => ∃ y : Str, v = .str y ∧ Q (.str y) H') fun _ _ _ => False := by
  intro pins s σ H vs us Q I r h
  obtain ⟨a, C, dx, fs, φ, rfl, ha, ⟨f, k, hs, hf, hr, F⟩, h⟩ := h
  rw [Vals.ref1 r]
  obtain ⟨mA, J, _⟩ := ins_get I.hok ha
  obtain ⟨od, J, _⟩ := J.look
  obtain ⟨m, hF⟩ := I.fr
  have r2 : Vals [V.ref a] [Value.ref a] := .cons rfl .nil
  refine PySem.W.repr_K (by have := hr.un; show X.A.units + 1 < cLine; omega) hF I.ok.mod.kin J hs hf (wpAny_mono (run_fgN F hr.in1 rfl I r2 h) (fun u s' q => ?_) fun _ _ e => e)
  obtain ⟨z, H', I', rz, y, rfl, q⟩ := q
  obtain ⟨t, rfl⟩ := rz
  exact ⟨.str y, H', I', ⟨t, rfl⟩, q⟩
end
/-- a table of a special method -/
def TabSp (X : Cx) (m : Str) (tab : List (Nat × Fm)) : Prop := ∀ C Φ, tab.lookup C = some Φ → ∃ φ, SpK X.prog X.w X.K X.mg X.base X.A (cA X.K C) m (upPh X.K φ) ∧ ∀ {ds zs S q e}, Φ ds zs S q e → φ ds [] zs S q e
theorem tabSp_ok {X : Cx} {t : GT} (g : GTOk (fun k => Room k X.A) X.prog X.w X.K X.mg X.base t) {m : Str} {n : Nat} : TabSp X m (spTab t m n) := fun C Φ h => by
  obtain ⟨ci, hm, e⟩ := tab_mem (f := fun ci => fmOf ci (some n) []) h
  obtain ⟨f, k, a, b, _, hr, F⟩ := (g.sp _ hm).ex
  exact ⟨_, ⟨f, k, a, b, hr, F⟩, (fmOf_ok e).2⟩
def asLen (q : QD) : QD := fun d S => match d with
  | .int n => hAnd (0 ≤ n ∧ n < 2 ^ 63) (q (.int n) S)
  | _ => False
def asStr (q : QD) : QD := fun d S => match d with
  | .str a => q (.str a) S
  | _ => False
def lkT {α : Type} (tab : List (Nat × α)) (C : Nat) (k : α → Prop) : Prop := match tab.lookup C with
  | some a => k a
  | none => False
def rLenO (tab : List (Nat × Fm)) (x : D) (S : Sto) (q : QD) : Prop := match x with
  | .ref a => (match S a with
    | some (.ins C _) => lkT tab C fun Φ => Φ [.ref a] [] S (asLen q) fun _ _ _ => False
    | _ => hLen (.ref a) S q)
  | x => hLen x S q
@[irreducible] noncomputable def hLenO : List (Nat × Fm) → D → Sto → QD → Prop := stuck rLenO
theorem hLenO_eq : hLenO = rLenO := by unfold hLenO; exact stuck_eq _
def rReprO (tab : List (Nat × Fm)) (x : D) (S : Sto) (q : QD) : Prop := match x with
  | .ref a => (match S a with
    | some (.ins C _) => lkT tab C fun Φ => Φ [.ref a] [] S (asStr q) fun _ _ _ => False
    | _ => False)
  | _ => False
@[irreducible] noncomputable def hReprO : List (Nat × Fm) → D → Sto → QD → Prop := stuck rReprO
theorem hReprO_eq : hReprO = rReprO := by unfold hReprO; exact stuck_eq _
theorem lkT_ex {α : Type} {tab : List (Nat × α)} {C : Nat} {k : α → Prop} (h : lkT tab C k) : ∃ a, tab.lookup C = some a ∧ k a := by
  unfold lkT at h
  split at h
  · rename_i a e; exact ⟨a, e, h⟩
  · exact h.elim
section
variable {X : Cx} {tab : List (Nat × Fm)}
theorem bd_reprO (T : TabSp X "__repr__" tab) : CallD X (.builtin "repr") (b1 (hReprO tab)) := CallD.of1 cr_reprO fun K x v S H q Q hK R r h g => by
  rw [hReprO_eq] at h
  cases x <;> first | exact (show False from h).elim | skip
  rename_i a
  cases r
  unfold rReprO at h
  dsimp only at h
  split at h
  · rename_i C fs hS
    obtain ⟨Φ, ht, h⟩ := lkT_ex h
    obtain ⟨φ, sk, hΦ⟩ := T C Φ ht
    obtain ⟨dx, vs, ha, _⟩ := ins_up R hS
    obtain ⟨kk, bb⟩ := K
    have hK : kk = X.K := hK
    subst hK
    refine ⟨a, cA X.K C, dx, _, _, rfl, ha, sk, bb, [.ref a], [], S, _, _, R, .single (d := .ref a) rfl, rfl, hΦ h, fun d v S' H' e' R' r' q' => ?_, fun _ _ _ _ _ _ _ _ _ _ _ z => z.elim⟩
    unfold asStr at q'
    split at q'
    · cases r'
      exact ⟨_, rfl, g (.str _) _ S' H' e' R' rfl q'⟩
    · exact q'.elim
  · exact h.elim
theorem bd_lenO (T : TabSp X "__len__" tab) : CallD X (.builtin "len") (b1 (hLenO tab)) := fun B => by
  have base : CallD X (.builtin "len") (b1 hLen) := by rw [hLen_eq]; exact bd_len
  refine (cr_lenO.or (base B)).imp fun us H Q h => ?_
  obtain ⟨ds, S, q, R, r, h, g⟩ := h
  match ds, r, h with
  | [], _, h => exact (show False from h).elim
  | _ :: _ :: _, _, h => exact (show False from h).elim
  | [x], r, h =>
    obtain ⟨v, rfl, rv⟩ := r.one
    have h : hLenO tab x S q := h
    rw [hLenO_eq] at h
    by_cases hx : ∃ a C fs, x = .ref a ∧ S a = some (.ins C fs)
    · left
      obtain ⟨a, C, fs, rfl, hS⟩ := hx
      cases rv
      unfold rLenO at h
      dsimp only at h
      rw [hS] at h
      obtain ⟨Φ, ht, h⟩ := lkT_ex (show lkT tab C fun Φ => Φ [.ref a] [] S (asLen q) fun _ _ _ => False from h)
      obtain ⟨φ, sk, hΦ⟩ := T C Φ ht
      obtain ⟨dx, vs, ha, _⟩ := ins_up R hS
      refine ⟨a, cA X.K C, dx, _, _, rfl, ha, sk, B, [.ref a], [], S, _, _, R, .single (d := .ref a) rfl, rfl, hΦ h, fun d v S' H' e' R' r' q' => ?_, fun _ _ _ _ _ _ _ _ _ _ _ z => z.elim⟩
      unfold asLen at q'
      split at q'
      · cases r'
        rw [hAnd_eq] at q'
        exact ⟨_, rfl, q'.1.1, q'.1.2, g (.int _) _ S' H' e' R' rfl q'.2⟩
      · exact q'.elim
    · right
      refine ⟨[x], S, q, R, .single rv, ?_, g⟩
      show hLen x S q
      cases x with
      | ref a =>
        unfold rLenO at h
        dsimp only at h
        split at h
        · rename_i C fs hS
          exact absurd ⟨a, C, fs, rfl, hS⟩ hx
        · exact h
      | _ => exact h
end
end DL

namespace DL
open PySem PySem.Spec PyProof.Rows L2

/-! ### x in o, o an instance with its own __contains__ -/
def rOwnIn (X : Cx) (n : Bool) : R2 := fun x y H Q => ∃ a C dx fs φ, y = .ref a ∧ H a = some (.ins C dx fs) ∧ SpK X.prog X.w X.K X.mg X.base X.A C "__contains__" φ ∧ φ [y, x] [] [] H (fun v H' => ∃ b, v = .bl b ∧ Q (.bl (if n then !b else b)) H') fun _ _ _ => False
theorem op_in {X : Cx} (n : Bool) : OpR X (compareOp (if n then .NotIn else .In)) (rOwnIn X n) := by
  intro pins s σ H x y v u Q I rx ry h
  obtain ⟨a, C, dx, fs, φ, rfl, ha, ⟨f, k, hs, hf, hr, F⟩, h⟩ := h
  cases ry
  obtain ⟨mA, J, _⟩ := ins_get I.hok ha
  obtain ⟨od, J, _⟩ := J.look
  obtain ⟨m, hF⟩ := I.fr
  have r2 : Vals [V.ref a, x] [Value.ref a, v] := .cons rfl (.cons rx .nil)
  cases n with
  | false =>
    show wpAny (model X.prog X.w) X.A (compareOp .In v (.ref a)) (EP X pins σ Q) X.xe s
    refine PySem.W.in_K hF I.ok.mod.kin J hs hf (wpAny_mono (run_fgN F (hr.mono (Nat.le_succ _)) rfl I r2 h) (fun r s' q => ?_) fun _ _ e => e)
    obtain ⟨z, H', I', rz, b, rfl, q⟩ := q
    cases rz
    exact wpAny_truthy_bool ⟨.bl b, H', I', rfl, q⟩
  | true =>
    show wpAny (model X.prog X.w) X.A (compareOp .NotIn v (.ref a)) (EP X pins σ Q) X.xe s
    refine PySem.W.notIn_K hF I.ok.mod.kin J hs hf (wpAny_mono (run_fgN F (hr.mono (Nat.le_succ _)) rfl I r2 h) (fun r s' q => ?_) fun _ _ e => e)
    obtain ⟨z, H', I', rz, b, rfl, q⟩ := q
    cases rz
    exact wpAny_truthy_bool ⟨.bl (!b), H', I', rfl, q⟩
noncomputable def rInB (n : Bool) (x y : D) (S : Sto) (q : QD) : Prop := if n then hNotIn x y S q else hIn x y S q
def rInO (n : Bool) (tab : List (Nat × Fm)) (x y : D) (S : Sto) (q : QD) : Prop := match y with
  | .ref a => (match S a with
    | some (.ins C _) => lkT tab C fun Φ => Φ [.ref a, x] [] S (asBl n q) fun _ _ _ => False
    | _ => rInB n x (.ref a) S q)
  | y => rInB n x y S q
@[irreducible] noncomputable def hInO : Bool → List (Nat × Fm) → D → D → Sto → QD → Prop := stuck rInO
theorem hInO_eq : hInO = rInO := by unfold hInO; exact stuck_eq _
theorem opd_inO {X : Cx} {n : Bool} {tab : List (Nat × Fm)} (hu : X.A.units + 64 < cLine) (T : TabSp X "__contains__" tab) : OpD X (compareOp (if n then .NotIn else .In)) (hInO n tab) := fun B => by
  have base : OpD X (compareOp (if n then .NotIn else .In)) (rInB n) := by
    cases n with
    | true => show OpD X (compareOp .NotIn) hNotIn; rw [hNotIn_eq]; exact opd_notin (by omega)
    | false => show OpD X (compareOp .In) hIn; rw [hIn_eq]; exact opd_in (by omega)
  refine ((op_in n).or (base B)).imp fun x y H Q h => ?_
  obtain ⟨dx, dy, S, q, R, rx, ry, h, g⟩ := h
  rw [hInO_eq] at h
  by_cases hx : ∃ a C fs, dy = .ref a ∧ S a = some (.ins C fs)
  · left
    obtain ⟨a, C, fs, rfl, hS⟩ := hx
    cases ry
    unfold rInO at h
    dsimp only at h
    rw [hS] at h
    obtain ⟨Φ, ht, h⟩ := lkT_ex (show lkT tab C fun Φ => Φ [.ref a, dx] [] S (asBl n q) fun _ _ _ => False from h)
    obtain ⟨φ, sk, hΦ⟩ := T C Φ ht
    obtain ⟨dy, vs, ha, _⟩ := ins_up R hS
    refine ⟨a, cA X.K C, dy, _, _, rfl, ha, sk, B, [.ref a, dx], [], S, _, _, R, Rps.consD (d := .ref a) rfl (.single rx), rfl, hΦ h, fun d v S' H' e' R' r' q' => ?_, fun _ _ _ _ _ _ _ _ _ _ _ z => z.elim⟩
    unfold asBl at q'
    split at q'
    · cases r'
      exact ⟨_, rfl, g (.bl _) _ S' H' e' R' rfl q'⟩
    · exact q'.elim
  · right
    refine ⟨dx, dy, S, q, R, rx, ry, ?_, g⟩
    cases dy with
    | ref a =>
      unfold rInO at h
      dsimp only at h
      split at h
      · rename_i C fs hS
        exact absurd ⟨a, C, fs, rfl, hS⟩ hx
      · exact h
    | _ => exact h

/-! ### o(..), o an instance with its own __call__ -/
section
variable {M : Model} {A : Around} {E : Value → Shared → Prop} {s : Shared} {a : Addr} {pos : Pos} {Q : Value → Shared → Prop}
theorem callX_of {args : List (Bool × Sem Value)} {kws : List (Option Str × Sem Value)} (hplain : (args.any (·.1) || kws.any (·.1.isNone)) = false)
    (h : wpAny M A (evalArgs (.ref a) true args kws) (fun z s₁ => (∃ C ox od, PySem.W.InstAt s₁.heap a ox C od ∧ ox.data = .plain) ∧ wpAny M A (call (.ref a) ([] ++ z.pos) z.kw) Q E s₁) E s) : wpAny M A (callWith pos (.ref a) [] args kws) Q E s := by
  unfold callWith
  refine wpAny_bind (wpAny_holding (wpAny_mono h (fun z s₁ h₁ => wpAny_bind (wpAny_standAt ?_)) fun _ _ y => y))
  obtain ⟨⟨C, ox, od, J, hd⟩, h₁⟩ := h₁
  have L := PySem.W.kco_keeper (M := M) J hd
  simp only [hplain]
  refine wpAny_bind (L.here ?_)
  have tail : ∀ {t : Sem Value}, wpAny M A t Q E s₁ → wpAny M A (t >>= fun r => holding [r] point >>= fun _ => pure r) Q E s₁ :=
    fun ht => wpAny_bind (wpAny_mono ht (fun r s₂ hr => wpAny_bind (wpAny_holding (wpAny_point (wpAny_pure hr)))) fun _ _ y => y)
  exact tail (wpAny_operateT h₁)
end
/-- the def behind C's own __call__ -/
structure CalK (P : Program) (w : World) (K : PySem.W.Frag) (mg : Str → Option Value) (base : Heap) (A : Around) (C : Addr) (φ : PhV) : Prop where
  ex : ∃ f k, PySem.W.findIn K (.ref C) "__call__" = some (some (.ref f)) ∧ PySem.W.isFn K (.ref f) = true ∧ PySem.W.fnIn K f = true ∧ Room k A ∧ FG P w K mg base k f φ
def CondX (X : Cx) (a : Addr) (H : Hp) (k : PhV → Prop) : Prop := ∃ C dx fs φ, H a = some (.ins C dx fs) ∧ CalK X.prog X.w X.K X.mg X.base X.A C φ ∧ k φ
section
variable {X : Cx} {pins : List (Addr × Obj)} {σ : St} {H : Hp} {s : Shared} {a : Addr} {us ws : List Value} {vs zs : List V} {ks : List Str} {Q : VK} {E : XK}
theorem condX_in {k : PhV → Prop} (I : Inv X pins σ H s) (h : CondX X a H k) : ∃ C ox od, PySem.W.InstAt s.heap a ox C od ∧ ox.data = .plain := by
  obtain ⟨C, dx, fs, φ, ha, _⟩ := h
  obtain ⟨mA, O, _⟩ := ins_get I.hok ha
  obtain ⟨od, J, _⟩ := O.look
  exact ⟨_, _, _, J, rfl⟩
theorem run_callX (hx : PassesAt (L2N.CX X.prog X.w) X σ E) (I : Inv X pins σ H s) (r : Vals vs us) (rz : Vals zs ws) (h : CondX X a H fun φ => φ (.ref a :: vs) ks zs H Q E) : wpAny (model X.prog X.w) X.A (call (.ref a) us (ks.zip ws)) (EP X pins σ Q) X.xe s := by
  obtain ⟨C, dx, fs, φ, ha, ⟨f, k, hs, hf, hfn, hr, F⟩, h⟩ := h
  obtain ⟨mA, O, _⟩ := ins_get I.hok ha
  obtain ⟨od, J, _⟩ := O.look
  refine wpAny_call (PySem.W.kco_code (a := ⟨us, ks.zip ws⟩) I.kIn J rfl hs hf hfn (codeAny_mono (F X.A X.stack s H (.ref a :: us) ws (.ref a :: vs) zs ks Q E hr I.env0 (.cons rfl r) rz h) fun r s' hq => ?_))
  cases r with
  | error e => exact hx pins H s e s' I hq
  | ok fl =>
    cases fl with
    | ret u => exact I.after hq
    | next => exact False.elim hq
    | brk => exact False.elim hq
    | cont => exact False.elim hq
end
section
variable {X : Cx} {p pos : Pos} {x : Str} {args : List Expr} {kws : List Keyword} {ks : List Str} {t tk : TA} {to : TE} {E : St → XK}
theorem callwX {pins : List (Addr × Obj)} {σ : St} {H : Hp} {s : Shared} {a : Addr} {Q : VK} {Ex : XK} (ao : ArgsOk X args kws ks pos) (hst : (backTo pos (starEach args X.env)).any (·.1) = false) (ha : PA X args t) (hk : PK X kws tk) (h0 : args = [] → t = tNil) (hx : PassesAt (L2N.CX X.prog X.w) X σ Ex) (I : Inv X pins σ H s)
    (h : t σ H fun vs H1 => tk σ H1 fun zs H2 => CondX X a H2 fun φ => φ (.ref a :: vs) ks zs H2 Q Ex) :
    wpAny (model X.prog X.w) X.A (callWith pos (.ref a) [] (backTo pos (starEach args X.env)) (backToKw pos (keywordEach kws X.env))) (EP X pins σ Q) X.xe s := by
  obtain ⟨n1, n2, n3⟩ := kw_names (pos := pos) (env := X.env) ao.ks
  refine callX_of (by rw [hst, n3]; rfl) ?_
  cases args with
  | nil =>
    rw [h0 rfl] at h
    refine evalArgs_kw2_nil n1 ?_
    refine thn (hk.run pos pins s σ H _ I h) fun ws s2 ⟨zs, H2, I2, rz, q2⟩ => ?_
    rw [n2]
    exact ⟨condX_in I2 q2, run_callX hx I2 .nil rz q2⟩
  | cons e es =>
    refine evalArgs_kw2 n1 (thn (ha.run pos pins s σ H _ I h) fun us s1 ⟨vs, H1, I1, r, q1⟩ => ?_) (ao.one e es rfl)
    refine thn (hk.run pos pins s1 σ H1 _ I1 q1) fun ws s2 ⟨zs, H2, I2, rz, q2⟩ => ?_
    rw [n2]
    exact ⟨condX_in I2 q2, run_callX hx I2 r rz q2⟩
def tCalG (X : Cx) (ks : List Str) (E : St → XK) (to : TE) (t tk : TA) : TE := fun σ H Q => to σ H fun x H1 => ∃ a, x = .ref a ∧ t σ H1 fun vs H2 => tk σ H2 fun zs H3 => CondX X a H3 fun φ => φ (.ref a :: vs) ks zs H3 Q (E σ)
theorem pe_calG (hx : ∀ σ, PassesAt (L2N.CX X.prog X.w) X σ (E σ)) (ao : ArgsOk X args kws ks pos) (hst : (backTo pos (starEach args X.env)).any (·.1) = false) (ho : PE X (.Name x p) to) (ha : PA X args t) (hk : PK X kws tk) (h0 : args = [] → t = tNil) : PE X (.Call (.Name x p) args kws pos) (tCalG X ks E to t tk) :=
  ⟨fun pins s σ H Q I h => wpAny_Call_Name_kw (thn (ho.run pins s σ H _ I h) fun u s1 ⟨y, H1, I1, ry, a, ey, q⟩ => by
    subst ey
    obtain rfl : u = Value.ref a := ry
    exact callwX ao hst ha hk h0 (hx σ) I1 q)⟩
end
def rCal (tab : List (Nat × Fm)) (d : D) (S : Sto) (k : Fm → Prop) : Prop := match d with
  | .ref a => (match S a with
    | some (.ins C _) => lkT tab C k
    | _ => False)
  | _ => False
@[irreducible] noncomputable def hCal : List (Nat × Fm) → D → Sto → (Fm → Prop) → Prop := stuck rCal
theorem hCal_eq : hCal = rCal := by unfold hCal; exact stuck_eq _
theorem cal_ex {tab : List (Nat × Fm)} {d : D} {S : Sto} {k : Fm → Prop} (h : hCal tab d S k) : ∃ a C fs Φ, d = .ref a ∧ S a = some (.ins C fs) ∧ tab.lookup C = some Φ ∧ k Φ := by
  rw [hCal_eq] at h
  unfold rCal at h
  split at h
  · split at h
    · rename_i e
      obtain ⟨Φ, e2, h⟩ := lkT_ex h
      exact ⟨_, _, _, _, rfl, e, e2, h⟩
    · exact h.elim
  · exact h.elim
noncomputable def isRefD (d : D) (k : Prop) : Prop := match d with
  | .ref _ => k
  | _ => False
noncomputable def kCal (tab : List (Nat × Fm)) (to : ED) (t tk : AD) : ED := fun w ρ S q => to w ρ S fun d S1 => isRefD d (t w ρ S1 fun ds S2 => tk w ρ S2 fun zs S3 => hCal tab d S3 fun Φ => Φ (d :: ds) zs S3 q fun C fs S' => w C fs ρ S')
/-- a table of own calls tells the truth -/
def TabX (X : Cx) (ks : List Str) (tab : List (Nat × Fm)) : Prop := ∀ C Φ, tab.lookup C = some Φ → ∃ φ, CalK X.prog X.w X.K X.mg X.base X.A (cA X.K C) (upPh X.K φ) ∧ ∀ {ds zs S q e}, Φ ds zs S q e → φ ds ks zs S q e
def clTab (t : GT) (n : Nat) (ks : List (Option Str)) : List (Nat × Fm) := t.sp.filterMap fun p => if p.1 = ("__call__" : Str) then (fmOf p.2.2 (some n) ks).map fun Φ => (p.2.1, Φ) else none
theorem tabX_ok {X : Cx} {t : GT} (g : GTOk (fun k => Room k X.A) X.prog X.w X.K X.mg X.base t) {n : Nat} {ks : List (Option Str)} : TabX X (ks.filterMap id) (clTab t n ks) := fun C Φ h => by
  obtain ⟨ci, hm, e⟩ := tab_mem (f := fun ci => fmOf ci (some n) ks) h
  obtain ⟨f, k, a, b, b2, hr, F⟩ := (g.sp _ hm).ex
  exact ⟨_, ⟨f, k, a, b, b2, hr.mono (Nat.le_succ _), F⟩, (fmOf_ok e).2⟩
section
variable {X : Cx} {x : Str} {p pos : Pos} {args : List Expr} {kws : List Keyword} {ks : List Str} {t tk : AD} {to : ED}
theorem pd_cal {tab : List (Nat × Fm)} (T : TabX X ks tab) (ao : ArgsOk X args kws ks pos) (hst : (backTo pos (starEach args X.env)).any (·.1) = false) (ho : PD X (.Name x p) to) (ha : PDA X args t) (hk : PDK X kws tk) (h0 : args = [] → t = aNil) (h0k : kws = [] → tk = aNil) :
    PD X (.Call (.Name x p) args kws pos) (kCal tab to t tk) :=
  ⟨fun B W tk' => (pe_calG (fun σ => L2N.passAt tk' σ) ao hst (ho.up B W tk') (tAx_ok (B := B) ha tk') (tKx_ok (B := B) hk tk') (fun z => by subst z; rfl)).imp fun σ H Q h => by
    obtain ⟨ρ, S, q, w, R, L, O, h, g⟩ := h
    refine ⟨ρ, S, _, w, R, L, O, h, fun d v S0 H0 e0 R0 r0 hh => ?_⟩
    unfold isRefD at hh
    split at hh
    · rename_i a
      cases r0
      refine ⟨a, rfl, tAx_up h0 R0 (L.ext e0) (O.ext e0) hh fun ds vs S1 H1 e1 R1 r1 h1 => tKx_up h0k R1 (L.ext (e0.trans e1)) (O.ext (e0.trans e1)) h1 fun es zs S2 H2 e2 R2 r2 h2 => ?_⟩
      obtain ⟨a', C, fs, Φ, ea, hS, ht, h2⟩ := cal_ex h2
      cases ea
      obtain ⟨φ, mo, hΦ⟩ := T C Φ ht
      obtain ⟨dx, vs0, ha0, _, _, _⟩ := ins_up R2 hS
      have E := e0.trans (e1.trans e2)
      exact ⟨cA X.K C, dx, _, _, ha0, mo, ph_up R2 (L.ext E) (O.ext E) (Rps.consD (d := .ref a) rfl (r1.ext e2)) r2 (hΦ h2) fun d v S3 H3 e3 => g d v S3 H3 (E.trans e3)⟩
    · exact hh.elim⟩
end
/-- a def's place holds a function -/
theorem fnin_of {K : PySem.W.Frag} {x qual : Str} {params : Arguments} {body : List Stmt} {scope : Scope} {dvs : List V} {kws : List (Str × V)} {f : Addr} {fd : FuncData} (F : FunD K x qual params body scope dvs kws f fd) : PySem.W.fnIn K f = true := by
  obtain ⟨oc, od, dV, kV, doc, pm, an, cdv, ct, osl, _, lk, _⟩ := F.ex
  unfold PySem.W.fnIn
  rw [lk]
end DL

namespace DL
open PySem PySem.Spec PyProof.Rows L2

/-! ### {} -/
def kDct0 : ED := fun _ _ S q => ∀ p, S p = none → q (.ref p) (S.set p (.dct []))
theorem pd_dct0 {X : Cx} {pos : Pos} : PD X (.Dict [] [] pos) kDct0 :=
  ⟨fun B W tk => pe_dnewK.imp fun σ H Q h => by
    obtain ⟨ρ, S, q, w, R, L, O, h, k⟩ := h
    intro p hp
    exact k (.ref p) (.ref p) (S.set p (.dct [])) _ (Ext.lay R hp _ _) (Rel.lay R hp (show RO _ _ _ p (.dct []) from ⟨[], upd_same, rfl⟩)) rfl (h p (R.free hp))⟩
/-! ### sorted(texts) -/
def strsD' : List D → Option (List (List Nat))
  | [] => some []
  | .str a :: r => (strsD' r).map (a :: ·)
  | _ :: _ => none
theorem strs_up' {K : KB} {S : Sto} {H : Hp} : ∀ {ds : List D} {ys : List (List Nat)} {vs : List V}, strsD' ds = some ys → Rps K S H ds vs → vs = (ys.map mkS).map V.str
  | [], _, _, e, r => by cases r; cases e; rfl
  | d :: ds, ys, _, e, ⟨v, r', e1, h, t⟩ => by
    cases e1
    cases d <;> first | cases e; done | skip
    cases h
    have e : (strsD' ds).map (_ :: ·) = some ys := e
    cases q : strsD' ds with
    | none => rw [q] at e; cases e
    | some cs => rw [q] at e; cases e; rw [strs_up' q t]; rfl
def intsD' : List D → Option (List Int)
  | [] => some []
  | .int a :: r => (intsD' r).map (a :: ·)
  | _ :: _ => none
theorem ints_up' {K : KB} {S : Sto} {H : Hp} : ∀ {ds : List D} {ys : List Int} {vs : List V}, intsD' ds = some ys → Rps K S H ds vs → vs = ys.map V.int
  | [], _, _, e, r => by cases r; cases e; rfl
  | d :: ds, ys, _, e, ⟨v, r', e1, h, t⟩ => by
    cases e1
    cases d <;> first | cases e; done | skip
    cases h
    have e : (intsD' ds).map (_ :: ·) = some ys := e
    cases q : intsD' ds with
    | none => rw [q] at e; cases e
    | some cs => rw [q] at e; cases e; rw [ints_up' q t]; rfl
def sortK (ds : List D) (S : Sto) (q : QD) : Prop := (∃ ys, strsD' ds = some ys ∧ ∀ zs : List (List Nat), zs.Perm ys → sortedS (zs.map mkS) = true → q (.lst (zs.map .str)) S) ∨
  ∃ ns, intsD' ds = some ns ∧ ∀ ms : List Int, ms.Perm ns → ms.Pairwise (· ≤ ·) → q (.lst (ms.map .int)) S
def sortO (o : Option O) (S : Sto) (q : QD) : Prop := match o with
  | some (.lst ds) => sortK ds S q
  | _ => False
def rSortT (x : D) (S : Sto) (q : QD) : Prop := match x with
  | .lst ds => sortK ds S q
  | .ref a => sortO (S a) S q
  | _ => False
@[irreducible] noncomputable def hSort : D → Sto → QD → Prop := stuck rSortT
theorem hSort_eq : hSort = rSortT := by unfold hSort; exact stuck_eq _
theorem rps_mk {K : KB} {S : Sto} {H : Hp} : ∀ zs : List (List Nat), Rps K S H (zs.map .str) ((zs.map mkS).map V.str)
  | [] => rfl
  | _ :: zs => ⟨_, _, rfl, rfl, rps_mk zs⟩
theorem perm_mk {ys : List Str} {zs : List (List Nat)} (h : ys.Perm (zs.map mkS)) : ∃ ws : List (List Nat), ys = ws.map mkS ∧ ws.Perm zs := by
  refine ⟨ys.map TL.tl, ?_, ?_⟩
  · rw [List.map_map]
    have : (mkS ∘ TL.tl) = id := funext fun x => mk_tl x
    rw [this, List.map_id]
  · have := h.map TL.tl
    rw [List.map_map] at this
    have e : (TL.tl ∘ mkS) = id := funext fun x => by show x.toArray.toList = x; simp
    rwa [e, List.map_id] at this
theorem rps_intV {K : KB} {S : Sto} {H : Hp} : ∀ zs : List Int, Rps K S H (zs.map .int) (zs.map V.int)
  | [] => rfl
  | _ :: zs => ⟨_, _, rfl, rfl, rps_intV zs⟩
/-- sorted(xs), texts, any number of them -/
def rSortedSA (K : PySem.W.Frag) : List V → Hp → VK → Prop := fun vs H Q => ∃ (a : Addr) (xs : List Str), vs = [V.ref a] ∧ SqL K H a (xs.map V.str) ∧
  ∀ (ys : List Str) (p : Addr), ys.Perm xs → sortedS ys = true → H p = none → Q (.ref p) (upd H p (.lst (ys.map V.str)))
theorem cr_sortedSA {X : Cx} : CallR X (.builtin "sorted") (rSortedSA X.K) := by
  intro pins s σ H vs us Q I r h
  obtain ⟨a, xs, rfl, hs, q⟩ := h
  obtain ⟨its, rv, hl, hz⟩ := I.list hs
  rw [Vals.ref1 r]
  have hlen0 := rv.length
  rw [List.length_map] at hlen0 hz
  refine PyProof.Rows.sorted_strsAny hl.isList rv.strs (by rw [← hlen0]; exact hz) fun out ys h1 h2 h3 => ?_
  obtain ⟨ep, he'⟩ := PyProof.Rows.sortedAll_at s.heap its out
  have hlen : (ys.map V.str).length ≤ sizeLine := by rw [List.length_map, h2.length_eq]; exact hz
  exact ⟨.ref _, upd H (s.heap.objs.size + 1) (.lst (ys.map V.str)), I.laid (t' := s.toks) (fun _ _ => PyProof.Rows.sortedAll_old) (Nat.le_succ _) ⟨hlen, out.toList, ep, vals_of_strs h1, he'⟩, rfl, q ys _ h2 h3 (I.hok.fresh (Nat.le_succ _))⟩
theorem sortK_up {X : Cx} {K : KB} {S : Sto} {H : Hp} {q : QD} {Q : VK} {ds : List D} {vs : List V} {a : Addr} (hK : K.k = X.K) (R : Rel K S H) (g : Got K S H q Q) (sq : SqL K.k H a vs) (r : Rps K S H ds vs) (h : sortK ds S q) : rSortedSA X.K [.ref a] H Q ∨ rSortedI X.K [.ref a] H Q := by
  rcases h with ⟨ys, e, h⟩ | ⟨ns, e, h⟩
  · have ev := strs_up' e r
    subst ev
    refine .inl ⟨a, ys.map mkS, rfl, hK ▸ sq, fun zs p hp hs hn => ?_⟩
    obtain ⟨ws, rfl, hw⟩ := perm_mk hp
    exact Got.lst g R (rps_mk ws) (h ws hw hs) hn
  · have ev := ints_up' e r
    subst ev
    exact .inr ⟨a, ns, rfl, hK ▸ sq, fun ms p hp hs hn => Got.lst g R (rps_intV ms) (h ms hp hs) hn⟩
theorem bd_sort {X : Cx} : CallD X (.builtin "sorted") (b1 hSort) := CallD.of1 (cr_sortedSA.or cr_sortedI) fun K x v S H q Q hK R r h g => by
  rw [hSort_eq] at h
  cases x <;> first | exact (show False from h).elim | skip
  · obtain ⟨a, vs, rfl, l, r⟩ := r
    exact sortK_up hK R g l.sq r h
  · rename_i a
    cases r
    have h : sortO (S a) S q := h
    cases e : S a with
    | none => rw [e] at h; exact h.elim
    | some o =>
      rw [e] at h
      cases o with
      | lst ds =>
        obtain ⟨vs, hH, r⟩ := (show ∃ vs, H a = some (.lst vs) ∧ Rps _ S H ds vs from R.ob a _ e)
        exact sortK_up hK R g (SqL.of hH) r h
      | ins _ _ => exact h.elim
      | xd _ => exact h.elim
      | cell _ _ => exact h.elim
      | tbl _ => exact h.elim
      | dct _ => exact h.elim
/-! ### a fresh list that may be changed -/
def unf (q : QD) : QD := fun d S => match d with
  | .lst ds => ∀ p, S p = none → q (.ref p) (S.set p (.lst ds))
  | _ => False
def muR (r : List D → Sto → QD → Prop) : List D → Sto → QD → Prop := fun ds S q => r ds S (unf q)
theorem muR_b1 {r : D → Sto → QD → Prop} : muR (b1 r) = b1 fun x S q => r x S (unf q) := by
  funext ds S q
  rcases ds with _ | ⟨d, _ | ⟨z, l⟩⟩ <;> rfl
theorem Got.lstU {K : KB} {S : Sto} {H : Hp} {q : QD} {Q : VK} {ds : List D} {vs : List V} {p : Addr} (g : Got K S H q Q) (R : Rel K S H) (r : Rps K S H ds vs) (h : unf q (.lst ds) S) (hp : H p = none) : Q (.ref p) (upd H p (.lst vs)) :=
  g (.ref p) (.ref p) _ _ (Ext.lay R hp _ _) (Rel.lay R hp (show RO _ _ _ p (.lst ds) from ⟨vs, upd_same, r.ext (Ext.lay R hp _ _)⟩)) rfl (h p (R.free hp))
theorem sortK_upM {X : Cx} {K : KB} {S : Sto} {H : Hp} {q : QD} {Q : VK} {ds : List D} {vs : List V} {a : Addr} (hK : K.k = X.K) (R : Rel K S H) (g : Got K S H q Q) (sq : SqL K.k H a vs) (r : Rps K S H ds vs) (h : sortK ds S (unf q)) : rSortedSA X.K [.ref a] H Q ∨ rSortedI X.K [.ref a] H Q := by
  rcases h with ⟨ys, e, h⟩ | ⟨ns, e, h⟩
  · have ev := strs_up' e r
    subst ev
    refine .inl ⟨a, ys.map mkS, rfl, hK ▸ sq, fun zs p hp hs hn => ?_⟩
    obtain ⟨ws, rfl, hw⟩ := perm_mk hp
    exact Got.lstU g R (rps_mk ws) (h ws hw hs) hn
  · have ev := ints_up' e r
    subst ev
    exact .inr ⟨a, ns, rfl, hK ▸ sq, fun ms p hp hs hn => Got.lstU g R (rps_intV ms) (h ms hp hs) hn⟩
theorem bd_sortM {X : Cx} : CallD X (.builtin "sorted") (muR (b1 hSort)) := muR_b1 ▸ CallD.of1 (cr_sortedSA.or cr_sortedI) fun K x v S H q Q hK R r h g => by
  rw [hSort_eq] at h
  cases x <;> first | exact (show False from h).elim | skip
  · obtain ⟨a, vs, rfl, l, r⟩ := r
    exact sortK_upM hK R g l.sq r h
  · rename_i a
    cases r
    have h : sortO (S a) S (unf q) := h
    cases e : S a with
    | none => rw [e] at h; exact h.elim
    | some o =>
      rw [e] at h
      cases o with
      | lst ds =>
        obtain ⟨vs, hH, r⟩ := (show ∃ vs, H a = some (.lst vs) ∧ Rps _ S H ds vs from R.ob a _ e)
        exact sortK_upM hK R g (SqL.of hH) r h
      | ins _ _ => exact h.elim
      | xd _ => exact h.elim
      | cell _ _ => exact h.elim
      | tbl _ => exact h.elim
      | dct _ => exact h.elim
theorem bd_listM {X : Cx} (hc : X.calm = true) : CallD X (.type "list") (muR (b1 hList)) := muR_b1 ▸ CallD.of1 ((cr_list hc).or (call_list_dK hc)) fun K x v S H q Q hK R r h g => by
  rw [hList_eq] at h
  cases x with
  | lst ds => obtain ⟨a, vs, rfl, l, r⟩ := r; exact .inl (.inl ⟨a, vs, rfl, .inl (hK ▸ l.sq), fun p hp => Got.lstU g R r h hp⟩)
  | rol ds => obtain ⟨a, vs, rfl, l, r⟩ := r; exact .inl (.inl ⟨a, vs, rfl, .inl (hK ▸ l.sq), fun p hp => Got.lstU g R r h hp⟩)
  | tup ds => obtain ⟨a, vs, rfl, l, r⟩ := r; exact .inl (.inl ⟨a, vs, rfl, .inr (hK ▸ l.sq), fun p hp => Got.lstU g R r h hp⟩)
  | str cs =>
    cases r
    obtain ⟨len, h⟩ := (show cs.length ≤ sizeLine ∧ _ from h)
    refine .inl (.inr ⟨mkS cs, rfl, by show cs.toArray.size ≤ _; simpa using len, fun p hp => ?_⟩)
    have e : Rps K S H (cs.map fun c => .str [c]) ((mkS cs).cps.toList.map fun c => V.str ⟨#[c]⟩) := by
      have : (mkS cs).cps.toList = cs := by simp
      rw [this]
      exact rps_signs (cs := cs)
    exact Got.lstU g R e h hp
  | ref a =>
    cases r
    have h : (match S a with
      | some (.lst ds) => unf q (.lst ds) S
      | some (.dct kvs) => unf q (.lst (kvs.map fun kv => keyT kv.1)) S
      | _ => False) := h
    cases eS : S a with
    | none => rw [eS] at h; exact h.elim
    | some o =>
      rw [eS] at h
      cases o with
      | lst ds =>
        obtain ⟨vs, hH, r⟩ := (show ∃ vs, H a = some (.lst vs) ∧ Rps _ S H ds vs from R.ob a _ eS)
        exact .inl (.inl ⟨a, vs, rfl, .inl (SqL.of hH), fun p hp => Got.lstU g R r h hp⟩)
      | ins _ _ => exact h.elim
      | xd _ => exact h.elim
      | cell _ _ => exact h.elim
      | tbl _ => exact h.elim
      | dct kvs =>
        obtain ⟨vs, e1, ra⟩ := dct_up R eS
        have hl : kvs.length = vs.length := by have := ra.length; simpa using this
        exact .inr ⟨a, _, rfl, e1, fun p hp => Got.lstU g R (rps_keys hl) h hp⟩
  | _ => exact (show False from h).elim
end DL

namespace DL
open PySem PySem.Spec PyProof.Rows L2

/-! ### {k: v, ..} -/
def mergeD (kvs more : List (Key × D)) : List (Key × D) := more.foldl (fun acc kv => setD acc kv.1 kv.2) kvs
theorem merge_up {K : KB} {S : Sto} {H : Hp} : ∀ {more : List (Key × D)} {ws : List V} {kvs : List (Key × D)} {vs : List V}, Rps K S H (more.map (·.2)) ws → Rps K S H (kvs.map (·.2)) vs →
    ∃ us, mergeK ((kvs.map (·.1)).zip vs) ((more.map (·.1)).zip ws) = ((mergeD kvs more).map (·.1)).zip us ∧ Rps K S H ((mergeD kvs more).map (·.2)) us
  | [], ws, kvs, vs, h, r => ⟨vs, by first | rfl | (cases h; rfl), r⟩
  | (k, d) :: more, _, kvs, vs, ⟨w, r', e, h1, h2⟩, r => by
    subst e
    obtain ⟨us, e1, r1⟩ := put_up (k := k) h1 r
    obtain ⟨us2, e2, r2⟩ := merge_up (kvs := setD kvs k d) h2 r1
    refine ⟨us2, ?_, r2⟩
    have e1 : putK ((kvs.map (·.1)).zip vs) k w = ((setD kvs k d).map (·.1)).zip us := e1
    show mergeK (putK ((kvs.map (·.1)).zip vs) k w) ((more.map (·.1)).zip r') = _
    rw [e1]
    exact e2
/-- the pairs, from the left -/
def kPairs : List (ED × ED) → XD → St' → Sto → (List (D × D) → Sto → Prop) → Prop
  | [], _, _, S, k => k [] S
  | (tk, tv) :: r, w, ρ, S, k => tk w ρ S fun x S1 => tv w ρ S1 fun y S2 => kPairs r w ρ S2 fun ps S3 => k ((x, y) :: ps) S3
def keysD : List (D × D) → Option (List (Key × D))
  | [] => some []
  | (x, y) :: r => match keyD x with
    | some k => (keysD r).map ((k, y) :: ·)
    | none => none
def rDisp (p : Addr) (ps : List (D × D)) (S : Sto) (q : QD) : Prop := S p = some (.dct []) ∧ ∃ kvs, keysD ps = some kvs ∧ kvs.length ≤ 15 ∧ q (.ref p) (S.set p (.dct (mergeD [] kvs)))
@[irreducible] noncomputable def hDisp : Addr → List (D × D) → Sto → QD → Prop := stuck rDisp
theorem hDisp_eq : hDisp = rDisp := by unfold hDisp; exact stuck_eq _
noncomputable def kDisp (ts : List (ED × ED)) : ED := fun w ρ S q => ∀ p, S p = none → kPairs ts w ρ (S.set p (.dct [])) fun ps S2 => hDisp p ps S2 q
inductive PDP (X : Cx) : List (Option Expr) → List Expr → List (ED × ED) → Prop where
  | nil : PDP X [] [] []
  | cons {k v : Expr} {ks : List (Option Expr)} {vs : List Expr} {tk tv : ED} {ts : List (ED × ED)} (hk : PD X k tk) (hv : PD X v tv) (r : PDP X ks vs ts) : PDP X (some k :: ks) (v :: vs) ((tk, tv) :: ts)
theorem PDP.pps {X : Cx} {ks : List (Option Expr)} {vs : List Expr} {ts : List (ED × ED)} {pos : Pos} (h : PDP X ks vs ts) (B : Addr → Prop) (W : WX) (tk : L2N.Takes X W) : PPs X pos ks vs (ts.map fun p => (upE ⟨X.K, B⟩ W p.1, upE ⟨X.K, B⟩ W p.2)) := by
  induction h with
  | nil => exact pps_nil
  | cons hk hv r ih => exact pps_cons (hk.up B W tk) (hv.up B W tk) ih
theorem PDP.len {X : Cx} {ks : List (Option Expr)} {vs : List Expr} {ts : List (ED × ED)} (h : PDP X ks vs ts) : ks.length = vs.length ∧ ks.all (·.isSome) = true := by
  induction h with
  | nil => exact ⟨rfl, rfl⟩
  | cons hk hv r ih => exact ⟨by simp [ih.1], by simpa using ih.2⟩
theorem pairs_up {K : KB} {W : WX} {σ : St} {ρ : St'} {w : XD} : ∀ {ts : List (ED × ED)} {S : Sto} {H : Hp} {k : List (D × D) → Sto → Prop} {Q : List (V × V) → Hp → Prop}, Rel K S H → Sl K S H ρ σ → WOk K S H w W → kPairs ts w ρ S k →
    (∀ ps us vs S' H', Ext S H S' H' → Rel K S' H' → Rps K S' H' (ps.map (·.1)) us → Rps K S' H' (ps.map (·.2)) vs → k ps S' → Q (us.zip vs) H') → tPairs (ts.map fun p => (upE K W p.1, upE K W p.2)) σ H Q
  | [], S, H, k, Q, R, L, O, h, g => g [] [] [] S H .refl R rfl rfl h
  | (tk, tv) :: ts, S, H, k, Q, R, L, O, h, g => by
    refine ⟨ρ, S, _, w, R, L, O, h, fun d v S1 H1 e1 R1 r1 h1 => ⟨ρ, S1, _, w, R1, L.ext e1, O.ext e1, h1, fun d2 v2 S2 H2 e2 R2 r2 h2 => ?_⟩⟩
    have e12 := e1.trans e2
    exact pairs_up R2 (L.ext e12) (O.ext e12) h2 fun ps us vs S' H' e' R' ru rv hk => g ((d, d2) :: ps) (v :: us) (v2 :: vs) S' H' (e12.trans e') R' ⟨v, us, rfl, (r1.ext e2).ext e', ru⟩ ⟨v2, vs, rfl, r2.ext e', rv⟩ hk
theorem keys_up {K : KB} {S : Sto} {H : Hp} : ∀ {ps : List (D × D)} {kvs : List (Key × D)} {us vs : List V}, keysD ps = some kvs → Rps K S H (ps.map (·.1)) us → Rps K S H (ps.map (·.2)) vs →
    us.zip vs = ((kvs.map (·.1)).zip vs).map (fun kv => (kV kv.1, kv.2)) ∧ Rps K S H (kvs.map (·.2)) vs
  | [], kvs, us, vs, e, ru, rv => by cases e; cases ru; cases rv; exact ⟨rfl, rfl⟩
  | (x, y) :: ps, kvs, _, _, e, ⟨u, us, e1, hu, ru⟩, ⟨v, vs, e2, hv, rv⟩ => by
    subst e1 e2
    unfold keysD at e
    split at e
    · rename_i k hk
      cases q : keysD ps with
      | none => rw [q] at e; cases e
      | some l =>
        rw [q] at e
        cases e
        obtain ⟨h1, h2⟩ := keys_up q ru rv
        have := hu.key hk
        subst this
        refine ⟨?_, v, vs, rfl, hv, h2⟩
        simp only [List.zip_cons_cons, List.map_cons, h1]
    · cases e
theorem pd_disp {X : Cx} {ks : List (Option Expr)} {vs : List Expr} {ts : List (ED × ED)} {pos : Pos} (h : PDP X ks vs ts) (h0 : ks ≠ []) (h15 : ks.length ≤ 15) : PD X (.Dict ks vs pos) (kDisp ts) :=
  ⟨fun B W tk => (pe_disp (h.pps B W tk) h.len.2 h.len.1 h0 h15).imp fun σ H Q h => by
    obtain ⟨ρ, S, q, w, R, L, O, h, g⟩ := h
    intro p hp
    have E1 : Ext S H (S.set p (.dct [])) (upd H p (.dK [])) := Ext.lay R hp _ _
    have R1 : Rel ⟨X.K, B⟩ (S.set p (.dct [])) (upd H p (.dK [])) := Rel.lay R hp (show RO _ _ _ p (.dct []) from ⟨[], upd_same, rfl⟩)
    refine pairs_up R1 (L.ext E1) (O.ext E1) (h p (R.free hp)) fun ps us vs S2 H2 e2 R2 ru rv hk => ?_
    rw [hDisp_eq] at hk
    obtain ⟨hS, kvs, ek, hl, hq⟩ := hk
    obtain ⟨vs0, hH, r0⟩ := dct_up R2 hS
    cases r0
    obtain ⟨h1, h2⟩ := keys_up ek ru rv
    obtain ⟨ws, h3, h4⟩ := merge_up (kvs := []) (vs := []) h2 rfl
    refine ⟨hH, (kvs.map (·.1)).zip vs, h1, ?_, ?_⟩
    · rw [List.length_zip, List.length_map]; omega
    · have h3 : mergeK [] ((kvs.map (·.1)).zip vs) = ((mergeD [] kvs).map (·.1)).zip ws := h3
      rw [h3]
      have ex : Ext S2 H2 (S2.set p (.dct (mergeD [] kvs))) (upd H2 p (.dK (((mergeD [] kvs).map (·.1)).zip ws))) := Ext.put hS _
      exact g (.ref p) (.ref p) _ _ (E1.trans (e2.trans ex)) (Rel.put R2 hS (show RO _ _ _ p (.dct _) from ⟨ws, upd_same, h4.ext ex⟩)) rfl hq⟩
end DL

namespace DL
open PySem PySem.Spec PyProof.Rows L2

/-! ### tuple(x) -/
def rTupOf (x : D) (S : Sto) (q : QD) : Prop := match x with
  | .lst ds => q (.tup ds) S
  | .rol ds => q (.tup ds) S
  | .tup ds => q (.tup ds) S
  | .ref a => (match S a with
    | some (.lst ds) => q (.tup ds) S
    | _ => False)
  | _ => False
theorem bd_tupOf {X : Cx} : CallD X (.type "tuple") (b1 rTupOf) := CallD.of1 (call_r1 rl_tuple) fun K x v S H q Q hK R r h g => by
  cases x with
  | lst ds => obtain ⟨a, vs, rfl, l, r⟩ := r; exact .inl ⟨a, vs, rfl, hK ▸ l.sq, fun p hp => Got.tup g R r h hp⟩
  | rol ds => obtain ⟨a, vs, rfl, l, r⟩ := r; exact .inl ⟨a, vs, rfl, hK ▸ l.sq, fun p hp => Got.tup g R r h hp⟩
  | tup ds => obtain ⟨a, vs, rfl, l, r⟩ := r; exact .inr ⟨a, vs, rfl, hK ▸ l.sq, g (.tup ds) _ _ _ .refl R ⟨a, vs, rfl, l, r⟩ h⟩
  | ref a =>
    cases r
    have h : (match S a with
      | some (.lst ds) => q (.tup ds) S
      | _ => False) := h
    cases eS : S a with
    | none => rw [eS] at h; exact h.elim
    | some o =>
      rw [eS] at h
      cases o with
      | lst ds =>
        obtain ⟨vs, hH, r⟩ := (show ∃ vs, H a = some (.lst vs) ∧ Rps _ S H ds vs from R.ob a _ eS)
        exact .inl ⟨a, vs, rfl, SqL.of hH, fun p hp => Got.tup g R r h hp⟩
      | ins _ _ => exact h.elim
      | xd _ => exact h.elim
      | cell _ _ => exact h.elim
      | tbl _ => exact h.elim
      | dct kvs => exact h.elim
  | _ => exact (show False from h).elim
/-! ### str(n) -/
def rStrI (x : D) (S : Sto) (q : QD) : Prop := match x with
  | .int i => i.natAbs.log2 < 1920 ∧ q (.str (TL.tl (toString i))) S
  | _ => False
theorem bd_strI {X : Cx} : CallD X (.type "str") (b1 rStrI) := CallD.of1 call_str_int fun K x v S H q Q hK R r h g => by
  cases x <;> first | exact (show False from h).elim | skip
  cases r
  obtain ⟨h1, h2⟩ := h
  exact ⟨_, rfl, h1, g (.str _) _ _ _ .refl R (by show V.str _ = V.str _; rw [mk_tl]) h2⟩
@[irreducible] noncomputable def hStrI : D → Sto → QD → Prop := stuck (rStrI)
theorem hStrI_eq : hStrI = (rStrI) := by unfold hStrI; exact stuck_eq _
@[irreducible] noncomputable def hTupOf : D → Sto → QD → Prop := stuck (rTupOf)
theorem hTupOf_eq : hTupOf = (rTupOf) := by unfold hTupOf; exact stuck_eq _
end DL

namespace DL
open PySem PySem.Spec PyProof.Rows L2

/-! ### max, min, sum of a list of ints, bool -/
theorem rps_toV {K : KB} {S : Sto} {H : Hp} : ∀ {ns : List Int} {vs : List V}, Rps K S H (ns.map .int) vs → vs = ns.map V.int
  | [], _, h => by cases h; rfl
  | n :: ns, _, ⟨v, r, e, h1, h2⟩ => by
    subst e
    cases h1
    rw [List.map_cons, rps_toV h2]
def atSq (x : D) (S : Sto) (k : List D → Prop) : Prop := match x with
  | .lst ds => k ds
  | .ref a => (match S a with
    | some (.lst ds) => k ds
    | _ => False)
  | _ => False
theorem atSq_ex {K : KB} {x : D} {S : Sto} {H : Hp} {v : V} {k : List D → Prop} (R : Rel K S H) (r : Rp K S H x v) (h : atSq x S k) : ∃ a vs ds, v = .ref a ∧ SqL K.k H a vs ∧ Rps K S H ds vs ∧ k ds := by
  unfold atSq at h
  split at h
  · obtain ⟨a, vs, rfl, l, r⟩ := r
    exact ⟨a, vs, _, rfl, l.sq, r, h⟩
  · rename_i a
    cases r
    split at h
    · rename_i ds e
      obtain ⟨vs, hH, r⟩ := (show ∃ vs, H a = some (.lst vs) ∧ Rps _ S H ds vs from R.ob a _ e)
      exact ⟨a, vs, ds, rfl, SqL.of hH, r, h⟩
    · exact h.elim
  · exact h.elim
def rMax (x : D) (S : Sto) (q : QD) : Prop := atSq x S fun ds => ∃ ns : List Int, ds = ns.map .int ∧ 0 < ns.length ∧ ∀ m, m ∈ ns → (∀ y, y ∈ ns → y ≤ m) → q (.int m) S
def rMin (x : D) (S : Sto) (q : QD) : Prop := atSq x S fun ds => ∃ ns : List Int, ds = ns.map .int ∧ 0 < ns.length ∧ ∀ m, m ∈ ns → (∀ y, y ∈ ns → m ≤ y) → q (.int m) S
def rSum (x : D) (S : Sto) (q : QD) : Prop := atSq x S fun ds => ∃ ns : List Int, ds = ns.map .int ∧ q (.int ns.sum) S
theorem bd_max {X : Cx} (hc : X.calm = true) : CallD X (.builtin "max") (b1 rMax) := CallD.of1 (cr_max hc) fun K x v S H q Q hK R r h g => by
  obtain ⟨a, vs, ds, rfl, sq, r, ns, rfl, h0, h⟩ := atSq_ex R r h
  rw [rps_toV r] at sq
  exact ⟨a, ns, rfl, hK ▸ sq, h0, fun m h1 h2 => g.int R (h m h1 h2)⟩
theorem bd_min {X : Cx} (hc : X.calm = true) : CallD X (.builtin "min") (b1 rMin) := CallD.of1 (cr_min hc) fun K x v S H q Q hK R r h g => by
  obtain ⟨a, vs, ds, rfl, sq, r, ns, rfl, h0, h⟩ := atSq_ex R r h
  rw [rps_toV r] at sq
  exact ⟨a, ns, rfl, hK ▸ sq, h0, fun m h1 h2 => g.int R (h m h1 h2)⟩
theorem bd_sum {X : Cx} (hc : X.calm = true) : CallD X (.builtin "sum") (b1 rSum) := CallD.of1 (cr_sum hc) fun K x v S H q Q hK R r h g => by
  obtain ⟨a, vs, ds, rfl, sq, r, ns, rfl, h⟩ := atSq_ex R r h
  rw [rps_toV r] at sq
  exact ⟨a, ns, rfl, hK ▸ sq, g.int R h⟩
def rBool (x : D) (S : Sto) (q : QD) : Prop := match x with
  | .int i => q (.bl (i != 0)) S
  | .bl b => q (.bl b) S
  | _ => False
theorem bd_bool {X : Cx} : CallD X (.type "bool") (b1 rBool) := CallD.of1 call_bool1 fun K x v S H q Q hK R r h g => by
  cases x with
  | int i => cases r; exact .inl ⟨i, rfl, g.bl R h⟩
  | bl b => cases r; exact .inr ⟨b, rfl, g.bl R h⟩
  | _ => exact h.elim
@[irreducible] noncomputable def hMax : D → Sto → QD → Prop := stuck (rMax)
theorem hMax_eq : hMax = (rMax) := by unfold hMax; exact stuck_eq _
@[irreducible] noncomputable def hMin : D → Sto → QD → Prop := stuck (rMin)
theorem hMin_eq : hMin = (rMin) := by unfold hMin; exact stuck_eq _
@[irreducible] noncomputable def hSum : D → Sto → QD → Prop := stuck (rSum)
theorem hSum_eq : hSum = (rSum) := by unfold hSum; exact stuck_eq _
@[irreducible] noncomputable def hBool : D → Sto → QD → Prop := stuck (rBool)
theorem hBool_eq : hBool = (rBool) := by unfold hBool; exact stuck_eq _
end DL

namespace DL
open PySem PySem.Spec PyProof.Rows L2

/-! ### raise C(x), C an own exception class -/
/-- the number of the attribute code -/
def codeN : Nat := 5
theorem codeN_eq : fN codeN = "code" := by decide +kernel
/-- what is known of the class of the number n: its name x, its text m, its field f -/
structure ExAt (P : Program) (w : World) (K : PySem.W.Frag) (mg : Str → Option Value) (base : Heap) (k : Nat) (x : Str) (n : Nat) (m : List Nat) (f : Nat) : Prop where
  ex : ∃ (fI : Addr) (fd : FuncData) (ps : List Str), mg x = some (.ref (cA K n)) ∧ OexC K (cA K n) ∧ PySem.W.findIn K (.ref (cA K n)) "__init__" = some (some (.ref fI)) ∧ PySem.W.typeIn K (.ref fI) = some (.type "function") ∧
    FnOk P w K mg base (L2N.CX P w) k fI fd ps (spE1 K (cA K n) (mkS m) (fN f)) ∧ Binds K fd ps []
theorem ExAt.mono {P : Program} {w : World} {K : PySem.W.Frag} {mg : Str → Option Value} {base : Heap} {j k : Nat} {x : Str} {n f : Nat} {m : List Nat} (h : ExAt P w K mg base j x n m f) (hj : j ≤ k) : ExAt P w K mg base k x n m f := by
  obtain ⟨fI, fd, ps, a, b, c, d, e, g⟩ := h.ex
  exact ⟨fI, fd, ps, a, b, c, d, e.mono hj, g⟩
/-- raise C(t): the class, its fields -/
def sRaise (n : Nat) (m : List Nat) (f : Nat) (t : ED) : SD := fun D ρ S => t D.w ρ S fun d S1 => D.w n [(f, d), (codeN, .str m)] ρ S1
section
variable {X : Cx} {k n f : Nat} {m : List Nat} {x : Str}
theorem pds_raise {e : Expr} {t : ED} {p pos pos' : Pos} (hc : X.calm = true) (he : PD X e t) (A : ExAt X.prog X.w X.K X.mg X.base k x n m f) (hr : Room (k + 1) X.A) (hg : Gl X x) (hp : ∀ W, L2N.Takes X W → Passes (L2N.CX X.prog X.w) X fun _ _ _ => False)
    (hdb : (x == ("__debug__" : Str)) = false) (hst : starEach [e] X.env = (false, eval e X.env) :: starEach [] X.env) :
    PDS X (.Raise (some (.Call (.Name x p) [e] [] pos)) none pos') (sRaise n m f t) := by
  obtain ⟨fI, fd, ps, hm, T, iC, tI, F1, hb⟩ := A.ex
  refine ⟨fun B W tk => (L2N.ps_raise hc tk (pmk_oexN (ds := []) (dvs := []) T iC tI F1 hr hb .nil (hp W tk) hg hm (pa_cons (he.up B W tk) pa_nil hst) hdb hst rfl)).imp fun D σ H h => ?_⟩
  obtain ⟨ρ, S, En, R, L, O, kk, h⟩ := h
  refine ⟨ρ, S, _, En.w, R, L, O, h, fun d v S1 H1 e1 R1 r1 h1 => ?_⟩
  refine ⟨Nat.le_of_ble_eq_true rfl, fun a ha => ?_⟩
  refine ⟨a, v, rfl, upd_same, fun dx hn hne => ⟨rfl, dx, [(fN f, v), ("code", .str (mkS m))], ?_, upd_same, ?_, ?_⟩⟩
  · rw [upd_ne (Ne.symm hne), upd_same]
  · rw [upd_ne hne] at hn; exact hn
  · have hn1 : H1 dx = none := by rw [upd_ne hne] at hn; exact hn
    have eH : upd (L2.del (upd (upd (upd (upd H1 a (exo a (cA X.K n) none)) dx (exd dx [("code", .str (mkS m))])) a (exo a (cA X.K n) (some dx))) dx (exd dx [(fN f, v), ("code", .str (mkS m))])) a) dx (.xd [(fN f, v), ("code", .str (mkS m))]) = upd H1 dx (.xd [(fN f, v), ("code", .str (mkS m))]) := by
      funext b
      by_cases hb : b = dx
      · subst hb; rw [upd_same, upd_same]
      · rw [upd_ne hb, upd_ne hb]
        by_cases hba : b = a
        · subst hba; rw [L2.del_same]; exact ha.symm
        · rw [L2.del_ne hba, upd_ne hb, upd_ne hba, upd_ne hb, upd_ne hba]
    rw [eH]
    have E1 : Ext S1 H1 S1 (upd H1 dx (.xd [(fN f, v), ("code", .str (mkS m))])) := Ext.new R1 hn1 _
    refine O n dx [(f, d), (codeN, .str m)] [v, .str (mkS m)] ρ σ S1 _ (e1.trans E1) (Rel.new R1 hn1 _) ((L.ext e1).ext E1) ?_ (R1.free hn1) ⟨v, _, rfl, r1.ext E1, _, _, rfl, rfl, rfl⟩ h1
    rw [upd_same]
    show some (HO.xd [(fN f, v), ("code", .str (mkS m))]) = some (HO.xd [(fN f, v), (fN codeN, .str (mkS m))])
    rw [codeN_eq]
end
end DL

namespace DL
open PySem PySem.Spec PyProof.Rows L2 NdefX LamX

/-! ### closures over data: _law_try -/
/-- the program a reading of closures speaks of -/
structure Th where
  P : Program
  w : World
  K : PySem.W.Frag
  mg : Str → Option Value
  base : Heap
  k : Nat
/-- .. and a maker's frame: its cells, the table of its code objects, their text -/
structure Tx where
  th : Th
  cl : List (Str × Addr)
  tab : Addr
  qual : Str
  js : List (Nat × Str)
/-- a promise over data, without values -/
abbrev LmD := Sto → QD → ExD → Prop
def toldS (cs : Cs) (S : Sto) : Prop := ∀ c o, cs.lookup c = some o → ∃ d, S c = some (.cell o d)
/-- the closure keeps Λ while the cells cs are told -/
def LamPr (θ : Th) (F : NF) (ee : Expr) (T : Option Addr) (cs : Cs) (Λ : LmD) : Prop := ∀ (f : Addr) (B : Addr → Prop) (S : Sto) (H : Hp) (q : QD) (e : ExD) (Q : VK) (E : XK), Rel ⟨θ.K, B⟩ S H → CloAt ⟨θ.K, B⟩ S H F ee T f → toldS cs S → Λ S q e → Got ⟨θ.K, B⟩ S H q Q → exUp ⟨θ.K, B⟩ S H e E →
  CloP θ.P θ.w θ.K θ.mg θ.base θ.k f H Q E
def fieldD (m : List Nat) (fs : List (Nat × D)) : Option D :=
  if mkS m ∈ fL1 then fs.lookup 1 else if mkS m ∈ fL2 then fs.lookup 14 else if mkS m ∈ fL3 then fs.lookup 11 else if mkS m = "UnknownState" then fs.lookup 36 else if mkS m ∈ fL4 then some .non else fs.lookup 9
/-- the own errors of the numbers errs -/
def ErrsOk (K : PySem.W.Frag) (cs3 : List Value) (errs : List Nat) : Prop := ∀ C ∈ errs, FldC K (cA K C) ∧ PySem.W.exmAny K (.ref (cA K C)) cs3 = some true
/-- what _law_try makes of an exception -/
def caught (errs : List Nat) (q : QD) : ExD := fun C fs S' => C ∈ errs ∧ ∃ m d, fs.lookup codeN = some (.str m) ∧ fieldD m fs = some d ∧ q (.tup [.str m, d]) S'
def sp_try (θ : Th) (errs : List Nat) : SpD := fun ds S q _ => ∃ F ee T cs Λ, ∃ q0 : QD, ds = [.clo F ee T] ∧ LamPr θ F ee T cs Λ ∧ toldS cs S ∧ Λ S (fun d S' => q0 (.tup [.str [], d]) S') (caught errs q0) ∧ ∀ d S', q0 d S' → q d S'
section
variable {K : KB} {S : Sto} {H H' : Hp}
theorem lists_up (l : Lists H H') (R : Rel K S H) : Ext S H S H' ∧ Rel K S H' := by
  induction l with
  | refl => exact ⟨.refl, R⟩
  | new l hp ih => exact ⟨ih.1.trans (Ext.new ih.2 hp _), Rel.new ih.2 hp _⟩
theorem toldS_up {cs : Cs} (R : Rel K S H) (t : toldS cs S) : Told cs H := fun c o l => by
  obtain ⟨d, e⟩ := t c o l
  exact (show H c = some (cellH c o) ∧ _ from R.ob c _ e).1
theorem field_up {m : List Nat} {fs : List (Nat × D)} {us : List V} {d : D} (r : Rps K S H (fs.map (·.2)) us) (h : fieldD m fs = some d) : ∃ v, fieldV (mkS m) ((fs.map fun p => fN p.1).zip us) = some v ∧ Rp K S H d v := by
  have get : ∀ (i : Nat) (n : Str), i < attNames.length → fN i = n → fs.lookup i = some d → ∃ v, ((fs.map fun p => fN p.1).zip us).lookup n = some v ∧ Rp K S H d v := fun i n hi e l => e ▸ look_fs hi r l
  unfold fieldD at h
  unfold fieldV
  split at h
  · rename_i c; rw [if_pos c]; exact get 1 _ (by decide) (by decide +kernel) h
  · rename_i c; rw [if_neg c]
    split at h
    · rename_i c; rw [if_pos c]; exact get 14 _ (by decide) (by decide +kernel) h
    · rename_i c; rw [if_neg c]
      split at h
      · rename_i c; rw [if_pos c]; exact get 11 _ (by decide) (by decide +kernel) h
      · rename_i c; rw [if_neg c]
        split at h
        · rename_i c; rw [if_pos c]; exact get 36 _ (by decide) (by decide +kernel) h
        · rename_i c; rw [if_neg c]
          split at h
          · rename_i c; rw [if_pos c]; cases h; exact ⟨.non, rfl, rfl⟩
          · rename_i c; rw [if_neg c]; exact get 9 _ (by decide) (by decide +kernel) h
end
theorem try_up {θ : Th} {errs : List Nat} {cs3 : List Value} (ok : ErrsOk θ.K cs3 errs) {vs : List V} {H : Hp} {Q : VK} {E : XK} (h : upSp θ.K (sp_try θ errs) vs H Q E) : spTry θ.P θ.w θ.K θ.mg θ.base θ.k cs3 vs H Q E := by
  obtain ⟨B, ds, S, q, e, R, r, ⟨F, ee, T, cs, Λ, q0, rfl, pr, ht, hΛ, hq0⟩, g, ex⟩ := h
  have g : Got ⟨θ.K, B⟩ S H q0 Q := fun d v S' H' e' R' r' h => g d v S' H' e' R' r' (hq0 d S' h)
  obtain ⟨v, rfl, rv⟩ := r.one
  obtain ⟨f, rfl, ca⟩ := (show ∃ f, v = .ref f ∧ CloAt ⟨θ.K, B⟩ S H F ee T f from rv)
  have pair : ∀ {m : List Nat} {d : D} {v : V} {S' : Sto} {H' : Hp} {T : Addr}, Ext S H S' H' → Rel ⟨θ.K, B⟩ S' H' → Rp ⟨θ.K, B⟩ S' H' d v → q0 (.tup [.str m, d]) S' → H' T = none → Q (.ref T) (upd H' T (.tup [.str (mkS m), v])) := fun {m d v S' H' T} e' R' r' h n => by
    have E1 := Ext.new R' n (.tup [.str (mkS m), v])
    exact g (.tup [.str m, d]) (.ref T) S' _ (e'.trans E1) (Rel.new R' n _) ⟨T, _, rfl, .inl ⟨upd_same, R'.free n⟩, _, _, rfl, rfl, _, _, rfl, r'.ext E1, rfl⟩ h
  refine ⟨f, F, ee, dvT T, rfl, ca.fn.1, pr f B S H _ _ _ _ R ca ht hΛ (fun d v S' H' e' R' r' h T n => pair e' R' r' h n) fun C dd fs us S' H' e' R' hd hn ru h => ?_⟩
  obtain ⟨hC, m, d, hc, hf, h⟩ := h
  obtain ⟨v, hv, rv⟩ := field_up ru hf
  obtain ⟨c, hc2, rc⟩ := look_fs (i := codeN) (by decide) ru hc
  cases rc
  rw [codeN_eq] at hc2
  refine ⟨_, dd, _, mkS m, v, rfl, rfl, (ok C hC).1, (ok C hC).2, hd, hc2, hv, fun H2 l T n => ?_⟩
  obtain ⟨e2, R2⟩ := lists_up l R'
  exact pair (e'.trans e2) R2 (rv.ext e2) h n

/-! ### a closure's body over data -/
def untell (S : Sto) (cs : Cs) : Sto := fun a => match cs.lookup a with
  | some _ => none
  | none => S a
/-- the cells told again, as in S -/
def retell (S' S : Sto) (cs : Cs) : Sto := fun a => match cs.lookup a with
  | some _ => S a
  | none => S' a
section
variable {K : KB} {S S' : Sto} {H H' : Hp} {cs : Cs} {a : Addr}
theorem untell_out (e : cs.lookup a = none) : untell S cs a = S a := by unfold untell; rw [e]
theorem untell_in {o : Obj} (e : cs.lookup a = some o) : untell S cs a = none := by unfold untell; rw [e]
theorem retell_out (e : cs.lookup a = none) : retell S' S cs a = S' a := by unfold retell; rw [e]
theorem retell_in {o : Obj} (e : cs.lookup a = some o) : retell S' S cs a = S a := by unfold retell; rw [e]
theorem told_out (t : toldS cs S) (h : S a = none) : cs.lookup a = none := by
  cases e : cs.lookup a with
  | none => rfl
  | some o =>
    obtain ⟨d, z⟩ := t a o e
    rw [h] at z; cases z
theorem ext_untell (t : toldS cs S) : Ext S H (untell S cs) (noC H cs) := fun b o h s => by
  have e := told_out t s
  exact ⟨by rw [noC_out e]; exact h, by rw [untell_out e]; exact s⟩
theorem rel_untell (R : Rel K S H) (t : toldS cs S) : Rel K (untell S cs) (noC H cs) := by
  refine ⟨fun b o h => ?_, fun b z => ?_⟩
  · cases e : cs.lookup b with
    | some u => rw [untell_in e] at h; cases h
    | none =>
      rw [untell_out e] at h
      exact (R.ob b o h).ext (ext_untell t) (noC_out e)
  · obtain ⟨⟨o, h⟩, s⟩ := R.bl b z
    obtain ⟨h2, s2⟩ := ext_untell (H := H) t b o h s
    exact ⟨⟨o, h2⟩, s2⟩
theorem gone_out (g : Gone cs H') {o : HO} (h : H' a = some o) : cs.lookup a = none := by
  cases e : cs.lookup a with
  | none => rfl
  | some u => rw [g a u e] at h; cases h
theorem ext_retell (g : Gone cs H') : Ext S' H' (retell S' S cs) (withC H' cs) := fun b o h s => by
  have e := gone_out g h
  exact ⟨by rw [withC_out e]; exact h, by rw [retell_out e]; exact s⟩
theorem rel_retell (R : Rel K S H) (t : toldS cs S) (x : Ext (untell S cs) (noC H cs) S' H') (R' : Rel K S' H') (g : Gone cs H') : Rel K (retell S' S cs) (withC H' cs) := by
  have all : Ext S H (retell S' S cs) (withC H' cs) := (ext_untell t).trans (x.trans (ext_retell g))
  refine ⟨fun b o h => ?_, fun b z => ?_⟩
  · cases e : cs.lookup b with
    | some u =>
      rw [retell_in e] at h
      obtain ⟨d, hd⟩ := t b u e
      rw [hd] at h
      cases h
      obtain ⟨_, v, w, z, y, r⟩ := (show H b = some (cellH b u) ∧ ∃ v w, u.data = .cell (some w) ∧ RelV v w ∧ Rp K S H d v from R.ob b _ hd)
      exact ⟨withC_in e, v, w, z, y, r.ext all⟩
    | none =>
      rw [retell_out e] at h
      exact (R'.ob b o h).ext (ext_retell g) (withC_out e)
  · obtain ⟨⟨o, h⟩, s⟩ := R.bl b z
    obtain ⟨h2, s2⟩ := all b o h s
    exact ⟨⟨o, h2⟩, s2⟩
end
/-- nothing of the store stands at the cells -/
def goneS (cs : Cs) (S : Sto) : Prop := ∀ c o, cs.lookup c = some o → S c = none
/-- the promise of a closure whose body reads t: pd the parameters' values, fr the captured names -/
def lamL (cl : List (Str × Addr)) (fr : List Str) (pd : List D) (cs : Cs) (t : ED) : LmD := fun S q e => ∃ ds : List D, ds.length = fr.length ∧ (∀ (i : Nat) (y : Str) (d : D), fr[i]? = some y → ds[i]? = some d → ∃ c o, cl.lookup y = some c ∧ cs.lookup c = some o ∧ S c = some (.cell o d)) ∧ toldS cs S ∧
  ∃ (q0 : QD) (e0 : ExD), t (fun C fs _ S' => e0 C fs S') (pd.map some ++ ds.map some) (untell S cs) q0 ∧ (∀ d S', q0 d S' → goneS cs S' → q d (retell S' S cs)) ∧ ∀ C fs S', e0 C fs S' → goneS cs S' → e C fs (retell S' S cs)
/-- the slots at the closure's entry -/
theorem cells_up {θ : Th} {B : Addr → Prop} {S : Sto} {H : Hp} {cs : Cs} {cl : List (Str × Addr)} {h : Heap} (hok : HOk θ.P θ.w H h) (R : Rel ⟨θ.K, B⟩ S H) : ∀ {fr : List Str} {ds : List D}, ds.length = fr.length →
    (∀ (i : Nat) (y : Str) (d : D), fr[i]? = some y → ds[i]? = some d → ∃ c o, cl.lookup y = some c ∧ cs.lookup c = some o ∧ S c = some (.cell o d)) →
    ∃ vs : List V, Rps ⟨θ.K, B⟩ S H ds vs ∧ vs.length = fr.length ∧ ∀ (i : Nat) (y : Str) (v : V), fr[i]? = some y → vs[i]? = some v → ∃ c u, cl.lookup y = some c ∧ RelV v u ∧ h.IsCell c (some u)
  | [], [], _, _ => ⟨[], rfl, rfl, fun i y v e _ => by simp at e⟩
  | [], _ :: _, l, _ => by simp at l
  | _ :: _, [], l, _ => by simp at l
  | y :: fr, d :: ds, l, hc => by
    obtain ⟨vs, r, lv, hv⟩ := cells_up (fr := fr) (ds := ds) hok R (by simpa using l) fun i y d e1 e2 => hc (i + 1) y d (by simpa using e1) (by simpa using e2)
    obtain ⟨c, o, e1, e2, e3⟩ := hc 0 y d rfl rfl
    obtain ⟨ho, v, u, z, ry, rd⟩ := (show H c = some (cellH c o) ∧ ∃ v u, o.data = .cell (some u) ∧ RelV v u ∧ Rp _ S H d v from R.ob c _ e3)
    refine ⟨v :: vs, ⟨v, vs, rfl, rd, r⟩, by simp [lv], fun i y2 v2 q1 q2 => ?_⟩
    cases i with
    | zero =>
      simp at q1 q2
      subst q1 q2
      exact ⟨c, u, e1, ry, o, hok_cell hok ho, z⟩
    | succ i => exact hv i y2 v2 (by simpa using q1) (by simpa using q2)
theorem sl_rps {K : KB} {S : Sto} {H : Hp} {ds : List D} {vs : List V} (r : Rps K S H ds vs) : Sl K S H (ds.map some) (vs.map some) := by
  refine ⟨by rw [List.length_map, List.length_map, r.length], fun i d h => ?_⟩
  rw [List.getElem?_map] at h
  cases e : ds[i]? with
  | none => rw [e] at h; cases h
  | some x =>
    rw [e] at h
    cases h
    obtain ⟨v, hv, rv⟩ := r.get e
    exact ⟨v, by rw [List.getElem?_map, hv]; rfl, rv⟩
/-- the forms of a lambda's parameters: none, or one with the default 0 -/
inductive LPar (params : Arguments) : List Str → List D → Bool → Prop
  | zero (h : params = ⟨[], [], none, [], [], none, []⟩) : LPar params [] [] false
  | one (x : Str) (a : Option Expr) (p p2 : Pos) (j : Nat) (h : params = ⟨[], [⟨x, a, p⟩], none, [], [], none, [.Constant (.int 0) j p2]⟩) : LPar params [x] [.int 0] true
theorem lpar_bind {θ : Th} {B : Addr → Prop} {S : Sto} {H : Hp} {s : Shared} {F : NF} {ee : Expr} {T : Option Addr} {ps : List Str} {pd : List D} {b : Bool} (lp : LPar F.params ps pd b) (hT : T.isSome = b) (hk : θ.K.In s.heap) (hok : HOk θ.P θ.w H s.heap) (hd : ∀ a, T = some a → TAt ⟨θ.K, B⟩ S H a [.int 0]) :
    ∃ (us : List Value) (vs : List V), Vals vs us ∧ vs.length = ps.length ∧ (∀ B S H, Rps ⟨θ.K, B⟩ S H pd vs) ∧ ∀ (doc pm ctv : Value), BindsTo s (PySem.W.kdv_fn F.name F.qual F.params (.expr ee) F.scope F.cl (dvT T) doc pm (.ref F.c) ctv) ⟨[], []⟩ (ps.zip us) := by
  obtain ⟨nm, ql, prm, bd, sc, cl, c⟩ := F
  cases lp with
  | zero h =>
    cases T with
    | some _ => cases hT
    | none =>
      have h : prm = _ := h
      subst h
      exact ⟨[], [], .nil, rfl, fun _ _ _ => rfl, fun doc pm ctv => .of_eq rfl⟩
  | one x a p p2 j h =>
    cases T with
    | none => cases hT
    | some T =>
      have h : prm = _ := h
      subst h
      have go : ∀ (o : Obj) (its : Array Value) (n : Nat), s.heap.get? T = some o → o.data = .seq its n → Vals [.int 0] its.toList →
          ∃ (us : List Value) (vs : List V), Vals vs us ∧ vs.length = [x].length ∧ (∀ B S H, Rps ⟨θ.K, B⟩ S H [.int 0] vs) ∧ ∀ (doc pm ctv : Value), BindsTo s (PySem.W.kdv_fn nm ql ⟨[], [⟨x, a, p⟩], none, [], [], none, [.Constant (.int 0) j p2]⟩ (.expr ee) sc cl (dvT (some T)) doc pm (.ref c) ctv) ⟨[], []⟩ ([x].zip us) := fun o its n ho hd rv => by
        obtain ⟨u, hu, ru⟩ := rv.get (show [V.int 0][0]? = some (.int 0) from rfl)
        have hl := rv.length
        have e1 : its = #[u] := by
          have : its.toList = [u] := by
            cases q : its.toList with
            | nil => rw [q] at hu; simp at hu
            | cons a l =>
              rw [q] at hu hl
              simp at hu hl
              rw [hu, hl]
          rw [← Array.toList_inj]; exact this
        subst e1
        refine ⟨[u], [.int 0], .cons ru .nil, rfl, fun _ _ _ => ⟨_, _, rfl, rfl, rfl⟩, fun doc pm ctv => ?_⟩
        refine BindsTo.of_defaults (k := _) rfl ho hd rfl ?_
        simp
      rcases hd T rfl with ⟨ht, _⟩ | ⟨o, its, n, lk, _, hd, _, rv⟩
      · obtain ⟨_, its, rv, o, ho, _, n, hd⟩ := hok T _ ht
        exact go o _ n ho hd (by simpa using rv)
      · exact go o its n (hk _ _ lk) hd rv
theorem lam_pr {θ : Th} {F : NF} {ee : Expr} {T : Option Addr} {ps fr : List Str} {pd : List D} {b : Bool} {cs : Cs} {t : ED} {k : Nat} (hk : θ.k = k + 1) (Sc : NScope (ps ++ fr) ps fr F.scope) (lp : LPar F.params ps pd b) (hT : T.isSome = b)
    (inj : ∀ x y c, F.cl.lookup x = some c → F.cl.lookup y = some c → x = y) (dom : ∀ y c, F.cl.lookup y = some c → ∃ o, cs.lookup c = some o) (isC : ∀ c o, cs.lookup c = some o → ∃ v, o.data = .cell v)
    (body : ∀ (f : Addr) (A : Around) (outer : List Env) (s : Shared) (H : Hp) (E : XK), Room k (A.deeper (envF F f s.heap.objs.size)) → PD (ncx (L2N.CX θ.P θ.w) θ.P θ.w θ.K θ.mg θ.base (ps ++ fr) F f A outer s H E) ee t) :
    LamPr θ F ee T cs (lamL F.cl fr pd cs t) := by
  intro f B S H q ex Q E R ca ht' h g gx A outer s hr e0
  obtain ⟨ds, ld, hc, ht, q0, e0', hb, hq0, he0⟩ := h
  obtain ⟨us, vs, rv, lv, rp, bd⟩ := lpar_bind (θ := θ) (s := s) (ee := ee) lp hT (e0.mod.kin.keeps fun b o e => (e0.bs b o e).1) e0.hok ca.df
  obtain ⟨ws, rw, lw, hw⟩ := cells_up (θ := θ) (cs := cs) (cl := F.cl) (fr := fr) e0.hok R ld hc
  have tc : Told cs H := toldS_up R ht
  have C : CellsAt F.cl fr (ws.map some) s.heap (noC H cs) := by
    refine ⟨by rw [List.length_map]; exact lw, fun y c l => ?_, inj, fun i y e1 => ?_⟩
    · obtain ⟨o, lo⟩ := dom y c l
      obtain ⟨v, z⟩ := isC c o lo
      exact ⟨noC_in lo, v, o, tc.inn e0.hok c o lo, z⟩
    · have hi : i < ws.length := by rw [lw]; exact (List.getElem?_eq_some_iff.mp e1).1
      obtain ⟨c, u, l, r, z⟩ := hw i y ws[i] e1 (List.getElem?_eq_getElem hi)
      refine ⟨c, l, fun v hv => ?_⟩
      rw [List.getElem?_map, List.getElem?_eq_getElem hi] at hv
      cases hv
      exact ⟨u, r, z⟩
  rw [hk] at hr
  refine clo_run (k := k) (F := F) (e := ee) (dV := dvT T) (ws := ws.map some) Sc hr e0 ca.fn.1 ca.cd.1 tc C rv lv (fun doc pm ctv M A Q E q => bd doc pm ctv M A E Q q) (fun hr2 => (body f A outer s _ _ hr2).up B (fun cls d _ H' => Gone cs H' → E cls d (withC H' cs)) (L2N.takes_of rfl rfl rfl rfl)) ?_
  have R0 := rel_untell (cs := cs) R ht
  have X0 := ext_untell (H := H) ht
  have gs : ∀ {S' : Sto} {H' : Hp}, Rel ⟨θ.K, B⟩ S' H' → Gone cs H' → goneS cs S' := fun R' gn c o l => R'.free (gn c o l)
  refine ⟨pd.map some ++ ds.map some, untell S cs, _, _, R0, ?_, fun C dd fs xs ρ' σ' S' H' e' R' _ hd hn rx hw gn => ?_, hb, fun d v S' H' e' R' rd hq gn => ?_⟩
  · have e1 : startF (ps ++ fr) vs (ws.map some) = (vs ++ ws).map some := by
      unfold startF
      have z : (ps ++ fr).length - vs.length - (ws.map some).length = 0 := by rw [List.length_append, List.length_map, lv, lw]; omega
      rw [z, List.replicate_zero, List.append_nil, List.map_append]
    rw [e1, ← List.map_append]
    exact sl_rps ((rp B _ _).append (rw.ext X0))
  · have x2 := ext_retell (S := S) (S' := S') gn
    exact gx C dd fs xs _ _ (X0.trans (e'.trans x2)) (rel_retell R ht e' R' gn) (x2 dd _ hd hn).1 (x2 dd _ hd hn).2 (rx.ext x2) (he0 _ _ _ hw (gs R' gn))
  · have x2 := ext_retell (S := S) (S' := S') gn
    exact g d v _ _ (X0.trans (e'.trans x2)) (rel_retell R ht e' R' gn) (rd.ext x2) (hq0 _ _ hq (gs R' gn))
/-! ### the maker tells its cells -/
def tell (S : Sto) (cs : Cs) (dv : Addr → D) : Sto := fun a => match cs.lookup a with
  | some o => some (.cell o (dv a))
  | none => S a
section
variable {K : KB} {S S' : Sto} {H H' : Hp} {cs : Cs} {dv : Addr → D}
theorem tell_in {a : Addr} {o : Obj} (e : cs.lookup a = some o) : tell S cs dv a = some (.cell o (dv a)) := by unfold tell; rw [e]
theorem tell_out {a : Addr} (e : cs.lookup a = none) : tell S cs dv a = S a := by unfold tell; rw [e]
theorem tell_told : toldS cs (tell S cs dv) := fun c o l => ⟨dv c, tell_in l⟩
theorem untell_tell (g : goneS cs S) : untell (tell S cs dv) cs = S := by
  funext a
  cases e : cs.lookup a with
  | none => rw [untell_out e, tell_out e]
  | some o => rw [untell_in e, g a o e]
theorem retell_tell : retell S' (tell S cs dv) cs = tell S' cs dv := by
  funext a
  cases e : cs.lookup a with
  | none => rw [retell_out e, tell_out e]
  | some o => rw [retell_in e, tell_in e, tell_in e]
theorem ext_tell (g : Gone cs H) : Ext S H (tell S cs dv) (withC H cs) := fun a o h s => by
  have e := gone_out g h
  exact ⟨by rw [withC_out e]; exact h, by rw [tell_out e]; exact s⟩
theorem rel_tell (R : Rel K S H) (g : Gone cs H) (hv : ∀ c o, cs.lookup c = some o → ∃ v u, o.data = .cell (some u) ∧ RelV v u ∧ Rp K S H (dv c) v) : Rel K (tell S cs dv) (withC H cs) := by
  refine ⟨fun a o h => ?_, fun a z => ?_⟩
  · cases e : cs.lookup a with
    | some u =>
      rw [tell_in e] at h
      cases h
      obtain ⟨v, w, d, y, r⟩ := hv a u e
      exact ⟨withC_in e, v, w, d, y, r.ext (ext_tell g)⟩
    | none =>
      rw [tell_out e] at h
      exact (R.ob a o h).ext (ext_tell g) (withC_out e)
  · obtain ⟨⟨o, h⟩, s⟩ := R.bl a z
    obtain ⟨h2, s2⟩ := ext_tell (dv := dv) g a o h s
    exact ⟨⟨o, h2⟩, s2⟩
/-- behind the call -/
theorem ext_back (g : Gone cs H) (x : Ext (tell S cs dv) (withC H cs) S' H') : Ext S H (untell S' cs) (noC H' cs) := fun a o h s => by
  have e := gone_out g h
  obtain ⟨h2, s2⟩ := x a o (by rw [withC_out e]; exact h) (by rw [tell_out e]; exact s)
  exact ⟨by rw [noC_out e]; exact h2, by rw [untell_out e]; exact s2⟩
end
/-- cs, dv: the cells of the slots js and what they hold -/
structure CapD (cl : List (Str × Addr)) (js : List (Nat × Str)) (ρ : St') (cs : Cs) (dv : Addr → D) : Prop where
  to : ∀ p ∈ js, ∃ c o, cl.lookup p.2 = some c ∧ cs.lookup c = some o ∧ ρ[p.1]? = some (some (dv c)) ∧ ∃ v, o.data = .cell v
  of : ∀ c o, cs.lookup c = some o → ∃ p ∈ js, cl.lookup p.2 = some c
/-- the slots whose values are known -/
def known (JS : List (Nat × Str)) (ρ : St') : List (Nat × Str) := JS.filter fun p => match ρ[p.1]? with
  | some (some _) => true
  | _ => false
theorem known_mem {JS : List (Nat × Str)} {ρ : St'} {p : Nat × Str} (h : p ∈ known JS ρ) : p ∈ JS ∧ ∃ d, ρ[p.1]? = some (some d) := by
  obtain ⟨h1, h2⟩ := List.mem_filter.mp h
  refine ⟨h1, ?_⟩
  split at h2
  · rename_i d e; exact ⟨d, e⟩
  · cases h2
theorem mem_known {JS : List (Nat × Str)} {ρ : St'} {p : Nat × Str} {d : D} (h : p ∈ JS) (e : ρ[p.1]? = some (some d)) : p ∈ known JS ρ := by
  refine List.mem_filter.mpr ⟨h, ?_⟩
  rw [e]
/-- behind the call the cells are told no more -/
def backQ (cs : Cs) (q : QD) : QD := fun d S' => toldS cs S' ∧ q d (untell S' cs)
/-- x(t, ..), the cells told -/
def eTold (cl : List (Str × Addr)) (JS : List (Nat × Str)) (sp : SpD) (t : AD) : ED := fun w ρ S q => t w ρ S fun ds S1 => ∀ cs dv, CapD cl (known JS ρ) ρ cs dv → goneS cs S1 → sp ds (tell S1 cs dv) (backQ cs q) fun _ _ _ => False
section
variable {X : Cx} {k : Nat} {f : Addr} {fd : FuncData} {ps : List Str} {sp : SpD} {x : Str} {p pos : Pos} {e : Expr} {es : List Expr} {t : AD} {JS : List (Nat × Str)}
theorem pd_told (F : FnOk X.prog X.w X.K X.mg X.base (L2N.CX X.prog X.w) k f fd ps (upSp X.K sp)) (hr : Room k X.A) (fn : ∀ y, X.fn y = true) (hj : ∀ p ∈ JS, X.N[p.1]? = some p.2 ∧ X.env.kindOf p.2 = some .cell) (nd : ∀ p ∈ JS, ∀ r ∈ JS, p.2 = r.2 → p.1 = r.1)
    (hg : Gl X x) (hm : X.mg x = some (.ref f)) (hk : PySem.W.keepIn X.K (.ref f) = true) (hb : Binds X.K fd ps []) (ha : PDA X (e :: es) t) (hdb : (x == ("__debug__" : Str)) = false) (he : starEach (e :: es) X.env = (false, eval e X.env) :: starEach es X.env) (hpl : (backTo pos (starEach es X.env)).any (·.1) = false) :
    PD X (.Call (.Name x p) (e :: es) [] pos) (eTold X.env.cells JS sp t) := by
  refine ⟨fun B W tk => ?_⟩
  have base := pe_told (q := p) F hr fn hj hg hm hk hb (ha.up B W tk) hdb he hpl
  refine ⟨fun pins s σ H Q I h => base.run pins s σ H Q I ?_⟩
  have inj := I.ok.inj
  obtain ⟨ρ, S, q, w, R, L, O, h, kk⟩ := h
  refine ⟨ρ, S, _, w, R, L, O, h, fun ds vs S1 H1 e1 R1 r1 h1 => ?_⟩
  have L1 := L.ext e1
  refine ⟨known JS ρ, fun p hp => ?_, fun cs cf gn => ?_⟩
  · obtain ⟨hp, d, hd⟩ := known_mem hp
    obtain ⟨v, hv, _⟩ := L1.at_ _ _ hd
    exact ⟨hp, v, hv⟩
  have val : ∀ c, (∃ p ∈ known JS ρ, X.env.cells.lookup p.2 = some c) → ∃ d, ∀ p ∈ known JS ρ, X.env.cells.lookup p.2 = some c → ρ[p.1]? = some (some d) := fun c ⟨p, hp, l⟩ => by
    obtain ⟨hp', d, hd⟩ := known_mem hp
    refine ⟨d, fun r hr l2 => ?_⟩
    rw [nd r (known_mem hr).1 p hp' (inj _ _ _ l2 l)]
    exact hd
  classical
  let dv : Addr → D := fun c => if h : ∃ p ∈ known JS ρ, X.env.cells.lookup p.2 = some c then (val c h).choose else .non
  have hdv : ∀ p ∈ known JS ρ, ∀ c, X.env.cells.lookup p.2 = some c → ρ[p.1]? = some (some (dv c)) := fun p hp c l => by
    have ex : ∃ p ∈ known JS ρ, X.env.cells.lookup p.2 = some c := ⟨p, hp, l⟩
    show _ = some (some (if h : _ then _ else _))
    rw [dif_pos ex]
    exact (val c ex).choose_spec p hp l
  have h2 := h1 cs dv ⟨fun p hp => by
    obtain ⟨v, c, o, u, a1, a2, a3, a4, a5⟩ := cf.to p hp
    exact ⟨c, o, a2, a3, hdv p hp c a2, _, a4⟩, cf.of⟩ fun c o l => R1.free (gn c o l)
  have R2 : Rel ⟨X.K, B⟩ (tell S1 cs dv) (withC H1 cs) := rel_tell R1 gn fun c o l => by
    obtain ⟨p, hp, lc⟩ := cf.of c o l
    obtain ⟨v, c', o', u, a1, a2, a3, a4, a5⟩ := cf.to p hp
    rw [lc] at a2
    cases a2
    rw [l] at a3
    cases a3
    obtain ⟨v2, b1, b2⟩ := L1.at_ _ _ (hdv p hp c lc)
    rw [a1] at b1
    cases b1
    exact ⟨v, u, a4, a5, b2⟩
  have x1 := ext_tell (S := S1) (dv := dv) gn
  refine ⟨B, ds, _, _, _, R2, r1.ext x1, h2, fun d v S' H' e' R' rd hq => ?_, fun _ _ _ _ _ _ _ _ _ _ _ z => z.elim⟩
  obtain ⟨t', hq⟩ := hq
  exact ⟨toldS_up R' t', kk d v _ _ (e1.trans (ext_back gn e')) (rel_untell R' t') (rd.ext (ext_untell t')) hq⟩
end
end DL

namespace DL
open PySem PySem.Spec PyProof.Rows L2 NdefX LamX
/-! ### a lambda is made -/
abbrev hTab_0 (S : Sto) (p : Addr) (q : Str) (k : Prop) : Prop := S p = some (.tbl q) ∧ k
@[irreducible] noncomputable def hTab (S : Sto) (p : Addr) (q : Str) (k : Prop) : Prop := stuck (@hTab_0) S p q k
theorem hTab_eq (S : Sto) (p : Addr) (q : Str) (k : Prop) : hTab S p q k = (S p = some (.tbl q) ∧ k) := by unfold hTab; rw [stuck_eq]
theorem hTab_i {S : Sto} {p : Addr} {q : Str} {k : Prop} (e : S p = some (.tbl q)) (h : k) : hTab S p q k := by rw [hTab_eq]; exact ⟨e, h⟩
/-- what is known of a closure of the maker x: the names it captures, its parameters' values, its body's reading -/
structure Prom (x : Tx) (F : NF) (e : Expr) (T : Option Addr) (js : List (Nat × Str)) (pd : List D) (t : ED) : Prop where
  sub : ∀ p ∈ js, p ∈ x.js
  cm : ∀ y c, F.cl.lookup y = some c → x.cl.lookup y = some c ∧ y ∈ js.map (·.2)
  has : ∀ p ∈ js, ∃ c, F.cl.lookup p.2 = some c
  pr : ∀ cs : Cs, (∀ y c, F.cl.lookup y = some c → ∃ o, cs.lookup c = some o) → (∀ c o, cs.lookup c = some o → ∃ v, o.data = .cell v) → LamPr x.th F e T cs (lamL F.cl (js.map (·.2)) pd cs t)
noncomputable def eLam (x : Tx) (js : List (Nat × Str)) (pd : List D) (t : ED) : ED := fun _ _ S q => hTab S x.tab (x.qual ++ "<lambda>") (∀ F e T, Prom x F e T js pd t → q (.clo F e T) S)
section
variable {X : Cx} {c : Addr} {params : Arguments} {body : Expr} {scope : Scope} {pos : Pos}
theorem lam_upD {B : Addr → Prop} {S : Sto} {H : Hp} {q : QD} {Q : VK} {P : Addr} {T : Option Addr} (R : Rel ⟨X.K, B⟩ S H) (g : Got ⟨X.K, B⟩ S H q Q) (hP : S P = some (.tbl (X.env.qual ++ "<lambda>"))) (hT : ∀ a, T = some a → TAt ⟨X.K, B⟩ S H a [.int 0])
    (h : ∀ c', q (.clo (lamF X params scope c') body T) S) : lamK X P params body scope pos (dvT T) H Q := by
  obtain ⟨ps, hu, ht, ha⟩ := (show TblAt _ S H P _ from R.ob P _ hP)
  have fin : ∀ {H1 : Hp} {f c' : Addr}, Ext S H S H1 → Rel ⟨X.K, B⟩ S H1 → XAt ⟨X.K, B⟩ S H1 c' (CodeO c' (X.env.qual ++ "<lambda>")) → H1 f = none → Q (.ref f) (upd H1 f (LamO f (lamF X params scope c') body (dvT T))) := fun {H1 f c'} e1 R1 xc n => by
    have E1 := Ext.new R1 n (LamO f (lamF X params scope c') body (dvT T))
    exact g (.clo (lamF X params scope c') body T) (.ref f) S _ (e1.trans E1) (Rel.new R1 n _) ⟨f, rfl, ⟨upd_same, R1.free n, R1.nb n⟩, xc.ext E1, fun a z => (hT a z).ext (e1.trans E1)⟩ (h c')
  refine ⟨ps, hu, ht, fun _ c' f n1 n2 n3 n4 n5 => ?_, fun cv hc => ?_⟩
  · have eL : (ps ++ #[rawInt pos.line, rawInt pos.col, .ref c']).toList = ps.toList ++ [rawInt pos.line, rawInt pos.col, .ref c'] := by simp
    have sw : upd (upd H P (.tbl (ps ++ #[rawInt pos.line, rawInt pos.col, .ref c']))) c' (CodeO c' (X.env.qual ++ "<lambda>")) = upd (upd H c' (CodeO c' (X.env.qual ++ "<lambda>"))) P (.tbl (ps ++ #[rawInt pos.line, rawInt pos.col, .ref c'])) := by
      funext b
      by_cases hb : b = c'
      · subst hb; rw [upd_same, upd_ne n5, upd_same]
      · rw [upd_ne hb]
        by_cases hp : b = P
        · subst hp; rw [upd_same, upd_same]
        · rw [upd_ne hp, upd_ne hp, upd_ne hb]
    have E1 := Ext.new R n1 (CodeO c' (X.env.qual ++ "<lambda>"))
    have R1 := Rel.new R n1 (CodeO c' (X.env.qual ++ "<lambda>"))
    have sS : S.set P (.tbl (X.env.qual ++ "<lambda>")) = S := by
      funext b
      by_cases hb : b = P
      · subst hb; rw [Sto.set_same, hP]
      · rw [Sto.set_ne hb]
    have E2 := Ext.put (H := upd H c' (CodeO c' (X.env.qual ++ "<lambda>"))) hP (o' := .tbl (X.env.qual ++ "<lambda>")) (.tbl (ps ++ #[rawInt pos.line, rawInt pos.col, .ref c']))
    have xc : XAt ⟨X.K, B⟩ S (upd H c' (CodeO c' (X.env.qual ++ "<lambda>"))) c' (CodeO c' (X.env.qual ++ "<lambda>")) := ⟨upd_same, R.free n1, R.nb n1⟩
    have R2 := Rel.put R1 hP (o' := .tbl (X.env.qual ++ "<lambda>")) (u := .tbl (ps ++ #[rawInt pos.line, rawInt pos.col, .ref c'])) ⟨_, upd_same, by rw [eL]; exact PySem.TriplesOk_snoc _ _ _ _ ht, fun p cv hcv => by
      rw [eL] at hcv
      rcases among_app _ ht hcv with z | z
      · obtain ⟨c, e, xa⟩ := ha p cv z
        exact ⟨c, e, (xa.ext E1).ext E2⟩
      · exact ⟨c', z, xc.ext E2⟩⟩
    rw [sS] at E2 R2
    rw [sw]
    refine fin (E1.trans E2) R2 (xc.ext E2) ?_
    rw [upd_ne n4, upd_ne (Ne.symm n3)]; exact n2
  · obtain ⟨c', e, xa⟩ := ha pos cv hc
    exact ⟨c', e, fun f n => fin .refl R xa n⟩
theorem pd_lam {x : Tx} {k : Nat} {ps fr : List Str} {js : List (Nat × Str)} {pd : List D} {b : Bool} {t : ED} (TB : TabB X.base X.mg c x.tab) (hcode : X.env.code = .ref c) (hx : x.cl = X.env.cells) (hqual : x.qual = X.env.qual) (hth : x.th = ⟨X.prog, X.w, X.K, X.mg, X.base, k + 1⟩)
    (lp : LPar params ps pd b) (Sc : NScope (ps ++ fr) ps fr scope) (hfr : ∀ y ∈ fr, X.env.kindOf y = some .cell) (hjs : js.map (·.2) = fr) (hsub : ∀ p ∈ js, p ∈ x.js)
    (hb : ∀ (F : NF) (f : Addr) (A : Around) (outer : List Env) (s : Shared) (H : Hp) (E : XK), F.scope = scope → Room k (A.deeper (envF F f s.heap.objs.size)) → PD (ncx (L2N.CX X.prog X.w) X.prog X.w X.K X.mg X.base (ps ++ fr) F f A outer s H E) body t) :
    PD X (.Lambda params body scope pos) (eLam x js pd t) := by
  subst hjs
  have hfree : X.Ok → ∀ y ∈ scope.names, y.2 = .free → ∃ c, X.env.cells.lookup y.1 = some c := fun ok y hy e => ok.has _ (.inl (hfr _ (Sc.free y hy e)))
  have fin : ∀ (B : Addr → Prop) (ok : X.Ok) (c' : Addr) (T : Option Addr), T.isSome = b → Prom x (lamF X params scope c') body T js pd t := fun B ok c' T hT => by
    have cm : ∀ y c, (lamF X params scope c').cl.lookup y = some c → X.env.cells.lookup y = some c := fun y c e => clo_cm (hfree ok) e
    refine ⟨hsub, fun y c e => ⟨by rw [hx]; exact cm y c e, ?_⟩, fun p hp => ?_, fun cs dom isC => ?_⟩
    · rcases cloFrom_mem (PySem.mem_of_lookup (show (cloFrom X.env.cells scope.names []).lookup y = some c from e)) with z | ⟨z, _⟩
      · cases z
      · exact Sc.free _ z rfl
    · have hy : p.2 ∈ js.map (·.2) := List.mem_map.mpr ⟨p, hp, rfl⟩
      obtain ⟨c, hc⟩ := ok.has p.2 (.inl (hfr p.2 hy))
      exact ⟨c, clo_has (hfree ok) (PySem.mem_of_lookup (Sc.frk p.2 hy)) hc⟩
    · rw [hth]
      exact lam_pr (θ := ⟨X.prog, X.w, X.K, X.mg, X.base, k + 1⟩) (F := lamF X params scope c') (k := k) rfl Sc lp hT (fun y z c e1 e2 => ok.inj y z c (cm y c e1) (cm z c e2)) dom isC fun f A outer s H E hr => hb _ f A outer s H E rfl hr
  cases lp with
  | zero h =>
    subst h
    refine ⟨fun B W tk => ⟨fun pins s σ H Q I h => (pe_lam0 TB hcode hfree rfl).run pins s σ H Q I ?_⟩⟩
    obtain ⟨ρ, S, q, w, R, L, O, h, kk⟩ := h
    unfold eLam at h
    rw [hTab_eq] at h
    obtain ⟨hP, h⟩ := h
    rw [hqual] at hP
    exact lam_upD (T := none) R kk hP (fun a z => by cases z) fun c' => h _ _ _ (fin B I.ok c' none rfl)
  | one y a p p2 j h =>
    subst h
    refine ⟨fun B W tk => ⟨fun pins s σ H Q I h => (pe_lam1 (i := 0) TB hcode hfree rfl rfl).run pins s σ H Q I fun T hT => ?_⟩⟩
    obtain ⟨ρ, S, q, w, R, L, O, h, kk⟩ := h
    unfold eLam at h
    rw [hTab_eq] at h
    obtain ⟨hP, h⟩ := h
    rw [hqual] at hP
    have E1 := Ext.new R hT (.tup [.int 0])
    exact lam_upD (T := some T) (Rel.new R hT _) (fun d v S' H' e' => kk d v S' H' (E1.trans e')) hP (fun a z => by cases z; exact .inl ⟨upd_same, R.free hT⟩) fun c' => h _ _ _ (fin B I.ok c' (some T) rfl)
end
/-! ### what the maker's told calls answer -/
/-- the captured values -/
def capsI (ρ : St') : List (Nat × Str) → Option (List D)
  | [] => some []
  | p :: js => match ρ[p.1]? with
    | some (some d) => (match capsI ρ js with
      | some es => some (d :: es)
      | none => none)
    | _ => none
theorem capsI_ok {ρ : St'} : ∀ {js : List (Nat × Str)} {es : List D}, capsI ρ js = some es → es.length = js.length ∧ ∀ (i : Nat) (p : Nat × Str) (d : D), js[i]? = some p → es[i]? = some d → ρ[p.1]? = some (some d)
  | [], _, h => by cases h; exact ⟨rfl, fun i y d e _ => by simp at e⟩
  | z :: js, es, h => by
    unfold capsI at h
    split at h
    · rename_i d e2
      split at h
      · rename_i es' e3
        cases h
        obtain ⟨l, a⟩ := capsI_ok e3
        refine ⟨by simp [l], fun i y d' q1 q2 => ?_⟩
        cases i with
        | zero =>
          simp at q1 q2
          subst q1 q2
          exact e2
        | succ i => exact a i y d' (by simpa using q1) (by simpa using q2)
      · cases h
    · cases h
/-- the closure d is called: its body reads t -/
def run1 (x : Tx) (ρ : St') (errs : List Nat) (d : D) (S : Sto) (q : QD) : Prop := ∃ F e T js pd t es, d = .clo F e T ∧ Prom x F e T js pd t ∧ capsI ρ js = some es ∧
  t (fun C fs _ S' => caught errs q C fs S') (pd.map some ++ es.map some) S fun a S' => q (.tup [.str [], a]) S'
theorem run1_i {x : Tx} {ρ : St'} {errs : List Nat} {S : Sto} {q : QD} {F : NF} {e : Expr} {T : Option Addr} {js : List (Nat × Str)} {pd : List D} {t : ED} {es : List D} (p : Prom x F e T js pd t) (hc : capsI ρ js = some es)
    (h : t (fun C fs _ S' => caught errs q C fs S') (pd.map some ++ es.map some) S fun a S' => q (.tup [.str [], a]) S') : run1 x ρ errs (.clo F e T) S q := ⟨F, e, T, js, pd, t, es, rfl, p, hc, h⟩
theorem try_told {x : Tx} {ρ : St'} {errs : List Nat} {d : D} {S : Sto} {q q' : QD} {ex : ExD} {cs : Cs} {dv : Addr → D} (h : run1 x ρ errs d S q) (cd : CapD x.cl (known x.js ρ) ρ cs dv) (gs : goneS cs S) (hq : ∀ a S', q a S' → goneS cs S' → q' a (tell S' cs dv)) :
    sp_try x.th errs [d] (tell S cs dv) q' ex := by
  obtain ⟨F, e, T, js, pd, t, es, rfl, p, hc, ht⟩ := h
  obtain ⟨le, he⟩ := capsI_ok hc
  have le : es.length = (js.map (·.2)).length := by rw [List.length_map]; exact le
  have cell : ∀ (i : Nat) (y : Str) (d : D), (js.map (·.2))[i]? = some y → es[i]? = some d → ∃ c o, F.cl.lookup y = some c ∧ cs.lookup c = some o ∧ dv c = d ∧ ∃ v, o.data = .cell v := fun i y d e1 e2 => by
    rw [List.getElem?_map] at e1
    cases ep : js[i]? with
    | none => rw [ep] at e1; cases e1
    | some pp =>
      rw [ep] at e1
      cases e1
      have hr := he i pp d ep e2
      have hm := List.mem_of_getElem? ep
      obtain ⟨c, hcl⟩ := p.has pp hm
      obtain ⟨c', o, a1, a2, a3, a4⟩ := cd.to pp (mem_known (p.sub pp hm) hr)
      rw [(p.cm pp.2 c hcl).1] at a1
      cases a1
      rw [hr] at a3
      cases a3
      exact ⟨c, o, hcl, a2, rfl, a4⟩
  refine ⟨F, e, T, cs, _, q', rfl, p.pr cs (fun y c hcl => ?_) (fun c o l => ?_), tell_told, ⟨es, le, fun i y d e1 e2 => ?_, tell_told, (fun a S' => q (.tup [.str [], a]) S'), caught errs q, ?_, fun a S' ha g => ?_, fun C fs S' ha g => ?_⟩, fun _ _ h => h⟩
  · obtain ⟨i, hi⟩ := List.mem_iff_getElem?.mp (p.cm y c hcl).2
    have hl : i < es.length := by rw [le]; exact (List.getElem?_eq_some_iff.mp hi).1
    obtain ⟨c', o, b1, b2, _⟩ := cell i y es[i] hi (List.getElem?_eq_getElem hl)
    rw [hcl] at b1
    cases b1
    exact ⟨o, b2⟩
  · obtain ⟨p', hp, l2⟩ := cd.of c o l
    obtain ⟨c', o', a1, a2, _, v, a4⟩ := cd.to p' hp
    rw [l2] at a1
    cases a1
    rw [l] at a2
    cases a2
    exact ⟨v, a4⟩
  · obtain ⟨c, o, b1, b2, b3, _⟩ := cell i y d e1 e2
    exact ⟨c, o, b1, b2, by rw [tell_in b2, b3]⟩
  · rw [untell_tell gs]; exact ht
  · rw [retell_tell]; exact hq _ _ ha g
  · rw [retell_tell]
    obtain ⟨hC, m, d, a1, a2, a3⟩ := ha
    exact ⟨hC, m, d, a1, a2, hq _ _ a3 g⟩
/-- _law_try(lambda: ..) -/
theorem told_try {x : Tx} {ρ : St'} {errs : List Nat} {d : D} {S : Sto} {q : QD} (h : run1 x ρ errs d S q) :
    ∀ cs dv, CapD x.cl (known x.js ρ) ρ cs dv → goneS cs S → sp_try x.th errs [d] (tell S cs dv) (backQ cs q) fun _ _ _ => False := fun cs dv cd gs =>
  try_told h cd gs fun a S' ha g => ⟨tell_told, by rw [untell_tell g]; exact ha⟩
/-! ### _law_tries -/
def trs (θ : Th) (errs : List Nat) : List D → Sto → (List D → Sto → Prop) → Prop
  | [], S, k => k [] S
  | d :: r, S, k => sp_try θ errs [d] S (fun a S' => trs θ errs r S' fun as S2 => k (a :: as) S2) fun _ _ _ => False
def sp_tries (θ : Th) (errs : List Nat) : SpD := fun ds S q _ => ∃ fs, ds = [.lst fs] ∧ fs.length ≤ 100 ∧ trs θ errs fs S fun as S' => q (.lst as) S'
def runs (x : Tx) (ρ : St') (errs : List Nat) : List D → Sto → (List D → Sto → Prop) → Prop
  | [], S, k => k [] S
  | d :: r, S, k => run1 x ρ errs d S fun a S' => runs x ρ errs r S' fun as S2 => k (a :: as) S2
theorem trs_told {x : Tx} {ρ : St'} {errs : List Nat} {cs : Cs} {dv : Addr → D} (cd : CapD x.cl (known x.js ρ) ρ cs dv) : ∀ {fs : List D} {S : Sto} {k k' : List D → Sto → Prop}, runs x ρ errs fs S k → goneS cs S → (∀ as S', k as S' → goneS cs S' → k' as (tell S' cs dv)) →
    trs x.th errs fs (tell S cs dv) k'
  | [], S, k, k', h, g, hk => hk _ _ h g
  | d :: r, S, k, k', h, g, hk => try_told h cd g fun a S' ha g' => trs_told cd ha g' fun as S2 hz g2 => hk _ _ hz g2
theorem runs_nil {x : Tx} {ρ : St'} {errs : List Nat} {S : Sto} {k : List D → Sto → Prop} (h : k [] S) : runs x ρ errs [] S k := h
theorem runs_cons {x : Tx} {ρ : St'} {errs : List Nat} {d : D} {r : List D} {S : Sto} {k : List D → Sto → Prop} (h : run1 x ρ errs d S fun a S' => runs x ρ errs r S' fun as S2 => k (a :: as) S2) : runs x ρ errs (d :: r) S k := h
theorem told_tries {x : Tx} {ρ : St'} {errs : List Nat} {fs : List D} {S : Sto} {q : QD} (hl : fs.length ≤ 100) (h : runs x ρ errs fs S fun as S' => q (.lst as) S') :
    ∀ cs dv, CapD x.cl (known x.js ρ) ρ cs dv → goneS cs S → sp_tries x.th errs [.lst fs] (tell S cs dv) (backQ cs q) fun _ _ _ => False := fun cs dv cd gs =>
  ⟨fs, rfl, hl, trs_told cd h gs fun as S' ha g => ⟨tell_told, by rw [untell_tell g]; exact ha⟩⟩
end DL

namespace DL
open PySem PySem.Spec PyProof.Rows L2

/-! ### what stands around a def's body -/
inductive Gv where
  | no | bi | val (d : D) | fn (sp : SpD) (sg : Sig) | tfn (sp : SpD) | exc (n : Nat) (m : List Nat) (f : Nat) | dic (kvs : List (List Nat × D))
/-- x stands for a def that may be called with the maker's cells told -/
structure FnT (P : Program) (w : World) (K : PySem.W.Frag) (mg : Str → Option Value) (base : Heap) (k : Nat) (x : Str) (sp : SpD) : Prop where
  ex : ∃ (f : Addr) (fd : FuncData) (ps : List Str), mg x = some (.ref f) ∧ PySem.W.keepIn K (.ref f) = true ∧ L2.Binds K fd ps [] ∧ FnOk P w K mg base (L2N.CX P w) k f fd ps (upSp K sp)
theorem FnT.mono {P : Program} {w : World} {K : PySem.W.Frag} {mg : Str → Option Value} {base : Heap} {j k : Nat} {x : Str} {sp : SpD} (h : FnT P w K mg base j x sp) (hj : j ≤ k) : FnT P w K mg base k x sp := by
  obtain ⟨f, fd, ps, a, b, c, d⟩ := h.ex
  exact ⟨f, fd, ps, a, b, c, d.mono hj⟩
/-- x stands for a dict of the module with text keys -/
def DicAt (w : World) (K : PySem.W.Frag) (mg : Str → Option Value) (x : Str) (kvs : List (List Nat × D)) : Prop := ∃ a, mg x = some (.ref a) ∧ ∀ q ∈ kvs, ∃ v, KDct K w a (mkS q.1) v ∧ ∀ B S H, Rp ⟨K, B⟩ S H q.2 v
structure GX where
  N : List Str
  sc : List (Str × NameKind)
  gl : List (Str × Gv)
  mu : List (Nat × Nat)
  st : Bool
  tb : GT
  fz : List ((Nat × Nat) × Nat)
  th : Option Tx
  lgl : List (Str × Gv)
structure GOk (gl : List (Str × Gv)) (tb : GT) (P : Program) (w : World) (K : PySem.W.Frag) (mg : Str → Option Value) (base : Heap) (A : Around) : Prop where
  fn : ∀ x sp sg, gl.lookup x = some (.fn sp sg) → ∃ k, Room k A ∧ FnAt P w K mg base k x sg sp
  bi : ∀ x, gl.lookup x = some .bi → mg x = none
  tfn : ∀ x sp, gl.lookup x = some (.tfn sp) → ∃ k, Room k A ∧ FnT P w K mg base k x sp
  exc : ∀ x n m f, gl.lookup x = some (.exc n m f) → ∃ k, Room (k + 1) A ∧ ExAt P w K mg base k x n m f
  val : ∀ x d, gl.lookup x = some (.val d) → ∃ u v, mg x = some u ∧ RelV v u ∧ ∀ B S H, Rp ⟨K, B⟩ S H d v
  dic : ∀ x kvs, gl.lookup x = some (.dic kvs) → DicAt w K mg x kvs
  un : A.units + 64 < cLine
  tb : GTOk (fun k => Room k A) P w K mg base tb
/-- the slot of a name -/
def GX.slot (G : GX) (x : Str) : Option Nat := G.N.findIdx? (· == x)
theorem GX.slot_at {G : GX} {x : Str} {i : Nat} (h : G.slot x = some i) : G.N[i]? = some x := by
  obtain ⟨h1, h2, _⟩ := List.findIdx?_eq_some_iff_getElem.mp h
  rw [List.getElem?_eq_getElem h1]
  exact congrArg some (eq_of_beq h2)
/-- the slots of the def's own cells -/
def cellSlots (G : GX) : List (Nat × Str) := G.sc.filterMap fun y => if G.sc.lookup y.1 = some .cell then (G.slot y.1).map fun i => (i, y.1) else none
theorem cellSlots_ok {G : GX} {p : Nat × Str} (h : p ∈ cellSlots G) : G.sc.lookup p.2 = some .cell ∧ G.slot p.2 = some p.1 := by
  obtain ⟨y, _, h⟩ := List.mem_filterMap.mp h
  split at h
  · rename_i hc
    cases e : G.slot y.1 with
    | none => rw [e] at h; cases h
    | some i => rw [e] at h; cases h; exact ⟨hc, e⟩
  · cases h
theorem cellSlots_in {G : GX} {y : Str} {i : Nat} (h : G.sc.lookup y = some .cell) (e : G.slot y = some i) : (i, y) ∈ cellSlots G := List.mem_filterMap.mpr ⟨(y, .cell), PySem.mem_of_lookup h, by simp only [h, if_true, e]; rfl⟩
/-- a frame that makes closures -/
structure ThOk (G : GX) (x : Tx) (X : Cx) : Prop where
  k : ∃ k, x.th = ⟨X.prog, X.w, X.K, X.mg, X.base, k + 1⟩ ∧ ∀ A, Room k A → GOk G.lgl G.tb X.prog X.w X.K X.mg X.base A
  cl : x.cl = X.env.cells
  js : x.js = cellSlots G
  qual : x.qual = X.env.qual
  tab : ∃ c, LamX.TabB X.base X.mg c x.tab ∧ X.env.code = .ref c
  fn : ∀ y, X.fn y = true
structure XOk (G : GX) (X : Cx) : Prop where
  N : X.N = G.N
  nd : G.N.Nodup
  sc : X.env.scope.names = G.sc
  calm : X.calm = true
  fnn : G.st = true → ∀ x, G.sc.lookup x = some .cell → x ∈ G.N → X.fn x = true
  pass : PassesOwn (model X.prog X.w) X.A X.env X.xe
  fk : X.env.scope.kind = .function
  g : GOk G.gl G.tb X.prog X.w X.K X.mg X.base X.A
  th : ∀ x, G.th = some x → ThOk G x X
def GX.glob (G : GX) (x : Str) : Gv := if G.sc.lookup x = some .globalImplicit then (G.gl.lookup x).getD .no else .no
theorem GX.glob_at {G : GX} {x : Str} {g : Gv} (h : G.glob x = g) (n : g ≠ .no) : G.sc.lookup x = some .globalImplicit ∧ G.gl.lookup x = some g := by
  unfold GX.glob at h
  split at h
  · rename_i h1
    refine ⟨h1, ?_⟩
    cases e : G.gl.lookup x with
    | none => rw [e] at h; exact absurd h.symm n
    | some g' => rw [e] at h; exact congrArg some h
  · exact absurd h.symm n
theorem XOk.gl {G : GX} {X : Cx} (o : XOk G X) {x : Str} (h : G.sc.lookup x = some .globalImplicit) : Gl X x := by
  show X.env.scope.names.lookup x = _
  rw [o.sc]; exact h
def dbg (x : Str) : Bool := x == ("__debug__" : Str) || x == ("__classdict__" : Str) || x == ("__name__" : Str)
theorem dbg1 {x : Str} (h : dbg x = false) : (x == ("__debug__" : Str)) = false := by
  unfold dbg at h; simp only [Bool.or_eq_false_iff] at h; exact h.1.1
theorem dbg2 {x : Str} (h : dbg x = false) : (x == ("__classdict__" : Str)) = false := by
  unfold dbg at h; simp only [Bool.or_eq_false_iff] at h; exact h.1.2
theorem dbg3 {x : Str} (h : dbg x = false) : x ≠ ("__name__" : Str) := by
  unfold dbg at h; simp only [Bool.or_eq_false_iff] at h
  intro e; rw [e] at h; simp at h

/-! ### the readings of the text -/
def eNo : ED := fun _ _ _ _ => False
def eNoT' : TD := fun _ _ _ _ => False
def aNo : AD := fun _ _ _ _ => False
def sNo : SD := fun _ _ _ => False
def iNo : ID := fun _ _ _ _ => False
def gNo : GD := fun _ _ _ _ _ => False
theorem pd_no {X : Cx} {e : Expr} : PD X e eNo := ⟨fun B W tk => ⟨fun pins s σ H Q I ⟨_, _, _, _, _, _, _, h, _⟩ => h.elim⟩⟩
theorem pdt_no {X : Cx} {e : Expr} : PDT X e eNoT' := ⟨fun B W tk => ⟨fun pins s σ H Q I ⟨_, _, _, _, _, _, _, h, _⟩ => h.elim⟩⟩
theorem pda_no {X : Cx} {es : List Expr} : PDA X es aNo := ⟨fun B W tk => ⟨fun pos pins s σ H Q I ⟨_, _, _, _, _, _, _, h, _⟩ => h.elim⟩⟩
theorem pds_no {X : Cx} {st : Stmt} : PDS X st sNo := ⟨fun B W tk => ⟨fun pins s σ H D I ⟨_, _, _, _, _, _, _, h⟩ => h.elim⟩⟩
theorem pdi_no {X : Cx} {tg it : Expr} : PDI X tg it iNo := ⟨fun B W tk => ⟨fun pins s σ H R I ⟨_, _, _, _, _, _, _, h, _⟩ => h.elim⟩⟩
theorem pdg_no {X : Cx} {e : Expr} {Z : List Nat} : PDG X e Z gNo := ⟨fun B W tk => ⟨fun pins s σ H v u Q I r ⟨_, _, _, _, _, _, _, _, _, h, _⟩ => h.elim⟩⟩

def nameE (G : GX) (x : Str) : ED :=
  if dbg x then eNo else
  match G.sc.lookup x with
  | some .local => (match G.slot x with | some i => eVar i | none => eNo)
  | some .cell => (match G.slot x with | some i => eVar i | none => eNo)
  | some .free => (match G.slot x with | some i => eVar i | none => eNo)
  | some .globalImplicit => (match G.gl.lookup x with
    | some (.val d) => eC d
    | some .bi => (match bootBuiltins x with | some (.type T) => eC (.ty T) | _ => eNo)
    | _ => eNo)
  | _ => eNo
theorem nameE_ok {G : GX} {X : Cx} (o : XOk G X) (x : Str) (pos : Pos) : PD X (.Name x pos) (nameE G x) := by
  unfold nameE
  split
  · exact pd_no
  · rename_i hd
    have hd : dbg x = false := by simpa using hd
    have vis : Vis X.env.scope x → PD X (.Name x pos) (match G.slot x with | some i => eVar i | none => eNo) := fun v => by
      split
      · rename_i i e
        exact pd_var (pe_var (by rw [o.N]; exact GX.slot_at e) v (dbg1 hd) (dbg2 hd))
      · exact pd_no
    split
    · rename_i e; exact vis (.inl (by rw [o.sc]; exact e))
    · rename_i e; exact vis (.inr (.inl (by rw [o.sc]; exact e)))
    · rename_i e; exact vis (.inr (.inr (by rw [o.sc]; exact e)))
    · rename_i e
      split
      · rename_i d e2
        obtain ⟨u, v, hm, r, q⟩ := o.g.val x d e2
        exact pd_const (pe_glob (o.gl e) hm r (dbg1 hd)) q
      · rename_i e2
        split
        · rename_i T e3
          exact pd_const (pe_bltn (v := .ty T) (o.gl e) (o.g.bi x e2) e3 rfl (dbg3 hd) (dbg1 hd)) fun _ _ _ => rfl
        · exact pd_no
      · exact pd_no
    · exact pd_no
noncomputable def rCmp : CmpOp → D → D → Sto → QD → Prop
  | .Eq => hEq
  | .NotEq => hNe
  | .Lt => hLt
  | .LtE => hLe
  | .Gt => hGt
  | .GtE => hGe
  | .Is => hIs
  | .IsNot => hIsN
  | .In => hIn
  | .NotIn => hNotIn
theorem opd_cmp {X : Cx} (hu : X.A.units + 64 < cLine) : ∀ op, OpD X (compareOp op) (rCmp op)
  | .Eq => by show OpD X _ hEq; rw [hEq_eq]; exact opd_eq hu
  | .NotEq => by show OpD X _ hNe; rw [hNe_eq]; exact opd_ne hu
  | .Lt => by show OpD X _ hLt; rw [hLt_eq]; exact opd_lt
  | .LtE => by show OpD X _ hLe; rw [hLe_eq]; exact opd_le
  | .Gt => by show OpD X _ hGt; rw [hGt_eq]; exact opd_gt
  | .GtE => by show OpD X _ hGe; rw [hGe_eq]; exact opd_ge
  | .Is => by show OpD X _ hIs; rw [hIs_eq]; exact opd_is
  | .IsNot => by show OpD X _ hIsN; rw [hIsN_eq]; exact opd_isnot
  | .In => by show OpD X _ hIn; rw [hIn_eq]; exact opd_in (by omega)
  | .NotIn => by show OpD X _ hNotIn; rw [hNotIn_eq]; exact opd_notin (by omega)
noncomputable def rBin : Operator → D → D → Sto → QD → Prop
  | .Add => hAdd
  | .Sub => hSub
  | .Mult => hMul
  | .Mod => hMod
  | .FloorDiv => hDiv
  | .Pow => hPow
  | _ => fun _ _ _ _ => False
theorem opd_never {X : Cx} {f : Value → Value → Sem Value} : OpD X f (fun _ _ _ _ => False) := fun B pins s σ H x y v u Q I rx ry ⟨_, _, _, _, _, _, _, h, _⟩ => h.elim
theorem opd_bin {X : Cx} : ∀ op, OpD X (binaryOp op) (rBin op)
  | .Add => by show OpD X _ hAdd; rw [hAdd_eq]; exact opd_add
  | .Sub => by show OpD X _ hSub; rw [hSub_eq]; exact opd_sub
  | .Mult => by show OpD X _ hMul; rw [hMul_eq]; exact opd_mul
  | .Mod => by show OpD X _ hMod; rw [hMod_eq]; exact opd_mod
  | .FloorDiv => by show OpD X _ hDiv; rw [hDiv_eq]; exact opd_div
  | .Pow => by show OpD X _ hPow; rw [hPow_eq]; exact opd_pow
  | .MatMult => opd_never
  | .Div => opd_never
  | .LShift => opd_never
  | .RShift => opd_never
  | .BitOr => opd_never
  | .BitXor => opd_never
  | .BitAnd => opd_never
/-- the built-in functions and classes that may be called -/
inductive BiK where
  | fn (id : String) (r : List D → Sto → QD → Prop) | ty (T : String) (r : List D → Sto → QD → Prop) | no
noncomputable def biTab : List (Str × BiK) := [("len", .fn "len" (b1 hLen)), ("abs", .fn "abs" (b1 hAbs)), ("all", .fn "all" (b1 hAll)), ("any", .fn "any" (b1 hAny)), ("isinstance", .fn "isinstance" (b2 hIsi)), ("int", .ty "int" (b1 hInt)), ("list", .ty "list" (b1 hList)), ("sorted", .fn "sorted" (b1 hSort)), ("tuple", .ty "tuple" (b1 hTupOf)), ("str", .ty "str" (b1 hStrI)), ("max", .fn "max" (b1 hMax)), ("min", .fn "min" (b1 hMin)), ("sum", .fn "sum" (b1 hSum)), ("bool", .ty "bool" (b1 hBool))]
noncomputable def biOf (x : Str) : BiK := (biTab.lookup x).getD .no
def BiOk (X : Cx) (x : Str) : BiK → Prop
  | .fn id r => bootBuiltins x = some (.builtin id) ∧ CallD X (.builtin id) r
  | .ty T r => bootBuiltins x = some (.type T) ∧ CallD X (.type T) r
  | .no => True
theorem bi_tab {X : Cx} (hc : X.calm = true) : ∀ p ∈ biTab, BiOk X p.1 p.2 := by
  intro p hp
  simp only [biTab, List.mem_cons, List.not_mem_nil, or_false] at hp
  rcases hp with rfl | rfl | rfl | rfl | rfl | rfl | rfl | rfl | rfl | rfl | rfl | rfl | rfl | rfl
  · exact ⟨by decide +kernel, by show CallD X _ (b1 hLen); rw [hLen_eq]; exact bd_len⟩
  · exact ⟨by decide +kernel, by show CallD X _ (b1 hAbs); rw [hAbs_eq]; exact bd_abs⟩
  · exact ⟨by decide +kernel, by show CallD X _ (b1 hAll); rw [hAll_eq]; exact bd_all hc⟩
  · exact ⟨by decide +kernel, by show CallD X _ (b1 hAny); rw [hAny_eq]; exact bd_any hc⟩
  · exact ⟨by decide +kernel, by show CallD X _ (b2 hIsi); rw [hIsi_eq]; exact bd_isi⟩
  · exact ⟨by decide +kernel, by show CallD X _ (b1 hInt); rw [hInt_eq]; exact bd_int⟩
  · exact ⟨by decide +kernel, by show CallD X _ (b1 hList); rw [hList_eq]; exact bd_list hc⟩
  · exact ⟨by decide +kernel, bd_sort⟩
  · exact ⟨by decide +kernel, by show CallD X _ (b1 hTupOf); rw [hTupOf_eq]; exact bd_tupOf⟩
  · exact ⟨by decide +kernel, by show CallD X _ (b1 hStrI); rw [hStrI_eq]; exact bd_strI⟩
  · exact ⟨by decide +kernel, by show CallD X _ (b1 hMax); rw [hMax_eq]; exact bd_max hc⟩
  · exact ⟨by decide +kernel, by show CallD X _ (b1 hMin); rw [hMin_eq]; exact bd_min hc⟩
  · exact ⟨by decide +kernel, by show CallD X _ (b1 hSum); rw [hSum_eq]; exact bd_sum hc⟩
  · exact ⟨by decide +kernel, by show CallD X _ (b1 hBool); rw [hBool_eq]; exact bd_bool⟩
theorem lookup_mem {α : Type} {x : Str} {y : α} : ∀ {l : List (Str × α)}, l.lookup x = some y → (x, y) ∈ l := fun h => PySem.mem_of_lookup h
theorem bi_ok {X : Cx} (hc : X.calm = true) (x : Str) : BiOk X x (biOf x) := by
  unfold biOf
  cases e : biTab.lookup x with
  | none => exact trivial
  | some b => exact bi_tab hc (x, b) (lookup_mem e)
/-- .. with the classes' own -/
noncomputable def biG (G : GX) (x : Str) : BiK :=
  if x = "len" then (match spTab G.tb "__len__" 1 with
    | [] => biOf x
    | p :: tab => .fn "len" (b1 (hLenO (p :: tab))))
  else if x = "repr" then (match spTab G.tb "__repr__" 1 with
    | [] => .no
    | p :: tab => .fn "repr" (b1 (hReprO (p :: tab))))
  else biOf x
theorem biG_ok {G : GX} {X : Cx} (o : XOk G X) (x : Str) : BiOk X x (biG G x) := by
  unfold biG
  split
  · rename_i hx
    subst hx
    split
    · exact bi_ok o.calm _
    · rename_i p tab e
      have := bd_lenO (tabSp_ok o.g.tb (m := "__len__") (n := 1))
      rw [e] at this
      exact ⟨by decide +kernel, this⟩
  · split
    · rename_i hx
      subst hx
      split
      · exact trivial
      · rename_i p tab e
        have := bd_reprO (tabSp_ok o.g.tb (m := "__repr__") (n := 1))
        rw [e] at this
        exact ⟨by decide +kernel, this⟩
    · exact bi_ok o.calm _
/-! ### classes -/
def isGl (G : GX) (x : Str) : Bool := !dbg x && G.sc.lookup x == some .globalImplicit
theorem isGl_ok {G : GX} {X : Cx} {x : Str} (o : XOk G X) (h : isGl G x = true) : Gl X x ∧ dbg x = false := by
  unfold isGl at h
  simp only [Bool.and_eq_true, beq_iff_eq] at h
  exact ⟨o.gl h.2, by simpa using h.1⟩
theorem starred_eq {e : Expr} (h : starred e = true) : ∃ v p, e = .Starred v p := by
  cases e <;> first | (cases h; done) | exact ⟨_, _, rfl⟩
theorem star_any {pos : Pos} {env : Env} {es : List Expr} (h : es.any starred = true) : (backTo pos (starEach es env)).any (·.1) = true := by
  have : ∀ es : List Expr, es.any starred = true → (starEach es env).any (·.1) = true := fun es => by
    induction es with
    | nil => intro h; cases h
    | cons e es ih =>
      intro h
      rw [List.any_cons, Bool.or_eq_true] at h
      cases hs : starred e with
      | true =>
        obtain ⟨v, p, rfl⟩ := starred_eq hs
        have e2 : starEach (.Starred v p :: es) env = (true, eval v env) :: starEach es env := rfl
        rw [e2, List.any_cons]; rfl
      | false =>
        rw [star_cons hs, List.any_cons, ih (h.resolve_left (by rw [hs]; exact fun z => by cases z))]; rfl
  have h2 := this es h
  unfold backTo
  rw [List.any_map]
  simpa [Function.comp_def] using h2
/-- how many values stand by place; none: stars among them -/
def argsN (args : List Expr) (kws : List (Option Str)) : Option (Option Nat) :=
  if args.all (fun e => !starred e) then some (some args.length) else
  match args with
  | e :: es => if starred e = false ∧ kws = [] ∧ es.any starred = true then some none else none
  | [] => none
theorem kwNil : ∀ {kws : List Keyword}, kwNames kws = [] → kws = []
  | [], _ => rfl
  | ⟨_, _, _⟩ :: _, h => by cases h
theorem argsN_ok {X : Cx} {args : List Expr} {kws : List Keyword} {pos : Pos} {n : Option Nat} (h : argsN args (kwNames kws) = some n) (hk : kwNames kws = ((kwNames kws).filterMap id).map some) : ArgsOk X args kws ((kwNames kws).filterMap id) pos := by
  unfold argsN at h
  split at h
  · rename_i hs
    refine ⟨hk, fun e es z => ?_, .inl (star_plain hs)⟩
    subst z
    rw [List.all_cons, Bool.and_eq_true] at hs
    exact star_cons (by simpa using hs.1)
  · cases args with
    | nil => cases h
    | cons e es =>
      have h : (if starred e = false ∧ kwNames kws = [] ∧ es.any starred = true then some none else none) = some n := h
      split at h
      · rename_i hc
        exact ⟨hk, fun e' es' z => by cases z; exact star_cons hc.1, .inr ⟨kwNil hc.2.1, e, es, rfl, star_any hc.2.2⟩⟩
      · cases h
/-- C(..) -/
noncomputable def makeE (G : GX) (x : Str) (args : List Expr) (kws : List Keyword) (t tk : AD) : ED :=
  if isGl G x = false then eNo else
  match G.tb.ma.lookup x with
  | some (n, ci) => (match argsN args (kwNames kws) with
    | some m => (match fmOf ci (m.map (· + 1)) (kwNames kws) with
      | some Φ => kMake n Φ t tk
      | none => eNo)
    | none => eNo)
  | none => eNo
theorem makeE_ok {G : GX} {X : Cx} (o : XOk G X) {x : Str} {p pos : Pos} {args : List Expr} {kws : List Keyword} {t tk : AD} (ht : PDA X args t) (htk : PDK X kws tk) (h0 : args = [] → t = aNil) (h0k : kws = [] → tk = aNil) : PD X (.Call (.Name x p) args kws pos) (makeE G x args kws t tk) := by
  unfold makeE
  split
  · exact pd_no
  · rename_i hg
    obtain ⟨g1, g2⟩ := isGl_ok o (by simpa using hg)
    split
    · rename_i n ci e
      obtain ⟨hm, f, k, M, hr, F⟩ := (o.g.tb.ma (x, n, ci) (PySem.mem_of_lookup e)).ex
      split
      · rename_i m em
        split
        · rename_i Φ eΦ
          obtain ⟨hk, hΦ⟩ := fmOf_ok eΦ
          exact pd_make M F hr g1 hm (argsN_ok em hk) ht htk h0 h0k (dbg1 g2) hΦ
        · exact pd_no
      · exact pd_no
    · exact pd_no
/-- a call with the cells told -/
noncomputable def toldE (G : GX) (sp : SpD) (args : List Expr) (kws : List Keyword) (t : AD) : ED :=
  if args = [] then eNo else if kwNames kws ≠ [] then eNo else match G.th with
  | some x => eTold x.cl x.js sp t
  | none => eNo
noncomputable def callE (G : GX) (x : Str) (args : List Expr) (kws : List Keyword) (t tk : AD) : ED :=
  if dbg x then eNo else if args.all (fun e => !starred e) = false then makeE G x args kws t tk else
  match G.glob x with
  | .fn sp sg => (match entOf sg args.length (kwNames kws) with
    | some e => if sg.frz then kFrz (kCallK sg e sp t tk) else kCallK sg e sp t tk
    | none => eNo)
  | .bi => if args = [] then eNo else if kwNames kws ≠ [] then eNo else (match biG G x with
    | .fn _ r => eCall r t
    | .ty _ r => eCall r t
    | .no => eNo)
  | .tfn sp => toldE G sp args kws t
  | _ => makeE G x args kws t tk
end DL

namespace DL
open PySem PySem.Spec PyProof.Rows L2

theorem kws_nil : ∀ {kws : List Keyword}, kwNames kws = [] → kws = []
  | [], _ => rfl
  | ⟨_, _, _⟩ :: _, h => by cases h
theorem toldE_ok {G : GX} {X : Cx} (o : XOk G X) {x : Str} {sp : SpD} {p pos : Pos} {args : List Expr} {kws : List Keyword} {t : AD} (ht : PDA X args t) (e : G.glob x = .tfn sp) (hd : dbg x = false) (hs : args.all (fun e => !starred e) = true) : PD X (.Call (.Name x p) args kws pos) (toldE G sp args kws t) := by
  unfold toldE
  split
  · exact pd_no
  · rename_i hn
    split
    · exact pd_no
    · rename_i hk
      obtain rfl := kws_nil (Classical.byContradiction hk)
      split
      · rename_i x' ex
        obtain ⟨h1, h2⟩ := GX.glob_at e (by intro z; cases z)
        obtain ⟨k, hr, F⟩ := o.g.tfn x sp h2
        obtain ⟨f, fd, ps, hm, kp, hb, F⟩ := F.ex
        have T := o.th x' ex
        cases args with
        | nil => exact absurd rfl hn
        | cons a as =>
          rw [List.all_cons, Bool.and_eq_true] at hs
          rw [T.cl, T.js]
          refine pd_told F hr T.fn (fun p hp => ?_) (fun p hp r hr' e => ?_) (o.gl h1) hm kp hb ht (dbg1 hd) (star_cons (by simpa using hs.1)) (star_plain hs.2)
          · obtain ⟨a1, a2⟩ := cellSlots_ok hp
            refine ⟨by rw [o.N]; exact GX.slot_at a2, ?_⟩
            show X.env.scope.names.lookup p.2 = _
            rw [o.sc]; exact a1
          · have a := (cellSlots_ok hp).2
            have b := (cellSlots_ok hr').2
            rw [e, b] at a
            exact (Option.some.inj a).symm
      · exact pd_no
theorem callE_ok {G : GX} {X : Cx} (o : XOk G X) {x : Str} {p pos : Pos} {args : List Expr} {kws : List Keyword} {t tk : AD} (ht : PDA X args t) (htk : PDK X kws tk) (h0 : args = [] → t = aNil) (h0k : kws = [] → tk = aNil) : PD X (.Call (.Name x p) args kws pos) (callE G x args kws t tk) := by
  unfold callE
  split
  · exact pd_no
  · rename_i hd
    have hd : dbg x = false := by simpa using hd
    split
    · exact makeE_ok o ht htk h0 h0k
    · rename_i hs
      have hs : args.all (fun e => !starred e) = true := by simpa using hs
      split
      · rename_i sp sg e
        obtain ⟨h1, h2⟩ := GX.glob_at e (by intro z; cases z)
        obtain ⟨k, hr, F⟩ := o.g.fn x sp sg h2
        split
        · rename_i ent he
          obtain ⟨m1, m2⟩ := entOf_ok he
          have P := pd_callE (pos := pos) (p := p) F hr (o.gl h1) m1 ht htk h0 m2 (dbg1 hd) (fun e es' z => by
            subst z
            rw [List.all_cons, Bool.and_eq_true] at hs
            exact star_cons (by simpa using hs.1)) (star_plain hs)
          split
          · rw [kFrz_eq, kCallK_eq]; exact pd_frz P
          · rw [kCallK_eq]; exact P
        · exact pd_no
      · rename_i e
        obtain ⟨h1, h2⟩ := GX.glob_at e (by intro z; cases z)
        split
        · exact pd_no
        · rename_i hn
          split
          · exact pd_no
          · rename_i hk
            obtain rfl := kws_nil (Classical.byContradiction hk)
            cases args with
            | nil => exact absurd rfl hn
            | cons a as =>
              rw [List.all_cons, Bool.and_eq_true] at hs
              have b := biG_ok o x
              cases e3 : biG G x with
              | no => exact pd_no
              | fn id r =>
                rw [e3] at b
                exact pd_callB b.2 (o.gl h1) (o.g.bi x h2) b.1 ht (dbg3 hd) (dbg1 hd) (star_cons (by simpa using hs.1)) (star_plain hs.2)
              | ty T r =>
                rw [e3] at b
                exact pd_callTy b.2 (o.gl h1) (o.g.bi x h2) b.1 ht (dbg3 hd) (dbg1 hd) (star_cons (by simpa using hs.1)) (star_plain hs.2)
      · rename_i sp e
        exact toldE_ok o ht e hd hs
      · exact makeE_ok o ht htk h0 h0k

structure Cmp where
  E : GX → Expr → ED
  T : GX → Expr → TD
noncomputable def Cmp.A (c : Cmp) (G : GX) : List Expr → AD
  | [] => aNil
  | .Starred e _ :: es => aStar (c.E G e) (c.A G es)
  | e :: es => aCons (c.E G e) (c.A G es)
noncomputable def Cmp.K (c : Cmp) (G : GX) : List Keyword → AD
  | [] => aNil
  | ⟨_, e, _⟩ :: r => aCons (c.E G e) (c.K G r)
noncomputable def Cmp.O (c : Cmp) (G : GX) : Option Expr → OD
  | none => oNo
  | some e => oSome (c.E G e)
/-- and, or as values -/
noncomputable def Cmp.B (c : Cmp) (G : GX) (op : BoolOp) : List Expr → ED
  | [] => eNo
  | [a] => c.E G a
  | a :: r => match op with
    | .And => kAnd (c.E G a) (c.B G op r)
    | .Or => kOr (c.E G a) (c.B G op r)
noncomputable def Cmp.BT (c : Cmp) (G : GX) (op : BoolOp) : List Expr → TD
  | [] => eNoT'
  | [a] => c.T G a
  | a :: r => match op with
    | .And => kAndT (c.T G a) (c.BT G op r)
    | .Or => kOrT (c.T G a) (c.BT G op r)
def isSlice : Expr → Bool
  | .Slice .. => true
  | _ => false
def markSet : Expr → Bool
  | .Set .. => true
  | _ => false
theorem mark_no {op : CmpOp} {e : Expr} (h : markSet e = false) : behindInMarks op e = false := by
  cases e <;> first | rfl | cases h
/-! targets -/
def slotOf (G : GX) (x : Str) : Option Nat := if G.sc.lookup x = some .local ∨ (G.sc.lookup x = some .cell ∧ G.st = true) then G.slot x else none
noncomputable def Cmp.G (c : Cmp) (G : GX) : Expr → GD
  | .Name x _ => (match slotOf G x with | some i => dName i | none => gNo)
  | .Subscript o i _ => if isSlice i then gNo else dSub (c.E G o) (c.E G i) hSet
  | _ => gNo
/-- the slots that a target may change -/
def tgZ (G : GX) : Expr → List Nat
  | .Name x _ => (match slotOf G x with | some i => [i] | none => [])
  | _ => []
noncomputable def Cmp.Gs (c : Cmp) (G : GX) : List Expr → GDs
  | [] => kNil
  | e :: es => if starred e then (fun _ _ _ _ _ => False) else dCons (c.G G e) (c.Gs G es)
noncomputable def Cmp.GT (c : Cmp) (G : GX) : Expr → GD
  | .Tuple es _ _ => if es.all (fun e => !starred e) then kTupG es.length (c.Gs G es) else gNo
  | .Subscript o i _ => if isSlice i then gNo else dSub (c.E G o) (c.E G i) hSet
  | e => c.G G e
structure Good (c : Cmp) : Prop where
  E : ∀ G X e, XOk G X → PD X e (c.E G e)
  T : ∀ G X e, XOk G X → PDT X e (c.T G e)
section
variable {c : Cmp} {G : GX} {X : Cx}
theorem Good.A (g : Good c) (o : XOk G X) : ∀ es, PDA X es (c.A G es)
  | [] => pda_nil
  | e :: es => by
    have ih := Good.A g o es
    unfold Cmp.A
    split
    · rename_i h; cases h
    · rename_i e' p es' h
      cases h
      exact pda_star (g.E G X e' o) ih
    · rename_i hne h
      cases h
      refine pda_cons (g.E G X e o) ih (star_cons ?_)
      cases hs : starred e with
      | false => rfl
      | true =>
        obtain ⟨v, p, z⟩ := starred_eq hs
        exact absurd z (fun z => hne v p z)
theorem Good.K (g : Good c) (o : XOk G X) : ∀ kws, PDK X kws (c.K G kws)
  | [] => pdk_nil
  | ⟨_, e, _⟩ :: r => pdk_cons (g.E G X e o) (Good.K g o r)
theorem Good.O (g : Good c) (o : XOk G X) : ∀ e, PDO X e (c.O G e)
  | none => pdo_no
  | some e => pdo_some (g.E G X e o)
theorem Good.B (g : Good c) (o : XOk G X) (op : BoolOp) (pos : Pos) : ∀ es, PD X (.BoolOp op es pos) (c.B G op es)
  | [] => pd_no
  | [a] => pd_one (g.E G X a o)
  | a :: b :: r => by
    cases op with
    | And => show PD X _ (kAnd _ _); rw [kAnd_eq]; exact pd_and (g.E G X a o) (Good.B g o .And pos (b :: r))
    | Or => show PD X _ (kOr _ _); rw [kOr_eq]; exact pd_or (g.E G X a o) (Good.B g o .Or pos (b :: r))
theorem pdw_no {X : Cx} {e : Expr} : PDW X e eNoT' := ⟨fun B W tk => ⟨fun wh pins s σ H Q I ⟨_, _, _, _, _, _, _, h, _⟩ => h.elim⟩⟩
theorem Good.BT (g : Good c) (o : XOk G X) (op : BoolOp) (pos : Pos) : ∀ es, PDW X (.BoolOp op es pos) (c.BT G op es)
  | [] => pdw_no
  | [a] => by
    cases op with
    | And => exact pdw_and1 (g.T G X a o)
    | Or => exact pdw_or1 (g.T G X a o)
  | a :: b :: r => by
    cases op with
    | And => show PDW X _ (kAndT _ _); rw [kAndT_eq]; exact pdw_and (g.T G X a o) (Good.BT g o .And pos (b :: r))
    | Or => show PDW X _ (kOrT _ _); rw [kOrT_eq]; exact pdw_or (g.T G X a o) (Good.BT g o .Or pos (b :: r))
theorem slot_ok (o : XOk G X) {x : Str} {i : Nat} (h : slotOf G x = some i) : X.N[i]? = some x ∧ Loc X.env.scope x ∧ (X.fn x = true ∨ X.env.scope.names.lookup x = some .local) := by
  unfold slotOf at h
  split at h
  · rename_i hl
    have hi := GX.slot_at h
    refine ⟨by rw [o.N]; exact hi, ?_, ?_⟩
    · show X.env.scope.names.lookup x = _ ∨ _
      rw [o.sc]; exact hl.imp id (·.1)
    · rw [o.sc]
      rcases hl with hl | hl
      · exact .inr hl
      · exact .inl (o.fnn hl.2 x hl.1 (List.mem_of_getElem? hi))
  · cases h
theorem Good.sub (g : Good c) (o : XOk G X) {Z : List Nat} {ob i : Expr} {pos : Pos} (h : isSlice i = false) : PDG X (.Subscript ob i pos) Z (dSub (c.E G ob) (c.E G i) hSet) := by
  have w : PDG X (.Subscript ob i pos) [] (dSub (c.E G ob) (c.E G i) hSet) := pdg_sub (g.E G X ob o) (g.E G X i o) (by rw [hSet_eq]; exact setd_list (by have := o.g.un; omega)) (fun v => by cases i <;> first | rfl | cases h)
  refine ⟨fun B W tk => (w.up B W tk).imp fun v σ H Q h => ?_⟩
  obtain ⟨d, ρ, S, q, w, R, L, O, r, h, k⟩ := h
  refine ⟨d, ρ, S, q, w, R, L, O, r, h, fun ρ' σ' S' H' z => k ρ' σ' S' H' ?_⟩
  have : σ' = σ := z
  rw [this]
theorem Good.tg (g : Good c) (o : XOk G X) {Z : List Nat} : ∀ e, (∀ i ∈ tgZ G e, i ∈ Z) → PDG X e Z (c.G G e) := fun e hz => by
  cases e <;> first | exact pdg_no | skip
  · rename_i ob i pos
    show PDG X _ _ (if isSlice i then gNo else dSub (c.E G ob) (c.E G i) hSet)
    split
    · exact pdg_no
    · rename_i h
      exact g.sub o (by simpa using h)
  rename_i x pos
  show PDG X _ _ (match slotOf G x with | some i => dName i | none => gNo)
  cases e : slotOf G x with
  | none => exact pdg_no
  | some i =>
    obtain ⟨h1, h2, h3⟩ := slot_ok o e
    refine pdg_name (hz i ?_) (pg_name (by rw [o.N]; exact o.nd) h1 h2 h3)
    show i ∈ (match slotOf G x with | some i => [i] | none => [])
    rw [e]; exact List.mem_singleton.mpr rfl
theorem asg_each {e : Expr} {es : List Expr} {env : Env} (h : starred e = false) : (assignEach (e :: es) env).map (·.2) = assign e env :: (assignEach es env).map (·.2) := by
  cases e <;> first | rfl | cases h
theorem pdgs_no {X : Cx} {es : List Expr} {Z : List Nat} : PDGs X es Z (fun _ _ _ _ _ => False) := ⟨fun B W tk => ⟨fun pins s σ H v u Q I r ⟨_, _, _, _, _, _, _, _, _, h, _⟩ => h.elim⟩⟩
theorem Good.Gs (g : Good c) (o : XOk G X) {Z : List Nat} : ∀ es, (∀ e ∈ es, ∀ i ∈ tgZ G e, i ∈ Z) → PDGs X es Z (c.Gs G es)
  | [], _ => by show PDGs X _ _ kNil; rw [kNil_eq]; exact pdgs_nil
  | e :: es, hz => by
    unfold Cmp.Gs
    split
    · exact pdgs_no
    · rename_i h
      exact pdgs_cons (g.tg o e fun i hi => hz e (List.mem_cons_self ..) i hi) (Good.Gs g o es fun e' he => hz e' (List.mem_cons_of_mem _ he)) (asg_each (by simpa using h))
theorem assignEach_len : ∀ {es : List Expr} {env : Env}, (assignEach es env).length = es.length
  | [], _ => rfl
  | e :: es, env => by
    have := @assignEach_len es env
    cases e <;> (show (assignEach es env).length + 1 = _; rw [this]; rfl)
theorem assignEach_star : ∀ {es : List Expr} {env : Env}, es.all (fun e => !starred e) = true → (assignEach es env).findIdx? (·.1) = none
  | [], _, _ => rfl
  | e :: es, env, h => by
    rw [List.all_cons, Bool.and_eq_true] at h
    have ih := @assignEach_star es env h.2
    have h1 : starred e = false := by simpa using h.1
    have : assignEach (e :: es) env = (false, assign e env) :: assignEach es env := by
      cases e <;> first | rfl | cases h1
    rw [this, List.findIdx?_cons]
    simp [ih]
/-- the slots of a loop's or a comprehension's target -/
def tgZs (G : GX) : Expr → List Nat
  | .Tuple es _ _ => es.flatMap (tgZ G)
  | e => tgZ G e
theorem Good.GT (g : Good c) (o : XOk G X) {Z : List Nat} (e : Expr) (hz : ∀ i ∈ tgZs G e, i ∈ Z) : PDG X e Z (c.GT G e) := by
  cases e with
  | Tuple es k pos =>
    show PDG X _ _ (if es.all (fun e => !starred e) then kTupG es.length (c.Gs G es) else gNo)
    split
    · rename_i h
      rw [kTupG_eq]
      refine pdg_tup (fun ht => pg_seqT (pg_tup o.calm ht assignEach_len (assignEach_star h)) (pg_lst o.calm ht assignEach_len (assignEach_star h))) (g.Gs o es fun e he i hi => hz i ?_)
      exact List.mem_flatMap.mpr ⟨e, he, hi⟩
    · exact pdg_no
  | Subscript ob i pos =>
    show PDG X _ _ (if isSlice i then gNo else dSub (c.E G ob) (c.E G i) hSet)
    split
    · exact pdg_no
    · rename_i h
      have w : PDG X (.Subscript ob i pos) [] (dSub (c.E G ob) (c.E G i) hSet) := pdg_sub (g.E G X ob o) (g.E G X i o) (by rw [hSet_eq]; exact setd_list (by have := o.g.un; omega)) (fun v => by cases i <;> first | rfl | (exfalso; exact h rfl))
      refine ⟨fun B W tk => (w.up B W tk).imp fun v σ H Q h => ?_⟩
      obtain ⟨d, ρ, S, q, w, R, L, O, r, h, k⟩ := h
      refine ⟨d, ρ, S, q, w, R, L, O, r, h, fun ρ' σ' S' H' z => k ρ' σ' S' H' ?_⟩
      have : σ' = σ := z
      rw [this]
  | Name x pos => exact g.tg o _ hz
  | _ => exact pdg_no
end

/-! ### iteration -/
noncomputable def Cmp.I (c : Cmp) (G : GX) (tg : Expr) : Expr → ID
  | .Call (.Name x p) args [] pos =>
    if args.all (fun e => !starred e) then
      (match G.glob x with
      | .bi =>
        if x = "range" then (match args with
          | [_] => kRg1 (c.A G args)
          | [_, _] => kRg2 (c.A G args)
          | _ => iNo)
        else (match tg with
          | .Tuple .. =>
            if x = "zip" then (match args with
              | [_, _] => iZip2 (c.A G args)
              | _ => iNo)
            else if x = "enumerate" then (match args with
              | [_] => iEnu (c.A G args)
              | _ => iNo)
            else iIt (c.E G (.Call (.Name x p) args [] pos))
          | _ => iIt (c.E G (.Call (.Name x p) args [] pos)))
      | _ => iIt (c.E G (.Call (.Name x p) args [] pos)))
    else iNo
  | e => iIt (c.E G e)
theorem Good.I {c : Cmp} {G : GX} {X : Cx} (g : Good c) (o : XOk G X) (tg it : Expr) : PDI X tg it (c.I G tg it) := by
  unfold Cmp.I
  split
  · rename_i x p args pos
    split
    · rename_i hs
      split
      · rename_i e
        obtain ⟨h1, h2⟩ := GX.glob_at e (by intro z; cases z)
        have hg := o.gl h1
        have hm := o.g.bi x h2
        split
        · rename_i hx
          subst hx
          split
          · rename_i a
            have s1 : starred a = false := by simpa using hs
            rw [kRg1_eq]; exact pdi_range1 hg hm (g.A o _) (star_cons s1)
          · rename_i a b
            have s1 : starred a = false ∧ starred b = false := by simpa using hs
            rw [kRg2_eq]; exact pdi_range2 hg hm (g.A o _) (by rw [star_cons s1.1, star_cons s1.2]; rfl) (star_cons s1.2)
          · exact pdi_no
        · split
          · split
            · rename_i hx
              subst hx
              split
              · rename_i a b
                have s1 : starred a = false ∧ starred b = false := by simpa using hs
                exact pdi_zip hg hm (g.A o _) (star_cons s1.1) (star_plain (by simpa using s1.2))
              · exact pdi_no
            · split
              · rename_i hx
                subst hx
                split
                · rename_i a
                  have s1 : starred a = false := by simpa using hs
                  exact pdi_enum hg hm (g.A o _) (star_cons s1)
                · exact pdi_no
              · exact pdi_any (g.E G X _ o)
          · exact pdi_any (g.E G X _ o)
      · exact pdi_any (g.E G X _ o)
    · exact pdi_no
  · exact pdi_any (g.E G X _ o)

/-! ### a comprehension's block -/
def relNames (sc names : List (Str × NameKind)) : List (Str × NameKind) := names.map fun (n, k) => if (k == .free && sc.lookup n == some .cell) then (n, .cell) else (n, k)
def GX.blk (G : GX) (scope : Scope) : GX := { G with sc := relNames G.sc scope.names, st := false, th := none }
/-- the block's own names with their slots -/
def ownOf (G : GX) (scope : Scope) : List (Str × Nat) := scope.names.filterMap fun (n, k) => match k with
  | .local => (G.slot n).map fun i => (n, i)
  | .cell => (G.slot n).map fun i => (n, i)
  | _ => none
def blkB (G : GX) (scope : Scope) : Bool := blkC G.N ⟨.function, G.sc, false, false, []⟩ scope (ownOf G scope) && scope.names.all fun y => match y.2 with
  | .cell => false
  | _ => true
theorem blk_ok {G : GX} {X : Cx} {scope : Scope} (o : XOk G X) (h : blkB G scope = true) : BlkOk X.N X.env.scope scope (ownOf G scope) := by
  unfold blkB at h
  rw [Bool.and_eq_true] at h
  have b := blkOk_by h.1
  rw [o.N]
  refine ⟨b.kind, b.uniq, b.ix, fun y hy e => ?_, b.own⟩
  have := b.free y hy e
  rw [o.sc]; exact this
theorem rel_lookup {sc : List (Str × NameKind)} {x : Str} {k : NameKind} : ∀ {l : List (Str × NameKind)}, (relNames sc l).lookup x = some k → (l.lookup x = some k ∧ ¬ (k = .free ∧ sc.lookup x = some .cell)) ∨ (l.lookup x = some .free ∧ k = .cell ∧ sc.lookup x = some .cell)
  | [], h => by cases h
  | (n, j) :: l, h => by
    unfold relNames at h
    rw [List.map_cons] at h
    by_cases hx : x = n
    · subst hx
      dsimp only at h
      split at h
      · rename_i hc
        rw [List.lookup_cons] at h ⊢
        simp only [beq_self_eq_true] at h ⊢
        cases h
        simp only [Bool.and_eq_true, beq_iff_eq] at hc
        exact .inr ⟨by rw [hc.1], rfl, hc.2⟩
      · rename_i hc
        rw [List.lookup_cons] at h ⊢
        simp only [beq_self_eq_true] at h ⊢
        cases h
        refine .inl ⟨rfl, fun z => hc ?_⟩
        rw [z.1, z.2]; rfl
    · have hb : (x == n) = false := by simpa using hx
      have h' : (relNames sc l).lookup x = some k := by
        dsimp only at h
        split at h <;> (rw [List.lookup_cons] at h; simp only [hb] at h; exact h)
      rw [List.lookup_cons]
      simp only [hb]
      exact rel_lookup h'
theorem xok_blk {G : GX} {X : Cx} {scope : Scope} (o : XOk G X) (h : blkB G scope = true) (s : Shared) (H : Hp) (C : Addr) (cl : List (Str × Addr)) (fp : List Addr) : XOk (G.blk scope) (X.blk s H scope (compEnvC scope cl C X.env) fp) := by
  have hn : (relabel scope X.env).names = (G.blk scope).sc := by
    show (scope.names.map _) = relNames G.sc scope.names
    unfold relNames
    apply List.map_congr_left
    intro y _
    obtain ⟨n, k⟩ := y
    have e1 : X.env.kindOf n = G.sc.lookup n := by
      show X.env.scope.names.lookup n = _
      rw [o.sc]
    simp only [o.fk, e1, show (ScopeKind.function == ScopeKind.function) = true from rfl, Bool.and_true]
  refine ⟨o.N, o.nd, hn, o.calm, fun z => Bool.noConfusion z, PassesOwn.never, ?_, o.g, fun x z => by cases z⟩
  show (relabel scope X.env).kind = _
  unfold blkB at h
  rw [Bool.and_eq_true] at h
  exact (blkOk_by h.1).kind
end DL

namespace DL
open PySem PySem.Spec PyProof.Rows L2 TL

/-! ### a, b = e, f -/
def isTuple : Expr → Bool
  | .Tuple .. => true
  | _ => false
def isTgTup : Expr → Bool
  | .Tuple .. => true
  | .List .. => true
  | _ => false
theorem swap_noV {tg v : Expr} {env : Env} (h : isTuple v = false) : swappedStores [tg] v env = pure none := by
  cases v <;> first | cases h; done | (cases tg <;> rfl)
theorem swap_noT {tg v : Expr} {env : Env} (h : isTgTup tg = false) : swappedStores [tg] v env = pure none := by
  cases tg <;> first | cases h; done | rfl
def locNames (sc : List (Str × NameKind)) (ts : List Expr) : List Str :=
  ts.filterMap fun
    | .Name id pos => if sc.lookup id == some .local && pos.line == (ts.head?.map (·.pos.line)).getD 0 then some id else none
    | _ => none
def anyStar (vs : List Expr) : Bool := vs.any fun | .Starred .. => true | _ => false
/-- what swappedStores answers of two tuples; none: not known here -/
def swF (sc : List (Str × NameKind)) (ts vs : List Expr) : Option (Option (List Str)) :=
  if (!(ts.length == 2 || ts.length == 3) || vs.length != ts.length) = true then some none
  else if anyStar vs = true then some none
  else if ((locNames sc ts).length != ts.length || (locNames sc ts).eraseDups.length != (locNames sc ts).length) = true then some none
  else if vs.all (foldedForSure 8) = true then some none
  else if vs.all (constantsAlone 8) = true then none
  else some (some (locNames sc ts))
def locNamesE (env : Env) (ts : List Expr) : List Str :=
  ts.filterMap fun
    | .Name id pos => if env.kindOf id == some .local && pos.line == (ts.head?.map (·.pos.line)).getD 0 then some id else none
    | _ => none
theorem swap_eq {env : Env} {ts vs : List Expr} {k1 k2 : Nat} {p1 p2 : Pos} : swappedStores [.Tuple ts k1 p1] (.Tuple vs k2 p2) env =
    (if (!(ts.length == 2 || ts.length == 3) || vs.length != ts.length || env.blockKind != .function) = true then pure none
    else if anyStar vs = true then pure none
    else if ((locNamesE env ts).length != ts.length || (locNamesE env ts).eraseDups.length != (locNamesE env ts).length) = true then pure none
    else if vs.all (foldedForSure 8) = true then pure none
    else if vs.all (constantsAlone 8) = true then (do unsupported "assign.tuple-of-constant-expressions:order-of-the-stores"; return some (locNamesE env ts))
    else pure (some (locNamesE env ts))) := by rfl

theorem locNames_eq {env : Env} {sc : List (Str × NameKind)} (h1 : env.scope.names = sc) (ts : List Expr) : locNamesE env ts = locNames sc ts := by
  subst h1; rfl
theorem swF_ok {env : Env} {sc : List (Str × NameKind)} (h1 : env.scope.names = sc) (h2 : env.scope.kind = .function) {ts vs : List Expr} {k1 k2 : Nat} {p1 p2 : Pos} {r : Option (List Str)} (h : swF sc ts vs = some r) : swappedStores [.Tuple ts k1 p1] (.Tuple vs k2 p2) env = pure r := by
  have hb : (env.blockKind != .function) = false := by unfold Env.blockKind; rw [h2]; rfl
  rw [swap_eq, hb, Bool.or_false, locNames_eq h1]
  unfold swF at h
  split at h
  · rename_i c; cases h; rw [if_pos c]
  · rename_i c
    rw [if_neg c]
    split at h
    · rename_i c; cases h; rw [if_pos c]
    · rename_i c
      rw [if_neg c]
      split at h
      · rename_i c; cases h; rw [if_pos c]
      · rename_i c
        rw [if_neg c]
        split at h
        · rename_i c; cases h; rw [if_pos c]
        · rename_i c
          rw [if_neg c]
          split at h
          · cases h
          · rename_i c; cases h; rw [if_neg c]
def sPar2 (i j : Nat) (t : AD) : SD := fun E ρ S => t E.w ρ S fun ds S1 => match ds with
  | [a, b] => E.nx ((ρ.set i (some a)).set j (some b)) S1
  | _ => False
def sPar3 (i j l : Nat) (t : AD) : SD := fun E ρ S => t E.w ρ S fun ds S1 => match ds with
  | [a, b, c] => E.nx (((ρ.set i (some a)).set j (some b)).set l (some c)) S1
  | _ => False
theorem two_of {ds : List D} {P : D → D → Prop} (h : match ds with | [a, b] => P a b | _ => False) : ∃ a b, ds = [a, b] ∧ P a b := by
  split at h
  · exact ⟨_, _, rfl, h⟩
  · exact h.elim
theorem three_of {ds : List D} {P : D → D → D → Prop} (h : match ds with | [a, b, c] => P a b c | _ => False) : ∃ a b c, ds = [a, b, c] ∧ P a b c := by
  split at h
  · exact ⟨_, _, _, rfl, h⟩
  · exact h.elim
theorem pds_par2 {X : Cx} {i j : Nat} {x y : Str} {a b : Expr} {t : AD} {px py pt pos : Pos} {kt k2 pt2} (hc : X.calm = true) (hN : X.N.Nodup) (hi : X.N[i]? = some x) (hj : X.N[j]? = some y) (hij : i ≠ j)
    (hx : X.env.scope.names.lookup x = some .local) (hy : X.env.scope.names.lookup y = some .local) (ha : PDA X [a, b] t)
    (hw : swappedStores [.Tuple [.Name x px, .Name y py] kt pt] (.Tuple [a, b] k2 pt2) X.env = pure (some [x, y])) : PDS X (.Assign [.Tuple [.Name x px, .Name y py] kt pt] (.Tuple [a, b] k2 pt2) pos) (sPar2 i j t) :=
  ⟨fun B W tk => (ps_par hc hN hi hj hij hx hy (ha.up B W tk) hw).imp fun D σ H h => by
    obtain ⟨ρ, S, E, R, L, O, k, h⟩ := h
    refine ⟨ρ, S, _, E.w, R, L, O, h, fun ds vs S1 H1 e1 R1 r1 q1 => ?_⟩
    obtain ⟨a, b, rfl, q1⟩ := two_of (P := fun a b => E.nx ((ρ.set i (some a)).set j (some b)) S1) q1
    obtain ⟨v, r, rfl, rv, rr⟩ := r1
    obtain ⟨u, rfl, ru⟩ := rr.one
    exact ⟨v, u, rfl, k.nx _ _ S1 H1 e1 R1 (((L.ext e1).set rv).set ru) q1⟩⟩
theorem pds_par3 {X : Cx} {i j l : Nat} {x y z : Str} {a b c : Expr} {t : AD} {px py pz pt pos : Pos} {kt k2 pt2} (hc : X.calm = true) (hN : X.N.Nodup) (hi : X.N[i]? = some x) (hj : X.N[j]? = some y) (hl : X.N[l]? = some z) (hij : i ≠ j) (hil : i ≠ l) (hjl : j ≠ l)
    (hx : X.env.scope.names.lookup x = some .local) (hy : X.env.scope.names.lookup y = some .local) (hz : X.env.scope.names.lookup z = some .local) (ha : PDA X [a, b, c] t)
    (hw : swappedStores [.Tuple [.Name x px, .Name y py, .Name z pz] kt pt] (.Tuple [a, b, c] k2 pt2) X.env = pure (some [x, y, z])) : PDS X (.Assign [.Tuple [.Name x px, .Name y py, .Name z pz] kt pt] (.Tuple [a, b, c] k2 pt2) pos) (sPar3 i j l t) :=
  ⟨fun B W tk => (ps_par3 hc hN hi hj hl hij hil hjl hx hy hz (ha.up B W tk) hw).imp fun D σ H h => by
    obtain ⟨ρ, S, E, R, L, O, k, h⟩ := h
    refine ⟨ρ, S, _, E.w, R, L, O, h, fun ds vs S1 H1 e1 R1 r1 q1 => ?_⟩
    obtain ⟨a, b, c, rfl, q1⟩ := three_of (P := fun a b c => E.nx (((ρ.set i (some a)).set j (some b)).set l (some c)) S1) q1
    obtain ⟨v, r, rfl, rv, u, r', rfl, ru, rr⟩ := r1
    obtain ⟨u', rfl, ru'⟩ := rr.one
    exact ⟨v, u, u', rfl, k.nx _ _ S1 H1 e1 R1 ((((L.ext e1).set rv).set ru).set ru') q1⟩⟩

/-! ### methods of built-in types, by name -/
def rApp (x : D) (ds : List D) (S : Sto) (q : QD) : Prop := match x, ds with
  | .ref a, [d] => (match S a with
    | some (.lst xs) => xs.length < sizeLine ∧ q .non (S.set a (.lst (xs ++ [d])))
    | _ => False)
  | _, _ => False
def strsD : List D → Option (List (List Nat))
  | [] => some []
  | .str a :: r => (strsD r).map (a :: ·)
  | _ :: _ => none
/-- a method of a built-in type: the type, the method's id, its reading -/
def MetD (X : Cx) (T : String) (id : String) (r : D → List D → Sto → QD → Prop) : Prop := ∀ B, MtR X id fun x vs H Q => ∃ d ds S q, Rel ⟨X.K, B⟩ S H ∧ Rp ⟨X.K, B⟩ S H d x ∧ Rps ⟨X.K, B⟩ S H ds vs ∧ r d ds S q ∧ Got ⟨X.K, B⟩ S H q Q
theorem _root_.L2.MtR.imp {X : Cx} {id : String} {r r' : V → List V → Hp → VK → Prop} (h : MtR X id r) (i : ∀ x vs H Q, r' x vs H Q → r x vs H Q) : MtR X id r' := fun pins s σ H x xs v us Q I rx rs q => h pins s σ H x xs v us Q I rx rs (i x xs H Q q)
theorem app_ex {x : D} {ds : List D} {S : Sto} {q : QD} (h : rApp x ds S q) : ∃ a d xs, x = .ref a ∧ ds = [d] ∧ S a = some (.lst xs) ∧ xs.length < sizeLine ∧ q .non (S.set a (.lst (xs ++ [d]))) := by
  unfold rApp at h
  split at h
  · split at h
    · rename_i xs e; exact ⟨_, _, xs, rfl, rfl, e, h⟩
    · exact h.elim
  · exact h.elim
theorem met_append {X : Cx} : MetD X "list" "list.append" rApp := fun B => (show MtR X "list.append" _ from mt_append).imp fun x vs H Q ⟨d, ds, S, q, R, rx, rs, h, g⟩ => by
  obtain ⟨a, d, xs, rfl, rfl, hS, hl, h⟩ := app_ex h
  cases rx
  obtain ⟨v, rfl, rv⟩ := rs.one
  obtain ⟨us, hH, ru⟩ := (show ∃ us, H a = some (.lst us) ∧ Rps _ S H xs us from R.ob a _ hS)
  refine ⟨a, us, v, rfl, rfl, hH, by rw [← ru.length]; exact hl, ?_⟩
  have ex : Ext S H (S.set a (.lst (xs ++ [d]))) (upd H a (.lst (us ++ [v]))) := Ext.put hS _
  exact g .non .non _ _ ex (Rel.put R hS (show RO _ _ _ a (.lst _) from ⟨_, upd_same, (ru.ext ex).append (.single (rv.ext ex))⟩)) rfl h
def eMet (r : D → List D → Sto → QD → Prop) (T : D → Sto → Prop) (to : ED) (t : AD) : ED := fun w ρ S q => to w ρ S fun x S1 => T x S1 ∧ t w ρ S1 fun ds S2 => r x ds S2 q
/-- the receiver is of the type -/
def isTyO (T : String) (o : Option O) : Prop := match o with
  | some (.lst _) => T = "list"
  | some (.dct _) => T = "dict"
  | _ => False
def isTy (T : String) (x : D) (S : Sto) : Prop := match x with
  | .str _ => T = "str"
  | .lst _ => T = "list"
  | .ref a => isTyO T (S a)
  | _ => False
theorem isTy_up {K : KB} {S : Sto} {H : Hp} {T : String} {d : D} {v : V} (R : Rel K S H) (r : Rp K S H d v) (h : isTy T d S) : tyV K.k T v H := by
  cases d with
  | str cs => cases r; exact h
  | lst ds => obtain ⟨a, vs, rfl, l, r⟩ := r; exact .inl ⟨h, vs, l.sq⟩
  | ref a =>
    cases r
    have h : isTyO T (S a) := h
    cases e : S a with
    | none => rw [e] at h; exact h.elim
    | some o =>
      rw [e] at h
      have ro := R.ob a o e
      cases o with
      | lst ds => obtain ⟨vs, e1, r⟩ := (show ∃ vs, H a = some (.lst vs) ∧ Rps _ S H ds vs from ro); exact .inl ⟨h, vs, SqL.of e1⟩
      | ins C fs => exact h.elim
      | xd _ => exact h.elim
      | cell _ _ => exact h.elim
      | tbl _ => exact h.elim
      | dct kvs => obtain ⟨vs, e1, r⟩ := (show ∃ vs, H a = some (.dK ((kvs.map (·.1)).zip vs)) ∧ Rps _ S H (kvs.map (·.2)) vs from ro); exact .inr (.inr (.inl ⟨h, .inl ⟨_, e1⟩⟩))
  | non => exact (show False from h).elim
  | bl _ => exact (show False from h).elim
  | int _ => exact (show False from h).elim
  | tup _ => exact (show False from h).elim
  | rol _ => exact (show False from h).elim
  | ty _ => exact (show False from h).elim
  | clo _ _ _ => exact (show False from h).elim
theorem pd_met {X : Cx} {T id : String} {r : D → List D → Sto → QD → Prop} {o e : Expr} {es : List Expr} {to : ED} {t : AD} {name : Str} {apos cpos : Pos} (pa : PlainAttrs T) (slot : Slot T name id) (hty : typeOf (.builtin id) = pure (.type "method_descriptor")) (hm : MetD X T id r) (ho : PD X o to) (ha : PDA X (e :: es) t)
    (hbase : attributeBase o name X.env (eval o X.env) = eval o X.env)
    (hfew : ((backTo cpos (starEach (e :: es) X.env)).all (fun x => !x.1) && (backToKw cpos (keywordEach [] X.env)).all (fun x => x.1.isSome)
      && decide ((e :: es).length + ([] : List Keyword).length + (if ([] : List Keyword).isEmpty then 0 else 1) < 30)) = true)
    (hline : (apos.endLine == cpos.line) = true) (hs : starEach (e :: es) X.env = (false, eval e X.env) :: starEach es X.env) (hplain : (backTo cpos (starEach es X.env)).any (·.1) = false) :
    PD X (.Call (.Attribute o name apos) (e :: es) [] cpos) (eMet r (isTy T) to t) :=
  ⟨fun B W tk => (pe_bm pa slot hty (hm B) (ho.up B W tk) (ha.up B W tk) hbase hfew hline hs hplain).imp fun σ H Q h => by
    obtain ⟨ρ, S, q, w, R, L, O, h, k⟩ := h
    refine ⟨ρ, S, _, w, R, L, O, h, fun d v S1 H1 e1 R1 r1 ⟨ty, q1⟩ => ⟨isTy_up R1 r1 ty, ρ, S1, _, w, R1, L.ext e1, O.ext e1, q1, fun ds vs S2 H2 e2 R2 r2 q2 => ?_⟩⟩
    exact ⟨d, ds, S2, q, R2, r1.ext e2, r2, q2, fun d v S3 H3 e3 => k d v S3 H3 (e1.trans (e2.trans e3))⟩⟩
theorem strs_up {K : KB} {S : Sto} {H : Hp} : ∀ {ds : List D} {ys : List (List Nat)} {vs : List V}, strsD ds = some ys → Rps K S H ds vs → vs = (ys.map mkS).map V.str
  | [], _, _, e, r => by cases r; cases e; rfl
  | d :: ds, ys, _, e, ⟨v, r', e1, h, t⟩ => by
    cases e1
    cases d <;> first | cases e; done | skip
    cases h
    have e : (strsD ds).map (_ :: ·) = some ys := e
    cases q : strsD ds with
    | none => rw [q] at e; cases e
    | some cs => rw [q] at e; cases e; rw [strs_up q t]; rfl
def strsK (ds : List D) (k : List (List Nat) → Prop) : Prop := match strsD ds with
  | some ys => k ys
  | none => False
def joinArg (d : D) (k : List (List Nat) → Prop) : Prop := match d with
  | .lst ds => strsK ds k
  | .tup ds => strsK ds k
  | _ => False
def rJoin (x : D) (ds : List D) (S : Sto) (q : QD) : Prop := match x with
  | .str a => (match ds with
    | [d] => joinArg d fun ys => (ys.map (·.length)).sum + ys.length * a.length ≤ 16777216 ∧ q (.str (joinL a ys)) S
    | _ => False)
  | _ => False
theorem strsK_up {K : KB} {S : Sto} {H : Hp} {ds : List D} {vs : List V} {k : List (List Nat) → Prop} (h : strsK ds k) (r : Rps K S H ds vs) : ∃ ys : List (List Nat), vs = (ys.map mkS).map V.str ∧ k ys := by
  unfold strsK at h
  split at h
  · rename_i ys e; exact ⟨ys, strs_up e r, h⟩
  · exact h.elim
theorem tl_mk (a : List Nat) : tl (mkS a) = a := by show a.toArray.toList = a; simp
theorem join_ex {x : D} {ds : List D} {S : Sto} {q : QD} (h : rJoin x ds S q) : ∃ a d, x = .str a ∧ ds = [d] ∧ joinArg d fun ys => (ys.map (·.length)).sum + ys.length * a.length ≤ 16777216 ∧ q (.str (joinL a ys)) S := by
  unfold rJoin at h
  split at h
  · split at h
    · exact ⟨_, _, rfl, rfl, h⟩
    · exact h.elim
  · exact h.elim
theorem met_join {X : Cx} : MetD X "str" "str.join" rJoin := fun B => mt_join.imp fun x vs H Q ⟨d, ds, S, q, R, rx, rs, h, g⟩ => by
  obtain ⟨a, d, rfl, rfl, h⟩ := join_ex h
  cases rx
  obtain ⟨v, rfl, rv⟩ := rs.one
  have fin : ∀ {us : List V} {es : List D} {p : Addr}, (SqL X.K H p us ∨ SqT X.K H p us) → Rps ⟨X.K, B⟩ S H es us → (strsK es fun ys => (ys.map (·.length)).sum + ys.length * a.length ≤ 16777216 ∧ q (.str (joinL a ys)) S) →
      ∃ a' p', ∃ ys : List Str, V.str (mkS a) = .str a' ∧ [V.ref p] = [.ref p'] ∧ (SqL X.K H p' (ys.map V.str) ∨ SqT X.K H p' (ys.map V.str)) ∧ (ys.map (·.length)).sum + ys.length * a'.length ≤ 16777216 ∧ Q (.str (Txt.join a' ys)) H := fun {us es p} sq ru h => by
    obtain ⟨ys, rfl, hz, h⟩ := strsK_up h ru
    refine ⟨mkS a, p, ys.map mkS, rfl, rfl, sq, ?_, ?_⟩
    · rw [List.map_map, List.length_map, mkS_length]
      have : (ys.map ((·.length) ∘ mkS)) = ys.map (·.length) := List.map_congr_left fun y _ => mkS_length y
      rw [this]; exact hz
    · refine g (.str _) _ S H .refl R ?_ h
      show V.str _ = V.str (mkS _)
      congr 1
      rw [join_eq]
      have e := tl_join (mkS a) (ys.map mkS)
      rw [List.map_map, tl_mk, show (tl ∘ mkS) = id from funext tl_mk, List.map_id] at e
      have e' : Str.join (mkS a) (ys.map mkS) = mkS (joinL a ys) := (mk_tl _).symm.trans (congrArg mkS e)
      exact e'
  cases d with
  | lst es => obtain ⟨p, us, rfl, l, ru⟩ := rv; exact fin (.inl l.sq) ru h
  | tup es => obtain ⟨p, us, rfl, l, ru⟩ := rv; exact fin (.inr l.sq) ru h
  | _ => exact (show False from h).elim
@[irreducible] noncomputable def hApp : D → List D → Sto → QD → Prop := stuck (rApp)
theorem hApp_eq : hApp = (rApp) := by unfold hApp; exact stuck_eq _
@[irreducible] noncomputable def hJoin : D → List D → Sto → QD → Prop := stuck (rJoin)
theorem hJoin_eq : hJoin = (rJoin) := by unfold hJoin; exact stuck_eq _
def kMet (r : D → List D → Sto → QD → Prop) (T : String) (to : ED) (t : AD) : ED := fun w ρ S q => to w ρ S fun x S1 => hAnd (isTy T x S1) (t w ρ S1 fun ds S2 => r x ds S2 q)
theorem kMet_eq {r : D → List D → Sto → QD → Prop} {T : String} {to : ED} {t : AD} : kMet r T to t = eMet r (isTy T) to t := by unfold kMet eMet; simp only [hAnd_eq]
/-! ### x.split(y) -/
def rSplit (x : D) (ds : List D) (S : Sto) (q : QD) : Prop := match x, ds with
  | .str a, [.str b] => b ≠ [] ∧ b.all (fun c => decide (c < 256)) = true ∧ a.length + 2 ≤ sizeLine ∧ q (.lst ((TL.spl b 0 [] a).map .str)) S
  | _, _ => False
theorem split_ex {x : D} {ds : List D} {S : Sto} {q : QD} (h : rSplit x ds S q) : ∃ a b, x = .str a ∧ ds = [.str b] ∧ b ≠ [] ∧ b.all (fun c => decide (c < 256)) = true ∧ a.length + 2 ≤ sizeLine ∧ q (.lst ((TL.spl b 0 [] a).map .str)) S := by
  unfold rSplit at h
  split at h
  · exact ⟨_, _, rfl, rfl, h⟩
  · exact h.elim
theorem rps_strs {K : KB} {S : Sto} {H : Hp} : ∀ {ys : List Str} {zs : List (List Nat)}, ys.map TL.tl = zs → Rps K S H (zs.map .str) (ys.map V.str)
  | [], _, h => by subst h; rfl
  | y :: ys, _, h => by
    subst h
    refine ⟨_, _, rfl, ?_, rps_strs rfl⟩
    show V.str y = V.str (mkS (TL.tl y))
    rw [mk_tl]
theorem met_split {X : Cx} : MetD X "str" "str.split" rSplit := fun B => (mt_split (X := X)).imp fun x vs H Q ⟨d, ds, S, q, R, rx, rs, h, g⟩ => by
  obtain ⟨a, b, rfl, rfl, hb, hk, len, h⟩ := split_ex h
  cases rx
  obtain ⟨v, rfl, rv⟩ := rs.one
  cases rv
  refine ⟨mkS a, mkS b, rfl, rfl, ?_, by rw [mkS_length]; exact len, fun p hp => ?_⟩
  · rw [mkS_length]
    cases b with
    | nil => exact absurd rfl hb
    | cons _ _ => rfl
  · have e : (Txt.split (mkS a) (mkS b)).map TL.tl = TL.spl b 0 [] a := by
      have := TL.split_spl (mkS a) (mkS b) (by show b.toArray.toList ≠ []; simpa using hb) (TL.kind_ok (by show b.toArray.all (· < 256) = true; rw [← Array.all_toList]; simpa using hk))
      simpa [TL.tl] using this
    exact Got.lst g R (rps_strs e) h hp
@[irreducible] noncomputable def hSplit : D → List D → Sto → QD → Prop := stuck rSplit
theorem hSplit_eq : hSplit = rSplit := by unfold hSplit; exact stuck_eq _

end DL

namespace DL
open PySem PySem.Spec PyProof.Rows L2

/-! ### x.insert(i, y) -/
def insO (o : Option O) (a : Addr) (i : Int) (d : D) (S : Sto) (q : QD) : Prop := match o with
  | some (.lst xs) => (xs.length < sizeLine ∧ 0 ≤ i ∧ i < 2 ^ 63) ∧ q .non (S.set a (.lst (xs.take i.toNat ++ [d] ++ xs.drop i.toNat)))
  | _ => False
def rIns (x : D) (ds : List D) (S : Sto) (q : QD) : Prop := match x, ds with
  | .ref a, [.int i, d] => insO (S a) a i d S q
  | _, _ => False
theorem ins_ex {x : D} {ds : List D} {S : Sto} {q : QD} (h : rIns x ds S q) : ∃ a i d xs, x = .ref a ∧ ds = [.int i, d] ∧ S a = some (.lst xs) ∧ (xs.length < sizeLine ∧ 0 ≤ i ∧ i < 2 ^ 63) ∧ q .non (S.set a (.lst (xs.take i.toNat ++ [d] ++ xs.drop i.toNat))) := by
  unfold rIns at h
  split at h
  · rename_i a i d
    unfold insO at h
    split at h
    · rename_i xs e; exact ⟨_, _, _, xs, rfl, rfl, e, h⟩
    · exact h.elim
  · exact h.elim
theorem met_insert {X : Cx} : MetD X "list" "list.insert" rIns := fun B => (show MtR X "list.insert" _ from mt_insert).imp fun x vs H Q ⟨d, ds, S, q, R, rx, rs, h, g⟩ => by
  obtain ⟨a, i, d, xs, rfl, rfl, hS, ⟨hl, h0, h1⟩, h⟩ := ins_ex h
  cases rx
  obtain ⟨vi, vr, rfl, ri, rr⟩ := rs
  cases ri
  obtain ⟨v, rfl, rv⟩ := rr.one
  obtain ⟨us, hH, ru⟩ := (show ∃ us, H a = some (.lst us) ∧ Rps _ S H xs us from R.ob a _ hS)
  refine ⟨a, us, i, v, rfl, rfl, hH, by rw [← ru.length]; exact hl, h0, h1, ?_⟩
  have ex : Ext S H (S.set a (.lst (xs.take i.toNat ++ [d] ++ xs.drop i.toNat))) (upd H a (.lst (us.take i.toNat ++ [v] ++ us.drop i.toNat))) := Ext.put hS _
  exact g .non .non _ _ ex (Rel.put R hS (show RO _ _ _ a (.lst _) from ⟨_, upd_same, (((ru.take _).ext ex).append (.single (rv.ext ex))).append ((ru.drop _).ext ex)⟩)) rfl h
@[irreducible] noncomputable def hIns : D → List D → Sto → QD → Prop := stuck (rIns)
theorem hIns_eq : hIns = (rIns) := by unfold hIns; exact stuck_eq _
end DL

namespace DL
open PySem PySem.Spec PyProof.Rows L2 TL

/-! ### text.index(sign), text.endswith(text) -/
theorem idx_uniq : ∀ {a : List Nat} {c i : Nat}, a[i]? = some c → (∀ k, k < i → a[k]? ≠ some c) → a.idxOf c = i
  | [], _, _, h, _ => by cases h
  | x :: a, c, i, h, hk => by
    rw [List.idxOf_cons]
    cases i with
    | zero =>
      have h : x = c := by simpa using h
      subst h
      simp
    | succ i =>
      have n : x ≠ c := fun z => hk 0 (by omega) (by simp [z])
      have e : (x == c) = false := by simpa using n
      rw [e]
      show a.idxOf c + 1 = i + 1
      rw [idx_uniq (a := a) (c := c) (i := i) (by simpa using h) (fun k hk2 => by have := hk (k + 1) (by omega); simpa using this)]
theorem occ_one {a : List Nat} {c : Nat} (h : c ∈ a) : ∃ rest, Builtin.Str.occurrences (mkS a) (mkS [c]) 0 (mkS a).length 1 = a.idxOf c :: rest := by
  have one : ∀ i, StrLaws.At (mkS a) (mkS [c]) (mkS a).length i ↔ a[i]? = some c := fun i => StrLaws.subAt_one (mkS a) c i
  rcases StrLaws.occ_head (mkS a) (mkS [c]) 1 (Nat.le_refl _) with ⟨_, hn⟩ | ⟨i, r, ho, ha, hk⟩
  · obtain ⟨i, hi⟩ := List.mem_iff_getElem?.mp h
    exact absurd ((one i).mpr hi) (hn i)
  · refine ⟨r, ?_⟩
    rw [ho, idx_uniq ((one i).mp ha) fun k hk2 z => hk k hk2 ((one k).mpr z)]
def rSidx (x : D) (ds : List D) (S : Sto) (q : QD) : Prop := match x, ds with
  | .str a, [.str [c]] => c ∈ a ∧ q (.int (a.idxOf c)) S
  | _, _ => False
theorem sidx_ex {x : D} {ds : List D} {S : Sto} {q : QD} (h : rSidx x ds S q) : ∃ a c, x = .str a ∧ ds = [.str [c]] ∧ c ∈ a ∧ q (.int (a.idxOf c)) S := by
  unfold rSidx at h
  split at h
  · exact ⟨_, _, rfl, rfl, h⟩
  · exact h.elim
theorem met_sindex {X : Cx} : MetD X "str" "str.index" rSidx := fun B => (show MtR X "str.index" _ from mt_sindex).imp fun x vs H Q ⟨d, ds, S, q, R, rx, rs, h, g⟩ => by
  obtain ⟨a, c, rfl, rfl, hc, h⟩ := sidx_ex h
  cases rx
  obtain ⟨v, rfl, rv⟩ := rs.one
  cases rv
  obtain ⟨rest, ho⟩ := occ_one hc
  exact ⟨mkS a, mkS [c], a.idxOf c, rest, rfl, rfl, ho, g.int R h⟩
@[irreducible] noncomputable def hSidx : D → List D → Sto → QD → Prop := stuck (rSidx)
theorem hSidx_eq : hSidx = (rSidx) := by unfold hSidx; exact stuck_eq _
theorem ends_eq {a b : List Nat} : Txt.endswith (mkS a) (mkS b) = b.isSuffixOf a := by
  have la : (mkS a).length = a.length := mkS_length a
  have lb : (mkS b).length = b.length := mkS_length b
  have ea : (mkS a).cps.toList = a := by simp [mkS]
  have eb : (mkS b).cps.toList = b := by simp [mkS]
  unfold Txt.endswith
  rw [StrLaws.subAt_eq, la, lb, ea, eb, Bool.eq_iff_iff, List.isSuffixOf_iff_suffix, Bool.and_eq_true, decide_eq_true_eq, beq_iff_eq]
  constructor
  · rintro ⟨h1, h2⟩
    have h3 : (a.drop (a.length - b.length)).take b.length = a.drop (a.length - b.length) := List.take_of_length_le (by rw [List.length_drop]; omega)
    rw [h3] at h2
    exact ⟨a.take (a.length - b.length), by have := List.take_append_drop (a.length - b.length) a; rw [h2] at this; exact this⟩
  · rintro ⟨t, rfl⟩
    refine ⟨by simp, ?_⟩
    rw [List.length_append, Nat.add_sub_cancel, List.drop_left]
    exact List.take_of_length_le (Nat.le_refl _)
def rEnds (x : D) (ds : List D) (S : Sto) (q : QD) : Prop := match x, ds with
  | .str a, [.str b] => q (.bl (b.isSuffixOf a)) S
  | _, _ => False
theorem ends_ex {x : D} {ds : List D} {S : Sto} {q : QD} (h : rEnds x ds S q) : ∃ a b, x = .str a ∧ ds = [.str b] ∧ q (.bl (b.isSuffixOf a)) S := by
  unfold rEnds at h
  split at h
  · exact ⟨_, _, rfl, rfl, h⟩
  · exact h.elim
theorem met_ends {X : Cx} : MetD X "str" "str.endswith" rEnds := fun B => (show MtR X "str.endswith" _ from mt_endswith).imp fun x vs H Q ⟨d, ds, S, q, R, rx, rs, h, g⟩ => by
  obtain ⟨a, b, rfl, rfl, h⟩ := ends_ex h
  cases rx
  obtain ⟨v, rfl, rv⟩ := rs.one
  cases rv
  refine ⟨mkS a, mkS b, rfl, rfl, ?_⟩
  rw [ends_eq]
  exact g.bl R h
@[irreducible] noncomputable def hEnds : D → List D → Sto → QD → Prop := stuck (rEnds)
theorem hEnds_eq : hEnds = (rEnds) := by unfold hEnds; exact stuck_eq _

end DL

namespace DL
open PySem PySem.Spec PyProof.Rows L2

/-! ### [elt for t1 in it1 if .. for t2 in it2 if ..] -/
def asLst (k : List D → Sto → Prop) : QD := fun d S => match d with
  | .lst ds => k ds S
  | _ => False
def lcGo2 (kp : KP) (g : GD) (tt : TD) (ti1 : ID) (g1 : GD) (tt1 : TD) (te : ED) (w : XD) (ρ : St') (vs1 : List Nat) (q : QD) : List D → List D → Sto → Prop
  | [], acc, S => kpOk kp S ∧ q (.lst acc) S
  | d :: ds, acc, S => kpOk kp S ∧ g d w ρ S fun ρ1 S1 => tt w ρ1 S1 fun b S2 => if b = true then ti1 w ρ1 S2 fun kp1 es S3 => lcGo kp1 g1 tt1 te w (wipeD ρ1 vs1) (asLst fun acc' S' => lcGo2 kp g tt ti1 g1 tt1 te w ρ vs1 q ds acc' S') es acc S3
      else lcGo2 kp g tt ti1 g1 tt1 te w ρ vs1 q ds acc S2
def eLc2 (ti : ID) (g : GD) (tt : TD) (ti1 : ID) (g1 : GD) (tt1 : TD) (te : ED) (vs vs1 : List Nat) : ED := fun w ρ S q => ti w ρ S fun kp ds S1 => lcGo2 kp g tt ti1 g1 tt1 te noX (wipeD ρ vs) vs1 q ds [] S1
def exI (k : PySem.W.Frag) (t : ID) : TI := fun σ H R => ∃ B, upI ⟨k, B⟩ noW t σ H R
theorem Sl.grow {K : KB} {S : Sto} {H : Hp} {L : Addr} {o : HO} {ρ : St'} {σ : St} (h : Sl (K.add L) S H ρ σ) (n : ∀ xs, H L ≠ some (.tup xs)) : Sl (K.add L) S (upd H L o) ρ σ := ⟨h.len, fun i d q => let ⟨v, a, r⟩ := h.at_ i d q; ⟨v, a, r.grow n⟩⟩
theorem wipe_rest {σ4 σ : St} {vs : List Nat} (z4 : wipe σ4 vs = wipe (wipe σ vs) vs) : wipe σ4 vs = wipe σ vs := by
  rw [z4]
  apply List.ext_getElem?
  intro j
  rw [wipe_get, wipe_get]
  by_cases hj : j ∈ vs
  · rw [if_pos hj, if_pos hj]
    cases σ[j]? <;> rfl
  · rw [if_neg hj, if_neg hj]
theorem lc2_core {K : KB} {ti ti1 : ID} {g g1 : GD} {tt tt1 : TD} {te : ED} {vs vs1 : List Nat} {W : WX} {σ : St} {H : Hp} {Q : VK} {ρ : St'} {S : Sto} {q : QD} {w : XD} (R : Rel K S H) (Ls : Sl K S H ρ σ) (O : WOk K S H w W) (h : eLc2 ti g tt ti1 g1 tt1 te vs vs1 w ρ S q)
    (k : ∀ S1 H1 L acc av S2 H2, Ext S H S1 H1 → H1 L = none → ¬ K.b L → Ext S1 H1 S2 H2 → Rel (K.add L) S2 H2 → H2 L = some (.lst av) → Rps (K.add L) S2 H2 acc av → q (.lst acc) S2 → Q (.ref L) H2) :
    tLc2 (upI K W ti) (exG K.k vs g) (exT K.k tt) (exI K.k ti1) (exG K.k vs1 g1) (exT K.k tt1) (exE K.k te) vs vs1 σ H Q := by
  refine ⟨ρ, S, _, w, R, Ls, O, h, fun J kp ds G S1 H1 e1 R1 g0 Wk q1 L hL => ?_⟩
  let Inv' : Nat → Hp → Prop := fun i H2 => ∃ S2 acc av, H2 L = some (.lst av) ∧ Rel (K.add L) S2 H2 ∧ Ext S1 H1 S2 H2 ∧ Rps (K.add L) S2 H2 acc av ∧ G (K.add L) S2 H2 ∧ lcGo2 kp g tt ti1 g1 tt1 te noX (wipeD ρ vs) vs1 q (ds.drop i) acc S2
  refine ⟨fun i m H2 => m = ds.length - i ∧ i ≤ ds.length ∧ Inv' i H2, ⟨ds.length, by simp, Nat.zero_le _, S1, [], [], upd_same, Rel.begin R1 hL _, Ext.new R1 hL _, rfl, Wk.ext _ _ _ _ _ (Wk.add _ _ _ _ g0 hL) (Ext.new R1 hL _), by simpa using q1⟩, ?_⟩
  rintro i m H2 ⟨rfl, hi, S2, acc, av, hLv, R2, e2, ra, g2, q2⟩
  have sl0 : Sl (K.add L) S2 H2 (wipeD ρ vs) (wipe σ vs) := (((Ls.ext e1).add hL).ext e2).wipe vs
  have cc : kpOk kp S2 := by
    cases e : ds.drop i with
    | nil => rw [e] at q2; exact q2.1
    | cons d r => rw [e] at q2; exact q2.1
  have now : ∀ {S H}, WOk (K.add L) S H noX noW := fun {S H} C dd fs vs ρ' σ' S' H' _ _ _ _ _ _ z => z.elim
  by_cases hlt : i < ds.length
  · refine .inr ⟨Wk.go (K.add L) i S2 H2 rfl R2 g2 cc hlt, Inv' (i + 1), fun H' h' => ⟨ds.length - (i + 1), by omega, rfl, hlt, h'⟩, fun x H3 y => ?_⟩
    obtain ⟨R3, e3, rx⟩ := Wk.yld (K.add L) i S2 H2 x H3 rfl R2 g2 cc y ds[i] (List.getElem?_eq_getElem hlt)
    rw [List.drop_eq_getElem_cons hlt] at q2
    have q2 := q2.2
    have L3 := sl0.ext e3
    have hS2 : S2 L = none := (R2.bl L (.inr rfl)).2
    have hL3 : H3 L = some (.lst av) := (e3 L _ hLv hS2).1
    refine ⟨(K.add L).b, ds[i], wipeD ρ vs, S2, _, noX, R3, L3, now, rx, q2, fun ρ4 σ4 S4 H4 z4 e4 R4 L4 q4 => ⟨wipe_rest z4, ?_⟩⟩
    have hL4 : H4 L = some (.lst av) := (e4 L _ hL3 hS2).1
    have e24 := e3.trans e4
    refine ⟨(K.add L).b, ρ4, S4, _, noX, R4, L4, now, q4, fun b S5 H5 e5 R5 q5 => ?_⟩
    have hS4 : S4 L = none := (R4.bl L (.inr rfl)).2
    have hL5 : H5 L = some (.lst av) := (e5 L _ hL4 hS4).1
    cases b with
    | false => exact ⟨S5, acc, av, hL5, R5, e2.trans (e24.trans e5), ra.ext (e24.trans e5), Wk.ext _ _ _ _ _ g2 (e24.trans e5), q5⟩
    | true =>
      have e25 := e24.trans e5
      refine ⟨(K.add L).b, ρ4, S5, _, noX, R5, L4.ext e5, now, q5, fun J1 kp1 es G1 S6 H6 e6 R6 g6 Wk1 q6 => ?_⟩
      have hS5 : S5 L = none := (R5.bl L (.inr rfl)).2
      have hL6 : H6 L = some (.lst av) := (e6 L _ hL5 hS5).1
      have e26 := e25.trans e6
      let Q1 : QD := asLst fun acc' S' => lcGo2 kp g tt ti1 g1 tt1 te noX (wipeD ρ vs) vs1 q (ds.drop (i + 1)) acc' S'
      let Inv1 : Nat → Hp → Prop := fun j H7 => ∃ S7 acc7 av7, H7 L = some (.lst av7) ∧ Rel (K.add L) S7 H7 ∧ Ext S1 H1 S7 H7 ∧ Rps (K.add L) S7 H7 acc7 av7 ∧ G (K.add L) S7 H7 ∧ G1 (K.add L) S7 H7 ∧ Sl (K.add L) S7 H7 ρ4 σ4 ∧ lcGo kp1 g1 tt1 te noX (wipeD ρ4 vs1) Q1 (es.drop j) acc7 S7
      refine ⟨fun j k H7 => k = es.length - j ∧ j ≤ es.length ∧ Inv1 j H7, ⟨es.length, by simp, Nat.zero_le _, S6, acc, av, hL6, R6, e2.trans e26, ra.ext e26, Wk.ext _ _ _ _ _ g2 e26, g6, (L4.ext e5).ext e6, by simpa using q6⟩, ?_⟩
      rintro j k7 H7 ⟨rfl, hj, S7, acc7, av7, hL7, R7, e7, ra7, g7, g17, sl7, q7⟩
      have cc7 : kpOk kp1 S7 := by
        cases e : es.drop j with
        | nil => rw [e] at q7; exact q7.1
        | cons d r => rw [e] at q7; exact q7.1
      by_cases hlt1 : j < es.length
      · refine .inr ⟨Wk1.go (K.add L) j S7 H7 rfl R7 g17 cc7 hlt1, Inv1 (j + 1), fun H' h' => ⟨es.length - (j + 1), by omega, rfl, hlt1, h'⟩, fun x8 H8 y8 => ?_⟩
        obtain ⟨R8, e8, rx8⟩ := Wk1.yld (K.add L) j S7 H7 x8 H8 rfl R7 g17 cc7 y8 es[j] (List.getElem?_eq_getElem hlt1)
        rw [List.drop_eq_getElem_cons hlt1] at q7
        have q7 := q7.2
        have hS7 : S7 L = none := (R7.bl L (.inr rfl)).2
        have hL8 : H8 L = some (.lst av7) := (e8 L _ hL7 hS7).1
        refine ⟨(K.add L).b, es[j], wipeD ρ4 vs1, S7, _, noX, R8, (sl7.wipe vs1).ext e8, now, rx8, q7, fun ρ9 σ9 S9 H9 z9 e9 R9 L9 q9 => ⟨wipe_rest z9, ?_⟩⟩
        have hL9 : H9 L = some (.lst av7) := (e9 L _ hL8 hS7).1
        have e79 := e8.trans e9
        have hS9 : S9 L = none := (R9.bl L (.inr rfl)).2
        refine ⟨(K.add L).b, ρ9, S9, _, noX, R9, L9, now, q9, fun b Sa Ha ea Ra qa => ?_⟩
        have hLa : Ha L = some (.lst av7) := (ea L _ hL9 hS9).1
        have e7a := e79.trans ea
        cases b with
        | false => exact ⟨Sa, acc7, av7, hLa, Ra, e7.trans e7a, ra7.ext e7a, Wk.ext _ _ _ _ _ g7 e7a, Wk1.ext _ _ _ _ _ g17 e7a, sl7.ext e7a, qa⟩
        | true =>
          have hSa : Sa L = none := (Ra.bl L (.inr rfl)).2
          refine ⟨(K.add L).b, ρ9, Sa, _, noX, Ra, L9.ext ea, now, qa, fun y' v Sb Hb eb Rb rb qb => ?_⟩
          have hLb : Hb L = some (.lst av7) := (eb L _ hLa hSa).1
          have e7b := e7a.trans eb
          have nt : ∀ xs, Hb L ≠ some (.tup xs) := fun xs z => by rw [hLb] at z; cases z
          have no : ∀ x, Hb L ≠ some (.own x) := fun x z => by rw [hLb] at z; cases z
          refine ⟨av7, hLb, by rw [← ra7.length]; exact qb.1, Sb, acc7 ++ [y'], av7 ++ [v], upd_same, Rel.grow Rb nt no, ?_, ((ra7.ext e7b).append (.single rb)).grow nt, Wk.grow _ _ _ _ _ (Wk.ext _ _ _ _ _ g7 e7b) nt, Wk1.grow _ _ _ _ _ (Wk1.ext _ _ _ _ _ g17 e7b) nt, (sl7.ext e7b).grow nt, qb.2⟩
          intro a o ha hs
          have hne : a ≠ L := ne_of_none ha hL
          obtain ⟨h1, h2⟩ := (e7.trans e7b) a o ha hs
          exact ⟨by rw [upd_ne hne]; exact h1, h2⟩
      · have e : j = es.length := by omega
        subst e
        rw [List.drop_length] at q7
        refine .inl ⟨Wk1.stop (K.add L) S7 H7 rfl R7 g17 cc7, ?_⟩
        exact ⟨S7, acc7, av7, hL7, R7, e7, ra7, g7, q7.2⟩
  · have e : i = ds.length := by omega
    subst e
    rw [List.drop_length] at q2
    refine .inl ⟨Wk.stop (K.add L) S2 H2 rfl R2 g2 cc, ?_⟩
    exact k S1 H1 L acc av S2 H2 e1 hL (fun z => R1.nb hL z) e2 R2 hLv ra q2.2
theorem lc2_up {K : KB} {ti ti1 : ID} {g g1 : GD} {tt tt1 : TD} {te : ED} {vs vs1 : List Nat} {W : WX} {σ : St} {H : Hp} {Q : VK} (h : upE K W (eLc2 ti g tt ti1 g1 tt1 te vs vs1) σ H Q) :
    tLc2 (upI K W ti) (exG K.k vs g) (exT K.k tt) (exI K.k ti1) (exG K.k vs1 g1) (exT K.k tt1) (exE K.k te) vs vs1 σ H Q := by
  obtain ⟨ρ, S, q, w, R, Ls, O, h, k⟩ := h
  exact lc2_core R Ls O h fun S1 H1 L acc av S2 H2 e1 hL nb e2 R2 hLv ra q2 => k (.lst acc) (.ref L) S2 H2 (e1.trans e2) R2.rem ⟨L, av, rfl, ⟨hLv, (R2.bl L (.inr rfl)).2, nb⟩, ra.rem⟩ q2
theorem lc2_upM {K : KB} {ti ti1 : ID} {g g1 : GD} {tt tt1 : TD} {te : ED} {vs vs1 : List Nat} {W : WX} {σ : St} {H : Hp} {Q : VK} (h : upE K W (kLcM (eLc2 ti g tt ti1 g1 tt1 te vs vs1)) σ H Q) :
    tLc2 (upI K W ti) (exG K.k vs g) (exT K.k tt) (exI K.k ti1) (exG K.k vs1 g1) (exT K.k tt1) (exE K.k te) vs vs1 σ H Q := by
  obtain ⟨ρ, S, q, w, R, Ls, O, h, k⟩ := h
  refine lc2_core R Ls O h fun S1 H1 L acc av S2 H2 e1 hL nb e2 R2 hLv ra q2 => ?_
  have hq : ∀ p, S2 p = none → q (.ref p) (S2.set p (.lst acc)) := q2
  refine k (.ref L) (.ref L) (S2.set L (.lst acc)) H2 (fun a o ha hs => ?_) (R2.thaw nb hLv ra) rfl (hq L (R2.bl L (.inr rfl)).2)
  obtain ⟨h1, s1⟩ := e1 a o ha hs
  obtain ⟨h2, s2⟩ := e2 a o h1 s1
  exact ⟨h2, by rw [Sto.set_ne (ne_of_none h1 hL)]; exact s2⟩
theorem pd_lc2 {X : Cx} {elt tg iter tg1 iter1 : Expr} {ifs ifs1 : List Expr} {scope : Scope} {own : List (Str × Nat)} {vs1 : List Nat} {pos : Pos} {ti ti1 : ID} {g g1 : GD} {tt tt1 : TD} {te : ED} (hc : X.calm = true) (hN : X.N.Nodup) (hi : PDI X tg iter ti) (ok : BlkOk X.N X.env.scope scope own) (hv : ∀ i ∈ vs1, i ∈ own.map (·.2))
    (hg : ∀ (s : Shared) (H : Hp) (C : Addr) (cl : List (Str × Addr)) (fp : List Addr), PDG (X.blk s H scope (compEnvC scope cl C X.env) fp) tg (own.map (·.2)) g) (ht : ∀ (s : Shared) (H : Hp) (C : Addr) (cl : List (Str × Addr)) (fp : List Addr), PDTs (X.blk s H scope (compEnvC scope cl C X.env) fp) ifs tt)
    (hi1 : ∀ (s : Shared) (H : Hp) (C : Addr) (cl : List (Str × Addr)) (fp : List Addr), PDI (X.blk s H scope (compEnvC scope cl C X.env) fp) tg1 iter1 ti1)
    (hg1 : ∀ (s : Shared) (H : Hp) (C : Addr) (cl : List (Str × Addr)) (fp : List Addr), PDG (X.blk s H scope (compEnvC scope cl C X.env) fp) tg1 vs1 g1) (ht1 : ∀ (s : Shared) (H : Hp) (C : Addr) (cl : List (Str × Addr)) (fp : List Addr), PDTs (X.blk s H scope (compEnvC scope cl C X.env) fp) ifs1 tt1)
    (he : ∀ (s : Shared) (H : Hp) (C : Addr) (cl : List (Str × Addr)) (fp : List Addr), PD (X.blk s H scope (compEnvC scope cl C X.env) fp) elt te) (hs : ∀ x, foldedSetIterable iter X.env x = pure x) (hs1 : ∀ env x, foldedSetIterable iter1 env x = pure x)
    {t' : ED} (up' : ∀ {K : KB} {W : WX} {σ : St} {H : Hp} {Q : VK}, upE K W t' σ H Q → tLc2 (upI K W ti) (exG K.k (own.map (·.2)) g) (exT K.k tt) (exI K.k ti1) (exG K.k vs1 g1) (exT K.k tt1) (exE K.k te) (own.map (·.2)) vs1 σ H Q) :
    PD X (.ListComp elt [⟨tg, iter, ifs, 0⟩, ⟨tg1, iter1, ifs1, 0⟩] scope pos) t' := by
  refine ⟨fun B W tk => (pe_lc2 hc hN (hi.up B W tk) ok hv (fun s H C cl fp => ?_) (fun s H C cl fp => ?_) (fun s H C cl fp => ?_) (fun s H C cl fp => ?_) (fun s H C cl fp => ?_) (fun s H C cl fp => ?_) hs hs1).imp fun σ H Q h => up' h⟩
  · exact ⟨fun pins s σ H x u Q I r ⟨B, q⟩ => ((hg _ _ _ _ _).up B noW takes0N).run pins s σ H x u Q I r q⟩
  · exact ⟨fun pins s σ H Q I ⟨B, q⟩ => ((ht _ _ _ _ _).up B noW takes0N).run pins s σ H Q I q⟩
  · exact ⟨fun pins s σ H R I ⟨B, q⟩ => ((hi1 _ _ _ _ _).up B noW takes0N).run pins s σ H R I q⟩
  · exact ⟨fun pins s σ H x u Q I r ⟨B, q⟩ => ((hg1 _ _ _ _ _).up B noW takes0N).run pins s σ H x u Q I r q⟩
  · exact ⟨fun pins s σ H Q I ⟨B, q⟩ => ((ht1 _ _ _ _ _).up B noW takes0N).run pins s σ H Q I q⟩
  · exact ⟨fun pins s σ H Q I ⟨B, q⟩ => ((he _ _ _ _ _).up B noW takes0N).run pins s σ H Q I q⟩
theorem pds_setLc2 {X : Cx} {i : Nat} {y : Str} {py : Pos} {elt tg iter tg1 iter1 : Expr} {ifs ifs1 : List Expr} {scope : Scope} {own : List (Str × Nat)} {vs1 : List Nat} {pos spos : Pos} {ti ti1 : ID} {g g1 : GD} {tt tt1 : TD} {te : ED} (hc : X.calm = true) (hN : X.N.Nodup) (hy : X.N[i]? = some y) (hyl : X.env.scope.names.lookup y = some .local)
    (hsw : swapsWith (.ListComp elt [⟨tg, iter, ifs, 0⟩, ⟨tg1, iter1, ifs1, 0⟩] scope pos) (some (.Name y py)) spos.line X.env = pure true) (hi : PDI X tg iter ti) (ok : BlkOk X.N X.env.scope scope own) (hv : ∀ i ∈ vs1, i ∈ own.map (·.2))
    (hg : ∀ (s : Shared) (H : Hp) (C : Addr) (cl : List (Str × Addr)) (fp : List Addr), PDG (X.blk s H scope (compEnvC scope cl C X.env) fp) tg (own.map (·.2)) g) (ht : ∀ (s : Shared) (H : Hp) (C : Addr) (cl : List (Str × Addr)) (fp : List Addr), PDTs (X.blk s H scope (compEnvC scope cl C X.env) fp) ifs tt)
    (hi1 : ∀ (s : Shared) (H : Hp) (C : Addr) (cl : List (Str × Addr)) (fp : List Addr), PDI (X.blk s H scope (compEnvC scope cl C X.env) fp) tg1 iter1 ti1)
    (hg1 : ∀ (s : Shared) (H : Hp) (C : Addr) (cl : List (Str × Addr)) (fp : List Addr), PDG (X.blk s H scope (compEnvC scope cl C X.env) fp) tg1 vs1 g1) (ht1 : ∀ (s : Shared) (H : Hp) (C : Addr) (cl : List (Str × Addr)) (fp : List Addr), PDTs (X.blk s H scope (compEnvC scope cl C X.env) fp) ifs1 tt1)
    (he : ∀ (s : Shared) (H : Hp) (C : Addr) (cl : List (Str × Addr)) (fp : List Addr), PD (X.blk s H scope (compEnvC scope cl C X.env) fp) elt te) (hs : ∀ x, foldedSetIterable iter X.env x = pure x) (hs1 : ∀ env x, foldedSetIterable iter1 env x = pure x)
    {t' : ED} (up' : ∀ {K : KB} {W : WX} {σ : St} {H : Hp} {Q : VK}, upE K W t' σ H Q → tLc2 (upI K W ti) (exG K.k (own.map (·.2)) g) (exT K.k tt) (exI K.k ti1) (exG K.k vs1 g1) (exT K.k tt1) (exE K.k te) (own.map (·.2)) vs1 σ H Q) :
    PDS X (.Assign [.Name y py] (.ListComp elt [⟨tg, iter, ifs, 0⟩, ⟨tg1, iter1, ifs1, 0⟩] scope pos) spos) (sAsg t' (dName i)) := by
  refine ⟨fun B W tk => (ps_setLc2 (g := exG X.K (own.map (·.2)) g) (tt := exT X.K tt) (wi1 := exI X.K ti1) (g1 := exG X.K vs1 g1) (tt1 := exT X.K tt1) (te := exE X.K te) hc hN hy hyl hsw (hi.up B W tk) ok hv (fun s H C cl fp => ?_) (fun s H C cl fp => ?_) (fun s H C cl fp => ?_) (fun s H C cl fp => ?_) (fun s H C cl fp => ?_) (fun s H C cl fp => ?_) hs hs1).imp fun D σ H h => ?_⟩
  · exact ⟨fun pins s σ H x u Q I r ⟨B, q⟩ => ((hg _ _ _ _ _).up B noW takes0N).run pins s σ H x u Q I r q⟩
  · exact ⟨fun pins s σ H Q I ⟨B, q⟩ => ((ht _ _ _ _ _).up B noW takes0N).run pins s σ H Q I q⟩
  · exact ⟨fun pins s σ H R I ⟨B, q⟩ => ((hi1 _ _ _ _ _).up B noW takes0N).run pins s σ H R I q⟩
  · exact ⟨fun pins s σ H x u Q I r ⟨B, q⟩ => ((hg1 _ _ _ _ _).up B noW takes0N).run pins s σ H x u Q I r q⟩
  · exact ⟨fun pins s σ H Q I ⟨B, q⟩ => ((ht1 _ _ _ _ _).up B noW takes0N).run pins s σ H Q I q⟩
  · exact ⟨fun pins s σ H Q I ⟨B, q⟩ => ((he _ _ _ _ _).up B noW takes0N).run pins s σ H Q I q⟩
  · obtain ⟨ρ, S, E, R, L, O, k, h⟩ := h
    exact up' (K := ⟨X.K, B⟩) ⟨ρ, S, _, E.w, R, L, O, h, fun d v S1 H1 e1 R1 r1 q1 => k.nx _ _ S1 H1 e1 R1 ((L.ext e1).set r1) q1⟩
/-! .. in steps -/
@[irreducible] noncomputable def hLc2 (kp : KP) (g : GD) (tt : TD) (ti1 : ID) (g1 : GD) (tt1 : TD) (te : ED) (w : XD) (ρ : St') (vs1 : List Nat) (q : QD) (ds acc : List D) (S : Sto) : Prop := stuck (@lcGo2) kp g tt ti1 g1 tt1 te w ρ vs1 q ds acc S
theorem hLc2_eq (kp : KP) (g : GD) (tt : TD) (ti1 : ID) (g1 : GD) (tt1 : TD) (te : ED) (w : XD) (ρ : St') (vs1 : List Nat) (q : QD) (ds acc : List D) (S : Sto) : hLc2 kp g tt ti1 g1 tt1 te w ρ vs1 q ds acc S = lcGo2 kp g tt ti1 g1 tt1 te w ρ vs1 q ds acc S := by unfold hLc2; rw [stuck_eq]
def kLc2 (ti : ID) (g : GD) (tt : TD) (ti1 : ID) (g1 : GD) (tt1 : TD) (te : ED) (vs vs1 : List Nat) : ED := fun w ρ S q => ti w ρ S fun kp ds S1 => hLc2 kp g tt ti1 g1 tt1 te noX (wipeD ρ vs) vs1 q ds [] S1
theorem kLc2_eq {ti : ID} {g : GD} {tt : TD} {ti1 : ID} {g1 : GD} {tt1 : TD} {te : ED} {vs vs1 : List Nat} : kLc2 ti g tt ti1 g1 tt1 te vs vs1 = eLc2 ti g tt ti1 g1 tt1 te vs vs1 := by unfold kLc2 eLc2; simp only [hLc2_eq]
theorem lc2Inv {g : GD} {tt : TD} {ti1 : ID} {g1 : GD} {tt1 : TD} {te : ED} {w : XD} {ρ : St'} {vs1 : List Nat} {q : QD} (Inv : List D → List D → Sto → Prop)
    (hs : ∀ d r acc S, (∀ acc' S', Inv r acc' S' → hLc2 none g tt ti1 g1 tt1 te w ρ vs1 q r acc' S') → Inv (d :: r) acc S → g d w ρ S fun ρ1 S1 => tt w ρ1 S1 fun b S2 => hIf b (ti1 w ρ1 S2 fun kp1 es S3 => hLc kp1 g1 tt1 te w (wipeD ρ1 vs1) (asLst fun acc' S' => hLc2 none g tt ti1 g1 tt1 te w ρ vs1 q r acc' S') es acc S3) (hLc2 none g tt ti1 g1 tt1 te w ρ vs1 q r acc S2))
    (he : ∀ acc S, Inv [] acc S → q (.lst acc) S) : ∀ ds acc S, Inv ds acc S → hLc2 none g tt ti1 g1 tt1 te w ρ vs1 q ds acc S
  | [], acc, S, h => by rw [hLc2_eq]; exact ⟨trivial, he acc S h⟩
  | d :: r, acc, S, h => by
    have := hs d r acc S (lc2Inv Inv hs he r) h
    simp only [hIf_eq, hLc_eq, hLc2_eq] at this
    rw [hLc2_eq]; exact ⟨trivial, this⟩
/-- what each outer item adds is told by f; the store stays -/
theorem lc2Flat {α : Type} {g : GD} {tt : TD} {ti1 : ID} {g1 : GD} {tt1 : TD} {te : ED} {w : XD} {ρ : St'} {vs1 : List Nat} {q : QD} {S : Sto} (inp : α → D) (f : α → List D) (xs : List α)
    (step : ∀ x ∈ xs, ∀ (K : List D → Sto → Prop) acc, K (acc ++ f x) S → g (inp x) w ρ S fun ρ1 S1 => tt w ρ1 S1 fun b S2 => hIf b (ti1 w ρ1 S2 fun kp1 es S3 => hLc kp1 g1 tt1 te w (wipeD ρ1 vs1) (asLst K) es acc S3) (K acc S2))
    (h : q (.lst (xs.flatMap f)) S) : hLc2 none g tt ti1 g1 tt1 te w ρ vs1 q (xs.map inp) [] S := by
  refine lc2Inv (fun r acc S' => S' = S ∧ ∃ a b : List α, xs = a ++ b ∧ r = b.map inp ∧ acc = a.flatMap f) (fun d r acc S' ih h => ?_) (fun acc S' h => ?_) _ _ _ ⟨rfl, [], xs, rfl, rfl, rfl⟩
  · obtain ⟨rfl, a, b, e, hr, rfl⟩ := h
    cases b with
    | nil => cases hr
    | cons x b =>
      injection hr with e1 e2
      subst e1 e2
      exact step x (by rw [e]; simp) _ _ (ih _ _ ⟨rfl, a ++ [x], b, by simp [e], rfl, by rw [List.flatMap_append]; simp⟩)
  · obtain ⟨rfl, a, b, e, hr, rfl⟩ := h
    cases b with
    | cons x b => cases hr
    | nil =>
      rw [List.append_nil] at e
      subst e
      exact h
end DL

namespace DL
open PySem PySem.Spec PyProof.Rows L2

/-! ### a dict of the module at a text key -/
abbrev hKd_0 (kvs : List (List Nat × D)) (cs : List Nat) (k : D → Prop) : Prop := ∃ d, kvs.lookup cs = some d ∧ k d
@[irreducible] noncomputable def hKd (kvs : List (List Nat × D)) (cs : List Nat) (k : D → Prop) : Prop := stuck (@hKd_0) kvs cs k
theorem hKd_eq (kvs : List (List Nat × D)) (cs : List Nat) (k : D → Prop) : hKd kvs cs k = ∃ d, kvs.lookup cs = some d ∧ k d := by unfold hKd; rw [stuck_eq]
theorem hKd_i {kvs : List (List Nat × D)} {cs : List Nat} {k : D → Prop} {d : D} (e : kvs.lookup cs = some d) (h : k d) : hKd kvs cs k := by rw [hKd_eq]; exact ⟨d, e, h⟩
def kKd (kvs : List (List Nat × D)) (d : D) (S : Sto) (q : QD) : Prop := match d with
  | .str cs => hKd kvs cs fun d => q d S
  | _ => False
def eKd (kvs : List (List Nat × D)) (t : ED) : ED := fun w ρ S q => t w ρ S fun d S1 => kKd kvs d S1 q
theorem lookup_memL {α : Type} {l : List (List Nat × α)} {x : List Nat} {v : α} (h : l.lookup x = some v) : (x, v) ∈ l := by
  induction l with
  | nil => cases h
  | cons p l ih =>
    obtain ⟨a, b⟩ := p
    rw [List.lookup_cons] at h
    split at h
    · rename_i e
      have e := eq_of_beq e
      subst e
      cases h
      exact .head _
    · exact .tail _ (ih h)
theorem pd_kd {G : GX} {X : Cx} {x : Str} {b : Expr} {pos p : Pos} {kvs : List (List Nat × D)} {tb : ED} (o : XOk G X) (e : G.glob x = .dic kvs) (hd : dbg x = false) (hb : PD X b tb) (hs : PlainIx b) : PD X (.Subscript (.Name x p) b pos) (eKd kvs tb) := by
  obtain ⟨h1, h2⟩ := GX.glob_at e (by intro z; cases z)
  obtain ⟨a, hm, hq⟩ := o.g.dic x kvs h2
  refine ⟨fun B W tk => (pe_ix (ix_kdict (X := X)) (pe_glob (v := .ref a) (o.gl h1) hm rfl (dbg1 hd)) (hb.up B W tk) hs).imp fun σ H Q h => ?_⟩
  obtain ⟨ρ, S, q, w, R, L, O, h, k⟩ := h
  refine ⟨ρ, S, _, w, R, L, O, h, fun d v S1 H1 e1 R1 r1 q1 => ?_⟩
  unfold kKd at q1
  split at q1
  · rename_i cs
    rw [hKd_eq] at q1
    obtain ⟨d', l, q1⟩ := q1
    obtain ⟨v0, kd, rp⟩ := hq _ (lookup_memL l)
    have r1 : v = .str (mkS cs) := r1
    subst r1
    exact ⟨a, _, v0, rfl, rfl, kd, k _ _ _ _ e1 R1 (rp B S1 H1) q1⟩
  · exact q1.elim
def kdOf (G : GX) : Expr → Option (List (List Nat × D))
  | .Name x _ => if dbg x then none else match G.glob x with
    | .dic kvs => some kvs
    | _ => none
  | _ => none
theorem kd_ok {G : GX} {X : Cx} {a b : Expr} {pos : Pos} {kvs : List (List Nat × D)} {tb : ED} (o : XOk G X) (e : kdOf G a = some kvs) (hb : PD X b tb) (hs : PlainIx b) : PD X (.Subscript a b pos) (eKd kvs tb) := by
  unfold kdOf at e
  split at e
  · rename_i x p
    split at e
    · cases e
    · rename_i hd
      split at e
      · rename_i kv e2
        cases e
        exact pd_kd o e2 (by simpa using hd) hb hs
      · cases e
  · cases e
end DL

namespace DL
open PySem PySem.Spec PyProof.Rows L2 TL

/-! ### sorted(set(text)) -/
def sigD (us : List Nat) : List D := us.map fun c => .str [c]
def rSS (x : D) (S : Sto) (q : QD) : Prop := match x with
  | .str cs => cs.length ≤ 4000 ∧ ∀ us : List Nat, us.Pairwise (· < ·) → (∀ c, c ∈ us ↔ c ∈ cs) → q (.lst (sigD us)) S
  | _ => False
@[irreducible] noncomputable def hSS : D → Sto → QD → Prop := stuck (rSS)
theorem hSS_eq : hSS = (rSS) := by unfold hSS; exact stuck_eq _
def kSS (t : ED) : ED := fun w ρ S q => t w ρ S fun d S1 => hSS d S1 q
theorem sing_of {ys : List Str} {cs : List Nat} (h : ∀ y ∈ ys, y ∈ DS.signs (mkS cs)) : ∃ us : List Nat, ys = us.map fun c => ⟨#[c]⟩ := by
  induction ys with
  | nil => exact ⟨[], rfl⟩
  | cons y ys ih =>
    obtain ⟨us, rfl⟩ := ih fun z hz => h z (List.mem_cons_of_mem _ hz)
    obtain ⟨c, _, hc⟩ := List.mem_map.mp (h y (List.mem_cons_self ..))
    exact ⟨c :: us, by rw [List.map_cons, ← hc]⟩
theorem sing_inj {c d : Nat} (h : (⟨#[c]⟩ : Str) = ⟨#[d]⟩) : c = d := by
  have h2 : [c] = [d] := congrArg (fun y : Str => y.cps.toList) h
  exact (List.cons.inj h2).1
theorem rising_of : ∀ {us : List Nat} {p : Nat}, risingS ⟨#[p]⟩ (us.map fun c => ⟨#[c]⟩) = true → us.Nodup → p ∉ us → (p :: us).Pairwise (· < ·)
  | [], _, _, _, _ => by simp
  | c :: us, p, h, nd, np => by
    obtain ⟨h1, h2⟩ := Bool.and_eq_true_iff.mp (show (!ltCps [c] [p] && risingS ⟨#[c]⟩ (us.map fun c => ⟨#[c]⟩)) = true from h)
    obtain ⟨n1, n2⟩ := List.nodup_cons.mp nd
    have ih := rising_of h2 n2 n1
    have h1 : ltCps [c] [p] = false := by simpa using h1
    have cp : ¬ c < p := fun z => by
      have h3 : ltCps [c] [p] = true := by
        show (decide (c < p) || _) = true
        rw [decide_eq_true z]; rfl
      rw [h3] at h1; cases h1
    have ne : p ≠ c := fun z => np (z ▸ List.mem_cons_self ..)
    have lt : p < c := by omega
    refine List.pairwise_cons.mpr ⟨fun x hx => ?_, ih⟩
    rcases List.mem_cons.mp hx with rfl | hx
    · exact lt
    · exact Nat.lt_trans lt ((List.pairwise_cons.mp ih).1 x hx)
theorem sorted_sing {us : List Nat} (h : sortedS (us.map fun c => ⟨#[c]⟩) = true) (nd : (us.map fun c => (⟨#[c]⟩ : Str)).Nodup) : us.Pairwise (· < ·) := by
  have nd2 : us.Nodup := by
    refine List.Pairwise.imp ?_ (List.pairwise_map.mp nd)
    intro a b h z
    exact h (by rw [z])
  cases us with
  | nil => simp
  | cons p us => exact rising_of h (List.nodup_cons.mp nd2).2 (List.nodup_cons.mp nd2).1
theorem rps_sing {K : KB} {S : Sto} {H : Hp} : ∀ us : List Nat, Rps K S H (sigD us) ((us.map fun c => (⟨#[c]⟩ : Str)).map V.str)
  | [] => rfl
  | c :: us => ⟨_, _, rfl, rfl, rps_sing us⟩
theorem pd_ss {X : Cx} {e : Expr} {t : ED} {p1 p2 q1 q2 : Pos} (hc : X.calm = true) (g1 : Gl X "sorted") (m1 : X.mg "sorted" = none) (g2 : Gl X "set") (m2 : X.mg "set" = none) (hs : starred e = false) (he : PD X e t) :
    PD X (.Call (.Name "sorted" p1) [.Call (.Name "set" p2) [e] [] q2] [] q1) (kSS t) :=
  ⟨fun B W tk => (pe_callB (DS.cr_sortT hc) g1 m1 (by decide +kernel) (pa_cons (pe_callTy (DS.cr_setT hc) g2 m2 (by decide +kernel) (pa_cons (he.up B W tk) pa_nil (star_cons hs)) (by decide) (by decide) (star_cons hs) rfl) pa_nil)).imp fun σ H Q h => by
    obtain ⟨ρ, S, q, w, R, L, O, h, k⟩ := h
    refine ⟨ρ, S, _, w, R, L, O, h, fun d v S1 H1 e1 R1 r1 h1 => ?_⟩
    rw [hSS_eq] at h1
    cases d <;> first | exact (show False from h1).elim | skip
    rename_i cs
    obtain ⟨len, h1⟩ := (show cs.length ≤ 4000 ∧ _ from h1)
    cases r1
    refine ⟨mkS cs, rfl, ?_, fun p hp => ⟨p, _, rfl, upd_same, ?_, fun ys p2 nd hm hso hp2 => ?_⟩⟩
    · show cs.toArray.size + 1 < 4096
      simp; omega
    · show (List.map _ (mkS cs).cps.toList).length ≤ _
      simp; omega
    · obtain ⟨us, rfl⟩ := sing_of (cs := cs) fun y hy => (hm y).mp hy
      have hq := h1 us (sorted_sing hso nd) fun c => by
        have := hm ⟨#[c]⟩
        constructor
        · intro hcu
          obtain ⟨c2, h2, h3⟩ := List.mem_map.mp (this.mp (List.mem_map.mpr ⟨c, hcu, rfl⟩))
          have := sing_inj h3
          subst this
          simpa using h2
        · intro hcc
          obtain ⟨c2, h2, h3⟩ := List.mem_map.mp (this.mpr (List.mem_map.mpr ⟨c, by simpa using hcc, rfl⟩))
          have := sing_inj h3
          subst this
          exact h2
      have R2 := Rel.new R1 hp (DS.SetT X.w p (DS.signs (mkS cs)))
      have E2 := Ext.new R1 hp (DS.SetT X.w p (DS.signs (mkS cs)))
      exact Got.lst (K := ⟨X.K, B⟩) (fun d v S3 H3 e3 => k d v S3 H3 (e1.trans (E2.trans e3))) R2 (rps_sing us) hq hp2⟩
/-! ### list(range(n)) -/
def rLR (x : D) (S : Sto) (q : QD) : Prop := match x with
  | .int n => (-(2 ^ 62) ≤ n ∧ n ≤ 10000000) ∧ q (.lst (intsD 0 n.toNat)) S
  | _ => False
@[irreducible] noncomputable def hLR : D → Sto → QD → Prop := stuck (rLR)
theorem hLR_eq : hLR = (rLR) := by unfold hLR; exact stuck_eq _
theorem hLR_i {n : Int} {S : Sto} {q : QD} (h : -(2 ^ 62) ≤ n ∧ n ≤ 10000000) (k : q (.lst (intsD 0 n.toNat)) S) : hLR (.int n) S q := by rw [hLR_eq]; exact ⟨h, k⟩
def kLR (t : ED) : ED := fun w ρ S q => t w ρ S fun d S1 => hLR d S1 q
theorem rps_rgI {K : KB} {S : Sto} {H : Hp} : ∀ (k : Nat) (lo : Int), Rps K S H (intsD lo k) ((List.range k).map fun i => V.int (lo + (i : Nat)))
  | 0, _ => rfl
  | k + 1, lo => by
    rw [List.range_succ_eq_map, List.map_cons, List.map_map]
    refine ⟨_, _, rfl, by show V.int (lo + ((0 : Nat) : Int)) = .int lo; simp, ?_⟩
    have e : ((fun i : Nat => V.int (lo + (i : Nat))) ∘ Nat.succ) = fun i : Nat => V.int (lo + 1 + (i : Nat)) := by
      funext i
      show V.int (lo + ((i + 1 : Nat) : Int)) = V.int (lo + 1 + (i : Nat))
      congr 1
      omega
    rw [e]
    exact rps_rgI k (lo + 1)
theorem pd_lr {X : Cx} {e : Expr} {t : ED} {p1 p2 q1 q2 : Pos} (hc : X.calm = true) (g1 : Gl X "list") (m1 : X.mg "list" = none) (g2 : Gl X "range") (m2 : X.mg "range" = none) (hs : starred e = false) (he : PD X e t) :
    PD X (.Call (.Name "list" p1) [.Call (.Name "range" p2) [e] [] q2] [] q1) (kLR t) :=
  ⟨fun B W tk => (pe_listRg hc g1 m1 (prg_1 g2 m2 (he.up B W tk) (star_cons hs))).imp fun σ H Q h => by
    obtain ⟨ρ, S, q, w, R, L, O, h, k⟩ := h
    refine ⟨ρ, S, _, w, R, L, O, h, fun d v S1 H1 e1 R1 r1 h1 => ?_⟩
    rw [hLR_eq] at h1
    cases d <;> first | exact (show False from h1).elim | skip
    rename_i n
    obtain ⟨⟨b1, b2⟩, h1⟩ := (show (-(2 ^ 62) ≤ n ∧ n ≤ 10000000) ∧ q (.lst (intsD 0 n.toNat)) S1 from h1)
    cases r1
    refine ⟨n, rfl, ⟨by omega, by omega, b1, by omega, by omega⟩, fun p hp => ?_⟩
    have e2 : rgV 0 n = (List.range n.toNat).map fun i => V.int (0 + (i : Nat)) := by unfold rgV; rw [Int.sub_zero]
    rw [e2]
    exact Got.lst (K := ⟨X.K, B⟩) (fun d v S3 H3 e3 => k d v S3 H3 (e1.trans e3)) R1 (rps_rgI _ _) h1 hp⟩
/-! ### x[::-1] -/
theorem rev_txt (x : Str) (u : Tok) : PySem.Txt.sliceBy x none none (-1, u) = mkS x.cps.toList.reverse := by
  have h := step_rev_list x u
  have e : (List.range x.length).map (fun k => x.cps.getD (x.length - 1 - k) 0) = x.cps.toList.reverse := by
    apply List.ext_getElem
    · simp [Str.length]
    · intro i h1 h2
      have hx : i < x.cps.size := by simpa [Str.length] using h1
      rw [List.getElem_map, List.getElem_range, List.getElem_reverse]
      have hl : x.cps.size - 1 - i < x.cps.size := by omega
      show x.cps.getD (x.cps.size - 1 - i) 0 = _
      simp [Array.getD, hl]
  rw [e] at h
  have := congrArg List.toArray h
  have h2 : (PySem.Txt.sliceBy x none none (-1, u)).cps = x.cps.toList.reverse.toArray := by simpa using this
  cases hq : PySem.Txt.sliceBy x none none (-1, u)
  rw [hq] at h2
  simp only [mkS] at h2 ⊢
  rw [h2]
def tRevA (K : PySem.W.Frag) (te : TE) : TE := fun σ H Q => te σ H fun x H1 => (∃ z : Str, x = .str z ∧ z.length ≤ sizeLine ∧ Q (.str (mkS z.cps.toList.reverse)) H1) ∨ ∃ a xs, x = .ref a ∧ SqL K H1 a xs ∧ ∀ p, H1 p = none → Q (.ref p) (upd H1 p (.lst xs.reverse))
theorem pe_revA {X : Cx} {e : Expr} {te : TE} {k : Nat} {p1 p2 p3 pos : Pos} (he : PE X e te) : PE X (.Subscript e (.Slice none none (some (.UnaryOp .USub (.Constant (.int 1) k p1) p2)) p3) pos) (tRevA X.K te) := by
  refine ⟨fun pins s σ H Q I h => Subscript_ (thn (he.run pins s σ H _ I h) fun v s1 ⟨x, H1, I1, r1, q1⟩ => ?_)⟩
  have st : PO X (some (.UnaryOp .USub (.Constant (.int 1) k p1) p2)) (tPart (tUn (rU fun i => .int (-i)) (tC (.int 1)))) := po_some (pe_un un_neg pe_int)
  refine wpAny_Slice (thn (po_none.run pins s1 σ H1 (fun o H2 => o = none ∧ H2 = H1) I1 ⟨rfl, rfl⟩) fun vl s2 ⟨l, H2, I2, pl, e1, e2⟩ => ?_)
  subst e1 e2
  refine thn (po_none.run pins s2 σ H2 (fun o H3 => o = none ∧ H3 = H2) I2 ⟨rfl, rfl⟩) fun vu s3 ⟨u, H3, I3, pu, e1, e2⟩ => ?_
  subst e1 e2
  refine thn (st.run pins s3 σ H3 (fun o H4 => o = some (-1) ∧ H4 = H3) I3 ⟨1, rfl, -1, rfl, rfl, rfl⟩) fun vs s4 ⟨o, H4, I4, ps, e1, e2⟩ => ?_
  subst e1 e2
  have J : Inv X pins σ H4 { s4 with heap := s4.heap.push { cls := .type "slice", data := .fields #[vl, vu, vs] } } := I4.kept (t' := s4.toks) fun b ob q => Heap.get?_push_of_some _ q
  rcases q1 with ⟨z, rfl, hz, q⟩ | ⟨a, xs, rfl, hx, q⟩
  · obtain ⟨t, rfl⟩ := r1
    obtain ⟨ul, rfl, h1⟩ := IsPart.raw pl
    obtain ⟨uu, rfl, h2⟩ := IsPart.raw pu
    obtain ⟨us, rfl, h3⟩ := IsPart.raw ps
    cases ul with
    | some _ => cases h1
    | none =>
      cases uu with
      | some _ => cases h2
      | none =>
        cases us with
        | none => cases h3
        | some y =>
          obtain ⟨y, tk⟩ := y
          cases h3
          show wpAny (model X.prog X.w) X.A (subscriptTail e (.Slice none none (some (.UnaryOp .USub (.Constant (.int 1) k p1) p2)) p3) (.str z t) (.ref s4.heap.objs.size)) (EP X pins σ Q) X.xe _
          have len : (PySem.Txt.sliceBy z none none (-1, tk)).length ≤ sizeLine := by rw [step_rev_len]; exact hz
          refine tail_any (ops := [.ref s4.heap.objs.size, .str z t]) (typeIs_str _ _ _) F.slot_str_getitem.lookup ?_ (by with_unfolding_all rfl)
          refine wpAny_getItem_str_slice (l := none) (u := none) (st := some (-1, tk)) ⟨_, Heap.get?_push_size _ rfl, rfl, rfl⟩ rfl ?_
          exact post_val_or_str ⟨len, fun t' c => ⟨.str (mkS z.cps.toList.reverse), H4, J.tok c, ⟨t', congrArg (Value.str · t') (rev_txt z tk)⟩, q⟩⟩
  · cases r1
    obtain ⟨its, r, ht, hz⟩ := J.list hx
    have len := r.length
    show wpAny (model X.prog X.w) X.A (subscriptTail e (.Slice none none (some (.UnaryOp .USub (.Constant (.int 1) k p1) p2)) p3) (.ref a) (.ref s4.heap.objs.size)) (EP X pins σ Q) X.xe _
    refine tail_any (ops := [.ref a, .ref s4.heap.objs.size]) ht.isList.typeIs (PySem.slot_list_getitem.lookup) ?_ (by with_unfolding_all rfl)
    refine wpAny_getItem_list_slice ht.isList (Heap.IsSliceOf.new _ vl vu vs) pl pu ps (by decide) ?_ (by rw [List.size_toArray]; omega)
    rw [PySem.W.krv_pick]
    exact ⟨.ref _, _, J.laid (t' := s4.toks) (o := .lst xs.reverse) (fun b ob q => Heap.get?_push_of_some _ q) (Nat.le_refl _) ⟨by rw [List.length_reverse]; exact hz, _, 0, r.reverse, Heap.get?_push_size _ rfl⟩, rfl, q _ (J.hok.fresh (Nat.le_refl _))⟩
def rRev (x : D) (S : Sto) (q : QD) : Prop := match x with
  | .str cs => cs.length ≤ sizeLine ∧ q (.str cs.reverse) S
  | .lst ds => q (.lst ds.reverse) S
  | .ref a => (match S a with
    | some (.lst ds) => q (.lst ds.reverse) S
    | _ => False)
  | _ => False
@[irreducible] noncomputable def hRev : D → Sto → QD → Prop := stuck (rRev)
theorem hRev_eq : hRev = (rRev) := by unfold hRev; exact stuck_eq _
def kRev (t : ED) : ED := fun w ρ S q => t w ρ S fun d S1 => hRev d S1 q
theorem Rps.reverse {K : KB} {S : Sto} {H : Hp} : ∀ {ds : List D} {vs : List V}, Rps K S H ds vs → Rps K S H ds.reverse vs.reverse
  | [], _, h => by cases h; rfl
  | _ :: _, _, ⟨v, r, e1, h, t⟩ => by
    cases e1
    rw [List.reverse_cons, List.reverse_cons]
    exact (Rps.reverse t).append (.single h)
theorem pd_rev {X : Cx} {e : Expr} {t : ED} {k : Nat} {p1 p2 p3 pos : Pos} (he : PD X e t) : PD X (.Subscript e (.Slice none none (some (.UnaryOp .USub (.Constant (.int 1) k p1) p2)) p3) pos) (kRev t) :=
  ⟨fun B W tk => (pe_revA (he.up B W tk)).imp fun σ H Q h => by
    obtain ⟨ρ, S, q, w, R, L, O, h, g⟩ := h
    refine ⟨ρ, S, _, w, R, L, O, h, fun d v S1 H1 e1 R1 r1 h1 => ?_⟩
    rw [hRev_eq] at h1
    have G : Got ⟨X.K, B⟩ S1 H1 q Q := fun d v S3 H3 e3 => g d v S3 H3 (e1.trans e3)
    cases d <;> first | exact (show False from h1).elim | skip
    · rename_i cs
      obtain ⟨len, h1⟩ := (show cs.length ≤ sizeLine ∧ q (.str cs.reverse) S1 from h1)
      cases r1
      refine .inl ⟨mkS cs, rfl, by show cs.toArray.size ≤ _; simpa using len, ?_⟩
      have := G.str R1 h1
      simpa using this
    · rename_i ds
      obtain ⟨a, vs, rfl, l, r⟩ := r1
      exact .inr ⟨a, vs, rfl, l.sq, fun p hp => G.lst R1 r.reverse h1 hp⟩
    · rename_i a
      cases r1
      have h1 : (match S1 a with
        | some (.lst ds) => q (.lst ds.reverse) S1
        | _ => False) := h1
      cases eS : S1 a with
      | none => rw [eS] at h1; exact h1.elim
      | some o =>
        rw [eS] at h1
        cases o with
        | lst ds =>
          obtain ⟨vs, hH, r⟩ := (show ∃ vs, H1 a = some (.lst vs) ∧ Rps _ S1 H1 ds vs from R1.ob a _ eS)
          exact .inr ⟨a, vs, rfl, SqL.of hH, fun p hp => G.lst R1 r.reverse h1 hp⟩
        | ins _ _ => exact h1.elim
        | xd _ => exact h1.elim
        | cell _ _ => exact h1.elim
        | tbl _ => exact h1.elim
        | dct _ => exact h1.elim⟩
end DL

namespace DL
open PySem PySem.Spec PyProof.Rows L2

/-! ### one step of the compiler -/
def isSuper : Expr → Bool
  | .Call (.Name id _) [] [] _ => id == ("super" : Str)
  | _ => false
theorem attr_base {o : Expr} {attr : Str} {env : Env} {whole : Sem Value} (h : isSuper o = false) : attributeBase o attr env whole = whole := by
  unfold attributeBase
  split
  · rename_i id p pos
    have h : (id == ("super" : Str)) = false := h
    have h2 : (id != ("super" : Str)) = true := by unfold bne; rw [h]; rfl
    simp only [h2, Bool.true_or, if_true]
  · rfl
def isComp : Expr → Bool
  | .ListComp .. => true
  | .SetComp .. => true
  | .DictComp .. => true
  | _ => false
theorem swaps_no {e : Expr} {tg : Option Expr} {l : Nat} {env : Env} (h : isComp e = false) : swapsWith e tg l env = pure false := by
  cases e <;> first | rfl | cases h
def plainTest : Expr → Bool
  | .UnaryOp .Not _ _ => false
  | .BoolOp .. => false
  | .IfExp .. => false
  | .Compare .. => false
  | _ => true
theorem test_plain {e : Expr} {env : Env} (h : plainTest e = true) : ∀ whole, isTrue e env whole = (do let v ← whole; standAt e.pos; holding [v] (truthy v)) := fun whole => by
  cases e <;> first | rfl | (cases h; done) | skip
  rename_i op x pos
  cases op <;> first | rfl | (cases h; done)
theorem fold_plain {e : Expr} {env : Env} (h : markSet e = false) : ∀ x, foldedSetIterable e env x = pure x := fun x => by
  cases e <;> first | rfl | cases h
theorem plain_ix {b : Expr} (h : isSlice b = false) : PlainIx b := fun o i => by
  cases b <;> first | rfl | cases h
/-- the methods of built-in types that are served -/
noncomputable def metTab : List (Str × String × (D → List D → Sto → QD → Prop)) := [("append", "list", hApp), ("join", "str", hJoin), ("split", "str", hSplit), ("insert", "list", hIns), ("index", "str", hSidx), ("endswith", "str", hEnds)]
structure MetOk (X : Cx) (name : Str) (T : String) (r : D → List D → Sto → QD → Prop) : Prop where
  ex : ∃ id, PlainAttrs T ∧ Slot T name id ∧ typeOf (.builtin id) = pure (.type "method_descriptor") ∧ MetD X T id r
theorem met_tab {X : Cx} : ∀ p ∈ metTab, MetOk X p.1 p.2.1 p.2.2 := by
  intro p hp
  simp only [metTab, List.mem_cons, List.not_mem_nil, or_false] at hp
  rcases hp with rfl | rfl | rfl | rfl | rfl | rfl
  · exact ⟨_, PySem.F.plainAttrs_list, PySem.F.slot_list_append, PySem.F.type_list_append, by rw [hApp_eq]; exact met_append⟩
  · exact ⟨_, PySem.F.plainAttrs_str, PySem.F.slot_str_join, PySem.F.type_str_join, by rw [hJoin_eq]; exact met_join⟩
  · exact ⟨_, PySem.F.plainAttrs_str, PySem.F.slot_str_split, PySem.F.type_str_split, by rw [hSplit_eq]; exact met_split⟩
  · exact ⟨_, PySem.F.plainAttrs_list, PySem.F.slot_list_insert, PySem.F.type_list_insert, by rw [hIns_eq]; exact met_insert⟩
  · exact ⟨_, PySem.F.plainAttrs_str, PySem.F.slot_str_index, PySem.F.type_str_index, by rw [hSidx_eq]; exact met_sindex⟩
  · exact ⟨_, PySem.F.plainAttrs_str, PySem.F.slot_str_endswith, PySem.F.type_str_endswith, by rw [hEnds_eq]; exact met_ends⟩
noncomputable def bmE (c : Cmp) (G : GX) (o : Expr) (name : Str) (args : List Expr) : ED :=
  if args.isEmpty = true then eNo else (match metTab.lookup name with
    | some (T, r) => kMet r T (c.E G o) (c.A G args)
    | none => eNo)
def findS {α : Type} (l : List (Str × Str × α)) (x m : Str) : Option α := (l.find? fun p => p.1 == x && p.2.1 == m).map (·.2.2)
theorem findS_ok {α : Type} {l : List (Str × Str × α)} {x m : Str} {a : α} (h : findS l x m = some a) : (x, m, a) ∈ l := by
  unfold findS at h
  cases e : l.find? (fun p => p.1 == x && p.2.1 == m) with
  | none => rw [e] at h; cases h
  | some p =>
    rw [e] at h
    cases h
    have h1 := List.mem_of_find?_eq_some e
    have h2 := List.find?_some e
    simp only [Bool.and_eq_true, beq_iff_eq] at h2
    obtain ⟨y, n, b⟩ := p
    obtain ⟨rfl, rfl⟩ := h2
    exact h1
/-- C.m: a staticmethod -/
def statOf (G : GX) (o : Expr) (name : Str) (n : Nat) (ks : List (Option Str)) : Option Fm := match o with
  | .Name x _ => if isGl G x = true then (match findS G.tb.sm x name with
    | some ci => fmOf ci (some n) ks
    | none => none) else none
  | _ => none
noncomputable def metE (c : Cmp) (G : GX) (o : Expr) (name : Str) (apos cpos : Pos) (args : List Expr) (kws : List Keyword) : ED :=
  if isSuper o = true ∨ (apos.endLine == cpos.line) = false ∨ args.all (fun e => !starred e) = false ∨ 25 < args.length + kws.length ∨ kwNames kws ≠ ((kwNames kws).filterMap id).map some ∨ name = "" then eNo else
  match statOf G o name args.length (kwNames kws) with
  | some Φ => kStat Φ (c.A G args) (c.K G kws)
  | none => (match mtTab G.tb name (some (args.length + 1)) (kwNames kws) with
    | [] => if kwNames kws = [] then bmE c G o name args else eNo
    | p :: tab => kMth (attI name) (p :: tab) (c.E G o) (c.A G args) (c.K G kws))
/-- o.f -/
noncomputable def attE (c : Cmp) (G : GX) (o : Expr) (f : Str) : ED :=
  if isSuper o = true ∨ f = "" then eNo else
  match o with
  | .Name x p => if isGl G x = true then (match findS G.tb.cc x f with
    | some d => eC d
    | none => eNo) else kAtt (attI f) (atTab G.tb f) (c.E G (.Name x p))
  | o => kAtt (attI f) (atTab G.tb f) (c.E G o)
noncomputable def rCmpG (G : GX) (op : CmpOp) : D → D → Sto → QD → Prop := match op with
  | .Eq => (match spTab G.tb "__eq__" 2 with
    | [] => hEq
    | p :: tab => hEqO false (p :: tab))
  | .NotEq => (match spTab G.tb "__eq__" 2 with
    | [] => hNe
    | p :: tab => if (p :: tab).all (fun q => decide (q.1 ∈ G.tb.ne)) = true then hEqO true (p :: tab) else hNe)
  | .In => (match spTab G.tb "__contains__" 2 with
    | [] => hIn
    | p :: tab => hInO false (p :: tab))
  | .NotIn => (match spTab G.tb "__contains__" 2 with
    | [] => hNotIn
    | p :: tab => hInO true (p :: tab))
  | op => rCmp op
theorem opd_cmpG {G : GX} {X : Cx} (o : XOk G X) (op : CmpOp) : OpD X (compareOp op) (rCmpG G op) := by
  have un := o.g.un
  cases op <;> first | exact opd_cmp un _ | skip
  · show OpD X _ (match spTab G.tb "__eq__" 2 with
      | [] => hEq
      | p :: tab => hEqO false (p :: tab))
    split
    · exact opd_cmp un .Eq
    · rename_i p tab e
      have := opd_eqO (n := false) un (tabE_ok o.g.tb (b := false) fun z => by cases z)
      rw [e] at this
      exact this
  · show OpD X _ (match spTab G.tb "__eq__" 2 with
      | [] => hNe
      | p :: tab => if (p :: tab).all (fun q => decide (q.1 ∈ G.tb.ne)) = true then hEqO true (p :: tab) else hNe)
    split
    · exact opd_cmp un .NotEq
    · rename_i p tab e
      split
      · rename_i ha
        have := opd_eqO (n := true) un (tabE_ok o.g.tb (b := true) fun _ C Φ h => by
          rw [e] at h
          exact of_decide_eq_true (List.all_eq_true.mp ha _ (lookup_memN h)))
        rw [e] at this
        exact this
      · exact opd_cmp un .NotEq
  · show OpD X _ (match spTab G.tb "__contains__" 2 with
      | [] => hIn
      | p :: tab => hInO false (p :: tab))
    split
    · exact opd_cmp un .In
    · rename_i p tab e
      have := opd_inO (n := false) un (tabSp_ok o.g.tb (m := "__contains__") (n := 2))
      rw [e] at this
      exact this
  · show OpD X _ (match spTab G.tb "__contains__" 2 with
      | [] => hNotIn
      | p :: tab => hInO true (p :: tab))
    split
    · exact opd_cmp un .NotIn
    · rename_i p tab e
      have := opd_inO (n := true) un (tabSp_ok o.g.tb (m := "__contains__") (n := 2))
      rw [e] at this
      exact this
/-- the parts of an f-string -/
noncomputable def Cmp.J (c : Cmp) (G : GX) (es : List Expr) : List ED := es.map (c.E G)
theorem Good.J {c : Cmp} {G : GX} {X : Cx} (g : Good c) (o : XOk G X) : ∀ es, PDJ X es (c.J G es)
  | [] => .nil
  | e :: es => .cons (g.E G X e o) (Good.J g o es)
noncomputable def tsOf (c : Cmp) (G : GX) : List Expr → Option TD
  | [] => some eYes
  | [t] => some (c.T G t)
  | _ => none
theorem ts_ok {c : Cmp} {G : GX} {X : Cx} {ifs : List Expr} {t : TD} (g : Good c) (o : XOk G X) (h : tsOf c G ifs = some t) : PDTs X ifs t := by
  unfold tsOf at h
  split at h
  · cases h; exact pdts_nil
  · cases h; exact pdts_one (g.T _ _ _ o)
  · cases h
noncomputable def lcE (c : Cmp) (G : GX) (elt : Expr) (gens : List Comprehension) (scope : Scope) : ED := match gens with
  | [⟨tg, iter, ifs, 0⟩] =>
    if blkB G scope = false ∨ markSet iter = true ∨ (tgZs (G.blk scope) tg).all (fun i => decide (i ∈ (ownOf G scope).map (·.2))) = false then eNo else
    (match ifs with
    | [] => kLc (c.I G tg iter) (c.GT (G.blk scope) tg) eYes (c.E (G.blk scope) elt) ((ownOf G scope).map (·.2))
    | [t] => kLc (c.I G tg iter) (c.GT (G.blk scope) tg) (c.T (G.blk scope) t) (c.E (G.blk scope) elt) ((ownOf G scope).map (·.2))
    | _ => eNo)
  | [⟨tg, iter, ifs, 0⟩, ⟨tg1, iter1, ifs1, 0⟩] =>
    if blkB G scope = false ∨ markSet iter = true ∨ (tgZs (G.blk scope) tg).all (fun i => decide (i ∈ (ownOf G scope).map (·.2))) = false ∨ markSet iter1 = true ∨ (tgZs (G.blk scope) tg1).all (fun i => decide (i ∈ (ownOf G scope).map (·.2))) = false then eNo else
    (match tsOf c (G.blk scope) ifs, tsOf c (G.blk scope) ifs1 with
    | some t, some t1 => kLc2 (c.I G tg iter) (c.GT (G.blk scope) tg) t (c.I (G.blk scope) tg1 iter1) (c.GT (G.blk scope) tg1) t1 (c.E (G.blk scope) elt) ((ownOf G scope).map (·.2)) (tgZs (G.blk scope) tg1)
    | _, _ => eNo)
  | _ => eNo
def lcM (G : GX) (pos : Pos) (t : ED) : ED := if (pos.line, pos.col) ∈ G.mu then kLcM t else t
noncomputable def constE : Const → ED
  | .int i => eC (.int i)
  | .bool b => eC (.bl b)
  | .none => eC .non
  | .str x => eC (.str x.cps.toList)
  | _ => eNo
def isBi (G : GX) (x : Str) : Bool := match G.glob x with
  | .bi => true
  | _ => false
theorem isBi_ok {G : GX} {X : Cx} {x : Str} (o : XOk G X) (h : isBi G x = true) : Gl X x ∧ X.mg x = none := by
  unfold isBi at h
  split at h
  · rename_i e
    obtain ⟨h1, h2⟩ := GX.glob_at e (by intro z; cases z)
    exact ⟨o.gl h1, o.g.bi x h2⟩
  · cases h
noncomputable def callX (c : Cmp) (G : GX) (x : Str) (args : List Expr) (kws : List Keyword) : ED := match args, kws with
  | [e, .Name y _], [] => if x = "isinstance" ∧ isBi G x = true ∧ isGl G y = true ∧ starred e = false then (match G.tb.is_.lookup y with
    | some tab => kIsO tab (c.E G e)
    | none => callE G x args kws (c.A G args) (c.K G kws)) else callE G x args kws (c.A G args) (c.K G kws)
  | [.Call (.Name y _) [e] [] _], [] => if x = "sorted" ∧ y = "set" ∧ isBi G x = true ∧ isBi G y = true ∧ starred e = false then kSS (c.E G e) else
    if x = "list" ∧ y = "range" ∧ isBi G x = true ∧ isBi G y = true ∧ starred e = false then kLR (c.E G e) else callE G x args kws (c.A G args) (c.K G kws)
  | _, _ => callE G x args kws (c.A G args) (c.K G kws)
def isVar (G : GX) (x : Str) : Bool := !dbg x && (match G.sc.lookup x with
  | some .local => true
  | some .cell => true
  | some .free => true
  | _ => false)
/-- x(..), x a name of the def's own: an instance is called -/
noncomputable def callZ (c : Cmp) (G : GX) (x : Str) (args : List Expr) (kws : List Keyword) : ED :=
  if isVar G x = true ∧ args.all (fun e => !starred e) = true ∧ kwNames kws = ((kwNames kws).filterMap id).map some then (match clTab G.tb (args.length + 1) (kwNames kws) with
    | [] => callX c G x args kws
    | p :: tab => kCal (p :: tab) (nameE G x) (c.A G args) (c.K G kws)) else callX c G x args kws
noncomputable def Cmp.P (c : Cmp) (G : GX) : List (Option Expr) → List Expr → Option (List (ED × ED))
  | [], [] => some []
  | some k :: ks, v :: vs => (match c.P G ks vs with
    | some l => some ((c.E G k, c.E G v) :: l)
    | none => none)
  | _, _ => none
noncomputable def dictE (c : Cmp) (G : GX) (ks : List (Option Expr)) (vs : List Expr) : ED := match ks with
  | [] => (match vs with
    | [] => kDct0
    | _ => eNo)
  | k :: ks => if 15 < (k :: ks).length then eNo else (match c.P G (k :: ks) vs with
    | some ts => kDisp ts
    | none => eNo)
theorem Good.P {c : Cmp} {G : GX} {X : Cx} (g : Good c) (o : XOk G X) : ∀ {ks : List (Option Expr)} {vs : List Expr} {ts : List (ED × ED)}, c.P G ks vs = some ts → PDP X ks vs ts
  | [], [], _, h => by cases h; exact .nil
  | some k :: ks, v :: vs, _, h => by
    unfold Cmp.P at h
    split at h
    · rename_i l e
      cases h
      exact .cons (g.E G X k o) (g.E G X v o) (Good.P g o e)
    · cases h
  | [], _ :: _, _, h => by cases h
  | none :: _, _, _, h => by cases h
  | some _ :: _, [], _, h => by cases h
theorem dictE_ok {c : Cmp} {G : GX} {X : Cx} (g : Good c) (o : XOk G X) (ks : List (Option Expr)) (vs : List Expr) (pos : Pos) : PD X (.Dict ks vs pos) (dictE c G ks vs) := by
  unfold dictE
  split
  · split
    · exact pd_dct0
    · exact pd_no
  · rename_i k ks
    split
    · exact pd_no
    · rename_i hl
      split
      · rename_i ts e
        exact pd_disp (g.P o e) (List.cons_ne_nil _ _) (by omega)
      · exact pd_no
/-- a lambda's parameters -/
def lparOf : Arguments → Option (List Str × List D × Bool)
  | ⟨[], [], none, [], [], none, []⟩ => some ([], [], false)
  | ⟨[], [⟨x, _, _⟩], none, [], [], none, [.Constant (.int 0) _ _]⟩ => some ([x], [.int 0], true)
  | _ => none
theorem lparOf_ok {a : Arguments} {ps : List Str} {pd : List D} {b : Bool} (h : lparOf a = some (ps, pd, b)) : LPar a ps pd b := by
  unfold lparOf at h
  split at h
  · cases h; exact .zero rfl
  · cases h; exact .one _ _ _ _ _ rfl
  · cases h
def freeOf (scope : Scope) : List Str := scope.names.filterMap fun y => match y.2 with
  | .free => some y.1
  | _ => none
def lamJs (G : GX) (scope : Scope) : List (Nat × Str) := (freeOf scope).filterMap fun y => (G.slot y).map fun i => (i, y)
def GX.lam (G : GX) (ps fr : List Str) (scope : Scope) : GX := { G with N := ps ++ fr, sc := scope.names, gl := G.lgl, st := false, th := none, fz := [], mu := [] }
noncomputable def lamE (c : Cmp) (G : GX) (params : Arguments) (body : Expr) (scope : Scope) : ED := match G.th with
  | none => eNo
  | some x => (match lparOf params with
    | none => eNo
    | some (ps, pd, _) => if NdefX.nscB (ps ++ freeOf scope) ps (freeOf scope) scope = true ∧ (freeOf scope).all (fun y => decide (G.sc.lookup y = some .cell)) = true ∧ (lamJs G scope).map (·.2) = freeOf scope then eLam x (lamJs G scope) pd (c.E (G.lam ps (freeOf scope) scope) body) else eNo)
/-- sorted(x), list(x) whose list is changed later -/
noncomputable def muE (c : Cmp) (G : GX) (x : Str) (args : List Expr) (kws : List Keyword) : ED := match args, kws with
  | [e], [] => if isBi G x = true ∧ starred e = false then (if x = "sorted" then eCall (muR (b1 hSort)) (c.A G [e]) else if x = "list" then eCall (muR (b1 hList)) (c.A G [e]) else eNo) else eNo
  | _, _ => eNo
noncomputable def stepE (c : Cmp) (G : GX) : Expr → ED
  | .Constant k _ _ => constE k
  | .Name x _ => nameE G x
  | .BinOp a op b _ => eOp (rBin op) (c.E G a) (c.E G b)
  | .UnaryOp .Not a _ => kNot (c.E G a)
  | .UnaryOp .USub a _ => eUn hNeg (c.E G a)
  | .BoolOp op es _ => c.B G op es
  | .Compare a [op] [b] _ => if markSet b then eNo else eOp (rCmpG G op) (c.E G a) (c.E G b)
  | .Compare a [op, op'] [b, d] _ => if markSet d then eNo else kChain (rCmp op) (rCmp op') (c.E G a) (c.E G b) (c.E G d)
  | .IfExp t a b _ => kIf (c.T G t) (c.E G a) (c.E G b)
  | .Tuple es _ _ => kTup (c.A G es)
  | .List es pos => if (pos.line, pos.col) ∈ G.mu then kLstM (c.A G es) else kLst (c.A G es)
  | .Subscript a (.Slice none none (some (.UnaryOp .USub (.Constant (.int 1) _ _) _)) _) _ => kRev (c.E G a)
  | .Subscript a (.Slice lo hi none _) _ => eSl hSl (c.E G a) (c.O G lo) (c.O G hi)
  | .Subscript a b _ => if isSlice b then eNo else match kdOf G a with
    | some kvs => eKd kvs (c.E G b)
    | none => eOp hIx (c.E G a) (c.E G b)
  | .Call (.Name x _) args kws pos => if (pos.line, pos.col) ∈ G.mu then muE c G x args kws else callZ c G x args kws
  | .Call (.Attribute o name apos) args kws cpos => metE c G o name apos cpos args kws
  | .Attribute o f _ => attE c G o f
  | .Dict ks vs _ => dictE c G ks vs
  | .JoinedStr [] _ => eNo
  | .JoinedStr [e] _ => c.E G e
  | .JoinedStr (e :: d :: es) _ => kJoin (c.J G (e :: d :: es))
  | .FormattedValue e (-1) none _ => kFmt (c.E G e)
  | .ListComp elt gens scope pos => lcM G pos (lcE c G elt gens scope)
  | .Lambda params body scope _ => lamE c G params body scope
  | _ => eNo
noncomputable def stepT (c : Cmp) (G : GX) : Expr → TD
  | .UnaryOp .Not a _ => eNotT (c.T G a)
  | .BoolOp op es _ => c.BT G op es
  | .Compare a [op] [b] _ => if markSet b then eNoT' else eB (eOp (rCmpG G op) (c.E G a) (c.E G b))
  | .Compare a [op, op'] [b, d] _ => if markSet d then eNoT' else eB (kChain (rCmp op) (rCmp op') (c.E G a) (c.E G b) (c.E G d))
  | e => if plainTest e then kTr (c.E G e) else eNoT'
section
variable {c : Cmp} {G : GX} {X : Cx}
theorem few_ok {e : Expr} {es : List Expr} {pos : Pos} (h : (e :: es).all (fun e => !starred e) = true) (hl : ¬ 25 < (e :: es).length) : ((backTo pos (starEach (e :: es) X.env)).all (fun x => !x.1) && (backToKw pos (keywordEach [] X.env)).all (fun x => x.1.isSome)
      && decide ((e :: es).length + ([] : List Keyword).length + (if ([] : List Keyword).isEmpty then 0 else 1) < 30)) = true := by
  have h1 : (backTo pos (starEach (e :: es) X.env)).all (fun x => !x.1) = true := by
    have := star_plain (pos := pos) (env := X.env) h
    rw [List.any_eq_false] at this
    rw [List.all_eq_true]
    intro x hx
    simpa using this x hx
  rw [h1, show (backToKw pos (keywordEach [] X.env)).all (fun x => x.1.isSome) = true from rfl]
  simp only [List.length_nil, List.isEmpty_nil, if_true, Bool.and_self, Bool.true_and, decide_eq_true_eq]
  omega
theorem form_ok {args : List Expr} {kws : List Keyword} {pos : Pos} {ks : List Str} (h : args.all (fun e => !starred e) = true) (hk : kwNames kws = ks.map some) (hl : ¬ 25 < args.length + kws.length) : methodCallForm (args.length + kws.length) (backTo pos (starEach args X.env)) (backToKw pos (keywordEach kws X.env)) = true := by
  have h1 : (backTo pos (starEach args X.env)).all (fun x => !x.1) = true := by
    have := star_plain (pos := pos) (env := X.env) h
    rw [List.any_eq_false] at this
    rw [List.all_eq_true]
    intro x hx
    simpa using this x hx
  obtain ⟨n1, _, _⟩ := kw_names (pos := pos) (env := X.env) hk
  unfold methodCallForm
  rw [h1, n1]
  simp only [Bool.and_self, Bool.true_and, decide_eq_true_eq]
  split <;> omega
theorem argsOk_plain {args : List Expr} {kws : List Keyword} {ks : List Str} {pos : Pos} (h : args.all (fun e => !starred e) = true) (hk : kwNames kws = ks.map some) : ArgsOk X args kws ks pos := by
  refine ⟨hk, fun e es z => ?_, .inl (star_plain h)⟩
  subst z
  rw [List.all_cons, Bool.and_eq_true] at h
  exact star_cons (by simpa using h.1)
theorem bmE_ok (g : Good c) (o : XOk G X) (ob : Expr) (name : Str) (apos cpos : Pos) (args : List Expr) (h1 : isSuper ob = false) (h2 : (apos.endLine == cpos.line) = true) (h3 : args.all (fun e => !starred e) = true) (h4 : ¬ 25 < args.length) : PD X (.Call (.Attribute ob name apos) args [] cpos) (bmE c G ob name args) := by
  unfold bmE
  split
  · exact pd_no
  · rename_i hn
    split
    · rename_i T r e
      obtain ⟨id, pa, sl, ty, m⟩ := (met_tab (X := X) (name, T, r) (lookup_mem e)).ex
      cases args with
      | nil => exact absurd rfl hn
      | cons a as =>
        have h3' := h3
        rw [List.all_cons, Bool.and_eq_true] at h3'
        rw [kMet_eq]
        exact pd_met pa sl ty m (g.E G X ob o) (g.A o _) (attr_base h1) (few_ok h3 h4) h2 (star_cons (by simpa using h3'.1)) (star_plain h3'.2)
    · exact pd_no
theorem kNil_of {kws : List Keyword} (z : kws = []) : c.K G kws = aNil := by subst z; rfl
theorem aNil_of {es : List Expr} (z : es = []) : c.A G es = aNil := by subst z; rfl
theorem metE_ok (g : Good c) (o : XOk G X) (ob : Expr) (name : Str) (apos cpos : Pos) (args : List Expr) (kws : List Keyword) : PD X (.Call (.Attribute ob name apos) args kws cpos) (metE c G ob name apos cpos args kws) := by
  unfold metE
  split
  · exact pd_no
  · rename_i h
    simp only [not_or] at h
    obtain ⟨h1, h2, h3, h4, h5, h6⟩ := h
    have h1 : isSuper ob = false := by simpa using h1
    have h2 : (apos.endLine == cpos.line) = true := by simpa using h2
    have h3 : args.all (fun e => !starred e) = true := by simpa using h3
    have h5 : kwNames kws = ((kwNames kws).filterMap id).map some := Classical.byContradiction h5
    split
    · rename_i Φ e
      unfold statOf at e
      split at e
      · rename_i x q
        split at e
        · rename_i hg
          obtain ⟨g1, g2⟩ := isGl_ok o hg
          split at e
          · rename_i ci e3
            obtain ⟨C, gg, k, hm, sk, hr, F⟩ := (o.g.tb.sm _ (findS_ok e3)).ex
            exact pd_stat sk F hr g1 hm (dbg1 g2) (argsOk_plain h3 h5) (g.A o _) (g.K o _) (fun z => aNil_of z) (fun z => kNil_of z) (attr_base h1) (form_ok h3 h5 h4) h2 (fmOf_ok e).2
          · cases e
        · cases e
      · cases e
    · split
      · split
        · rename_i hk
          obtain rfl := kwNil hk
          exact bmE_ok g o ob name apos cpos args h1 h2 h3 (by simpa using h4)
        · exact pd_no
      · rename_i p tab e
        rw [← e]
        exact pd_meth (tabM_ok o.g.tb) h6 (argsOk_plain h3 h5) (g.E G X ob o) (g.A o _) (g.K o _) (fun z => aNil_of z) (fun z => kNil_of z) (attr_base h1) (form_ok h3 h5 h4) h2
theorem attE_ok (g : Good c) (o : XOk G X) (ob : Expr) (f : Str) (pos : Pos) : PD X (.Attribute ob f pos) (attE c G ob f) := by
  unfold attE
  split
  · exact pd_no
  · rename_i h
    simp only [not_or] at h
    obtain ⟨h1, h2⟩ := h
    have h1 : isSuper ob = false := by simpa using h1
    split
    · rename_i x p
      split
      · rename_i hg
        obtain ⟨g1, g2⟩ := isGl_ok o hg
        split
        · rename_i d e
          obtain ⟨C, hm, k⟩ := (o.g.tb.cc _ (findS_ok e)).ex
          exact pd_clsCon g1 hm (dbg1 g2) k (attr_base h1)
        · exact pd_no
      · exact pd_att (tabA_ok o.g.tb) h2 (g.E G X _ o) (attr_base h1)
    · exact pd_att (tabA_ok o.g.tb) h2 (g.E G X _ o) (attr_base h1)
theorem pd_lcNo {e : Expr} {t : ED} {pos : Pos} (h : ∀ w ρ S q, ¬ t w ρ S q) : PD X e (lcM G pos t) := ⟨fun B W tk => ⟨fun pins s σ H Q I ⟨ρ, S, q, w, _, _, _, z, _⟩ => by
  unfold lcM at z
  split at z
  · exact (h _ _ _ _ z).elim
  · exact (h _ _ _ _ z).elim⟩⟩
theorem lcM_up {ti : ID} {gg : GD} {tt : TD} {te : ED} {vs : List Nat} {pos : Pos} {K : KB} {W : WX} {σ : St} {H : Hp} {Q : VK} (h : upE K W (lcM G pos (kLc ti gg tt te vs)) σ H Q) : tLc (upI K W ti) (exG K.k vs gg) (exT K.k tt) (exE K.k te) vs σ H Q := by
  unfold lcM at h
  rw [kLc_eq] at h
  split at h
  · exact lc_upM h
  · exact lc_up h
theorem lcM_up2 {ti ti1 : ID} {gg gg1 : GD} {tt tt1 : TD} {te : ED} {vs vs1 : List Nat} {pos : Pos} {K : KB} {W : WX} {σ : St} {H : Hp} {Q : VK} (h : upE K W (lcM G pos (kLc2 ti gg tt ti1 gg1 tt1 te vs vs1)) σ H Q) : tLc2 (upI K W ti) (exG K.k vs gg) (exT K.k tt) (exI K.k ti1) (exG K.k vs1 gg1) (exT K.k tt1) (exE K.k te) vs vs1 σ H Q := by
  unfold lcM at h
  rw [kLc2_eq] at h
  split at h
  · exact lc2_upM h
  · exact lc2_up h
theorem lcM_ok (g : Good c) (o : XOk G X) (elt : Expr) (gens : List Comprehension) (scope : Scope) (pos : Pos) : PD X (.ListComp elt gens scope pos) (lcM G pos (lcE c G elt gens scope)) := by
  unfold lcE
  split
  · rename_i tg iter ifs
    split
    · exact pd_lcNo fun _ _ _ _ z => z
    · rename_i h
      simp only [not_or] at h
      obtain ⟨h1, h2, h3⟩ := h
      have h1 : blkB G scope = true := by simpa using h1
      have nd : X.N.Nodup := by rw [o.N]; exact o.nd
      have hz : ∀ i ∈ tgZs (G.blk scope) tg, i ∈ (ownOf G scope).map (·.2) := by
        have : (tgZs (G.blk scope) tg).all (fun i => decide (i ∈ (ownOf G scope).map (·.2))) = true := by simpa using h3
        intro i hi
        exact of_decide_eq_true (List.all_eq_true.mp this i hi)
      split
      · exact pd_lc o.calm nd (g.I o tg iter) (blk_ok o h1) (fun s H C cl fp => g.GT (xok_blk o h1 s H C cl fp) tg hz) (fun s H C cl fp => pdts_nil) (fun s H C cl fp => g.E _ _ elt (xok_blk o h1 s H C cl fp)) (fold_plain (by simpa using h2)) lcM_up
      · rename_i t
        exact pd_lc o.calm nd (g.I o tg iter) (blk_ok o h1) (fun s H C cl fp => g.GT (xok_blk o h1 s H C cl fp) tg hz) (fun s H C cl fp => pdts_one (g.T _ _ t (xok_blk o h1 s H C cl fp))) (fun s H C cl fp => g.E _ _ elt (xok_blk o h1 s H C cl fp)) (fold_plain (by simpa using h2)) lcM_up
      · exact pd_lcNo fun _ _ _ _ z => z
  · rename_i tg iter ifs tg1 iter1 ifs1
    split
    · exact pd_lcNo fun _ _ _ _ z => z
    · rename_i h
      simp only [not_or] at h
      obtain ⟨h1, h2, h3, h4, h5⟩ := h
      have h1 : blkB G scope = true := by simpa using h1
      have nd : X.N.Nodup := by rw [o.N]; exact o.nd
      have hz : ∀ {tg}, ¬ (tgZs (G.blk scope) tg).all (fun i => decide (i ∈ (ownOf G scope).map (·.2))) = false → ∀ i ∈ tgZs (G.blk scope) tg, i ∈ (ownOf G scope).map (·.2) := fun {tg} h3 => by
        have : (tgZs (G.blk scope) tg).all (fun i => decide (i ∈ (ownOf G scope).map (·.2))) = true := by simpa using h3
        intro i hi
        exact of_decide_eq_true (List.all_eq_true.mp this i hi)
      split
      · rename_i t t1 ht ht1
        exact pd_lc2 o.calm nd (g.I o tg iter) (blk_ok o h1) (hz h5) (fun s H C cl fp => g.GT (xok_blk o h1 s H C cl fp) tg (hz h3)) (fun s H C cl fp => ts_ok g (xok_blk o h1 s H C cl fp) ht) (fun s H C cl fp => g.I (xok_blk o h1 s H C cl fp) tg1 iter1)
          (fun s H C cl fp => g.GT (xok_blk o h1 s H C cl fp) tg1 fun i hi => hi) (fun s H C cl fp => ts_ok g (xok_blk o h1 s H C cl fp) ht1) (fun s H C cl fp => g.E _ _ elt (xok_blk o h1 s H C cl fp)) (fold_plain (by simpa using h2)) (fun env => fold_plain (by simpa using h4)) lcM_up2
      · exact pd_lcNo fun _ _ _ _ z => z
  · exact pd_lcNo fun _ _ _ _ z => z
theorem constE_ok (k : Const) (n : Nat) (pos : Pos) : PD X (.Constant k n pos) (constE k) := by
  cases k <;> first | exact pd_no | exact pd_int | exact pd_bl | exact pd_non | exact pd_str
theorem callX_ok (g : Good c) (o : XOk G X) {x : Str} {p pos : Pos} {args : List Expr} {kws : List Keyword} : PD X (.Call (.Name x p) args kws pos) (callX c G x args kws) := by
  have base : PD X (.Call (.Name x p) args kws pos) (callE G x args kws (c.A G args) (c.K G kws)) := callE_ok o (g.A o _) (g.K o _) (fun z => aNil_of z) (fun z => kNil_of z)
  unfold callX
  split
  · split
    · rename_i h
      obtain ⟨rfl, h1, h2, h3⟩ := h
      split
      · rename_i tab e
        obtain ⟨a1, a2⟩ := isBi_ok o h1
        obtain ⟨b1, b2⟩ := isGl_ok o h2
        obtain ⟨C, hm, k⟩ := (o.g.tb.is_ _ (PySem.mem_of_lookup e)).ex
        exact pd_isO a1 a2 b1 hm (dbg1 b2) k h3 (g.E G X _ o)
      · exact base
    · exact base
  · split
    · rename_i h
      obtain ⟨rfl, rfl, h1, h2, h3⟩ := h
      obtain ⟨a1, a2⟩ := isBi_ok o h1
      obtain ⟨b1, b2⟩ := isBi_ok o h2
      exact pd_ss o.calm a1 a2 b1 b2 h3 (g.E G X _ o)
    · split
      · rename_i h
        obtain ⟨rfl, rfl, h1, h2, h3⟩ := h
        obtain ⟨a1, a2⟩ := isBi_ok o h1
        obtain ⟨b1, b2⟩ := isBi_ok o h2
        exact pd_lr o.calm a1 a2 b1 b2 h3 (g.E G X _ o)
      · exact base
  · exact base
theorem callZ_ok (g : Good c) (o : XOk G X) {x : Str} {p pos : Pos} {args : List Expr} {kws : List Keyword} : PD X (.Call (.Name x p) args kws pos) (callZ c G x args kws) := by
  unfold callZ
  split
  · rename_i h
    obtain ⟨_, h2, h3⟩ := h
    split
    · exact callX_ok g o
    · rename_i q tab e
      have T := tabX_ok o.g.tb (n := args.length + 1) (ks := kwNames kws)
      rw [e] at T
      exact pd_cal T (argsOk_plain h2 h3) (star_plain h2) (nameE_ok o x p) (g.A o _) (g.K o _) (fun z => aNil_of z) (fun z => kNil_of z)
  · exact callX_ok g o
theorem lamE_ok (g : Good c) (o : XOk G X) (params : Arguments) (body : Expr) (scope : Scope) (pos : Pos) : PD X (.Lambda params body scope pos) (lamE c G params body scope) := by
  unfold lamE
  split
  · exact pd_no
  · rename_i x ex
    split
    · exact pd_no
    · rename_i ps pd b ep
      split
      · rename_i h
        obtain ⟨h1, h2, h3⟩ := h
        have T := o.th x ex
        obtain ⟨c', TB, hcode⟩ := T.tab
        obtain ⟨k, hth, hg⟩ := T.k
        have Sc := NdefX.nscope_by h1
        refine pd_lam TB hcode T.cl T.qual hth (lparOf_ok ep) Sc (fun y hy => ?_) h3 (fun p hp => ?_) fun F f A outer s H E hF hr => ?_
        · show X.env.scope.names.lookup y = _
          rw [o.sc]
          exact of_decide_eq_true (List.all_eq_true.mp h2 y hy)
        · obtain ⟨y, hy, e⟩ := List.mem_filterMap.mp hp
          cases e2 : G.slot y with
          | none => rw [e2] at e; cases e
          | some i =>
            rw [e2] at e
            cases e
            rw [T.js]
            exact cellSlots_in (of_decide_eq_true (List.all_eq_true.mp h2 y hy)) e2
        · have o2 : XOk (G.lam ps (freeOf scope) scope) (NdefX.ncx (L2N.CX X.prog X.w) X.prog X.w X.K X.mg X.base (ps ++ freeOf scope) F f A outer s H E) := by
            refine ⟨rfl, Sc.nd, ?_, rfl, fun z => Bool.noConfusion z, passes_of rfl, ?_, hg _ hr, fun x z => by cases z⟩
            · show F.scope.names = scope.names
              rw [hF]
            · show F.scope.kind = _
              rw [hF]; exact Sc.kind
          exact g.E _ _ body o2
      · exact pd_no
theorem muE_ok (g : Good c) (o : XOk G X) {x : Str} {p pos : Pos} {args : List Expr} {kws : List Keyword} : PD X (.Call (.Name x p) args kws pos) (muE c G x args kws) := by
  unfold muE
  split
  · rename_i e
    split
    · rename_i h
      obtain ⟨a1, a2⟩ := isBi_ok o h.1
      split
      · rename_i hx
        subst hx
        exact pd_callB bd_sortM a1 a2 (by decide +kernel) (g.A o _) (by decide) (by decide) (star_cons h.2) (star_plain (by rfl))
      · split
        · rename_i hx
          subst hx
          exact pd_callTy (bd_listM o.calm) a1 a2 (by decide +kernel) (g.A o _) (by decide) (by decide) (star_cons h.2) (star_plain (by rfl))
        · exact pd_no
    · exact pd_no
  · exact pd_no
theorem stepE_ok (g : Good c) (o : XOk G X) (e : Expr) : PD X e (stepE c G e) := by
  unfold stepE
  split
  · exact constE_ok _ _ _
  · exact nameE_ok o _ _
  · exact pd_op (opd_bin _) (g.E G X _ o) (g.E G X _ o)
  · rw [kNot_eq]; exact pd_not (g.E G X _ o)
  · exact pd_un (by rw [hNeg_eq]; exact und_neg) (g.E G X _ o)
  · exact g.B o _ _ _
  · split
    · exact pd_no
    · rename_i h; exact pd_cmp (opd_cmpG o _) (g.E G X _ o) (g.E G X _ o) (mark_no (by simpa using h))
  · split
    · exact pd_no
    · rename_i h; rw [kChain_eq]; exact pd_chain (opd_cmp o.g.un _) (opd_cmp o.g.un _) (g.E G X _ o) (g.E G X _ o) (g.E G X _ o) (mark_no (by simpa using h))
  · rw [kIf_eq]; exact pd_ifExp (g.T G X _ o) (g.E G X _ o) (g.E G X _ o)
  · rw [kTup_eq]; exact pd_tup (g.A o _)
  · split
    · rw [kLstM_eq]; exact pd_lstM (g.A o _)
    · rw [kLst_eq]; exact pd_lst (g.A o _)
  · exact pd_rev (g.E G X _ o)
  · exact pd_slice (by rw [hSl_eq]; exact sld_seq) (g.E G X _ o) (g.O o _) (g.O o _)
  · split
    · exact pd_no
    · rename_i h
      split
      · rename_i kvs e; exact kd_ok o e (g.E G X _ o) (plain_ix (by simpa using h))
      · exact pd_ix (by rw [hIx_eq]; exact ixd_seq (by have := o.g.un; omega)) (g.E G X _ o) (g.E G X _ o) (plain_ix (by simpa using h))
  · split
    · exact muE_ok g o
    · exact callZ_ok g o
  · exact metE_ok g o _ _ _ _ _ _
  · exact attE_ok g o _ _ _
  · exact dictE_ok g o _ _ _
  · exact pd_no
  · exact pd_joined1 (g.E G X _ o)
  · exact pd_joined (g.J o _)
  · exact pd_fmt (g.E G X _ o)
  · exact lcM_ok g o _ _ _ _
  · exact lamE_ok g o _ _ _ _
  · exact pd_no
theorem stepT_ok (g : Good c) (o : XOk G X) (e : Expr) : PDT X e (stepT c G e) := by
  unfold stepT
  split
  · exact pdt_not (g.T G X _ o)
  · exact (g.BT o _ _ _).pdt
  · split
    · exact pdt_no
    · rename_i h; exact pdt_cmp (opd_cmpG o _) (g.E G X _ o) (g.E G X _ o) (mark_no (by simpa using h))
  · split
    · exact pdt_no
    · rename_i h; rw [kChain_eq]; exact pdt_chain (opd_cmp o.g.un _) (opd_cmp o.g.un _) (g.E G X _ o) (g.E G X _ o) (g.E G X _ o) (mark_no (by simpa using h))
  · split
    · rename_i h; rw [kTr_eq]; exact pdt_tr (g.E G X _ o) (test_plain h)
    · exact pdt_no
end
noncomputable def comp : Nat → Cmp
  | 0 => ⟨fun _ _ => eNo, fun _ _ => eNoT'⟩
  | n + 1 => ⟨stepE (comp n), stepT (comp n)⟩
theorem comp_good : ∀ n, Good (comp n)
  | 0 => ⟨fun _ _ _ _ => pd_no, fun _ _ _ _ => pdt_no⟩
  | n + 1 => ⟨fun _ _ e o => stepE_ok (comp_good n) o e, fun _ _ e o => stepT_ok (comp_good n) o e⟩
end DL

namespace DL
open PySem PySem.Spec PyProof.Rows L2

/-! ### while -/
def whileGo (c : TD) (tb : SD) (E : EnD) (ρ : St') (S : Sto) : Prop := ∃ I : Nat → St' → Sto → Prop, (∃ m, I m ρ S) ∧ ∀ m ρ S, I m ρ S →
  c E.w ρ S fun b S1 => hIf b (tb { E with nx := fun ρ' S' => ∃ m', m' < m ∧ I m' ρ' S', ct := fun ρ' S' => ∃ m', m' < m ∧ I m' ρ' S', bk := E.nx } ρ S1) (E.nx ρ S1)
@[irreducible] noncomputable def hWhile (c : TD) (tb : SD) (E : EnD) (ρ : St') (S : Sto) : Prop := stuck (@whileGo) c tb E ρ S
theorem hWhile_eq (c : TD) (tb : SD) (E : EnD) (ρ : St') (S : Sto) : hWhile c tb E ρ S = whileGo c tb E ρ S := by unfold hWhile; rw [stuck_eq]
def kWhile (c : TD) (tb : SD) : SD := fun E ρ S => hWhile c tb E ρ S
theorem pds_while {X : Cx} {t : Expr} {body : List Stmt} {tc : TD} {tb : SD} {pos : Pos} (hp : PassesOwn (model X.prog X.w) X.A X.env X.xe) (hc : PDT X t tc) (hb : PDB X body tb) : PDS X (.While t body [] pos) (kWhile tc tb) := ⟨fun B W tk => (ps_while hp (hc.up B W tk) (hb.up B W tk)).imp fun D σ H h => by
  obtain ⟨ρ, S, E, R, L, O, k, h⟩ := h
  have h : hWhile tc tb E ρ S := h
  rw [hWhile_eq] at h
  obtain ⟨I, ⟨m0, h0⟩, turn⟩ := h
  refine ⟨fun m σ' H' => ∃ ρ' S', Ext S H S' H' ∧ Rel ⟨X.K, B⟩ S' H' ∧ Sl ⟨X.K, B⟩ S' H' ρ' σ' ∧ I m ρ' S', ⟨m0, ρ, S, .refl, R, L, h0⟩, ?_⟩
  rintro m σ1 H1 ⟨ρ1, S1, e1, R1, L1, h1⟩
  refine ⟨ρ1, S1, _, E.w, R1, L1, O.ext e1, turn m ρ1 S1 h1, fun b S2 H2 e2 R2 q2 => ?_⟩
  rw [hIf_eq] at q2
  cases b with
  | false => exact k.nx ρ1 σ1 S2 H2 (e1.trans e2) R2 (L1.ext e2) q2
  | true =>
    rw [if_pos rfl] at q2
    refine ⟨fun σ' H' => ∃ ρ' S', Ext S H S' H' ∧ Rel ⟨X.K, B⟩ S' H' ∧ Sl ⟨X.K, B⟩ S' H' ρ' σ' ∧ ∃ m', m' < m ∧ I m' ρ' S', fun σ' H' ⟨ρ', S', e', R', L', m', lt, w⟩ => ⟨m', lt, ρ', S', e', R', L', w⟩, ρ1, S2, { E with nx := fun ρ' S' => ∃ m', m' < m ∧ I m' ρ' S', ct := fun ρ' S' => ∃ m', m' < m ∧ I m' ρ' S', bk := E.nx }, R2, L1.ext e2, O.ext (e1.trans e2), ?_, q2⟩
    have e12 := e1.trans e2
    exact ⟨fun ρ' σ' S' H' e' R' L' n => ⟨ρ', S', e12.trans e', R', L', n⟩, fun d v S' H' e' => k.rt d v S' H' (e12.trans e'), fun ρ' σ' S' H' e' => k.nx ρ' σ' S' H' (e12.trans e'), fun ρ' σ' S' H' e' R' L' n => ⟨ρ', S', e12.trans e', R', L', n⟩⟩⟩
/-- a while, by what holds ahead of each turn, with a number that falls -/
theorem whileInv {c : TD} {tb : SD} {E : EnD} {ρ : St'} {S : Sto} (I : Nat → St' → Sto → Prop) (m0 : Nat) (h0 : I m0 ρ S)
    (hs : ∀ m ρ S, I m ρ S → c E.w ρ S fun b S1 => hIf b (tb { E with nx := fun ρ' S' => ∃ m', m' < m ∧ I m' ρ' S', ct := fun ρ' S' => ∃ m', m' < m ∧ I m' ρ' S', bk := E.nx } ρ S1) (E.nx ρ S1)) : hWhile c tb E ρ S := by
  rw [hWhile_eq]
  exact ⟨I, ⟨m0, h0⟩, hs⟩
/-! ### x += e -/
def rIAdd : D → D → Sto → QD → Prop
  | .int i, .int j, S, q => q (.int (i + j)) S
  | .str a, .str b, S, q => a.length + b.length ≤ sizeLine ∧ q (.str (a ++ b)) S
  | _, _, _, _ => False
@[irreducible] noncomputable def hIAdd : D → D → Sto → QD → Prop := stuck rIAdd
theorem hIAdd_eq : hIAdd = rIAdd := by unfold hIAdd; exact stuck_eq _
theorem opd_iadd {X : Cx} : OpD X (inplaceOp .Add) rIAdd := OpD.of (iop_add.or iop_add_str) fun K dx dy x y S H q Q hK R rx ry h g => by
  cases dx <;> cases dy <;> first | exact h.elim | skip
  · cases rx; cases ry; exact .inl ⟨_, _, rfl, rfl, g.int R h⟩
  · cases rx; cases ry
    refine .inr ⟨_, _, rfl, rfl, by rw [mkS_length, mkS_length]; exact h.1, ?_⟩
    rw [← mkS_append]; exact g.str R h.2
def sAug (i : Nat) (te : ED) : SD := fun E ρ S => eVar i E.w ρ S fun x S1 => te E.w ρ S1 fun y S2 => hIAdd x y S2 fun z S3 => E.nx (ρ.set i (some z)) S3
theorem pds_aug {X : Cx} {i : Nat} {x : Str} {e : Expr} {te : ED} {pos pos' : Pos} (hN : X.N.Nodup) (hi : X.N[i]? = some x) (hx : Loc X.env.scope x) (hf : X.fn x = true ∨ X.env.scope.names.lookup x = some .local) (he : PD X e te) : PDS X (.AugAssign (.Name x pos') .Add e pos) (sAug i te) := ⟨fun B W tk => by
  have op : PIp X .Add _ := opd_iadd (X := X) B
  refine (ps_aug hN hi hx (he.up B W tk) op hf).imp fun D σ H h => ?_
  obtain ⟨ρ, S, E, R, L, O, k, h⟩ := h
  have h : (match ρ[i]? with
    | some (some d) => te E.w ρ S fun y S2 => hIAdd d y S2 fun z S3 => E.nx (ρ.set i (some z)) S3
    | _ => False) := h
  rw [hIAdd_eq] at h
  split at h
  · rename_i d ed
    obtain ⟨v, ev, rv⟩ := L.at_ i d ed
    refine ⟨v, ev, ρ, S, _, E.w, R, L, O, h, fun dy y S1 H1 e1 R1 r1 q1 => ?_⟩
    exact ⟨d, dy, S1, _, R1, rv.ext e1, r1, q1, fun dz z S2 H2 e2 R2 r2 q2 => k.nx _ _ S2 H2 (e1.trans e2) R2 ((L.ext (e1.trans e2)).set r2) q2⟩
  · exact h.elim⟩
end DL

namespace DL
open PySem PySem.Spec PyProof.Rows L2

/-! ### assignments -/
noncomputable def par2 (c : Cmp) (G : GX) (x y : Str) (names : List Str) (t : AD) : SD :=
  if names = [x, y] ∧ G.sc.lookup x = some .local ∧ G.sc.lookup y = some .local then
    (match G.slot x, G.slot y with
    | some i, some j => if i ≠ j then sPar2 i j t else sNo
    | _, _ => sNo)
  else sNo
noncomputable def par3 (c : Cmp) (G : GX) (x y z : Str) (names : List Str) (t : AD) : SD :=
  if names = [x, y, z] ∧ G.sc.lookup x = some .local ∧ G.sc.lookup y = some .local ∧ G.sc.lookup z = some .local then
    (match G.slot x, G.slot y, G.slot z with
    | some i, some j, some l => if i ≠ j ∧ i ≠ l ∧ j ≠ l then sPar3 i j l t else sNo
    | _, _, _ => sNo)
  else sNo
def attTg : Expr → Option (Expr × Str)
  | .Attribute o f _ => some (o, f)
  | _ => none
theorem attTg_ok {tg o : Expr} {f : Str} (h : attTg tg = some (o, f)) : ∃ p, tg = .Attribute o f p := by
  cases tg <;> first | (cases h; done) | (cases h; exact ⟨_, rfl⟩)
theorem swaps_att {e o : Expr} {f : Str} {p : Pos} {l : Nat} {env : Env} : swapsWith e (some (.Attribute o f p)) l env = pure false := by
  cases e <;> rfl
noncomputable def asgS (c : Cmp) (G : GX) (tg e : Expr) : SD :=
  if starred tg = true then sNo else
  match attTg tg with
  | some (o, f) => sPutF (attI f) (putTab G.tb f) (c.E G e) (c.E G o)
  | none =>
  match e with
  | .ListComp elt gens scope pos => (match tg with
    | .Name y _ => (match slotOf G y with
      | some i => sAsg (lcM G pos (lcE c G elt gens scope)) (dName i)
      | none => sNo)
    | _ => sNo)
  | e => if isComp e = true then sNo else
    (match tg, e with
    | .Tuple ts _ _, .Tuple vs _ _ => (match swF G.sc ts vs with
      | some none => sAsg (c.E G e) (c.GT G tg)
      | some (some names) => (match ts, vs with
        | [.Name x _, .Name y _], [_, _] => par2 c G x y names (c.A G vs)
        | [.Name x _, .Name y _, .Name z _], [_, _, _] => par3 c G x y z names (c.A G vs)
        | _, _ => sNo)
      | none => sNo)
    | tg, e => if isTgTup tg = true ∧ isTuple e = true then sNo else sAsg (c.E G e) (c.GT G tg))
section
variable {c : Cmp} {G : GX} {X : Cx}
theorem swaps_lc {elt : Expr} {gens : List Comprehension} {scope : Scope} {pos py : Pos} {y : Str} {l : Nat} {env : Env} : ∃ b, swapsWith (.ListComp elt gens scope pos) (some (.Name y py)) l env = pure b ∧ (b = true → env.kindOf y = some .local) := by
  refine ⟨env.blockKind == .function && env.kindOf y == some .local && py.line == pos.line && !(scope.names.any fun (n, k) => n == y && (k == .local || k == .cell)), rfl, fun h => ?_⟩
  simp only [Bool.and_eq_true] at h
  exact eq_of_beq h.1.1.2
theorem asg_plain (g : Good c) (o : XOk G X) {tg e : Expr} {pos : Pos} (hs : starred tg = false) (hc : isComp e = false) (hw : swappedStores [tg] e X.env = pure none) : PDS X (.Assign [tg] e pos) (sAsg (c.E G e) (c.GT G tg)) :=
  pds_asg (g.E G X e o) (g.GT o (Z := tgZs G tg) tg fun i hi => hi) (swaps_no hc) hw (asg_each hs)
theorem asg_noS {st : Stmt} {t : ED} {g : GD} (h : ∀ w ρ S q, ¬ t w ρ S q) : PDS X st (sAsg t g) := ⟨fun B W tk => ⟨fun pins s σ H D I ⟨ρ, S, E, _, _, _, _, z⟩ => (h _ _ _ _ z).elim⟩⟩
theorem lcM_no {t : ED} {pos : Pos} (h : ∀ w ρ S q, ¬ t w ρ S q) : ∀ w ρ S q, ¬ lcM G pos t w ρ S q := fun w ρ S q z => by
  unfold lcM at z
  split at z
  · exact h _ _ _ _ z
  · exact h _ _ _ _ z
theorem asg_lc (g : Good c) (o : XOk G X) {y : Str} {py epos pos : Pos} {elt : Expr} {gens : List Comprehension} {scope : Scope} : PDS X (.Assign [.Name y py] (.ListComp elt gens scope epos) pos) (match slotOf G y with
      | some i => sAsg (lcM G epos (lcE c G elt gens scope)) (dName i)
      | none => sNo) := by
  cases e : slotOf G y with
  | none => exact pds_no
  | some i =>
    obtain ⟨h1, h2, h3⟩ := slot_ok o e
    have nd : X.N.Nodup := by rw [o.N]; exact o.nd
    obtain ⟨b, hb, hk⟩ := swaps_lc (elt := elt) (gens := gens) (scope := scope) (pos := epos) (py := py) (y := y) (l := pos.line) (env := X.env)
    cases b with
    | false => exact pds_asg (lcM_ok g o elt gens scope epos) (pdg_name (Z := [i]) (List.mem_singleton.mpr rfl) (pg_name nd h1 h2 h3)) hb (swap_noV rfl) rfl
    | true =>
      have hyl : X.env.scope.names.lookup y = some .local := hk rfl
      show PDS X _ (sAsg (lcM G epos (lcE c G elt gens scope)) (dName i))
      unfold lcE
      split
      · rename_i tg iter ifs
        split
        · exact asg_noS (lcM_no fun _ _ _ _ z => z)
        · rename_i h
          simp only [not_or] at h
          obtain ⟨h1', h2', h3'⟩ := h
          have h1' : blkB G scope = true := by simpa using h1'
          have hz : ∀ i ∈ tgZs (G.blk scope) tg, i ∈ (ownOf G scope).map (·.2) := by
            have : (tgZs (G.blk scope) tg).all (fun i => decide (i ∈ (ownOf G scope).map (·.2))) = true := by simpa using h3'
            intro i hi
            exact of_decide_eq_true (List.all_eq_true.mp this i hi)
          split
          · exact pds_setLc o.calm nd h1 hyl hb (g.I o tg iter) (blk_ok o h1') (fun s H C cl fp => g.GT (xok_blk o h1' s H C cl fp) tg hz) (fun s H C cl fp => pdts_nil) (fun s H C cl fp => g.E _ _ elt (xok_blk o h1' s H C cl fp)) (fold_plain (by simpa using h2')) lcM_up
          · rename_i t
            exact pds_setLc o.calm nd h1 hyl hb (g.I o tg iter) (blk_ok o h1') (fun s H C cl fp => g.GT (xok_blk o h1' s H C cl fp) tg hz) (fun s H C cl fp => pdts_one (g.T _ _ t (xok_blk o h1' s H C cl fp))) (fun s H C cl fp => g.E _ _ elt (xok_blk o h1' s H C cl fp)) (fold_plain (by simpa using h2')) lcM_up
          · exact asg_noS (lcM_no fun _ _ _ _ z => z)
      · rename_i tg iter ifs tg1 iter1 ifs1
        split
        · exact asg_noS (lcM_no fun _ _ _ _ z => z)
        · rename_i h
          simp only [not_or] at h
          obtain ⟨h1', h2', h3', h4', h5'⟩ := h
          have h1' : blkB G scope = true := by simpa using h1'
          have hz : ∀ {tg}, ¬ (tgZs (G.blk scope) tg).all (fun i => decide (i ∈ (ownOf G scope).map (·.2))) = false → ∀ i ∈ tgZs (G.blk scope) tg, i ∈ (ownOf G scope).map (·.2) := fun {tg} h3 => by
            have : (tgZs (G.blk scope) tg).all (fun i => decide (i ∈ (ownOf G scope).map (·.2))) = true := by simpa using h3
            intro i hi
            exact of_decide_eq_true (List.all_eq_true.mp this i hi)
          split
          · rename_i t t1 ht ht1
            exact pds_setLc2 o.calm nd h1 hyl hb (g.I o tg iter) (blk_ok o h1') (hz h5') (fun s H C cl fp => g.GT (xok_blk o h1' s H C cl fp) tg (hz h3')) (fun s H C cl fp => ts_ok g (xok_blk o h1' s H C cl fp) ht) (fun s H C cl fp => g.I (xok_blk o h1' s H C cl fp) tg1 iter1)
              (fun s H C cl fp => g.GT (xok_blk o h1' s H C cl fp) tg1 fun i hi => hi) (fun s H C cl fp => ts_ok g (xok_blk o h1' s H C cl fp) ht1) (fun s H C cl fp => g.E _ _ elt (xok_blk o h1' s H C cl fp)) (fold_plain (by simpa using h2')) (fun env => fold_plain (by simpa using h4')) lcM_up2
          · exact asg_noS (lcM_no fun _ _ _ _ z => z)
      · exact asg_noS (lcM_no fun _ _ _ _ z => z)
theorem par2_ok (g : Good c) (o : XOk G X) {x y : Str} {px py pt pos p2 : Pos} {a b : Expr} {kt k2 : Nat} {names : List Str} (hw : swappedStores [.Tuple [.Name x px, .Name y py] kt pt] (.Tuple [a, b] k2 p2) X.env = pure (some names)) : PDS X (.Assign [.Tuple [.Name x px, .Name y py] kt pt] (.Tuple [a, b] k2 p2) pos) (par2 c G x y names (c.A G [a, b])) := by
  unfold par2
  split
  · rename_i h
    obtain ⟨rfl, h1, h2⟩ := h
    split
    · rename_i i j ei ej
      split
      · rename_i hij
        exact pds_par2 o.calm (by rw [o.N]; exact o.nd) (by rw [o.N]; exact GX.slot_at ei) (by rw [o.N]; exact GX.slot_at ej) hij (by rw [o.sc]; exact h1) (by rw [o.sc]; exact h2) (g.A o _) hw
      · exact pds_no
    · exact pds_no
  · exact pds_no
theorem par3_ok (g : Good c) (o : XOk G X) {x y z : Str} {px py pz pt pos p2 : Pos} {a b d : Expr} {kt k2 : Nat} {names : List Str} (hw : swappedStores [.Tuple [.Name x px, .Name y py, .Name z pz] kt pt] (.Tuple [a, b, d] k2 p2) X.env = pure (some names)) : PDS X (.Assign [.Tuple [.Name x px, .Name y py, .Name z pz] kt pt] (.Tuple [a, b, d] k2 p2) pos) (par3 c G x y z names (c.A G [a, b, d])) := by
  unfold par3
  split
  · rename_i h
    obtain ⟨rfl, h1, h2, h3⟩ := h
    split
    · rename_i i j l ei ej el
      split
      · rename_i hij
        exact pds_par3 o.calm (by rw [o.N]; exact o.nd) (by rw [o.N]; exact GX.slot_at ei) (by rw [o.N]; exact GX.slot_at ej) (by rw [o.N]; exact GX.slot_at el) hij.1 hij.2.1 hij.2.2 (by rw [o.sc]; exact h1) (by rw [o.sc]; exact h2) (by rw [o.sc]; exact h3) (g.A o _) hw
      · exact pds_no
    · exact pds_no
  · exact pds_no
theorem asgS_ok (g : Good c) (o : XOk G X) (tg e : Expr) (pos : Pos) : PDS X (.Assign [tg] e pos) (asgS c G tg e) := by
  unfold asgS
  split
  · exact pds_no
  · rename_i hs
    have hs : starred tg = false := by simpa using hs
    split
    · rename_i ob f ea
      obtain ⟨p, rfl⟩ := attTg_ok ea
      exact pds_putF (tabP_ok o.g.tb) (g.E G X e o) (g.E G X ob o) swaps_att
    split
    · split
      · exact asg_lc g o
      · exact pds_no
    · split
      · exact pds_no
      · rename_i hc
        have hc := Bool.eq_false_iff.mpr hc
        split
        · split
          · rename_i e2; exact asg_plain g o hs rfl (swF_ok o.sc o.fk e2)
          · rename_i names e2
            split
            · exact par2_ok g o (swF_ok o.sc o.fk e2)
            · exact par3_ok g o (swF_ok o.sc o.fk e2)
            · exact pds_no
          · exact pds_no
        · split
          · exact pds_no
          · rename_i h
            refine asg_plain g o hs hc ?_
            by_cases h1 : isTgTup tg = true
            · exact swap_noV (by simpa using fun z => h ⟨h1, z⟩)
            · exact swap_noT (by simpa using h1)
end
/-! ### raise -/
theorem passF {P : Program} {w : World} {X : Cx} : Passes (L2N.CX P w) X fun _ _ _ => False := fun _ _ _ _ _ _ _ ⟨_, _, _, _, _, _, _, _, _, _, _, _, z⟩ => z.elim
noncomputable def raiseS (c : Cmp) (G : GX) (x : Str) (e : Expr) : SD := if isGl G x = true ∧ starred e = false then (match G.gl.lookup x with
  | some (.exc n m f) => sRaise n m f (c.E G e)
  | _ => sNo) else sNo
theorem raiseS_ok {c : Cmp} {G : GX} {X : Cx} (g : Good c) (o : XOk G X) {x : Str} {e : Expr} {p pos pos' : Pos} : PDS X (.Raise (some (.Call (.Name x p) [e] [] pos)) none pos') (raiseS c G x e) := by
  unfold raiseS
  split
  · rename_i h
    obtain ⟨h1, h2⟩ := h
    obtain ⟨g1, g2⟩ := isGl_ok o h1
    split
    · rename_i n m f e2
      obtain ⟨k, hr, A⟩ := o.g.exc x n m f e2
      exact pds_raise o.calm (g.E G X e o) A hr g1 (fun W _ => passF) (dbg1 g2) (star_cons h2)
    · exact pds_no
  · exact pds_no
/-! ### statements -/
noncomputable def stepS (c : Cmp) (b : GX → List Stmt → SD) (G : GX) : Stmt → SD
  | .Expr (.Constant (.str _) _ _) _ => sNext
  | .Expr e _ => if isComp e = true then sNo else sExpr (c.E G e)
  | .Return (some e) _ => sRet (c.E G e)
  | .Return none _ => sRetN
  | .If t p q _ => kSif (c.T G t) (b G p) (b G q)
  | .Pass _ => sNext
  | .Break _ => sBrk
  | .Continue _ => sCnt
  | .For tg iter body [] _ => if markSet iter = true then sNo else kFor (c.I G tg iter) (c.GT G tg) (b G body)
  | .Assign [tg] e _ => asgS c G tg e
  | .While t body [] _ => kWhile (c.T G t) (b G body)
  | .AugAssign (.Name x _) .Add e _ => (match slotOf G x with
    | some i => sAug i (c.E G e)
    | none => sNo)
  | .Raise (some (.Call (.Name x _) [e] [] _)) none _ => raiseS c G x e
  | _ => sNo
def stPos : Stmt → Nat × Nat
  | .Expr _ p => (p.line, p.col)
  | .Return _ p => (p.line, p.col)
  | .If _ _ _ p => (p.line, p.col)
  | .Assign _ _ p => (p.line, p.col)
  | .For _ _ _ _ p => (p.line, p.col)
  | _ => (0, 0)
/-- before the statement: a list is changed no more -/
noncomputable def frzS (G : GX) (st : Stmt) (t : SD) : SD := (G.fz.filter fun p => p.1 = stPos st).foldr (fun p t => sFz p.2 t) t
theorem frzS_ok {G : GX} {X : Cx} {st : Stmt} {t : SD} (h : PDS X st t) : PDS X st (frzS G st t) := by
  unfold frzS
  generalize (G.fz.filter fun p => p.1 = stPos st) = l
  induction l with
  | nil => exact h
  | cons p l ih => exact pds_fz ih
noncomputable def stepB (c : Cmp) (b : GX → List Stmt → SD) (G : GX) : List Stmt → SD
  | [] => sNext
  | [s] => frzS G s (stepS c b G s)
  | s :: r => sSeq (frzS G s (stepS c b G s)) (stepB c b G r)
theorem stepS_ok {c : Cmp} {b : GX → List Stmt → SD} {G : GX} {X : Cx} (g : Good c) (hb : ∀ sts, PDB X sts (b G sts)) (o : XOk G X) (st : Stmt) : PDS X st (stepS c b G st) := by
  unfold stepS
  split
  · exact pds_doc
  · split
    · exact pds_no
    · rename_i h; exact pds_expr (g.E G X _ o) (swaps_no (by simpa using h))
  · exact pds_ret (g.E G X _ o)
  · exact pds_retN
  · rw [kSif_eq]; exact pds_if (g.T G X _ o) (hb _) (hb _)
  · exact pds_pass
  · exact pds_break
  · exact pds_continue
  · split
    · exact pds_no
    · rename_i tg iter body pos h; rw [kFor_eq]; exact pds_for o.pass o.calm (g.I o _ _) (g.GT o (Z := tgZs G tg) tg fun i hi => hi) (hb _) (fold_plain (by simpa using h))
  · exact asgS_ok g o _ _ _
  · exact pds_while o.pass (g.T G X _ o) (hb _)
  · split
    · rename_i i e
      obtain ⟨h1, h2, h3⟩ := slot_ok o e
      exact pds_aug (by rw [o.N]; exact o.nd) h1 h2 h3 (g.E G X _ o)
    · exact pds_no
  · exact raiseS_ok g o
  · exact pds_no
theorem stepB_ok {c : Cmp} {b : GX → List Stmt → SD} {G : GX} {X : Cx} (g : Good c) (hb : ∀ sts, PDB X sts (b G sts)) (o : XOk G X) : ∀ sts, PDB X sts (stepB c b G sts)
  | [] => pdb_nil
  | [s] => pdb_one (frzS_ok (stepS_ok g hb o s))
  | s :: t :: r => pdb_cons (frzS_ok (stepS_ok g hb o s)) (stepB_ok g hb o (t :: r))
noncomputable def compB (m : Nat) : Nat → GX → List Stmt → SD
  | 0 => fun _ _ _ _ _ => False
  | n + 1 => stepB (comp m) (compB m n)
theorem pdb_no {X : Cx} {sts : List Stmt} : PDB X sts (fun _ _ _ => False) := ⟨fun B W tk => ⟨fun pins s σ H D I ⟨_, _, _, _, _, _, _, z⟩ => z.elim⟩⟩
theorem compB_ok (m : Nat) {G : GX} {X : Cx} (o : XOk G X) : ∀ n sts, PDB X sts (compB m n G sts)
  | 0, _ => pdb_no
  | n + 1, sts => stepB_ok (comp_good m) (compB_ok m o n) o sts
end DL

namespace DL
open PySem PySem.Spec PyProof.Rows L2

/-! ### what a body's names stand for, at a level -/
structure GL (gl : List (Str × Gv)) (tb : GT) (P : Program) (w : World) (K : PySem.W.Frag) (mg : Str → Option Value) (base : Heap) (k : Nat) : Prop where
  fn : ∀ x sp sg, gl.lookup x = some (.fn sp sg) → FnAt P w K mg base k x sg sp
  bi : ∀ x, gl.lookup x = some .bi → mg x = none
  tfn : ∀ x sp, gl.lookup x = some (.tfn sp) → FnT P w K mg base k x sp
  exc : ∀ x n m f, gl.lookup x = some (.exc n m f) → 0 < k ∧ ExAt P w K mg base (k - 1) x n m f
  val : ∀ x d, gl.lookup x = some (.val d) → ∃ u v, mg x = some u ∧ RelV v u ∧ ∀ B S H, Rp ⟨K, B⟩ S H d v
  dic : ∀ x kvs, gl.lookup x = some (.dic kvs) → DicAt w K mg x kvs
  tb : GTOk (fun j => j ≤ k) P w K mg base tb
section
variable {gl : List (Str × Gv)} {tb : GT} {P : Program} {w : World} {K : PySem.W.Frag} {mg : Str → Option Value} {base : Heap} {j k : Nat}
theorem GL.mono (h : GL gl tb P w K mg base j) (hj : j ≤ k) : GL gl tb P w K mg base k := ⟨fun x sp sg e => (h.fn x sp sg e).mono hj, h.bi, fun x sp e => (h.tfn x sp e).mono hj, fun x n m f e => ⟨Nat.lt_of_lt_of_le (h.exc x n m f e).1 hj, (h.exc x n m f e).2.mono (Nat.sub_le_sub_right hj 1)⟩, h.val, h.dic, h.tb.mono fun i hi => Nat.le_trans hi hj⟩
theorem GL.nilT (h : GTOk (fun j => j ≤ k) P w K mg base tb) : GL [] tb P w K mg base k := ⟨fun _ _ _ e => (by cases e), fun _ e => (by cases e), fun _ _ e => (by cases e), fun _ _ _ _ e => (by cases e), fun _ _ e => (by cases e), fun _ _ e => (by cases e), h⟩
theorem GL.nil : GL [] GT.nil P w K mg base k := GL.nilT GTOk.nil
theorem GL.cons {x : Str} {g : Gv} (hg : match g with
    | .fn sp sg => FnAt P w K mg base k x sg sp
    | .bi => mg x = none
    | .val d => ∃ u v, mg x = some u ∧ RelV v u ∧ ∀ B S H, Rp ⟨K, B⟩ S H d v
    | .tfn sp => FnT P w K mg base k x sp
    | .exc n m f => 0 < k ∧ ExAt P w K mg base (k - 1) x n m f
    | .dic kvs => DicAt w K mg x kvs
    | .no => True) (h : GL gl tb P w K mg base k) : GL ((x, g) :: gl) tb P w K mg base k := by
  refine ⟨fun y sp sg e => ?_, fun y e => ?_, fun y sp e => ?_, fun y n m f e => ?_, fun y d e => ?_, fun y d e => ?_, h.tb⟩
  all_goals
    rw [List.lookup_cons] at e
    split at e
    · rename_i hb
      have hb := eq_of_beq hb
      subst hb
      cases e
      exact hg
  · exact h.fn y sp sg e
  · exact h.bi y e
  · exact h.tfn y sp e
  · exact h.exc y n m f e
  · exact h.val y d e
  · exact h.dic y d e
theorem GL.fnc {x : Str} {sp : SpD} {sg : Sig} (F : FnAt P w K mg base j x sg sp) (hj : j ≤ k) (h : GL gl tb P w K mg base k) : GL ((x, .fn sp sg) :: gl) tb P w K mg base k := GL.cons (g := .fn sp sg) (F.mono hj) h
theorem GL.bic {x : Str} (hm : mg x = none) (h : GL gl tb P w K mg base k) : GL ((x, .bi) :: gl) tb P w K mg base k := GL.cons (g := .bi) hm h
theorem GL.tfnc {x : Str} {sp : SpD} (F : FnT P w K mg base j x sp) (hj : j ≤ k) (h : GL gl tb P w K mg base k) : GL ((x, .tfn sp) :: gl) tb P w K mg base k := GL.cons (g := .tfn sp) (F.mono hj) h
theorem GL.excc {x : Str} {n f : Nat} {m : List Nat} (F : ExAt P w K mg base j x n m f) (hj : j + 1 ≤ k) (h : GL gl tb P w K mg base k) : GL ((x, .exc n m f) :: gl) tb P w K mg base k := GL.cons (g := .exc n m f) ⟨by omega, F.mono (by omega)⟩ h
theorem GL.strc {x : Str} {z : Str} (hm : ∃ t, mg x = some (.str z t)) (h : GL gl tb P w K mg base k) : GL ((x, .val (.str z.cps.toList)) :: gl) tb P w K mg base k := by
  obtain ⟨t, hm⟩ := hm
  exact GL.cons (g := .val _) ⟨_, .str z, hm, ⟨t, rfl⟩, fun _ _ _ => rfl⟩ h
theorem GL.intc {x : Str} {i : Int} (hm : ∃ t, mg x = some (.int i t)) (h : GL gl tb P w K mg base k) : GL ((x, .val (.int i)) :: gl) tb P w K mg base k := by
  obtain ⟨t, hm⟩ := hm
  exact GL.cons (g := .val _) ⟨_, .int i, hm, ⟨t, rfl⟩, fun _ _ _ => rfl⟩ h
theorem GL.dicc {x : Str} {kvs : List (List Nat × D)} (F : DicAt w K mg x kvs) (h : GL gl tb P w K mg base k) : GL ((x, .dic kvs) :: gl) tb P w K mg base k := GL.cons (g := .dic kvs) F h
theorem GL.ok {A : Around} (h : GL gl tb P w K mg base k) (r : Room k A) : GOk gl tb P w K mg base A := ⟨fun x sp sg e => ⟨k, r, h.fn x sp sg e⟩, h.bi, fun x sp e => ⟨k, r, h.tfn x sp e⟩, fun x n m f e => ⟨k - 1, by have := (h.exc x n m f e).1; rw [show k - 1 + 1 = k by omega]; exact r, (h.exc x n m f e).2⟩, h.val, h.dic, by have := r.un; omega, h.tb.mono fun j hj => r.mono hj⟩

/-! ### a def of the text keeps its promise -/
def codeT (sp : SpD) (t : SD) (n : Nat) : Prop := ∀ ds S q e, sp ds S q e → t (endD q e) (startD n ds) S
/-- .. where the store may forget at the end -/
def codeG (sp : SpD) (t : SD) (n : Nat) : Prop := ∀ ds S q e, sp ds S q e → t (endD (gcq q) (gce e)) (startD n ds) S
theorem codeG.t {sp : SpD} {t : SD} {n : Nat} (h : codeG sp t n) : codeT (gcS sp) t n := fun ds S q' e' z => by
  obtain ⟨q, e, rfl, rfl, z⟩ := z
  exact h ds S q e z
/-- N: the slots, the parameters ahead; t: the reading of the body -/
theorem body_at {qual : Str} {st : Stmt} {f : Addr} {N : List Str} {sp : SpD} {G : GX} {m n : Nat} {t : SD}
    (hN : G.N = N) (nd : N.Nodup) (kd : (defScope st).kind = .function) (hs : G.sc = (defScope st).names) (hth : G.th = none) (g : GL G.gl G.tb P w K mg base k) (ht : compB m n G (defBody st) = t) (law : codeT sp t N.length)
    (cdv : Value) (A : Around) (outer : List Env) (s : Shared) (H : Hp) (vs : List V) (Q : VK) (E : XK) (hr : Room k (A.deeper (envOfC qual (defScope st) s.heap.objs.size f cdv))) (h : upSp K sp vs H Q E) :
    ∃ t, PSs (cxOf (L2N.CX P w) P w K mg base N qual (defScope st) f cdv A outer s H E) (defBody st) t ∧ t { nx := fun _ H' => Q .non H', rt := Q } (L2.start N vs) H := by
  subst ht
  obtain ⟨B, ds, S, q, e, R, r, h, g', ex⟩ := h
  have o : XOk G (cxOf (L2N.CX P w) P w K mg base N qual (defScope st) f cdv A outer s H E) := ⟨hN.symm, hN ▸ nd, hs.symm, rfl, fun _ _ _ _ => rfl, passes_of rfl, kd, g.ok hr, fun x z => by rw [hth] at z; cases z⟩
  refine ⟨_, (compB_ok m o n (defBody st)).up B (fun cls d _ H' => E cls d H') (L2N.takes_of rfl rfl rfl rfl), ?_⟩
  refine ⟨startD N.length ds, S, endD q e, R, sl_start r, fun C dd fs us ρ' σ' S' H' e' R' _ hd hn ru he => ex C dd fs us S' H' e' R' hd hn ru he, ⟨fun ρ σ S' H' e' R' L' q' => g' .non .non S' H' e' R' rfl q', g', fun _ _ _ _ _ _ _ z => z.elim, fun _ _ _ _ _ _ _ z => z.elim⟩, law ds S q e h⟩
theorem fnok_at {x qual : Str} {st : Stmt} {f : Addr} {fd : FuncData} {N ps : List Str} {dvs : List V} {kws : List (Str × V)} {sp : SpD} {G : GX} {m n : Nat} {t : SD}
    (F : FunD K x qual (defArgs st) (defBody st) (defScope st) dvs kws f fd) (Sc : FnScope N ps (defScope st)) (hN : G.N = N) (hs : G.sc = (defScope st).names) (hth : G.th = none) (g : GL G.gl G.tb P w K mg base k)
    (len : ∀ ds S q e, sp ds S q e → ds.length = ps.length) (ht : compB m n G (defBody st) = t) (law : codeT sp t N.length) : FnOk P w K mg base (L2N.CX P w) (k + 1) f fd ps (upSp K sp) :=
  F.ok Sc (fun vs H Q E h => by
    obtain ⟨B, ds, S, q, e, _, r, h, _⟩ := h
    rw [← r.length]; exact len ds S q e h) fun cdv A outer s H vs Q E hr h => body_at hN Sc.nd Sc.kind hs hth g ht law cdv A outer s H vs Q E hr h
theorem fn_at {y x qual : Str} {st : Stmt} {f : Addr} {fd : FuncData} {N ps : List Str} {dvs : List V} {kws : List (Str × V)} {sg : Sig} {sp : SpD} {G : GX} {m n : Nat} {t : SD} {dv : List V} {du : List Value}
    (F : FunD K x qual (defArgs st) (defBody st) (defScope st) dvs kws f fd) (hm : mg y = some (.ref f)) (Sc : FnScope N ps (defScope st)) (hN : G.N = N) (hs : G.sc = (defScope st).names) (hth : G.th = none) (g : GL G.gl G.tb P w K mg base k)
    (hents : ∀ e ∈ sg.ents, EntOk K fd ps du e) (hd : Vals dv du) (hdv : ∀ B S H, Rps ⟨K, B⟩ S H sg.dfs dv) (len : ∀ ds S q e, sp ds S q e → ds.length = ps.length) (ht : compB m n G (defBody st) = t) (law : codeT sp t N.length) : FnAt P w K mg base (k + 1) y sg sp :=
  ⟨f, fd, ps, dv, du, hm, F.kp, hents, hd, hdv, fnok_at F Sc hN hs hth g len ht law⟩
/-- .. as a method or another def of a class -/
theorem fg_at {x qual : Str} {st : Stmt} {f : Addr} {fd : FuncData} {N ps : List Str} {dvs : List V} {kws : List (Str × V)} {sg : Sig} {sp : SpD} {G : GX} {m n : Nat} {t : SD} {dv : List V} {du : List Value}
    (F : FunD K x qual (defArgs st) (defBody st) (defScope st) dvs kws f fd) (Sc : FnScope N ps (defScope st)) (hN : G.N = N) (hs : G.sc = (defScope st).names) (hth : G.th = none) (g : GL G.gl G.tb P w K mg base k)
    (hents : ∀ e ∈ sg.ents, EntOk K fd ps du e) (hd : Vals dv du) (hdv : ∀ B S H, Rps ⟨K, B⟩ S H sg.dfs dv) (len : ∀ ds S q e, sp ds S q e → ds.length = ps.length) (ht : compB m n G (defBody st) = t) (law : codeT sp t N.length) : FG P w K mg base (k + 1) f (upPh K (ciP (.fix sg sp))) :=
  fg_fix (fnok_at F Sc hN hs hth g len ht law) hents hd hdv
/-- def f(a, .., *v): n parameters ahead of the star -/
def spStar (n : Nat) (sp : SpD) : SpD := fun ds S q e => hAnd (n ≤ ds.length) (hAnd (ds.length - n ≤ sizeLine) (sp (ds.take n ++ [.tup (ds.drop n)]) S q e))
theorem fg_star {x qual : Str} {st : Stmt} {f : Addr} {fd : FuncData} {N ps : List Str} {pv : Str} {kws : List (Str × V)} {sp : SpD} {G : GX} {m n : Nat} {t : SD}
    (F : FunD K x qual (defArgs st) (defBody st) (defScope st) [] kws f fd) (Sc : FnScope N (ps ++ [pv]) (defScope st)) (hN : G.N = N) (hs : G.sc = (defScope st).names) (hth : G.th = none) (g : GL G.gl G.tb P w K mg base k)
    (hb : ∀ (kV doc pm : Value) (an : Option Addr) (cdv ct : Value) (us rest : List Value), us.length = ps.length → bindArgs (PySem.W.fnOf x qual (defArgs st) (defBody st) (defScope st) .none kV doc pm an cdv ct) ⟨us ++ rest, []⟩ = (newTuple rest >>= fun t => pure (ps.zip us ++ [(pv, t)])))
    (ht : compB m n G (defBody st) = t) (law : codeT sp t N.length) : FG P w K mg base (k + 1) f (upPh K (ciP (.raw (spStar ps.length sp)))) := by
  refine fg_raw ?_
  obtain ⟨oc, od, dV, kV, doc, pm, an, cdv, ct, osl, rfl, lk, hcd, hD, hK⟩ := F.ex
  rcases hD with ⟨_, rfl⟩ | ⟨z, _⟩
  · refine (StX.fn_star (sp := upSp K sp) lk hcd Sc cxUpN (fun us rest hl => hb kV doc pm an cdv ct us rest hl) fun A outer s H vs Q E hr h => body_at hN Sc.nd Sc.kind hs hth g ht law cdv A outer s H vs Q E hr h).imp fun vs H Q E h => ?_
    obtain ⟨B, ds, S, q, e, R, r, h, g', ex⟩ := h
    unfold spStar at h
    simp only [hAnd_eq] at h
    obtain ⟨h1, h2, h3⟩ := h
    have hl := r.length
    refine ⟨vs.take ps.length, vs.drop ps.length, (List.take_append_drop _ _).symm, by rw [List.length_take]; omega, by rw [List.length_drop]; omega, fun p hp => ?_⟩
    have E1 := Ext.new R hp (.tup (vs.drop ps.length))
    have R1 := Rel.new R hp (.tup (vs.drop ps.length))
    refine ⟨B, _, S, q, e, R1, ((r.take _).ext E1).append (.single ?_), h3, fun d v S' H' e' => g' d v S' H' (E1.trans e'), fun C dd fs us S' H' e' => ex C dd fs us S' H' (E1.trans e')⟩
    exact ⟨p, _, rfl, .inl ⟨upd_same, R.free hp⟩, (r.drop _).ext E1⟩
  · exact absurd rfl z
theorem upPh_gc {φ φ' : PhD} (h : ∀ ds ks zs S q e, φ ds ks zs S q e → φ' ds ks zs S (gcq q) (gce e)) {vs zs : List V} {ks : List Str} {H : Hp} {Q : VK} {E : XK} (u : upPh K φ vs ks zs H Q E) : upPh K φ' vs ks zs H Q E := by
  obtain ⟨B, ds, es, S, q, e, R, r1, r2, u, g, ex⟩ := u
  refine ⟨B, ds, es, S, _, _, R, r1, r2, h _ _ _ _ _ _ u, gcq_up g, fun C dd fs us S' H' e' R' hd hn ru he => ?_⟩
  obtain ⟨S2, le, he⟩ := he
  exact ex C dd fs us S2 H' (e'.trans (Ext.le le)) (R'.le le) hd (le.none hn) (ru.ext (Ext.le le)) he
theorem FG.gcF {f : Addr} {sg : Sig} {sp : SpD} (hz : sg.frz = false) (F : FG P w K mg base k f (upPh K (ciP (.fix sg (gcS sp))))) : FG P w K mg base k f (upPh K (ciP (.fix sg sp))) := fun A outer s H us ws vs zs ks Q E hr e0 r rz h =>
  F A outer s H us ws vs zs ks Q E hr e0 r rz (upPh_gc (fun ds ks zs S q e h => by
    obtain ⟨ent, he, l1, l2, l3, h⟩ := h
    refine ⟨ent, he, l1, l2, l3, q, e, ?_, rfl, ?_⟩
    · rw [hz]; rfl
    · rw [hz] at h; exact h) h)
theorem FG.gcR {f : Addr} {n : Nat} {sp : SpD} (F : FG P w K mg base k f (upPh K (ciP (.raw (spStar n (gcS sp)))))) : FG P w K mg base k f (upPh K (ciP (.raw (spStar n sp)))) := fun A outer s H us ws vs zs ks Q E hr e0 r rz h =>
  F A outer s H us ws vs zs ks Q E hr e0 r rz (upPh_gc (fun ds ks zs S q e h => by
    obtain ⟨l1, l2, h⟩ := h
    refine ⟨l1, l2, ?_⟩
    unfold spStar at h ⊢
    simp only [hAnd_eq] at h ⊢
    exact ⟨h.1, h.2.1, q, e, rfl, rfl, h.2.2⟩) h)
/-- the forms of a call of a def without defaults -/
theorem ent_at {x qual : Str} {params : Arguments} {body : List Stmt} {scope : Scope} {kws : List (Str × V)} {f : Addr} {fd : FuncData} {ps : List Str} {e : Ent} (F : FunD K x qual params body scope [] kws f fd)
    (h : ∀ (kV doc pm : Value) (an : Option Addr) (cdv ct : Value) (us ws : List Value), us.length = e.n → ws.length = e.ks.length → bindArgs (PySem.W.fnOf x qual params body scope .none kV doc pm an cdv ct) ⟨us, e.ks.zip ws⟩ = pure (ps.zip (pick .none e.src us ws []))) : EntOk K fd ps [] e := by
  obtain ⟨oc, od, dV, kV, doc, pm, an, cdv, ct, osl, rfl, lk, hcd, hD, hK⟩ := F.ex
  rcases hD with ⟨_, rfl⟩ | ⟨z, _⟩
  · exact ⟨fun s us ws _ l1 l2 => .of_eq (h kV doc pm an cdv ct us ws l1 l2)⟩
  · exact absurd rfl z
theorem ents_nil {fd : FuncData} {ps : List Str} {du : List Value} : ∀ e ∈ ([] : List Ent), EntOk K fd ps du e := fun _ h => by cases h
theorem ents_cons {fd : FuncData} {ps : List Str} {du : List Value} {e : Ent} {es : List Ent} (h : EntOk K fd ps du e) (t : ∀ e ∈ es, EntOk K fd ps du e) : ∀ e' ∈ e :: es, EntOk K fd ps du e' := fun e' h' => by
  rcases List.mem_cons.mp h' with rfl | h'
  · exact h
  · exact t e' h'
end
/-- all parameters by place -/
def entP (n : Nat) : Ent := ⟨n, [], (List.range n).map .p⟩

end DL

namespace DL
open PySem PySem.Spec PyProof.Rows L2 TL

/-! ### the steps -/
section
variable {S : Sto} {q : QD} {w : XD} {i j : Int} {a b : List Nat} {x y d : D} {ds es : List D} {p : Addr}
theorem hAnd_i {P Q : Prop} (h : P) (k : Q) : hAnd P Q := by rw [hAnd_eq]; exact ⟨h, k⟩
theorem hIf_t {A B : Prop} (h : A) : hIf true A B := by rw [hIf_eq]; exact h
theorem hIf_f {A B : Prop} (h : B) : hIf false A B := by rw [hIf_eq]; exact h
theorem hIf_c {c : Bool} {A B : Prop} (h : c = true → A) (k : c = false → B) : hIf c A B := by
  rw [hIf_eq]
  cases c with
  | true => exact h rfl
  | false => exact k rfl
theorem hIf_p {c : Bool} {A B : Prop} (e : c = true) (h : A) : hIf c A B := by subst e; exact hIf_t h
theorem hIf_n {c : Bool} {A B : Prop} (e : c = false) (h : B) : hIf c A B := by subst e; exact hIf_f h
theorem hTru_non {k : Bool → Prop} (h : k false) : hTru .non S k := by rw [hTru_eq]; exact h
theorem hTru_bl {c : Bool} {k : Bool → Prop} (h : k c) : hTru (.bl c) S k := by rw [hTru_eq]; exact h
theorem hTru_int {k : Bool → Prop} (h : k (i != 0)) : hTru (.int i) S k := by rw [hTru_eq]; exact h
theorem hTru_str {k : Bool → Prop} (l : a.length ≤ sizeLine) (h : k (!a.isEmpty)) : hTru (.str a) S k := by rw [hTru_eq]; exact ⟨l, h⟩
theorem hTru_lst {k : Bool → Prop} (h : k (!ds.isEmpty)) : hTru (.lst ds) S k := by rw [hTru_eq]; exact h
theorem hTru_rol {k : Bool → Prop} (h : k (!ds.isEmpty)) : hTru (.rol ds) S k := by rw [hTru_eq]; exact h
theorem hTru_tup {k : Bool → Prop} (h : k (!ds.isEmpty)) : hTru (.tup ds) S k := by rw [hTru_eq]; exact h
theorem hTru_ref {k : Bool → Prop} (e : S p = some (.lst ds)) (h : k (!ds.isEmpty)) : hTru (.ref p) S k := by
  rw [hTru_eq]; show truO (S p) k; rw [e]; exact h
theorem hAdd_int (h : q (.int (i + j)) S) : hAdd (.int i) (.int j) S q := by rw [hAdd_eq]; exact h
theorem hAdd_str (l : a.length + b.length ≤ sizeLine) (h : q (.str (a ++ b)) S) : hAdd (.str a) (.str b) S q := by rw [hAdd_eq]; exact ⟨l, h⟩
theorem hAdd_lst (l : ds.length + es.length ≤ sizeLine) (h : q (.lst (ds ++ es)) S) : hAdd (.lst ds) (.lst es) S q := by rw [hAdd_eq]; exact ⟨l, h⟩
theorem hAdd_tup (l : ds.length + es.length ≤ sizeLine) (h : q (.tup (ds ++ es)) S) : hAdd (.tup ds) (.tup es) S q := by rw [hAdd_eq]; exact ⟨l, h⟩
theorem hSub_int (h : q (.int (i - j)) S) : hSub (.int i) (.int j) S q := by rw [hSub_eq]; exact h
theorem hMul_int (c : CMul i j ∨ CMulW i j) (h : q (.int (i * j)) S) : hMul (.int i) (.int j) S q := by rw [hMul_eq]; exact ⟨c, h⟩
theorem hMul_r (c : -(2 ^ 64) < j ∧ j < 2 ^ 64) (h : q (.int (i * j)) S) : hMul (.int i) (.int j) S q := hMul_int (.inl (.inr c)) h
theorem hMul_l (c : -(2 ^ 64) < i ∧ i < 2 ^ 64) (h : q (.int (i * j)) S) : hMul (.int i) (.int j) S q := hMul_int (.inl (.inl c)) h
theorem hMul_lst (l1 : -(2 ^ 63) ≤ j) (l2 : j < 2 ^ 63) (l : ds.length * j.toNat ≤ sizeLine) (h : q (.lst (List.replicate j.toNat ds).flatten) S) : hMul (.lst ds) (.int j) S q := by rw [hMul_eq]; exact ⟨l1, l2, l, h⟩
theorem hMul_str (l1 : -(2 ^ 63) ≤ j) (l2 : j < 2 ^ 63) (l : a.length * j.toNat ≤ sizeLine) (h : q (.str (List.replicate j.toNat a).flatten) S) : hMul (.str a) (.int j) S q := by rw [hMul_eq]; exact ⟨l1, l2, l, h⟩
theorem hMul_tup (n : ds ≠ []) (l1 : 2 ≤ j) (l2 : j ≤ 1000) (l : ds.length ≤ 1000) (h : q (.tup (List.replicate j.toNat ds).flatten) S) : hMul (.tup ds) (.int j) S q := by rw [hMul_eq]; exact ⟨.inr ⟨n, l1, l2, l⟩, h⟩
theorem hMul_tup1 (h : q (.tup ds) S) : hMul (.tup ds) (.int 1) S q := by rw [hMul_eq]; exact ⟨.inl rfl, by simpa using h⟩
theorem hMod_int (c : 0 < j) (h : q (.int (i % j)) S) : hMod (.int i) (.int j) S q := by rw [hMod_eq]; exact ⟨c, h⟩
theorem hDiv_int (c : 0 < j) (c2 : j < 2 ^ 64) (h : q (.int (i / j)) S) : hDiv (.int i) (.int j) S q := by
  rw [hDiv_eq]
  refine ⟨⟨c, ?_⟩, h⟩
  have h1 : j.natAbs ≠ 0 := by omega
  have h2 : j.natAbs < 2 ^ 64 := by omega
  have := (Nat.log2_lt h1).mpr h2
  omega
theorem hPow_int (c : CPow i j) (h : q (.int (i ^ j.toNat)) S) : hPow (.int i) (.int j) S q := by rw [hPow_eq]; exact ⟨c, h⟩
theorem hLt_int (h : q (.bl (decide (i < j))) S) : hLt (.int i) (.int j) S q := by rw [hLt_eq]; exact h
theorem hLe_int (h : q (.bl (decide (i ≤ j))) S) : hLe (.int i) (.int j) S q := by rw [hLe_eq]; exact h
theorem hGt_int (h : q (.bl (decide (j < i))) S) : hGt (.int i) (.int j) S q := by rw [hGt_eq]; exact h
theorem hGe_int (h : q (.bl (decide (j ≤ i))) S) : hGe (.int i) (.int j) S q := by rw [hGe_eq]; exact h
theorem hLt_str (h : q (.bl (decide (a < b))) S) : hLt (.str a) (.str b) S q := by rw [hLt_eq]; exact h
theorem hGt_str (h : q (.bl (decide (b < a))) S) : hGt (.str a) (.str b) S q := by rw [hGt_eq]; exact h
theorem hLe_str (h : q (.bl (!decide (b < a))) S) : hLe (.str a) (.str b) S q := by rw [hLe_eq]; exact h
theorem hGe_str (h : q (.bl (!decide (a < b))) S) : hGe (.str a) (.str b) S q := by rw [hGe_eq]; exact h
theorem hEq_g (h1 : eqOk x = true) (h2 : eqOk y = true) (h : q (.bl (deq x y)) S) : hEq x y S q := by rw [hEq_eq]; exact .inl (by rw [unR_ok h1, unR_ok h2]; exact ⟨h1, h2, h⟩)
theorem hNe_g (h1 : eqOk x = true) (h2 : eqOk y = true) (h : q (.bl (!deq x y)) S) : hNe x y S q := by rw [hNe_eq]; exact .inl (by rw [unR_ok h1, unR_ok h2]; exact ⟨h1, h2, h⟩)
theorem deq_int : deq (.int i) (.int j) = decide (i = j) := by
  show PyData.eqv (.int i) (.int j) = _
  by_cases h : i = j
  · subst h; simp [PyData.eqv]
  · simp [PyData.eqv, h]
theorem deq_str : deq (.str a) (.str b) = decide (a = b) := by
  show PyData.eqv (.str (mkS a)) (.str (mkS b)) = _
  by_cases h : a = b
  · subst h; simp [PyData.eqv]
  · have : mkS a ≠ mkS b := fun z => h (mkS_inj z)
    simp [PyData.eqv, h, this]
theorem hEq_int (h : q (.bl (decide (i = j))) S) : hEq (.int i) (.int j) S q := hEq_g rfl rfl (deq_int ▸ h)
theorem hNe_int (h : q (.bl (!decide (i = j))) S) : hNe (.int i) (.int j) S q := hNe_g rfl rfl (deq_int ▸ h)
theorem hEq_str (h : q (.bl (decide (a = b))) S) : hEq (.str a) (.str b) S q := by rw [hEq_eq]; exact .inr ⟨a, b, rfl, rfl, h⟩
theorem hNe_str (h : q (.bl (!decide (a = b))) S) : hNe (.str a) (.str b) S q := by rw [hNe_eq]; exact .inr ⟨a, b, rfl, rfl, h⟩
theorem hEq_bl {c e : Bool} (h : q (.bl (c == e)) S) : hEq (.bl c) (.bl e) S q := hEq_g rfl rfl (by cases c <;> cases e <;> exact h)
theorem hNe_bl {c e : Bool} (h : q (.bl (c != e)) S) : hNe (.bl c) (.bl e) S q := hNe_g rfl rfl (by cases c <;> cases e <;> exact h)
theorem hIs_non (h : q (.bl (isNon x)) S) : hIs x .non S q := by rw [hIs_eq]; exact ⟨rfl, h⟩
theorem hIsN_non (h : q (.bl (!isNon x)) S) : hIsN x .non S q := by rw [hIsN_eq]; exact ⟨rfl, h⟩
theorem hIn_c {c : Nat} (h : q (.bl (decide (c ∈ a))) S) : hIn (.str [c]) (.str a) S q := by rw [hIn_eq]; exact h
theorem hNotIn_c {c : Nat} (h : q (.bl (!decide (c ∈ a))) S) : hNotIn (.str [c]) (.str a) S q := by rw [hNotIn_eq]; exact h
theorem hIn_tup (h1 : flatD x = true) (h2 : ds.all flatD = true) (h : q (.bl (inD x ds)) S) : hIn x (.tup ds) S q := by rw [hIn_eq]; exact ⟨h1, h2, h⟩
theorem hNotIn_tup (h1 : flatD x = true) (h2 : ds.all flatD = true) (h : q (.bl (!inD x ds)) S) : hNotIn x (.tup ds) S q := by rw [hNotIn_eq]; exact ⟨h1, h2, h⟩
theorem hIn_lst (h1 : flatD x = true) (h2 : ds.all flatD = true) (h : q (.bl (inD x ds)) S) : hIn x (.lst ds) S q := by rw [hIn_eq]; exact ⟨h1, h2, h⟩
theorem hNotIn_lst (h1 : flatD x = true) (h2 : ds.all flatD = true) (h : q (.bl (!inD x ds)) S) : hNotIn x (.lst ds) S q := by rw [hNotIn_eq]; exact ⟨h1, h2, h⟩
theorem hIx_str {c : Nat} (l : a.length ≤ sizeLine) (e : atI a i = some c) (h : q (.str [c]) S) : hIx (.str a) (.int i) S q := by rw [hIx_eq]; exact ⟨l, c, e, h⟩
theorem hIx_lst (e : atI ds i = some d) (h : q d S) : hIx (.lst ds) (.int i) S q := by rw [hIx_eq]; exact ⟨d, e, h⟩
theorem hIx_rol (e : atI ds i = some d) (h : q d S) : hIx (.rol ds) (.int i) S q := by rw [hIx_eq]; exact ⟨d, e, h⟩
theorem hIx_tup (e : atI ds i = some d) (h : q d S) : hIx (.tup ds) (.int i) S q := by rw [hIx_eq]; exact ⟨d, e, h⟩
theorem hIx_ref (e1 : S p = some (.lst ds)) (e : atI ds i = some d) (h : q d S) : hIx (.ref p) (.int i) S q := by
  rw [hIx_eq]; show ixO (S p) i S q; rw [e1]; exact ⟨d, e, h⟩
theorem hNeg_int (h : q (.int (-i)) S) : hNeg (.int i) S q := by rw [hNeg_eq]; exact h
theorem hLen_str (l : a.length ≤ sizeLine) (h : q (.int a.length) S) : hLen (.str a) S q := by rw [hLen_eq]; exact ⟨l, h⟩
theorem hLen_lst (h : q (.int ds.length) S) : hLen (.lst ds) S q := by rw [hLen_eq]; exact h
theorem hLen_tup (h : q (.int ds.length) S) : hLen (.tup ds) S q := by rw [hLen_eq]; exact h
theorem hLen_rol (h : q (.int ds.length) S) : hLen (.rol ds) S q := by rw [hLen_eq]; exact h
theorem hLen_ref (e : S p = some (.lst ds)) (h : q (.int ds.length) S) : hLen (.ref p) S q := by
  rw [hLen_eq]; show lenO (S p) (fun n => q (.int n) S); rw [e]; exact h
theorem hAbs_int (h : q (.int (if i < 0 then -i else i)) S) : hAbs (.int i) S q := by rw [hAbs_eq]; exact h
theorem hInt_int (h : q (.int i) S) : hInt (.int i) S q := by rw [hInt_eq]; exact h
theorem hInt_bl {c : Bool} (h : q (.int (if c then 1 else 0)) S) : hInt (.bl c) S q := by rw [hInt_eq]; exact h
theorem hAll_i {bs : List Bool} (e : bools ds = some bs) (h : q (.bl (bs.all id)) S) : hAll (.lst ds) S q := by
  rw [hAll_eq]; show boolsK ds _; unfold boolsK; rw [e]; exact h
theorem hAny_i {bs : List Bool} (e : bools ds = some bs) (h : q (.bl (bs.any id)) S) : hAny (.lst ds) S q := by
  rw [hAny_eq]; show boolsK ds _; unfold boolsK; rw [e]; exact h
theorem hIsi_ty {n c : String} (e : tyS S x = some c) (m : n ∈ isiTy) (h : q (.bl (isiB c n)) S) : hIsi x (.ty n) S q := by
  rw [hIsi_eq]; show isiK x _ S _; unfold isiK; rw [e]; exact ⟨m, h⟩
theorem hIsi_tup {n m c : String} (e : tyS S x = some c) (m1 : n ∈ isiTy) (m2 : m ∈ isiTy) (h : q (.bl (isiB c n || isiB c m)) S) : hIsi x (.tup [.ty n, .ty m]) S q := by
  rw [hIsi_eq]; show isiK x _ S _; unfold isiK; rw [e]; exact ⟨m1, m2, h⟩
theorem hList_lst (h : q (.lst ds) S) : hList (.lst ds) S q := by rw [hList_eq]; exact h
theorem hList_tup (h : q (.lst ds) S) : hList (.tup ds) S q := by rw [hList_eq]; exact h
theorem hList_rol (h : q (.lst ds) S) : hList (.rol ds) S q := by rw [hList_eq]; exact h
theorem hSl_str {lo hi : Option Int} (l : a.length ≤ sizeLine) (h : q (.str (cutD a lo hi)) S) : hSl (.str a) lo hi S q := by rw [hSl_eq]; exact ⟨l, h⟩
theorem hSl_lst {lo hi : Option Int} (h : q (.lst (cutD ds lo hi)) S) : hSl (.lst ds) lo hi S q := by rw [hSl_eq]; exact h
theorem hSl_rol {lo hi : Option Int} (h : q (.lst (cutD ds lo hi)) S) : hSl (.rol ds) lo hi S q := by rw [hSl_eq]; exact h
theorem hSl_tup {lo hi : Option Int} (h : q (.tup (cutD ds lo hi)) S) : hSl (.tup ds) lo hi S q := by rw [hSl_eq]; exact h
theorem hApp_i (e : S p = some (.lst ds)) (l : ds.length < sizeLine) (h : q .non (S.set p (.lst (ds ++ [d])))) : hApp (.ref p) [d] S q := by
  rw [hApp_eq]; unfold rApp; dsimp only; rw [e]; exact ⟨l, h⟩
theorem isTy_lst (e : S p = some (.lst ds)) : isTy "list" (.ref p) S := by show isTyO _ (S p); rw [e]; rfl
theorem hJoin_l {ys : List (List Nat)} (e : strsD ds = some ys) (l : (ys.map (·.length)).sum + ys.length * a.length ≤ 16777216) (h : q (.str (joinL a ys)) S) : hJoin (.str a) [.lst ds] S q := by
  rw [hJoin_eq]; show strsK ds _; unfold strsK; rw [e]; exact ⟨l, h⟩
theorem hJoin_t {ys : List (List Nat)} (e : strsD ds = some ys) (l : (ys.map (·.length)).sum + ys.length * a.length ≤ 16777216) (h : q (.str (joinL a ys)) S) : hJoin (.str a) [.tup ds] S q := by
  rw [hJoin_eq]; show strsK ds _; unfold strsK; rw [e]; exact ⟨l, h⟩
theorem hSet_i {n : Int} {k : Nat} {r : Sto → Prop} (e : S p = some (.lst ds)) (e2 : ixN ds.length n = some k) (h : r (S.set p (.lst (ds.set k d)))) : hSet (.ref p) (.int n) d S r := by
  rw [hSet_eq]; show setO (S p) p n d S r; rw [e]; exact ⟨k, e2, h⟩
theorem hFrz_keep (h : q d S) : hFrz q d S := by rw [hFrz_eq]; exact .inl h
theorem hFrz_del (e : S p = some (.lst ds)) (h : q (.lst ds) (S.del p)) : hFrz q (.ref p) S := by rw [hFrz_eq]; exact .inr ⟨p, ds, rfl, e, h⟩
theorem hFrz_new (e : S p = none) (h : q (.lst ds) S) : hFrz q (.ref p) (S.set p (.lst ds)) := by
  refine hFrz_del (if_pos rfl) ?_
  have : (S.set p (.lst ds)).del p = S := by
    funext b
    by_cases hb : b = p
    · subst hb; rw [Sto.del_same, e]
    · rw [Sto.del_ne hb, Sto.set_ne hb]
  rw [this]; exact h
end
/-! loops -/
theorem forInvK {kp : KP} {g : GD} {tb : SD} {E : EnD} (Inv : List D → St' → Sto → Prop) (hk : ∀ ds ρ S, Inv ds ρ S → kpOk kp S)
    (hs : ∀ d r ρ S, (∀ ρ' S', Inv r ρ' S' → hFor kp g tb E r ρ' S') → Inv (d :: r) ρ S → g d E.w ρ S fun ρ1 S1 => tb { E with nx := hFor kp g tb E r, ct := hFor kp g tb E r, bk := E.nx } ρ1 S1)
    (he : ∀ ρ S, Inv [] ρ S → E.nx ρ S) : ∀ ds ρ S, Inv ds ρ S → hFor kp g tb E ds ρ S
  | [], ρ, S, h => by rw [hFor_eq]; exact ⟨hk _ _ _ h, he ρ S h⟩
  | d :: r, ρ, S, h => by
    have e : hFor kp g tb E r = forGo kp g tb E r := by funext ρ S; rw [hFor_eq]
    have := hs d r ρ S (forInvK Inv hk hs he r) h
    rw [e] at this
    rw [hFor_eq]; exact ⟨hk _ _ _ h, this⟩
theorem forInv {g : GD} {tb : SD} {E : EnD} (Inv : List D → St' → Sto → Prop)
    (hs : ∀ d r ρ S, (∀ ρ' S', Inv r ρ' S' → hFor none g tb E r ρ' S') → Inv (d :: r) ρ S → g d E.w ρ S fun ρ1 S1 => tb { E with nx := hFor none g tb E r, ct := hFor none g tb E r, bk := E.nx } ρ1 S1)
    (he : ∀ ρ S, Inv [] ρ S → E.nx ρ S) : ∀ ds ρ S, Inv ds ρ S → hFor none g tb E ds ρ S := forInvK Inv (fun _ _ _ _ => trivial) hs he
theorem lcInvK {kp : KP} {g : GD} {tt : TD} {te : ED} {w : XD} {ρ : St'} {q : QD} (Inv : List D → List D → Sto → Prop) (hk : ∀ ds acc S, Inv ds acc S → kpOk kp S)
    (hs : ∀ d r acc S, (∀ acc' S', Inv r acc' S' → hLc kp g tt te w ρ q r acc' S') → Inv (d :: r) acc S → g d w ρ S fun ρ1 S1 => tt w ρ1 S1 fun b S2 => hIf b (te w ρ1 S2 fun y S3 => hAnd (acc.length < sizeLine) (hLc kp g tt te w ρ q r (acc ++ [y]) S3)) (hLc kp g tt te w ρ q r acc S2))
    (he : ∀ acc S, Inv [] acc S → q (.lst acc) S) : ∀ ds acc S, Inv ds acc S → hLc kp g tt te w ρ q ds acc S
  | [], acc, S, h => by rw [hLc_eq]; exact ⟨hk _ _ _ h, he acc S h⟩
  | d :: r, acc, S, h => by
    have e : ∀ acc, hLc kp g tt te w ρ q r acc = lcGo kp g tt te w ρ q r acc := fun acc => by funext S; rw [hLc_eq]
    have := hs d r acc S (lcInvK Inv hk hs he r) h
    simp only [e] at this
    simp only [hAnd_eq, hIf_eq] at this
    rw [hLc_eq]; exact ⟨hk _ _ _ h, this⟩
theorem lcInv {g : GD} {tt : TD} {te : ED} {w : XD} {ρ : St'} {q : QD} (Inv : List D → List D → Sto → Prop)
    (hs : ∀ d r acc S, (∀ acc' S', Inv r acc' S' → hLc none g tt te w ρ q r acc' S') → Inv (d :: r) acc S → g d w ρ S fun ρ1 S1 => tt w ρ1 S1 fun b S2 => hIf b (te w ρ1 S2 fun y S3 => hAnd (acc.length < sizeLine) (hLc none g tt te w ρ q r (acc ++ [y]) S3)) (hLc none g tt te w ρ q r acc S2))
    (he : ∀ acc S, Inv [] acc S → q (.lst acc) S) : ∀ ds acc S, Inv ds acc S → hLc none g tt te w ρ q ds acc S := lcInvK Inv (fun _ _ _ _ => trivial) hs he
end DL

namespace DL
open PySem PySem.Spec PyProof.Rows L2

/-! ### the store -/
theorem Sto.set_set {S : Sto} {a : Addr} {o o' : O} : (S.set a o).set a o' = S.set a o' := by
  funext b; unfold Sto.set; split <;> rfl
theorem Sto.del_set {S : Sto} {a : Addr} {o : O} (h : S a = none) : (S.set a o).del a = S := by
  funext b
  by_cases e : b = a
  · subst e; rw [Sto.del_same, h]
  · rw [Sto.del_ne e, Sto.set_ne e]
theorem Sto.set_comm {S : Sto} {a b : Addr} {o o' : O} (h : a ≠ b) : (S.set a o).set b o' = (S.set b o').set a o := by
  funext c; unfold Sto.set
  by_cases h1 : c = b
  · have h2 : ¬ c = a := fun z => h (z.symm.trans h1)
    rw [if_pos h1, if_neg h2, if_pos h1]
  · by_cases h2 : c = a
    · rw [if_neg h1, if_pos h2, if_pos h2]
    · rw [if_neg h1, if_neg h2, if_neg h2, if_neg h1]

theorem Sto.ne_of {S : Sto} {a b : Addr} {o : O} (h1 : S a = some o) (h2 : S b = none) : a ≠ b := fun z => by rw [← z, h1] at h2; cases h2
theorem set_self {S : Sto} {p : Addr} {o : O} (h : S p = some o) : S.set p o = S := by
  funext b
  by_cases e : b = p
  · subst e; rw [Sto.set_same, h]
  · rw [Sto.set_ne e]
theorem set_mid {S : Sto} {p r : Addr} {o o2 x : O} (h : p ≠ r) : ((S.set p o).set r x).set p o2 = (S.set p o2).set r x := by
  rw [Sto.set_comm h, Sto.set_set]
  exact Sto.set_comm fun z => h z.symm

/-! ### reading a slot -/
theorem eVar0 {d : D} {ρ : St'} {w : XD} {S : Sto} {q : QD} : eVar 0 w (some d :: ρ) S q = q d S := rfl
theorem eVarS {i : Nat} {x : Option D} {ρ : St'} {w : XD} {S : Sto} {q : QD} : eVar (i + 1) w (x :: ρ) S q = eVar i w ρ S q := rfl
theorem dName_eq {i : Nat} {d : D} {w : XD} {ρ : St'} {S : Sto} {q : St' → Sto → Prop} : dName i d w ρ S q = q (ρ.set i (some d)) S := rfl

theorem atI_nat {α : Type} {l : List α} {r : Int} (h0 : 0 ≤ r) (h1 : r < l.length) : atI l r = l[r.toNat]? := by
  unfold atI ixN
  rw [if_pos h0, if_pos h1]; rfl
theorem atI_mem {α : Type} {l : List α} {r : Int} (h0 : 0 ≤ r) (h1 : r < l.length) : ∃ d, atI l r = some d ∧ d ∈ l := by
  have hr : r.toNat < l.length := by omega
  exact ⟨l[r.toNat], (atI_nat h0 h1).trans (List.getElem?_eq_getElem hr), List.getElem_mem hr⟩

/-! ### the law's prelude: the bag of draws -/
def IntsD (ds : List D) : Prop := ∀ d ∈ ds, ∃ i, d = .int i
def BagO (o : O) : Prop := ∃ cells i b m t, o = .lst [.lst cells, .int i, .int b, .int m, .int t] ∧ IntsD cells ∧ 0 ≤ i ∧ 0 ≤ b ∧ 0 ≤ m ∧ m < 2 ^ 40
theorem bag_mk {cells : List D} {i b m t : Int} (hc : IntsD cells) (hi : 0 ≤ i) (hb : 0 ≤ b) (hm : 0 ≤ m) (hm2 : m < 2 ^ 40) : BagO (.lst [.lst cells, .int i, .int b, .int m, .int t]) := ⟨cells, i, b, m, t, rfl, hc, hi, hb, hm, hm2⟩
/-- the items of a sequence of data -/
def seqD : D → Option (List D)
  | .lst ds => some ds
  | .tup ds => some ds
  | .str cs => some (cs.map fun c => .str [c])
  | _ => none
def sp_open : SpD := fun ds S q e => ∃ cells, ds = [.rol cells] ∧ IntsD cells ∧ ∀ p o, S p = none → BagO o → q (.ref p) (S.set p o)
def sp_draw : SpD := fun ds S q e => ∃ p o many, ds = [.ref p, .int many] ∧ S p = some o ∧ BagO o ∧ 0 < many ∧ many < 2 ^ 40 ∧ ∀ r o', 0 ≤ r → r < many → BagO o' → q (.int r) (S.set p o')
def sp_of : SpD := fun ds S q e => ∃ p o x l, ds = [.ref p, x] ∧ S p = some o ∧ BagO o ∧ seqD x = some l ∧ l ≠ [] ∧ l.length ≤ 1000000 ∧ ∀ d o', d ∈ l → BagO o' → q d (S.set p o')
/-- plain data: None, True, ints, texts, lists and tuples of such, at most n deep -/
def plainD : Nat → D → Bool
  | 0, _ => false
  | _ + 1, .non => true
  | _ + 1, .bl _ => true
  | _ + 1, .int _ => true
  | _ + 1, .str _ => true
  | n + 1, .lst ds => ds.all (plainD n) && decide (ds.length ≤ 1000000)
  | n + 1, .tup ds => ds.all (plainD n) && decide (ds.length ≤ 1000000)
  | _ + 1, _ => false
/-- x looks like z: lists of the store are lists -/
def SeeL (R : D → D → Prop) : List D → List D → Prop
  | [], [] => True
  | x :: xs, z :: zs => R x z ∧ SeeL R xs zs
  | _, _ => False
def See (S : Sto) : Nat → D → D → Prop
  | 0, _, _ => False
  | n + 1, x, z => match z with
    | .lst zs => zs.length ≤ 1000000 ∧ ∃ xs, (x = .lst xs ∨ ∃ p, x = .ref p ∧ S p = some (.lst xs)) ∧ SeeL (See S n) xs zs
    | .tup zs => zs.length ≤ 1000000 ∧ ∃ xs, x = .tup xs ∧ SeeL (See S n) xs zs
    | .non => x = .non
    | .bl b => x = .bl b
    | .int i => x = .int i
    | .str cs => x = .str cs
    | _ => False
theorem SeeL.len {R : D → D → Prop} : ∀ {xs zs : List D}, SeeL R xs zs → xs.length = zs.length
  | [], [], _ => rfl
  | _ :: _, _ :: _, h => by rw [List.length_cons, List.length_cons, SeeL.len h.2]
  | [], _ :: _, h => h.elim
  | _ :: _, [], h => h.elim
theorem SeeL.self {R : D → D → Prop} : ∀ {zs : List D}, (∀ z ∈ zs, R z z) → SeeL R zs zs
  | [], _ => trivial
  | z :: zs, h => ⟨h z (List.mem_cons_self ..), SeeL.self fun x hx => h x (List.mem_cons_of_mem _ hx)⟩
theorem see_self {S : Sto} : ∀ {n : Nat} {z : D}, plainD n z = true → See S n z z
  | 0, _, h => by cases h
  | n + 1, .non, _ => rfl
  | n + 1, .bl _, _ => rfl
  | n + 1, .int _, _ => rfl
  | n + 1, .str _, _ => rfl
  | n + 1, .lst zs, h => by
    obtain ⟨h1, h2⟩ := Bool.and_eq_true_iff.mp (show (zs.all (plainD n) && decide (zs.length ≤ 1000000)) = true from h)
    exact ⟨of_decide_eq_true h2, zs, .inl rfl, SeeL.self fun z hz => see_self (List.all_eq_true.mp h1 z hz)⟩
  | n + 1, .tup zs, h => by
    obtain ⟨h1, h2⟩ := Bool.and_eq_true_iff.mp (show (zs.all (plainD n) && decide (zs.length ≤ 1000000)) = true from h)
    exact ⟨of_decide_eq_true h2, zs, rfl, SeeL.self fun z hz => see_self (List.all_eq_true.mp h1 z hz)⟩
  | n + 1, .ref _, h => by cases h
  | n + 1, .ty _, h => by cases h
  | n + 1, .rol _, h => by cases h
theorem see_ref {S : Sto} {n : Nat} {p : Addr} {zs : List D} (e : S p = some (.lst zs)) (h : plainD (n + 1) (.lst zs) = true) : See S (n + 1) (.ref p) (.lst zs) := by
  obtain ⟨h1, xs, h2, h3⟩ := (show zs.length ≤ 1000000 ∧ ∃ xs, (D.lst zs = .lst xs ∨ ∃ p, D.lst zs = .ref p ∧ S p = some (.lst xs)) ∧ SeeL (See S n) xs zs from see_self h)
  rcases h2 with h2 | ⟨p, h2, _⟩
  · cases h2
    exact ⟨h1, zs, .inr ⟨p, rfl, e⟩, h3⟩
  · cases h2
def sp_same (n : Nat) : SpD := fun ds S q e => ∃ x y z, ds = [x, y] ∧ See S n x z ∧ See S n y z ∧ q (.bl true) S
theorem same_i {S : Sto} {q : QD} {e : ExD} {n : Nat} {x : D} (h : plainD n x = true) (k : q (.bl true) S) : sp_same n [x, x] S q e := ⟨x, x, x, rfl, see_self h, see_self h, k⟩
def sp_letters : SpD := fun ds S q e => ∃ p o ls many, ds = [.ref p, .str ls, .int many] ∧ S p = some o ∧ BagO o ∧ 0 ≤ many ∧ many.toNat ≤ ls.length ∧ ls.length ≤ 1000000 ∧ ∀ cs o', cs.length = many.toNat → cs.Sublist ls → BagO o' → q (.str cs) (S.set p o')

/-! ### slices -/
theorem cut_to {α : Type} {l : List α} {n : Nat} (h : n ≤ l.length) : cutD l none (some (n : Int)) = l.take n := by
  have e : HT.sIx l.length l.length (some (n : Int)) = n := by
    rw [HT.sIx_nat]; omega
  have e0 : HT.sIx l.length 0 none = 0 := rfl
  unfold cutD
  rw [e, e0]; simp
theorem cut_from {α : Type} {l : List α} {n : Nat} (h : n ≤ l.length) : cutD l (some (n : Int)) none = l.drop n := by
  have e : HT.sIx l.length 0 (some (n : Int)) = n := by
    rw [HT.sIx_nat]; omega
  have e0 : HT.sIx l.length l.length none = l.length := rfl
  unfold cutD
  rw [e, e0, ← List.length_drop, List.take_length]
/-- distinct things that all stand in a list are no more than it is long -/
theorem nodup_le {α : Type} [DecidableEq α] : ∀ {l m : List α}, l.Nodup → (∀ x ∈ l, x ∈ m) → l.length ≤ m.length
  | [], _, _, _ => Nat.zero_le _
  | a :: l, m, h, k => by
    obtain ⟨h1, h2⟩ := List.nodup_cons.mp h
    have ha := k a (List.mem_cons_self ..)
    have := nodup_le (m := m.erase a) h2 fun x hx => (List.mem_erase_of_ne (fun z => by subst z; exact h1 hx)).mpr (k x (List.mem_cons_of_mem _ hx))
    rw [List.length_erase_of_mem ha] at this
    have : 0 < m.length := List.length_pos_of_mem ha
    simp only [List.length_cons]; omega
end DL

namespace DL
open PySem PySem.Spec PyProof.Rows L2 TL
/-- one step of a walk: P follows from Q -/
class Stp (P : Prop) (Q : outParam Prop) : Prop where
  go : Q → P
theorem stp {P Q : Prop} [s : Stp P Q] (h : Q) : P := s.go h
/-- what stands at p in the store -/
abbrev hAt_0 (S : Sto) (p : Addr) (k : O → Prop) : Prop := ∃ o, S p = some o ∧ k o
@[irreducible] noncomputable def hAt (S : Sto) (p : Addr) (k : O → Prop) : Prop := stuck (@hAt_0) S p k
theorem hAt_eq (S : Sto) (p : Addr) (k : O → Prop) : hAt S p k = ∃ o, S p = some o ∧ k o := by unfold hAt; rw [stuck_eq]
theorem hAt_i {S : Sto} {p : Addr} {k : O → Prop} {o : O} (e : S p = some o) (h : k o) : hAt S p k := by rw [hAt_eq]; exact ⟨o, e, h⟩
/-- the list at p -/
def asL (k : List D → Prop) : O → Prop
  | .lst ds => k ds
  | _ => False
/-- the item at i -/
abbrev hGet_0 (ds : List D) (i : Int) (k : D → Prop) : Prop := ∃ d, atI ds i = some d ∧ k d
@[irreducible] noncomputable def hGet (ds : List D) (i : Int) (k : D → Prop) : Prop := stuck (@hGet_0) ds i k
theorem hGet_eq (ds : List D) (i : Int) (k : D → Prop) : hGet ds i k = ∃ d, atI ds i = some d ∧ k d := by unfold hGet; rw [stuck_eq]
theorem hGet_i {ds : List D} {i : Int} {k : D → Prop} {d : D} (e : atI ds i = some d) (h : k d) : hGet ds i k := by rw [hGet_eq]; exact ⟨d, e, h⟩
abbrev hGetC_0 (ds : List Nat) (i : Int) (k : Nat → Prop) : Prop := ∃ d, atI ds i = some d ∧ k d
@[irreducible] noncomputable def hGetC (ds : List Nat) (i : Int) (k : Nat → Prop) : Prop := stuck (@hGetC_0) ds i k
theorem hGetC_eq (ds : List Nat) (i : Int) (k : Nat → Prop) : hGetC ds i k = ∃ d, atI ds i = some d ∧ k d := by unfold hGetC; rw [stuck_eq]
theorem hGetC_i {ds : List Nat} {i : Int} {k : Nat → Prop} {d : Nat} (e : atI ds i = some d) (h : k d) : hGetC ds i k := by rw [hGetC_eq]; exact ⟨d, e, h⟩
/-- the place of an index -/
abbrev hPut_0 (ds : List D) (i : Int) (k : Nat → Prop) : Prop := ∃ j, ixN ds.length i = some j ∧ k j
@[irreducible] noncomputable def hPut (ds : List D) (i : Int) (k : Nat → Prop) : Prop := stuck (@hPut_0) ds i k
theorem hPut_eq (ds : List D) (i : Int) (k : Nat → Prop) : hPut ds i k = ∃ j, ixN ds.length i = some j ∧ k j := by unfold hPut; rw [stuck_eq]
theorem hPut_i {ds : List D} {i : Int} {k : Nat → Prop} {j : Nat} (e : ixN ds.length i = some j) (h : k j) : hPut ds i k := by rw [hPut_eq]; exact ⟨j, e, h⟩
theorem ixLit2 {n : Nat} {r : Int} (h0 : 0 ≤ r) (h1 : r < n) : ixN n r = some r.toNat := by unfold ixN; rw [if_pos h0, if_pos h1]
theorem ixLit {α : Type} {l : List α} {r : Int} (h0 : 0 ≤ r) (h1 : r < l.length) : atI l r = l[r.toNat]? := atI_nat h0 h1
section
variable {S : Sto} {q : QD} {k : Bool → Prop} {i j : Int} {a b : List Nat} {x y d : D} {ds es : List D} {p : Addr} {r : Sto → Prop}
theorem un_and {P Q : Prop} (h : hAnd P Q) : P ∧ Q := by rw [hAnd_eq] at h; exact h

instance s_tru_non : Stp (hTru .non S k) (k false) := ⟨hTru_non⟩
instance s_tru_bl {c : Bool} : Stp (hTru (.bl c) S k) (k c) := ⟨hTru_bl⟩
instance s_tru_int : Stp (hTru (.int i) S k) (k (i != 0)) := ⟨hTru_int⟩
instance s_tru_str : Stp (hTru (.str a) S k) (hAnd (a.length ≤ sizeLine) (k (!a.isEmpty))) := ⟨fun h => hTru_str (un_and h).1 (un_and h).2⟩
instance s_tru_lst : Stp (hTru (.lst ds) S k) (k (!ds.isEmpty)) := ⟨hTru_lst⟩
instance s_tru_rol : Stp (hTru (.rol ds) S k) (k (!ds.isEmpty)) := ⟨hTru_rol⟩
instance s_tru_tup : Stp (hTru (.tup ds) S k) (k (!ds.isEmpty)) := ⟨hTru_tup⟩
instance s_tru_ref : Stp (hTru (.ref p) S k) (hAt S p (asL fun ds => k (!ds.isEmpty))) := ⟨fun h => by
  rw [hAt_eq] at h
  obtain ⟨o, e, h⟩ := h
  cases o with
  | lst ds => exact hTru_ref e h
  | _ => exact (show False from h).elim⟩
instance s_add_int : Stp (hAdd (.int i) (.int j) S q) (q (.int (i + j)) S) := ⟨hAdd_int⟩
instance s_add_str : Stp (hAdd (.str a) (.str b) S q) (hAnd (a.length + b.length ≤ sizeLine) (q (.str (a ++ b)) S)) := ⟨fun h => hAdd_str (un_and h).1 (un_and h).2⟩
instance s_add_lst : Stp (hAdd (.lst ds) (.lst es) S q) (hAnd (ds.length + es.length ≤ sizeLine) (q (.lst (ds ++ es)) S)) := ⟨fun h => hAdd_lst (un_and h).1 (un_and h).2⟩
instance s_add_tup : Stp (hAdd (.tup ds) (.tup es) S q) (hAnd (ds.length + es.length ≤ sizeLine) (q (.tup (ds ++ es)) S)) := ⟨fun h => hAdd_tup (un_and h).1 (un_and h).2⟩
instance s_sub_int : Stp (hSub (.int i) (.int j) S q) (q (.int (i - j)) S) := ⟨hSub_int⟩
instance s_mod_int : Stp (hMod (.int i) (.int j) S q) (hAnd (0 < j) (q (.int (i % j)) S)) := ⟨fun h => hMod_int (un_and h).1 (un_and h).2⟩
instance s_div_int : Stp (hDiv (.int i) (.int j) S q) (hAnd (0 < j ∧ j < 2 ^ 64) (q (.int (i / j)) S)) := ⟨fun h => hDiv_int (un_and h).1.1 (un_and h).1.2 (un_and h).2⟩
instance s_mul_int : Stp (hMul (.int i) (.int j) S q) (hAnd (CMul i j ∨ CMulW i j) (q (.int (i * j)) S)) := ⟨fun h => hMul_int (un_and h).1 (un_and h).2⟩
instance s_mul_lst : Stp (hMul (.lst ds) (.int j) S q) (hAnd (-(2 ^ 63) ≤ j ∧ j < 2 ^ 63 ∧ ds.length * j.toNat ≤ sizeLine) (q (.lst (List.replicate j.toNat ds).flatten) S)) := ⟨fun h => hMul_lst (un_and h).1.1 (un_and h).1.2.1 (un_and h).1.2.2 (un_and h).2⟩
instance s_mul_str : Stp (hMul (.str a) (.int j) S q) (hAnd (-(2 ^ 63) ≤ j ∧ j < 2 ^ 63 ∧ a.length * j.toNat ≤ sizeLine) (q (.str (List.replicate j.toNat a).flatten) S)) := ⟨fun h => hMul_str (un_and h).1.1 (un_and h).1.2.1 (un_and h).1.2.2 (un_and h).2⟩
instance s_mul_tup : Stp (hMul (.tup (x :: ds)) (.int j) S q) (hAnd (1 ≤ j ∧ j ≤ 1000 ∧ (x :: ds).length ≤ 1000) (q (.tup (List.replicate j.toNat (x :: ds)).flatten) S)) := ⟨fun h => by
  obtain ⟨⟨h1, h2, h3⟩, h⟩ := un_and h
  by_cases c : j = 1
  · subst c
    refine hMul_tup1 ?_
    simpa using h
  · exact hMul_tup (List.cons_ne_nil _ _) (by omega) h2 h3 h⟩
instance s_pow_int : Stp (hPow (.int i) (.int j) S q) (hAnd (CPow i j) (q (.int (i ^ j.toNat)) S)) := ⟨fun h => hPow_int (un_and h).1 (un_and h).2⟩
instance s_neg_int : Stp (hNeg (.int i) S q) (q (.int (-i)) S) := ⟨hNeg_int⟩
instance s_Lt_int : Stp (hLt (.int i) (.int j) S q) (q (.bl (decide (i < j))) S) := ⟨hLt_int⟩
instance s_Le_int : Stp (hLe (.int i) (.int j) S q) (q (.bl (decide (i ≤ j))) S) := ⟨hLe_int⟩
instance s_Gt_int : Stp (hGt (.int i) (.int j) S q) (q (.bl (decide (j < i))) S) := ⟨hGt_int⟩
instance s_Ge_int : Stp (hGe (.int i) (.int j) S q) (q (.bl (decide (j ≤ i))) S) := ⟨hGe_int⟩
instance s_Eq_int : Stp (hEq (.int i) (.int j) S q) (q (.bl (decide (i = j))) S) := ⟨hEq_int⟩
instance s_Ne_int : Stp (hNe (.int i) (.int j) S q) (q (.bl (!decide (i = j))) S) := ⟨hNe_int⟩
instance s_Lt_str : Stp (hLt (.str a) (.str b) S q) (q (.bl (decide (a < b))) S) := ⟨hLt_str⟩
instance s_Gt_str : Stp (hGt (.str a) (.str b) S q) (q (.bl (decide (b < a))) S) := ⟨hGt_str⟩
instance s_Le_str : Stp (hLe (.str a) (.str b) S q) (q (.bl (!decide (b < a))) S) := ⟨hLe_str⟩
instance s_Ge_str : Stp (hGe (.str a) (.str b) S q) (q (.bl (!decide (a < b))) S) := ⟨hGe_str⟩
instance s_Eq_str : Stp (hEq (.str a) (.str b) S q) (q (.bl (decide (a = b))) S) := ⟨hEq_str⟩
instance s_Ne_str : Stp (hNe (.str a) (.str b) S q) (q (.bl (!decide (a = b))) S) := ⟨hNe_str⟩
instance s_Eq_bl {c e : Bool} : Stp (hEq (.bl c) (.bl e) S q) (q (.bl (c == e)) S) := ⟨hEq_bl⟩
instance s_Ne_bl {c e : Bool} : Stp (hNe (.bl c) (.bl e) S q) (q (.bl (c != e)) S) := ⟨hNe_bl⟩
instance s_Is : Stp (hIs x .non S q) (q (.bl (isNon x)) S) := ⟨hIs_non⟩
instance s_IsN : Stp (hIsN x .non S q) (q (.bl (!isNon x)) S) := ⟨hIsN_non⟩
instance s_In_c {c : Nat} : Stp (hIn (.str [c]) (.str a) S q) (q (.bl (decide (c ∈ a))) S) := ⟨hIn_c⟩
instance s_NotIn_c {c : Nat} : Stp (hNotIn (.str [c]) (.str a) S q) (q (.bl (!decide (c ∈ a))) S) := ⟨hNotIn_c⟩
instance s_In_tup : Stp (hIn x (.tup ds) S q) (hAnd (flatD x = true ∧ ds.all flatD = true) (q (.bl (inD x ds)) S)) := ⟨fun h => hIn_tup (un_and h).1.1 (un_and h).1.2 (un_and h).2⟩
instance s_In_lst : Stp (hIn x (.lst ds) S q) (hAnd (flatD x = true ∧ ds.all flatD = true) (q (.bl (inD x ds)) S)) := ⟨fun h => hIn_lst (un_and h).1.1 (un_and h).1.2 (un_and h).2⟩
instance s_NotIn_tup : Stp (hNotIn x (.tup ds) S q) (hAnd (flatD x = true ∧ ds.all flatD = true) (q (.bl (!inD x ds)) S)) := ⟨fun h => hNotIn_tup (un_and h).1.1 (un_and h).1.2 (un_and h).2⟩
instance s_NotIn_lst : Stp (hNotIn x (.lst ds) S q) (hAnd (flatD x = true ∧ ds.all flatD = true) (q (.bl (!inD x ds)) S)) := ⟨fun h => hNotIn_lst (un_and h).1.1 (un_and h).1.2 (un_and h).2⟩
instance s_ix_str : Stp (hIx (.str a) (.int i) S q) (hAnd (a.length ≤ sizeLine) (hGetC a i fun c => q (.str [c]) S)) := ⟨fun h => by
  obtain ⟨h1, h2⟩ := un_and h
  rw [hGetC_eq] at h2
  obtain ⟨c, e, h2⟩ := h2
  exact hIx_str h1 e h2⟩
instance s_ix_lst : Stp (hIx (.lst ds) (.int i) S q) (hGet ds i fun d => q d S) := ⟨fun h => by
  rw [hGet_eq] at h
  obtain ⟨c, e, h⟩ := h
  exact hIx_lst e h⟩
instance s_ix_rol : Stp (hIx (.rol ds) (.int i) S q) (hGet ds i fun d => q d S) := ⟨fun h => by
  rw [hGet_eq] at h
  obtain ⟨c, e, h⟩ := h
  exact hIx_rol e h⟩
instance s_ix_tup : Stp (hIx (.tup ds) (.int i) S q) (hGet ds i fun d => q d S) := ⟨fun h => by
  rw [hGet_eq] at h
  obtain ⟨c, e, h⟩ := h
  exact hIx_tup e h⟩
instance s_ix_ref : Stp (hIx (.ref p) (.int i) S q) (hAt S p (asL fun ds => hGet ds i fun d => q d S)) := ⟨fun h => by
  rw [hAt_eq] at h
  obtain ⟨o, e, h⟩ := h
  cases o with
  | lst ds =>
    have h : hGet ds i fun d => q d S := h
    rw [hGet_eq] at h
    obtain ⟨c, e2, h⟩ := h
    exact hIx_ref e e2 h
  | _ => exact (show False from h).elim⟩
instance s_set_ref : Stp (hSet (.ref p) (.int i) d S r) (hAt S p (asL fun ds => hPut ds i fun n => r (S.set p (.lst (ds.set n d))))) := ⟨fun h => by
  rw [hAt_eq] at h
  obtain ⟨o, e, h⟩ := h
  cases o with
  | lst ds =>
    have h : hPut ds i fun n => r (S.set p (.lst (ds.set n d))) := h
    rw [hPut_eq] at h
    obtain ⟨c, e2, h⟩ := h
    exact hSet_i e e2 h
  | _ => exact (show False from h).elim⟩
instance s_tupOf_ref : Stp (hTupOf (.ref p) S q) (hAt S p (asL fun ds => q (.tup ds) S)) := ⟨fun h => by
  rw [hAt_eq] at h
  obtain ⟨o, e, h⟩ := h
  cases o with
  | lst ds =>
    have h : q (.tup ds) S := h
    rw [hTupOf_eq]
    show (match S p with
      | some (.lst ds) => q (.tup ds) S
      | _ => False)
    rw [e]
    exact h
  | _ => exact (show False from h).elim⟩
instance s_len_str : Stp (hLen (.str a) S q) (hAnd (a.length ≤ sizeLine) (q (.int a.length) S)) := ⟨fun h => hLen_str (un_and h).1 (un_and h).2⟩
instance s_len_lst : Stp (hLen (.lst ds) S q) (q (.int ds.length) S) := ⟨hLen_lst⟩
instance s_len_rol : Stp (hLen (.rol ds) S q) (q (.int ds.length) S) := ⟨hLen_rol⟩
instance s_len_tup : Stp (hLen (.tup ds) S q) (q (.int ds.length) S) := ⟨hLen_tup⟩
instance s_len_ref : Stp (hLen (.ref p) S q) (hAt S p (asL fun ds => q (.int ds.length) S)) := ⟨fun h => by
  rw [hAt_eq] at h
  obtain ⟨o, e, h⟩ := h
  cases o with
  | lst ds => exact hLen_ref e h
  | _ => exact (show False from h).elim⟩
instance s_abs : Stp (hAbs (.int i) S q) (q (.int (if i < 0 then -i else i)) S) := ⟨hAbs_int⟩
instance s_int_int : Stp (hInt (.int i) S q) (q (.int i) S) := ⟨hInt_int⟩
instance s_int_bl {c : Bool} : Stp (hInt (.bl c) S q) (q (.int (if c then 1 else 0)) S) := ⟨hInt_bl⟩
instance s_list_lst : Stp (hList (.lst ds) S q) (q (.lst ds) S) := ⟨hList_lst⟩
instance s_list_rol : Stp (hList (.rol ds) S q) (q (.lst ds) S) := ⟨hList_rol⟩
instance s_list_tup : Stp (hList (.tup ds) S q) (q (.lst ds) S) := ⟨hList_tup⟩
instance s_list_str : Stp (hList (.str a) S q) (hAnd (a.length ≤ sizeLine) (q (.lst (a.map fun c => .str [c])) S)) := ⟨fun h => by rw [hList_eq]; exact un_and h⟩
instance s_sl_str {lo hi : Option Int} : Stp (hSl (.str a) lo hi S q) (hAnd (a.length ≤ sizeLine) (q (.str (cutD a lo hi)) S)) := ⟨fun h => hSl_str (un_and h).1 (un_and h).2⟩
instance s_sl_lst {lo hi : Option Int} : Stp (hSl (.lst ds) lo hi S q) (q (.lst (cutD ds lo hi)) S) := ⟨hSl_lst⟩
instance s_sl_rol {lo hi : Option Int} : Stp (hSl (.rol ds) lo hi S q) (q (.lst (cutD ds lo hi)) S) := ⟨hSl_rol⟩
instance s_sl_tup {lo hi : Option Int} : Stp (hSl (.tup ds) lo hi S q) (q (.tup (cutD ds lo hi)) S) := ⟨hSl_tup⟩
instance s_app : Stp (hApp (.ref p) [d] S q) (hAt S p (asL fun ds => hAnd (ds.length < sizeLine) (q .non (S.set p (.lst (ds ++ [d])))))) := ⟨fun h => by
  rw [hAt_eq] at h
  obtain ⟨o, e, h⟩ := h
  cases o with
  | lst ds => exact hApp_i e (un_and (show hAnd _ _ from h)).1 (un_and (show hAnd _ _ from h)).2
  | _ => exact (show False from h).elim⟩
/-- a list, a dict of the store -/
def asB2 (b1 b2 : Bool) (k : Bool → Prop) : O → Prop
  | .lst _ => k b1
  | .dct _ => k b2
  | _ => False
theorem isi_ref {T : String} {b1 b2 : Bool} (m : T ∈ isiTy) (e1 : isiB "list" T = b1) (e2 : isiB "dict" T = b2) (h : hAt S p (asB2 b1 b2 fun b => q (.bl b) S)) : hIsi (.ref p) (.ty T) S q := by
  rw [hAt_eq] at h
  obtain ⟨o, e, h⟩ := h
  cases o with
  | lst ds => exact hIsi_ty (c := "list") (by show tyO (S p) = _; rw [e]; rfl) m (by rw [e1]; exact h)
  | dct ds => exact hIsi_ty (c := "dict") (by show tyO (S p) = _; rw [e]; rfl) m (by rw [e2]; exact h)
  | _ => exact (show False from h).elim
instance s_isi_ref_lt : Stp (hIsi (.ref p) (.tup [.ty "list", .ty "tuple"]) S q) (hAt S p (asB2 true false fun b => q (.bl b) S)) := ⟨fun h => by
  rw [hAt_eq] at h
  obtain ⟨o, e, h⟩ := h
  cases o with
  | lst ds => exact hIsi_tup (c := "list") (by show tyO (S p) = _; rw [e]; rfl) (by decide) (by decide) h
  | dct ds => exact hIsi_tup (c := "dict") (by show tyO (S p) = _; rw [e]; rfl) (by decide) (by decide) h
  | _ => exact (show False from h).elim⟩
instance s_isi_ref_int : Stp (hIsi (.ref p) (.ty "int") S q) (hAt S p (asB2 false false fun b => q (.bl b) S)) := ⟨isi_ref (by decide) (by decide) (by decide)⟩
instance s_isi_ref_str : Stp (hIsi (.ref p) (.ty "str") S q) (hAt S p (asB2 false false fun b => q (.bl b) S)) := ⟨isi_ref (by decide) (by decide) (by decide)⟩
instance s_isi_ref_bool : Stp (hIsi (.ref p) (.ty "bool") S q) (hAt S p (asB2 false false fun b => q (.bl b) S)) := ⟨isi_ref (by decide) (by decide) (by decide)⟩
instance s_isi_ref_list : Stp (hIsi (.ref p) (.ty "list") S q) (hAt S p (asB2 true false fun b => q (.bl b) S)) := ⟨isi_ref (by decide) (by decide) (by decide)⟩
instance s_isi_ref_tuple : Stp (hIsi (.ref p) (.ty "tuple") S q) (hAt S p (asB2 false false fun b => q (.bl b) S)) := ⟨isi_ref (by decide) (by decide) (by decide)⟩
instance s_isi_ref_dict : Stp (hIsi (.ref p) (.ty "dict") S q) (hAt S p (asB2 false true fun b => q (.bl b) S)) := ⟨isi_ref (by decide) (by decide) (by decide)⟩
instance s_isi_non_int : Stp (hIsi (.non) (.ty "int") S q) (q (.bl false) S) := ⟨fun h => hIsi_ty rfl (by decide) (by exact h)⟩
instance s_isi_non_str : Stp (hIsi (.non) (.ty "str") S q) (q (.bl false) S) := ⟨fun h => hIsi_ty rfl (by decide) (by exact h)⟩
instance s_isi_non_bool : Stp (hIsi (.non) (.ty "bool") S q) (q (.bl false) S) := ⟨fun h => hIsi_ty rfl (by decide) (by exact h)⟩
instance s_isi_non_list : Stp (hIsi (.non) (.ty "list") S q) (q (.bl false) S) := ⟨fun h => hIsi_ty rfl (by decide) (by exact h)⟩
instance s_isi_non_tuple : Stp (hIsi (.non) (.ty "tuple") S q) (q (.bl false) S) := ⟨fun h => hIsi_ty rfl (by decide) (by exact h)⟩
instance s_isi_non_lt : Stp (hIsi (.non) (.tup [.ty "list", .ty "tuple"]) S q) (q (.bl false) S) := ⟨fun h => hIsi_tup rfl (by decide) (by decide) (by exact h)⟩
instance s_isi_bl_int {c : Bool} : Stp (hIsi (.bl c) (.ty "int") S q) (q (.bl true) S) := ⟨fun h => hIsi_ty rfl (by decide) (by exact h)⟩
instance s_isi_bl_str {c : Bool} : Stp (hIsi (.bl c) (.ty "str") S q) (q (.bl false) S) := ⟨fun h => hIsi_ty rfl (by decide) (by exact h)⟩
instance s_isi_bl_bool {c : Bool} : Stp (hIsi (.bl c) (.ty "bool") S q) (q (.bl true) S) := ⟨fun h => hIsi_ty rfl (by decide) (by exact h)⟩
instance s_isi_bl_list {c : Bool} : Stp (hIsi (.bl c) (.ty "list") S q) (q (.bl false) S) := ⟨fun h => hIsi_ty rfl (by decide) (by exact h)⟩
instance s_isi_bl_tuple {c : Bool} : Stp (hIsi (.bl c) (.ty "tuple") S q) (q (.bl false) S) := ⟨fun h => hIsi_ty rfl (by decide) (by exact h)⟩
instance s_isi_bl_lt {c : Bool} : Stp (hIsi (.bl c) (.tup [.ty "list", .ty "tuple"]) S q) (q (.bl false) S) := ⟨fun h => hIsi_tup rfl (by decide) (by decide) (by exact h)⟩
instance s_isi_int_int : Stp (hIsi (.int i) (.ty "int") S q) (q (.bl true) S) := ⟨fun h => hIsi_ty rfl (by decide) (by exact h)⟩
instance s_isi_int_str : Stp (hIsi (.int i) (.ty "str") S q) (q (.bl false) S) := ⟨fun h => hIsi_ty rfl (by decide) (by exact h)⟩
instance s_isi_int_bool : Stp (hIsi (.int i) (.ty "bool") S q) (q (.bl false) S) := ⟨fun h => hIsi_ty rfl (by decide) (by exact h)⟩
instance s_isi_int_list : Stp (hIsi (.int i) (.ty "list") S q) (q (.bl false) S) := ⟨fun h => hIsi_ty rfl (by decide) (by exact h)⟩
instance s_isi_int_tuple : Stp (hIsi (.int i) (.ty "tuple") S q) (q (.bl false) S) := ⟨fun h => hIsi_ty rfl (by decide) (by exact h)⟩
instance s_isi_int_lt : Stp (hIsi (.int i) (.tup [.ty "list", .ty "tuple"]) S q) (q (.bl false) S) := ⟨fun h => hIsi_tup rfl (by decide) (by decide) (by exact h)⟩
instance s_isi_str_int : Stp (hIsi (.str a) (.ty "int") S q) (q (.bl false) S) := ⟨fun h => hIsi_ty rfl (by decide) (by exact h)⟩
instance s_isi_str_str : Stp (hIsi (.str a) (.ty "str") S q) (q (.bl true) S) := ⟨fun h => hIsi_ty rfl (by decide) (by exact h)⟩
instance s_isi_str_bool : Stp (hIsi (.str a) (.ty "bool") S q) (q (.bl false) S) := ⟨fun h => hIsi_ty rfl (by decide) (by exact h)⟩
instance s_isi_str_list : Stp (hIsi (.str a) (.ty "list") S q) (q (.bl false) S) := ⟨fun h => hIsi_ty rfl (by decide) (by exact h)⟩
instance s_isi_str_tuple : Stp (hIsi (.str a) (.ty "tuple") S q) (q (.bl false) S) := ⟨fun h => hIsi_ty rfl (by decide) (by exact h)⟩
instance s_isi_str_lt : Stp (hIsi (.str a) (.tup [.ty "list", .ty "tuple"]) S q) (q (.bl false) S) := ⟨fun h => hIsi_tup rfl (by decide) (by decide) (by exact h)⟩
instance s_isi_lst_int : Stp (hIsi (.lst ds) (.ty "int") S q) (q (.bl false) S) := ⟨fun h => hIsi_ty rfl (by decide) (by exact h)⟩
instance s_isi_lst_str : Stp (hIsi (.lst ds) (.ty "str") S q) (q (.bl false) S) := ⟨fun h => hIsi_ty rfl (by decide) (by exact h)⟩
instance s_isi_lst_bool : Stp (hIsi (.lst ds) (.ty "bool") S q) (q (.bl false) S) := ⟨fun h => hIsi_ty rfl (by decide) (by exact h)⟩
instance s_isi_lst_list : Stp (hIsi (.lst ds) (.ty "list") S q) (q (.bl true) S) := ⟨fun h => hIsi_ty rfl (by decide) (by exact h)⟩
instance s_isi_lst_tuple : Stp (hIsi (.lst ds) (.ty "tuple") S q) (q (.bl false) S) := ⟨fun h => hIsi_ty rfl (by decide) (by exact h)⟩
instance s_isi_lst_lt : Stp (hIsi (.lst ds) (.tup [.ty "list", .ty "tuple"]) S q) (q (.bl true) S) := ⟨fun h => hIsi_tup rfl (by decide) (by decide) (by exact h)⟩
instance s_isi_tup_int : Stp (hIsi (.tup ds) (.ty "int") S q) (q (.bl false) S) := ⟨fun h => hIsi_ty rfl (by decide) (by exact h)⟩
instance s_isi_tup_str : Stp (hIsi (.tup ds) (.ty "str") S q) (q (.bl false) S) := ⟨fun h => hIsi_ty rfl (by decide) (by exact h)⟩
instance s_isi_tup_bool : Stp (hIsi (.tup ds) (.ty "bool") S q) (q (.bl false) S) := ⟨fun h => hIsi_ty rfl (by decide) (by exact h)⟩
instance s_isi_tup_list : Stp (hIsi (.tup ds) (.ty "list") S q) (q (.bl false) S) := ⟨fun h => hIsi_ty rfl (by decide) (by exact h)⟩
instance s_isi_tup_tuple : Stp (hIsi (.tup ds) (.ty "tuple") S q) (q (.bl true) S) := ⟨fun h => hIsi_ty rfl (by decide) (by exact h)⟩
instance s_isi_tup_lt : Stp (hIsi (.tup ds) (.tup [.ty "list", .ty "tuple"]) S q) (q (.bl true) S) := ⟨fun h => hIsi_tup rfl (by decide) (by decide) (by exact h)⟩
instance s_lr : Stp (hLR (.int i) S q) (hAnd (-(2 ^ 62) ≤ i ∧ i ≤ 10000000) (q (.lst (intsD 0 i.toNat)) S)) := ⟨fun h => hLR_i (un_and h).1 (un_and h).2⟩
instance s_ss : Stp (hSS (.str a) S q) (hAnd (a.length ≤ 4000) (∀ us : List Nat, us.Pairwise (· < ·) → (∀ c, c ∈ us ↔ c ∈ a) → q (.lst (sigD us)) S)) := ⟨fun h => by rw [hSS_eq]; exact un_and h⟩
instance s_rev_str : Stp (hRev (.str a) S q) (hAnd (a.length ≤ sizeLine) (q (.str a.reverse) S)) := ⟨fun h => by rw [hRev_eq]; exact un_and h⟩
instance s_rev_lst : Stp (hRev (.lst ds) S q) (q (.lst ds.reverse) S) := ⟨fun h => by rw [hRev_eq]; exact h⟩
instance s_rev_ref : Stp (hRev (.ref p) S q) (hAt S p (asL fun ds => q (.lst ds.reverse) S)) := ⟨fun h => by
  rw [hAt_eq] at h
  obtain ⟨o, e, h⟩ := h
  cases o with
  | lst ds =>
    rw [hRev_eq]
    show (match S p with
      | some (.lst ds) => q (.lst ds.reverse) S
      | _ => False)
    rw [e]; exact h
  | _ => exact (show False from h).elim⟩
instance s_if_t {A B : Prop} : Stp (hIf true A B) (A) := ⟨hIf_t⟩
instance s_if_f {A B : Prop} : Stp (hIf false A B) (B) := ⟨hIf_f⟩
instance s_get_0 {x0 : D} {k : D → Prop} : Stp (hGet (x0 :: ds) 0 k) (k x0) := ⟨fun h => hGet_i (by rw [ixLit (by decide) (by simp only [List.length_cons]; omega)]; rfl) h⟩
instance s_getc_0 {x0 : Nat} {k : Nat → Prop} : Stp (hGetC (x0 :: a) 0 k) (k x0) := ⟨fun h => hGetC_i (by rw [ixLit (by decide) (by simp only [List.length_cons]; omega)]; rfl) h⟩
instance s_put_0 {x0 : D} {k : Nat → Prop} : Stp (hPut (x0 :: ds) 0 k) (k 0) := ⟨fun h => hPut_i (ixLit2 (by decide) (by simp only [List.length_cons]; omega)) h⟩
instance s_get_1 {x0 x1 : D} {k : D → Prop} : Stp (hGet (x0 :: x1 :: ds) 1 k) (k x1) := ⟨fun h => hGet_i (by rw [ixLit (by decide) (by simp only [List.length_cons]; omega)]; rfl) h⟩
instance s_getc_1 {x0 x1 : Nat} {k : Nat → Prop} : Stp (hGetC (x0 :: x1 :: a) 1 k) (k x1) := ⟨fun h => hGetC_i (by rw [ixLit (by decide) (by simp only [List.length_cons]; omega)]; rfl) h⟩
instance s_put_1 {x0 x1 : D} {k : Nat → Prop} : Stp (hPut (x0 :: x1 :: ds) 1 k) (k 1) := ⟨fun h => hPut_i (ixLit2 (by decide) (by simp only [List.length_cons]; omega)) h⟩
instance s_get_2 {x0 x1 x2 : D} {k : D → Prop} : Stp (hGet (x0 :: x1 :: x2 :: ds) 2 k) (k x2) := ⟨fun h => hGet_i (by rw [ixLit (by decide) (by simp only [List.length_cons]; omega)]; rfl) h⟩
instance s_getc_2 {x0 x1 x2 : Nat} {k : Nat → Prop} : Stp (hGetC (x0 :: x1 :: x2 :: a) 2 k) (k x2) := ⟨fun h => hGetC_i (by rw [ixLit (by decide) (by simp only [List.length_cons]; omega)]; rfl) h⟩
instance s_put_2 {x0 x1 x2 : D} {k : Nat → Prop} : Stp (hPut (x0 :: x1 :: x2 :: ds) 2 k) (k 2) := ⟨fun h => hPut_i (ixLit2 (by decide) (by simp only [List.length_cons]; omega)) h⟩
instance s_get_3 {x0 x1 x2 x3 : D} {k : D → Prop} : Stp (hGet (x0 :: x1 :: x2 :: x3 :: ds) 3 k) (k x3) := ⟨fun h => hGet_i (by rw [ixLit (by decide) (by simp only [List.length_cons]; omega)]; rfl) h⟩
instance s_getc_3 {x0 x1 x2 x3 : Nat} {k : Nat → Prop} : Stp (hGetC (x0 :: x1 :: x2 :: x3 :: a) 3 k) (k x3) := ⟨fun h => hGetC_i (by rw [ixLit (by decide) (by simp only [List.length_cons]; omega)]; rfl) h⟩
instance s_put_3 {x0 x1 x2 x3 : D} {k : Nat → Prop} : Stp (hPut (x0 :: x1 :: x2 :: x3 :: ds) 3 k) (k 3) := ⟨fun h => hPut_i (ixLit2 (by decide) (by simp only [List.length_cons]; omega)) h⟩
instance s_get_4 {x0 x1 x2 x3 x4 : D} {k : D → Prop} : Stp (hGet (x0 :: x1 :: x2 :: x3 :: x4 :: ds) 4 k) (k x4) := ⟨fun h => hGet_i (by rw [ixLit (by decide) (by simp only [List.length_cons]; omega)]; rfl) h⟩
instance s_getc_4 {x0 x1 x2 x3 x4 : Nat} {k : Nat → Prop} : Stp (hGetC (x0 :: x1 :: x2 :: x3 :: x4 :: a) 4 k) (k x4) := ⟨fun h => hGetC_i (by rw [ixLit (by decide) (by simp only [List.length_cons]; omega)]; rfl) h⟩
instance s_put_4 {x0 x1 x2 x3 x4 : D} {k : Nat → Prop} : Stp (hPut (x0 :: x1 :: x2 :: x3 :: x4 :: ds) 4 k) (k 4) := ⟨fun h => hPut_i (ixLit2 (by decide) (by simp only [List.length_cons]; omega)) h⟩
instance s_get_5 {x0 x1 x2 x3 x4 x5 : D} {k : D → Prop} : Stp (hGet (x0 :: x1 :: x2 :: x3 :: x4 :: x5 :: ds) 5 k) (k x5) := ⟨fun h => hGet_i (by rw [ixLit (by decide) (by simp only [List.length_cons]; omega)]; rfl) h⟩
instance s_getc_5 {x0 x1 x2 x3 x4 x5 : Nat} {k : Nat → Prop} : Stp (hGetC (x0 :: x1 :: x2 :: x3 :: x4 :: x5 :: a) 5 k) (k x5) := ⟨fun h => hGetC_i (by rw [ixLit (by decide) (by simp only [List.length_cons]; omega)]; rfl) h⟩
instance s_put_5 {x0 x1 x2 x3 x4 x5 : D} {k : Nat → Prop} : Stp (hPut (x0 :: x1 :: x2 :: x3 :: x4 :: x5 :: ds) 5 k) (k 5) := ⟨fun h => hPut_i (ixLit2 (by decide) (by simp only [List.length_cons]; omega)) h⟩
instance s_get_6 {x0 x1 x2 x3 x4 x5 x6 : D} {k : D → Prop} : Stp (hGet (x0 :: x1 :: x2 :: x3 :: x4 :: x5 :: x6 :: ds) 6 k) (k x6) := ⟨fun h => hGet_i (by rw [ixLit (by decide) (by simp only [List.length_cons]; omega)]; rfl) h⟩
instance s_getc_6 {x0 x1 x2 x3 x4 x5 x6 : Nat} {k : Nat → Prop} : Stp (hGetC (x0 :: x1 :: x2 :: x3 :: x4 :: x5 :: x6 :: a) 6 k) (k x6) := ⟨fun h => hGetC_i (by rw [ixLit (by decide) (by simp only [List.length_cons]; omega)]; rfl) h⟩
instance s_put_6 {x0 x1 x2 x3 x4 x5 x6 : D} {k : Nat → Prop} : Stp (hPut (x0 :: x1 :: x2 :: x3 :: x4 :: x5 :: x6 :: ds) 6 k) (k 6) := ⟨fun h => hPut_i (ixLit2 (by decide) (by simp only [List.length_cons]; omega)) h⟩
instance s_get_7 {x0 x1 x2 x3 x4 x5 x6 x7 : D} {k : D → Prop} : Stp (hGet (x0 :: x1 :: x2 :: x3 :: x4 :: x5 :: x6 :: x7 :: ds) 7 k) (k x7) := ⟨fun h => hGet_i (by rw [ixLit (by decide) (by simp only [List.length_cons]; omega)]; rfl) h⟩
instance s_getc_7 {x0 x1 x2 x3 x4 x5 x6 x7 : Nat} {k : Nat → Prop} : Stp (hGetC (x0 :: x1 :: x2 :: x3 :: x4 :: x5 :: x6 :: x7 :: a) 7 k) (k x7) := ⟨fun h => hGetC_i (by rw [ixLit (by decide) (by simp only [List.length_cons]; omega)]; rfl) h⟩
instance s_put_7 {x0 x1 x2 x3 x4 x5 x6 x7 : D} {k : Nat → Prop} : Stp (hPut (x0 :: x1 :: x2 :: x3 :: x4 :: x5 :: x6 :: x7 :: ds) 7 k) (k 7) := ⟨fun h => hPut_i (ixLit2 (by decide) (by simp only [List.length_cons]; omega)) h⟩
end
end DL

namespace DL
open PySem PySem.Spec PyProof.Rows L2

/-! ### a law's promise and its end -/
def sp_law : SpD := fun ds S q e => ∃ cells, ds = [.rol cells] ∧ IntsD cells ∧ (∀ p, S p = none) ∧ ∀ S', q (.bl true) S'
theorem same_0 {ds : List D} {S : Sto} {q : QD} {e : ExD} (h : sp_same 0 ds S q e) : False := by
  obtain ⟨x, y, z, _, h, _⟩ := h
  exact h
theorem rps_ints {K : KB} {S : Sto} {H : Hp} : ∀ ns : List Int, Rps K S H (ns.map .int) (ns.map V.int)
  | [] => rfl
  | n :: ns => ⟨_, _, rfl, rfl, rps_ints ns⟩
theorem law_up {K : PySem.W.Frag} {H : Hp} {a : Addr} {ns : List Int} (hS : SqL K H a (ns.map V.int)) : upSp K sp_law [.ref a] H (fun v _ => v = .bl true) fun _ _ _ => False := by
  refine ⟨fun _ => False, [.rol (ns.map .int)], fun _ => none, fun d _ => d = .bl true, fun _ _ _ => False, ⟨fun _ _ z => (nomatch z), fun _ z => z.elim⟩, ⟨_, _, rfl, ⟨a, _, rfl, ?_, rps_ints ns⟩, rfl⟩,
    ⟨_, rfl, fun d hd => ?_, fun _ => rfl, fun _ => rfl⟩, fun d v S' H' _ _ r h => ?_, fun _ _ _ _ _ _ _ _ _ _ _ z => z.elim⟩
  · exact hS.imp (fun h => ⟨h, rfl, fun z => z⟩) id
  · obtain ⟨n, _, rfl⟩ := List.mem_map.mp hd
    exact ⟨n, rfl⟩
  · have h : d = .bl true := h
    subst h
    exact r
/-- the law's def keeps its promise -/
theorem fn_ok {P : Program} {w : World} {K : PySem.W.Frag} {mg : Str → Option Value} {base : Heap} {k : Nat} {x qual : Str} {st : Stmt} {f : Addr} {fd : FuncData} {N ps : List Str} {dvs : List V} {kws : List (Str × V)} {sp : SpD} {G : GX} {m n : Nat} {t : SD}
    (F : FunD K x qual (defArgs st) (defBody st) (defScope st) dvs kws f fd) (Sc : FnScope N ps (defScope st)) (hN : G.N = N) (hs : G.sc = (defScope st).names) (hth : G.th = none) (g : GL G.gl G.tb P w K mg base k)
    (len : ∀ ds S q e, sp ds S q e → ds.length = ps.length) (ht : compB m n G (defBody st) = t) (law : codeT sp t N.length) : FnOk P w K mg base (L2N.CX P w) (k + 1) f fd ps (upSp K sp) := by
  subst ht
  refine F.ok Sc (fun vs H Q E h => ?_) fun cdv A outer s H vs Q E hr h => ?_
  · obtain ⟨B, ds, S, q, e, _, r, h, _⟩ := h
    rw [← r.length]; exact len ds S q e h
  · obtain ⟨B, ds, S, q, e, R, r, h, g', ex⟩ := h
    have o : XOk G (cxOf (L2N.CX P w) P w K mg base N qual (defScope st) f cdv A outer s H E) := ⟨hN.symm, hN ▸ Sc.nd, hs.symm, rfl, fun _ _ _ _ => rfl, passes_of rfl, Sc.kind, g.ok hr, fun x z => by rw [hth] at z; cases z⟩
    refine ⟨_, (compB_ok m o n (defBody st)).up B (fun cls d _ H' => E cls d H') (L2N.takes_of rfl rfl rfl rfl), ?_⟩
    refine ⟨startD N.length ds, S, endD q e, R, sl_start r, fun C dd fs us ρ' σ' S' H' e' R' _ hd hn ru he => ex C dd fs us S' H' e' R' hd hn ru he, ⟨fun ρ σ S' H' e' R' L' q' => g' .non .non S' H' e' R' rfl q', g', fun _ _ _ _ _ _ _ z => z.elim, fun _ _ _ _ _ _ _ z => z.elim⟩, law ds S q e h⟩
/-- the law of a row, kept -/
structure LawOk (P : Program) (k : Nat) (x : Str) (K : PySem.W.Frag) (w : World) (mg : Str → Option Value) (f : Addr) (fd : FuncData) : Prop where
  b : ∀ (s : Shared) (v : Value), BindsTo s fd ⟨[v], []⟩ [(x, v)]
  ok : ∀ base : Heap, K.In base → base.Ns mainGlobals mg → FnOk P w K mg base (L2N.CX P w) k f fd [x] (upSp K sp_law)
theorem law_walk {l : PySem.W.OpenLaw} {n k : Nat} {q : Program} {loose : List Str} {XP : (Str → Option Value) → Heap → Prop} {YP : World → Heap → Prop} {d : DefRec} {x : Str}
    (hn : l.most = some n) (hn2 : n ≤ sizeLine) (hdf : d.params.defaults = []) (hr : Room k callerA)
    (F : ∀ (w : World) (mg : Str → Option Value) (fa : Addr) (h : Heap), YP w h → h.Ns mainGlobals mg → mg d.name = some (.ref fa) → ∃ (K : PySem.W.Frag) (fd : FuncData), K.In h ∧ LawOk l.prog k x K w mg fa fd) :
    PySem.W.WalkO q loose XP YP l.row.toRowW d [] (fun f vs => PySem.call f vs) := by
  refine Att.attach_call hn hdf fun w s₀ s₁ mg mb fa o pm cd doc a vs ns G Y ho hd hcd hmg hobj hints hlen hg => ?_
  obtain ⟨K, fd, KX, L⟩ := F w mg fa _ Y G.T.g hmg
  refine law_call KX G.T.g G.T.b G.T.builtins G.T.nolimit hg hobj hints (Nat.le_trans hlen hn2) hr L.ok L.b (fun H hO hS => law_up hS) fun H e s' hc => ?_
  obtain ⟨a, B, H', cls, d, _, _, _, _, _, _, _, z⟩ := hc
  exact z
end DL

namespace DL
open PySem PySem.Spec PyProof.Rows L2

/-! ### rows of single signs, compared -/
theorem eqv_sig : ∀ a b : List Nat, PyData.eqvAll (toPs (sigD a)) (toPs (sigD b)) = decide (a = b)
  | [], [] => rfl
  | [], _ :: _ => rfl
  | _ :: _, [] => rfl
  | c :: a, d :: b => by
    show (PyData.eqv (.str (mkS [c])) (.str (mkS [d])) && PyData.eqvAll (toPs (sigD a)) (toPs (sigD b))) = _
    rw [eqv_sig a b]
    by_cases h : c = d
    · subst h
      have : PyData.eqv (.str (mkS [c])) (.str (mkS [c])) = true := by simp [PyData.eqv]
      rw [this]; simp
    · have : PyData.eqv (.str (mkS [c])) (.str (mkS [d])) = false := by
        have h2 : mkS [c] ≠ mkS [d] := fun z => h (List.cons.inj (mkS_inj z)).1
        simp [PyData.eqv, h2]
      rw [this]; simp [h]
theorem deq_sig {a b : List Nat} : deq (.lst (sigD a)) (.lst (sigD b)) = decide (a = b) := by
  show PyData.eqv (.list (toPs (sigD a))) (.list (toPs (sigD b))) = _
  rw [← eqv_sig]; simp [PyData.eqv]
theorem lay_sig : ∀ a : List Nat, (∀ c ∈ a, c < 1114112) → PyData.canLayAll0 (toPs (sigD a)) = true
  | [], _ => rfl
  | c :: a, h => by
    show (PyData.canLay0 (.str (mkS [c])) && PyData.canLayAll0 (toPs (sigD a))) = true
    rw [lay_sig a fun x hx => h x (List.mem_cons_of_mem _ hx), Bool.and_true]
    have := h c (List.mem_cons_self ..)
    simp [PyData.canLay0, PyData.strOk, this]
theorem dep_sig : ∀ a : List Nat, PyData.depthAll (toPs (sigD a)) = 0
  | [] => rfl
  | c :: a => by
    show max (PyData.depth (.str (mkS [c]))) (PyData.depthAll (toPs (sigD a))) = 0
    rw [dep_sig a]
    simp [PyData.depth]
theorem eqOk_sig {a : List Nat} (h : ∀ c ∈ a, c < 1114112) : eqOk (.lst (sigD a)) = true := by
  show (PyData.canLay0 (.list (toPs (sigD a))) && decide (PyData.depth (.list (toPs (sigD a))) ≤ 64)) = true
  have h1 : PyData.canLay0 (.list (toPs (sigD a))) = true := by
    rw [← lay_sig a h]; simp [PyData.canLay0]
  have h2 : PyData.depth (.list (toPs (sigD a))) = 1 := by
    simp [PyData.depth, dep_sig]
  rw [h1, h2]; rfl
/-! ### what rises -/
theorem rise_uniq : ∀ {a b : List Nat}, a.Pairwise (· < ·) → b.Pairwise (· < ·) → (∀ c, c ∈ a ↔ c ∈ b) → a = b
  | [], [], _, _, _ => rfl
  | [], d :: b, _, _, h => absurd ((h d).mpr (List.mem_cons_self ..)) (by simp)
  | c :: a, [], _, _, h => absurd ((h c).mp (List.mem_cons_self ..)) (by simp)
  | c :: a, d :: b, ha, hb, h => by
    obtain ⟨a1, a2⟩ := List.pairwise_cons.mp ha
    obtain ⟨b1, b2⟩ := List.pairwise_cons.mp hb
    have cd : c = d := by
      have x := (h c).mp (List.mem_cons_self ..)
      have y := (h d).mpr (List.mem_cons_self ..)
      rcases List.mem_cons.mp x with e | x
      · exact e
      · rcases List.mem_cons.mp y with e | y
        · exact e.symm
        · have := b1 c x
          have := a1 d y
          omega
    subst cd
    rw [rise_uniq a2 b2 fun x => ?_]
    have := h x
    rw [List.mem_cons, List.mem_cons] at this
    constructor
    · intro hx
      rcases this.mp (.inr hx) with e | e
      · exact absurd (a1 x hx) (by omega)
      · exact e
    · intro hx
      rcases this.mpr (.inr hx) with e | e
      · exact absurd (b1 x hx) (by omega)
      · exact e
theorem rise_iff {a us : List Nat} (h : us.Pairwise (· < ·)) (m : ∀ c, c ∈ us ↔ c ∈ a) : decide (a = us) = decide (a.Pairwise (· < ·)) :=
  decide_eq_decide.mpr ⟨fun e => e ▸ h, fun z => rise_uniq z h fun c => (m c).symm⟩
theorem rise_adj : ∀ {a : List Nat}, (∀ i x y, a[i]? = some x → a[i + 1]? = some y → x < y) → a.Pairwise (· < ·)
  | [], _ => List.Pairwise.nil
  | [c], _ => by simp
  | c :: d :: a, h => by
    have ih : (d :: a).Pairwise (· < ·) := rise_adj fun i x y hx hy => h (i + 1) x y hx hy
    have cd : c < d := h 0 c d rfl rfl
    refine List.pairwise_cons.mpr ⟨fun x hx => ?_, ih⟩
    rcases List.mem_cons.mp hx with rfl | hx
    · exact cd
    · exact Nat.lt_trans cd ((List.pairwise_cons.mp ih).1 x hx)
/-! ### comprehensions that leave the store alone -/
theorem lcFilt {α : Type} {g : GD} {tt : TD} {te : ED} {w : XD} {ρ : St'} {q : QD} {S : Sto} (inp out : α → D) (p : α → Bool) (xs : List α) (len : xs.length ≤ sizeLine)
    (step : ∀ x ∈ xs, ∀ (K : QD) (J : Sto → Prop), (p x = true → K (out x) S) → (p x = false → J S) → g (inp x) w ρ S fun ρ1 S1 => tt w ρ1 S1 fun b S2 => hIf b (te w ρ1 S2 K) (J S2))
    (h : q (.lst ((xs.filter p).map out)) S) : hLc none g tt te w ρ q (xs.map inp) [] S := by
  refine lcInv (fun r acc S' => S' = S ∧ ∃ a b : List α, xs = a ++ b ∧ r = b.map inp ∧ acc = (a.filter p).map out) (fun d r acc S' ih h => ?_) (fun acc S' h => ?_) _ _ _ ⟨rfl, [], xs, rfl, rfl, rfl⟩
  · obtain ⟨rfl, a, b, e, hr, rfl⟩ := h
    cases b with
    | nil => cases hr
    | cons x b =>
      injection hr with e1 e2
      subst e1 e2
      refine step x (by rw [e]; simp) _ _ (fun hp => hAnd_i ?_ (ih _ _ ⟨rfl, a ++ [x], b, by simp [e], rfl, ?_⟩)) fun hp => ih _ _ ⟨rfl, a ++ [x], b, by simp [e], rfl, ?_⟩
      · have h1 := List.length_filter_le p a
        have h2 := congrArg List.length e
        simp only [List.length_append, List.length_cons, List.length_map] at h2 ⊢
        omega
      · rw [List.filter_append, List.map_append]
        simp [List.filter_cons, hp]
      · rw [List.filter_append, List.map_append]
        simp [List.filter_cons, hp]
  · obtain ⟨rfl, a, b, e, hr, rfl⟩ := h
    cases b with
    | cons x b => cases hr
    | nil =>
      rw [List.append_nil] at e
      subst e
      exact h
theorem lcFiltA {α : Type} {g : GD} {tt : TD} {te : ED} {w : XD} {ρ : St'} {q : QD} {S : Sto} (inp out : α → D) (p : α → Bool) (xs : List α) (acc : List D) (len : acc.length + xs.length ≤ sizeLine)
    (step : ∀ x ∈ xs, ∀ (K : QD) (J : Sto → Prop), (p x = true → K (out x) S) → (p x = false → J S) → g (inp x) w ρ S fun ρ1 S1 => tt w ρ1 S1 fun b S2 => hIf b (te w ρ1 S2 K) (J S2))
    (h : q (.lst (acc ++ (xs.filter p).map out)) S) : hLc none g tt te w ρ q (xs.map inp) acc S := by
  refine lcInv (fun r ac S' => S' = S ∧ ∃ a b : List α, xs = a ++ b ∧ r = b.map inp ∧ ac = acc ++ (a.filter p).map out) (fun d r ac S' ih h => ?_) (fun ac S' h => ?_) _ _ _ ⟨rfl, [], xs, rfl, rfl, by simp⟩
  · obtain ⟨rfl, a, b, e, hr, rfl⟩ := h
    cases b with
    | nil => cases hr
    | cons x b =>
      injection hr with e1 e2
      subst e1 e2
      refine step x (by rw [e]; simp) _ _ (fun hp => hAnd_i ?_ (ih _ _ ⟨rfl, a ++ [x], b, by simp [e], rfl, ?_⟩)) fun hp => ih _ _ ⟨rfl, a ++ [x], b, by simp [e], rfl, ?_⟩
      · have h1 := List.length_filter_le p a
        have h2 := congrArg List.length e
        simp only [List.length_append, List.length_cons, List.length_map] at h2 ⊢
        omega
      · rw [List.filter_append, List.map_append, List.append_assoc]
        simp [List.filter_cons, hp]
      · rw [List.filter_append, List.map_append]
        simp [List.filter_cons, hp]
  · obtain ⟨rfl, a, b, e, hr, rfl⟩ := h
    cases b with
    | cons x b => cases hr
    | nil =>
      rw [List.append_nil] at e
      subst e
      exact h
theorem lcMapA {α : Type} {g : GD} {te : ED} {w : XD} {ρ : St'} {q : QD} {S : Sto} (inp out : α → D) (xs : List α) (acc : List D) (len : acc.length + xs.length ≤ sizeLine)
    (step : ∀ x ∈ xs, ∀ K : QD, K (out x) S → g (inp x) w ρ S fun ρ1 S1 => te w ρ1 S1 K) (h : q (.lst (acc ++ xs.map out)) S) : hLc none g eYes te w ρ q (xs.map inp) acc S := by
  have e0 : xs.filter (fun _ => true) = xs := List.filter_eq_self.mpr (fun _ _ => rfl)
  refine lcFiltA inp out (fun _ => true) xs acc len (fun x hx K J h1 _ => ?_) (by rw [e0]; exact h)
  have e : ∀ {A B : Prop}, hIf true A B = A := fun {A B} => by rw [hIf_eq]; simp
  show g (inp x) w ρ S fun ρ1 S1 => hIf true (te w ρ1 S1 K) (J S1)
  simp only [e]
  exact step x hx K (h1 rfl)
theorem lcMap {α : Type} {g : GD} {te : ED} {w : XD} {ρ : St'} {q : QD} {S : Sto} (inp out : α → D) (xs : List α) (len : xs.length ≤ sizeLine)
    (step : ∀ x ∈ xs, ∀ K : QD, K (out x) S → g (inp x) w ρ S fun ρ1 S1 => te w ρ1 S1 K) (h : q (.lst (xs.map out)) S) : hLc none g eYes te w ρ q (xs.map inp) [] S := by
  have e0 : xs.filter (fun _ => true) = xs := List.filter_eq_self.mpr (fun _ _ => rfl)
  refine lcFilt inp out (fun _ => true) xs len (fun x hx K J h1 _ => ?_) (by rw [e0]; exact h)
  have e : ∀ {A B : Prop}, hIf true A B = A := fun {A B} => by rw [hIf_eq]; simp
  show g (inp x) w ρ S fun ρ1 S1 => hIf true (te w ρ1 S1 K) (J S1)
  simp only [e]
  exact step x hx K (h1 rfl)
theorem bools_of {α : Type} (f : α → Bool) : ∀ l : List α, bools (l.map fun x => .bl (f x)) = some (l.map f)
  | [] => rfl
  | a :: l => by show (bools (l.map fun x => .bl (f x))).map (_ :: ·) = _; rw [bools_of f l]; rfl
theorem hAll_map {α : Type} {f : α → Bool} {l : List α} {S : Sto} {q : QD} (h : q (.bl (l.all f)) S) : hAll (.lst (l.map fun x => .bl (f x))) S q := by
  refine hAll_i (bools_of f l) ?_
  have : (l.map f).all id = l.all f := by simp [List.all_map, Function.comp_def]
  rw [this]; exact h
theorem hAny_map {α : Type} {f : α → Bool} {l : List α} {S : Sto} {q : QD} (h : q (.bl (l.any f)) S) : hAny (.lst (l.map fun x => .bl (f x))) S q := by
  refine hAny_i (bools_of f l) ?_
  have : (l.map f).any id = l.any f := by simp [List.any_map, Function.comp_def]
  rw [this]; exact h
theorem intsD_from : ∀ (n : Nat) (lo : Int), intsD lo n = (List.range n).map fun i : Nat => D.int (lo + i)
  | 0, _ => rfl
  | n + 1, lo => by
    rw [List.range_succ_eq_map, List.map_cons, List.map_map]
    show D.int lo :: intsD (lo + 1) n = _
    rw [intsD_from n (lo + 1)]
    congr 1
    · congr 1; simp
    · refine List.map_congr_left fun i _ => ?_
      show D.int (lo + 1 + i) = D.int (lo + (i + 1 : Nat))
      congr 1; omega
theorem intsD_range (n : Nat) : intsD 0 n = (List.range n).map fun i : Nat => D.int i := by
  rw [intsD_from]
  refine List.map_congr_left fun i _ => ?_
  rw [Int.zero_add]
theorem atI_at {α : Type} {l : List α} {r : Int} {n : Nat} (e : r = n) (h : n < l.length) : atI l r = some l[n] := by
  subst e
  rw [atI_nat (by omega) (by omega)]
  exact List.getElem?_eq_getElem h
theorem atI_d {l : List Nat} {r : Int} {n : Nat} (e : r = n) (h : n < l.length) : atI l r = some (l.getD n 0) := by
  rw [atI_at e h]
  simp [List.getD_eq_getElem?_getD, List.getElem?_eq_getElem h]
theorem lt_one1 {x y : Nat} (h : [x] < [y]) : x < y := by
  cases h with
  | rel h => exact h
  | cons h => cases h
theorem lt_one {x y : Nat} : decide ([x] < [y]) = decide (x < y) := decide_eq_decide.mpr ⟨lt_one1, fun h => List.Lex.rel h⟩
theorem rise_all {a : List Nat} : (List.range (a.length - 1)).all (fun i => decide (a.getD i 0 < a.getD (i + 1) 0)) = decide (a.Pairwise (· < ·)) := by
  by_cases h : a.Pairwise (· < ·)
  · rw [decide_eq_true h, List.all_eq_true]
    intro i hi
    have hi := List.mem_range.mp hi
    have h1 : i < a.length := by omega
    have h2 : i + 1 < a.length := by omega
    have := List.pairwise_iff_getElem.mp h i (i + 1) h1 h2 (by omega)
    simpa [List.getD_eq_getElem?_getD, List.getElem?_eq_getElem h1, List.getElem?_eq_getElem h2] using this
  · rw [decide_eq_false h]
    refine Bool.eq_false_iff.mpr fun z => h (rise_adj fun i x y hx hy => ?_)
    have h2 := (List.getElem?_eq_some_iff.mp hy).1
    have := List.all_eq_true.mp z i (List.mem_range.mpr (by omega))
    simpa [List.getD_eq_getElem?_getD, hx, hy] using this
end DL

namespace DL
open PySem PySem.Spec PyProof.Rows L2 TL

/-! ### steps at instances -/
def lkD {α : Type} (tab : List (Nat × α)) (C : Nat) (k : α → Prop) : Prop := match tab.lookup C with
  | some a => k a
  | none => False
def naK (i : Option Nat) (fs : List (Nat × D)) (P : Prop) : Prop := match i with
  | none => P
  | some i => hAnd (fs.lookup i = none) P
theorem naK_un {i : Option Nat} {fs : List (Nat × D)} {P : Prop} (h : naK i fs P) : noAtt i fs ∧ P := by
  cases i with
  | none => exact ⟨trivial, h⟩
  | some i => exact un_and h
def asM (i : Option Nat) (tab : List (Nat × Fm)) (k : Fm → Prop) : O → Prop
  | .ins C fs => naK i fs (lkD tab C k)
  | _ => False
def asA (i : Option Nat) (tab : List (Nat × AtD)) (a : Addr) (S : Sto) (q : QD) : O → Prop
  | .ins C fs => lkD tab C fun t => match t with
    | .fld => (match i with
      | some i => lkD fs i fun v => q v S
      | none => False)
    | .con v => naK i fs (q v S)
    | .prop Φ => Φ [.ref a] [] S q fun _ _ _ => False
  | _ => False
def asP (i : Option Nat) (cl : List Nat) (a : Addr) (d : D) (S : Sto) (k : Sto → Prop) : O → Prop
  | .ins C fs => hAnd (C ∈ cl ∧ fs.length < 900) (match i with
    | some i => k (S.set a (.ins C (putD i d fs)))
    | none => False)
  | _ => False
def asE (n : Bool) (tab : List (Nat × Fm)) (a : Addr) (y : D) (S : Sto) (q : QD) : O → Prop
  | .ins C _ => lkD tab C fun Φ => hAnd (hSameC C y S) (Φ [.ref a, y] [] S (asBl n q) fun _ _ _ => False)
  | _ => False
def asI (tab : List (Nat × Bool)) (k : Bool → Prop) : O → Prop
  | .ins C _ => lkD tab C k
  | .lst _ => k false
  | .dct _ => k false
  | _ => False
theorem sameC_ty {C : Nat} {y : D} {S : Sto} (h : (match y with | .ref _ => false | y => (tyN y).isSome) = true) : hSameC C y S := by
  rw [hSameC_eq]
  cases y <;> first | (cases h; done) | exact h
theorem sameC_lst {C : Nat} {b : Addr} {ds : List D} {S : Sto} (h : S b = some (.lst ds)) : hSameC C (.ref b) S := by
  rw [hSameC_eq]
  unfold sameC
  dsimp only
  rw [h]
  exact trivial
theorem sameC_ref {C : Nat} {b : Addr} {fs : List (Nat × D)} {S : Sto} (h : S b = some (.ins C fs)) : hSameC C (.ref b) S := by
  rw [hSameC_eq]
  unfold sameC
  dsimp only
  rw [h]
section
variable {S : Sto} {q : QD} {a : Addr} {p : Addr} {ds : List D} {cs b : List Nat} {n : Int} {y d : D}
instance s_mth {i : Option Nat} {tab : List (Nat × Fm)} {k : Fm → Prop} : Stp (hMth i tab (.ref a) S k) (hAt S a (asM i tab k)) := ⟨fun h => by
  rw [hAt_eq] at h
  obtain ⟨o, e, h⟩ := h
  cases o with
  | ins C fs =>
    obtain ⟨h1, h2⟩ := naK_un (show naK i fs (lkD tab C k) from h)
    unfold lkD at h2
    rw [hMth_eq]
    unfold rMth
    dsimp only
    rw [e]
    refine ⟨h1, ?_⟩
    cases et : tab.lookup C with
    | none => rw [et] at h2; exact h2
    | some t => rw [et] at h2; exact h2
  | _ => exact (show False from h).elim⟩
instance s_att {i : Option Nat} {tab : List (Nat × AtD)} : Stp (hAtt i tab (.ref a) S q) (hAt S a (asA i tab a S q)) := ⟨fun h => by
  rw [hAt_eq] at h
  obtain ⟨o, e, h⟩ := h
  cases o with
  | ins C fs =>
    unfold asA lkD at h
    rw [hAtt_eq]
    unfold rAtt
    dsimp only at h ⊢
    rw [e]
    dsimp only
    cases et : tab.lookup C with
    | none => rw [et] at h; exact h
    | some t =>
      rw [et] at h
      cases t with
      | fld =>
        cases i with
        | none => exact h
        | some i =>
          dsimp only at h ⊢
          cases ef : fs.lookup i with
          | none => rw [ef] at h; exact h
          | some v => rw [ef] at h; exact h
      | con v => exact naK_un h
      | prop Φ => exact h
  | _ => exact (show False from h).elim⟩
instance s_putF {i : Option Nat} {cl : List Nat} {k : Sto → Prop} : Stp (hPutF i cl (.ref a) d S k) (hAt S a (asP i cl a d S k)) := ⟨fun h => by
  rw [hAt_eq] at h
  obtain ⟨o, e, h⟩ := h
  cases o with
  | ins C fs =>
    unfold asP at h
    obtain ⟨h1, h2⟩ := un_and h
    rw [hPutF_eq]
    unfold rPutF
    dsimp only
    rw [e]
    refine ⟨h1.1, h1.2, ?_⟩
    cases i with
    | none => exact h2
    | some i => exact h2
  | _ => exact (show False from h).elim⟩
instance s_eqO {n : Bool} {tab : List (Nat × Fm)} : Stp (hEqO n tab (.ref a) y S q) (hAt S a (asE n tab a y S q)) := ⟨fun h => by
  rw [hAt_eq] at h
  obtain ⟨o, e, h⟩ := h
  cases o with
  | ins C fs =>
    unfold asE lkD at h
    rw [hEqO_eq]
    unfold rEqO
    dsimp only at h ⊢
    rw [e]
    dsimp only
    cases et : tab.lookup C with
    | none => rw [et] at h; exact h
    | some t => rw [et] at h; exact h
  | _ => exact (show False from h).elim⟩
instance s_eqO_non {tab : List (Nat × Fm)} : Stp (hEqO false tab .non y S q) (hEq .non y S q) := ⟨fun h => by rw [hEqO_eq]; exact h⟩
instance s_eqO_bl {c : Bool} {tab : List (Nat × Fm)} : Stp (hEqO false tab (.bl c) y S q) (hEq (.bl c) y S q) := ⟨fun h => by rw [hEqO_eq]; exact h⟩
instance s_eqO_int {tab : List (Nat × Fm)} : Stp (hEqO false tab (.int n) y S q) (hEq (.int n) y S q) := ⟨fun h => by rw [hEqO_eq]; exact h⟩
instance s_eqO_str {tab : List (Nat × Fm)} : Stp (hEqO false tab (.str b) y S q) (hEq (.str b) y S q) := ⟨fun h => by rw [hEqO_eq]; exact h⟩
instance s_eqO_lst {tab : List (Nat × Fm)} : Stp (hEqO false tab (.lst ds) y S q) (hEq (.lst ds) y S q) := ⟨fun h => by rw [hEqO_eq]; exact h⟩
instance s_eqO_tup {tab : List (Nat × Fm)} : Stp (hEqO false tab (.tup ds) y S q) (hEq (.tup ds) y S q) := ⟨fun h => by rw [hEqO_eq]; exact h⟩
instance s_neO_non {tab : List (Nat × Fm)} : Stp (hEqO true tab .non y S q) (hNe .non y S q) := ⟨fun h => by rw [hEqO_eq]; exact h⟩
instance s_neO_bl {c : Bool} {tab : List (Nat × Fm)} : Stp (hEqO true tab (.bl c) y S q) (hNe (.bl c) y S q) := ⟨fun h => by rw [hEqO_eq]; exact h⟩
instance s_neO_int {tab : List (Nat × Fm)} : Stp (hEqO true tab (.int n) y S q) (hNe (.int n) y S q) := ⟨fun h => by rw [hEqO_eq]; exact h⟩
instance s_neO_str {tab : List (Nat × Fm)} : Stp (hEqO true tab (.str b) y S q) (hNe (.str b) y S q) := ⟨fun h => by rw [hEqO_eq]; exact h⟩
instance s_neO_lst {tab : List (Nat × Fm)} : Stp (hEqO true tab (.lst ds) y S q) (hNe (.lst ds) y S q) := ⟨fun h => by rw [hEqO_eq]; exact h⟩
instance s_neO_tup {tab : List (Nat × Fm)} : Stp (hEqO true tab (.tup ds) y S q) (hNe (.tup ds) y S q) := ⟨fun h => by rw [hEqO_eq]; exact h⟩
instance s_isO {tab : List (Nat × Bool)} : Stp (hIsO tab (.ref a) S q) (hAt S a (asI tab fun b => q (.bl b) S)) := ⟨fun h => by
  rw [hAt_eq] at h
  obtain ⟨o, e, h⟩ := h
  rw [hIsO_eq]
  unfold rIsO
  dsimp only
  rw [e]
  cases o with
  | ins C fs =>
    have h : lkD tab C (fun b => q (.bl b) S) := h
    unfold lkD at h
    dsimp only at h ⊢
    cases et : tab.lookup C with
    | none => rw [et] at h; exact h
    | some t => rw [et] at h; exact h
  | lst ds => exact h
  | dct ds => exact h
  | _ => exact (show False from h).elim⟩
theorem isO_ty {tab : List (Nat × Bool)} {d : D} (h1 : (match d with | .ref _ => false | d => (tyN d).isSome) = true) (h : q (.bl false) S) : hIsO tab d S q := by
  rw [hIsO_eq]
  cases d <;> first | (cases h1; done) | exact hAnd_i h1 h
instance s_isO_non {tab : List (Nat × Bool)} : Stp (hIsO tab .non S q) (q (.bl false) S) := ⟨isO_ty rfl⟩
instance s_isO_bl {c : Bool} {tab : List (Nat × Bool)} : Stp (hIsO tab (.bl c) S q) (q (.bl false) S) := ⟨isO_ty rfl⟩
instance s_isO_int {tab : List (Nat × Bool)} : Stp (hIsO tab (.int n) S q) (q (.bl false) S) := ⟨isO_ty rfl⟩
instance s_isO_str {tab : List (Nat × Bool)} : Stp (hIsO tab (.str b) S q) (q (.bl false) S) := ⟨isO_ty rfl⟩
instance s_isO_lst {tab : List (Nat × Bool)} : Stp (hIsO tab (.lst ds) S q) (q (.bl false) S) := ⟨isO_ty rfl⟩
instance s_isO_tup {tab : List (Nat × Bool)} : Stp (hIsO tab (.tup ds) S q) (q (.bl false) S) := ⟨isO_ty rfl⟩
instance s_fz {k : D → Sto → Prop} : Stp (hFz (.ref p) S k) (hAt S p (asL fun ds => k (.lst ds) (S.del p))) := ⟨fun h => by
  rw [hAt_eq] at h
  obtain ⟨o, e, h⟩ := h
  cases o with
  | lst ds =>
    rw [hFz_eq]
    unfold rFz
    dsimp only
    rw [e]; exact h
  | _ => exact (show False from h).elim⟩
instance s_itm_lst {k : List D → Prop} : Stp (hItm (.lst ds) S k) (k ds) := ⟨fun h => by rw [hItm_eq]; exact h⟩
instance s_itm_rol {k : List D → Prop} : Stp (hItm (.rol ds) S k) (k ds) := ⟨fun h => by rw [hItm_eq]; exact h⟩
instance s_itm_tup {k : List D → Prop} : Stp (hItm (.tup ds) S k) (k ds) := ⟨fun h => by rw [hItm_eq]; exact h⟩
instance s_itm_ref {k : List D → Prop} : Stp (hItm (.ref p) S k) (hAt S p (asL k)) := ⟨fun h => by
  rw [hAt_eq] at h
  obtain ⟨o, e, h⟩ := h
  cases o with
  | lst ds =>
    rw [hItm_eq]
    unfold rItm
    dsimp only
    rw [e]; exact h
  | _ => exact (show False from h).elim⟩
instance s_fmt_str : Stp (hFmt (.str b) S q) (hAnd (b.length ≤ sizeLine) (q (.str b) S)) := ⟨fun h => by rw [hFmt_eq]; exact un_and h⟩
instance s_fmt_int : Stp (hFmt (.int n) S q) (hAnd (n.natAbs.log2 < 1920) (q (.str (TL.tl (toString n))) S)) := ⟨fun h => by rw [hFmt_eq]; exact un_and h⟩
instance s_split : Stp (hSplit (.str cs) [.str b] S q) (hAnd (b ≠ [] ∧ b.all (fun c => decide (c < 256)) = true ∧ cs.length + 2 ≤ sizeLine) (q (.lst ((TL.spl b 0 [] cs).map .str)) S)) := ⟨fun h => by
  obtain ⟨h1, h2⟩ := un_and h
  rw [hSplit_eq]
  exact ⟨h1.1, h1.2.1, h1.2.2, h2⟩⟩
end
end DL

namespace DL
open PySem PySem.Spec PyProof.Rows L2

/-! ### the head's facts: Bool functions of the written part -/
theorem DefF.is {K : PySem.W.Frag} {d : DefF} (e : fnF K (d.ad K) = d.val) : ∃ (oc : Value) (od : Option Addr) (osl : Array (Option Value)) (dV kV doc pm : Value) (an : Option Addr) (cdv ct : Value) (cl : List (Str × Addr)), cl.map (fun p => (p.1, (0 : Addr))) = d.cl.map (fun y => (y, 0)) ∧ K.lookup (d.ad K) = some ⟨oc, od, .func (PySem.W.fnX d.name d.qual d.params d.body d.scope cl dV kV doc pm an cdv ct), osl⟩ := by
  unfold fnF at e
  cases q : K.lookup (d.ad K) with
  | none => rw [q] at e; cases e
  | some o =>
    obtain ⟨oc, od, dt, osl⟩ := o
    rw [q] at e
    cases dt with
    | func fd =>
      obtain ⟨n1, n2, n3, n4, n5, n6, n7, n8, n9, n10, n11, n12, n13, n14, n15⟩ := fd
      have e2 : (some (n1, n2, n3, n4, n5, n6, n7.map (fun p => (p.1, (0 : Addr))), n15) : He.FnW) = some (d.name, d.qual, d.params, .stmts d.body, d.scope, mainGlobals, d.cl.map (fun y => (y, 0)), builtinsNs) := e
      simp only [Option.some.injEq, Prod.mk.injEq] at e2
      obtain ⟨h1, h2, h3, h4, h5, h6, h7, h8⟩ := e2
      subst h1 h2 h3 h4 h5 h6 h8
      exact ⟨oc, od, osl, n8, n9, n10, n11, n12, n13, n14, n7, h7, rfl⟩
    | _ => cases e
theorem DefF.funD {K : PySem.W.Frag} {d : DefF} (e : fnF K (d.ad K) = d.val) (c : d.ok K = true) (hcl : d.cl = []) : ∃ fd, FunD K d.name d.qual d.params d.body d.scope (d.dvs K) (d.kws K) (d.ad K) fd := by
  obtain ⟨oc, od, osl, dV, kV, doc, pm, an, cdv, ct, cl, hc, q⟩ := DefF.is e
  rw [hcl] at hc
  have hc : cl = [] := by simpa using hc
  subst hc
  obtain ⟨kp, c2⟩ := He.ba c
  rw [q] at c2
  obtain ⟨k1, k2⟩ := He.ba (show (PySem.W.codeIn K cdv d.qual && (He.dflB K dV (d.dvs K) && He.kwdB K kV (d.kws K))) = true from c2)
  obtain ⟨k3, k4⟩ := He.ba k2
  exact ⟨_, ⟨oc, od, dV, kV, doc, pm, an, cdv, ct, osl, rfl, q, k1, He.dflB_ok k3, He.kwdB_ok k4⟩, kp⟩
/-! dicts of the module with text keys: where, the keys in order -/
theorem TsOk.tab {ts : TsL} {w : World} {K : PySem.W.Frag} (c : TsOk ts w K) (i : Nat) {t : (PySem.W.Frag → Addr) × List Str} (h : ts[i]? = some t := by rfl) : ∃ es n, KDict K w (t.1 K) es n := by
  have e : ts.map (fun t => He.dicW K (t.1 K)) = ts.map fun t => some (He.keysIn w.params t.2) := c
  have e2 : (ts.map fun t => He.dicW K (t.1 K))[i]? = (ts.map fun t => some (He.keysIn w.params t.2))[i]? := by rw [e]
  rw [List.getElem?_map, List.getElem?_map, h] at e2
  exact He.dicW_ok (Option.some.inj e2)
theorem dvB_ok : ∀ {ds : List D} {us : List Value}, dvB ds us = true → ∃ vs, Vals vs us ∧ ∀ K S H, Rps K S H ds vs
  | [], [], _ => ⟨[], .nil, fun _ _ _ => rfl⟩
  | [], _ :: _, h => by cases h
  | d :: ds, [], h => by cases d <;> cases h
  | d :: ds, u :: us, h => by
    cases d with
    | int i =>
      cases u with
      | int j t =>
        obtain ⟨h1, h2⟩ := He.ba (show (decide (i = j) && dvB ds us) = true from h)
        obtain ⟨vs, r, q⟩ := dvB_ok h2
        exact ⟨.int i :: vs, .cons ⟨t, by rw [of_decide_eq_true h1]⟩ r, fun K S H => ⟨_, _, rfl, rfl, q K S H⟩⟩
      | _ => cases h
    | str cs =>
      cases u with
      | str x t =>
        obtain ⟨h1, h2⟩ := He.ba (show (decide (x = mkS cs) && dvB ds us) = true from h)
        obtain ⟨vs, r, q⟩ := dvB_ok h2
        exact ⟨.str (mkS cs) :: vs, .cons ⟨t, by rw [of_decide_eq_true h1]⟩ r, fun K S H => ⟨_, _, rfl, rfl, q K S H⟩⟩
      | _ => cases h
    | _ => cases h
theorem dic_at {w : World} {K : PySem.W.Frag} {mg : Str → Option Value} {x : Str} {kvs : List (List Nat × List D)} (hm : mg x = some (.ref (He.ga K x))) (dd : ∃ es n, KDict K w (He.ga K x) es n) (c : fDic x kvs K = true) : DicAt w K mg x (kvs.map fun q => (q.1, .tup q.2)) := by
  obtain ⟨es, n, kd⟩ := dd
  refine ⟨_, hm, fun q1 hq1 => ?_⟩
  obtain ⟨q, hq, rfl⟩ := List.mem_map.mp hq1
  have c1 := List.all_eq_true.mp c q hq
  cases e : PySem.W.nsIn K (He.ga K x) (mkS q.1) with
  | none => rw [e] at c1; cases c1
  | some r =>
    rw [e] at c1
    cases r with
    | none => cases c1
    | some u =>
      cases u with
      | ref p =>
        have c2 : (match K.lookup p with
          | some ⟨.type t, _, .seq its _, _⟩ => t == "tuple" && (decide (its.size ≤ sizeLine) && dvB q.2 its.toList)
          | _ => false) = true := c1
        split at c2
        · rename_i t dd its n2 sl e2
          obtain ⟨h1, h2⟩ := He.ba c2
          obtain ⟨h2, h3⟩ := He.ba h2
          have h1 : t = "tuple" := by simpa using h1
          subst h1
          obtain ⟨vs, r, z⟩ := dvB_ok h3
          exact ⟨.ref p, ⟨es, n, .ref p, kd.at_, kd.lit, e, rfl⟩, fun B S H => ⟨p, vs, rfl, .inr ⟨_, its, n2, e2, rfl, rfl, of_decide_eq_true h2, r⟩, z _ _ _⟩⟩
        · cases c2
      | _ => cases c1
section
variable {fa : List FaF} {fn : List DefF} {K : PySem.W.Frag}
theorem SaysF.fact (c : SaysF fa fn K) (i : Nat) {f : FaF} (h : fa[i]? = some f := by rfl) : f K = true := by
  have c1 := (He.ba (show ((fa.all fun f => f K) && fn.all fun d => d.ok K) = true from congrArg (fun z : He.AlD => z.1) c)).1
  exact List.all_eq_true.mp c1 f (List.mem_of_getElem? h)
theorem SaysF.at_ (c : SaysF fa fn K) (i : Nat) {d : DefF} (h : fn[i]? = some d := by rfl) : fnF K (d.ad K) = d.val ∧ d.ok K = true := by
  have c2 := (He.ba (show ((fa.all fun f => f K) && fn.all fun d => d.ok K) = true from congrArg (fun z : He.AlD => z.1) c)).2
  have e : fn.map (fun d => fnF K (d.ad K)) = fn.map DefF.val := congrArg (fun z : He.AlD => z.2) c
  have e2 : (fn.map fun d => fnF K (d.ad K))[i]? = (fn.map DefF.val)[i]? := by rw [e]
  rw [List.getElem?_map, List.getElem?_map, h] at e2
  exact ⟨Option.some.inj e2, List.all_eq_true.mp c2 d (List.mem_of_getElem? h)⟩
theorem SaysF.def_ (c : SaysF fa fn K) (i : Nat) {d : DefF} (h : fn[i]? = some d := by rfl) (hcl : d.cl = [] := by rfl) : ∃ fd, FunD K d.name d.qual d.params d.body d.scope (d.dvs K) (d.kws K) (d.ad K) fd :=
  DefF.funD (c.at_ i h).1 (c.at_ i h).2 hcl
end
/-! addresses -/
theorem rcB_ok {K : PySem.W.Frag} {p : Addr} {T : String} (h : rcB K p T = true) : ∃ rest, PySem.W.recIn K p T = some (.ref (rcG K p T) :: rest) := by
  unfold rcB at h
  unfold rcG
  split at h
  · rename_i g r e
    rw [e]
    exact ⟨r, rfl⟩
  · cases h
/-! facts -/
theorem eqC_ok {a : Option PySem.W.CFound} {b : PySem.W.CFound} (h : eqC a b = true) : a = some b := by
  cases a with
  | none => cases h
  | some a =>
    cases a with
    | val u => cases b with
      | val v =>
        have e : u = v := of_decide_eq_true h
        rw [e]
      | get _ _ _ _ => cases h
    | get x y z t => cases b with
      | val v => cases h
      | get x' y' z' t' =>
        obtain ⟨h1, h⟩ := He.ba (show (decide (x = x') && (decide (y = y') && (decide (z = z') && decide (t = t')))) = true from h)
        obtain ⟨h2, h⟩ := He.ba h
        obtain ⟨h3, h4⟩ := He.ba h
        rw [of_decide_eq_true h1, of_decide_eq_true h2, of_decide_eq_true h3, of_decide_eq_true h4]
section
variable {K : PySem.W.Frag} {C E : Nat} {m f : Str} {tab : List (Nat × Bool)}
theorem cls_ok (c : fCls C K = true) : Cls K (cA K C) := He.cls_ok c
theorem no_ok (c : fNo C f K = true) : NoAttr K (cA K C) f := He.noat_ok c
theorem meth_ok (c : fMeth C m K = true) : Meth K (cA K C) m (aM C m K) := He.meth_ok c
theorem mk_ok (c : fMk C K = true) : Mk K (cA K C) (aM C "__init__" K) := He.mkr_ok c
theorem ne_ok (c : fNe C K = true) : NeK K (cA K C) := by
  obtain ⟨c1, c2⟩ := He.ba c
  exact ⟨He.eqO_ok c1, of_decide_eq_true c2⟩
theorem ins_ok (c : fIns C K = true) : InsK K (cA K C) := by
  obtain ⟨c1, c⟩ := He.ba c
  obtain ⟨c2, c⟩ := He.ba c
  obtain ⟨c3, c⟩ := He.ba c
  obtain ⟨c4, c5⟩ := He.ba c
  exact ⟨He.cls_ok c1, He.eqO_ok c2, He.eqO_ok c3, of_decide_eq_true c4, of_decide_eq_true c5⟩
theorem is_ok (c : fIs E tab K = true) : IsK K (cA K E) tab := by
  obtain ⟨c1, c2⟩ := He.ba c
  refine ⟨fun C b h => ?_, fun T hT => of_decide_eq_true (List.all_eq_true.mp c2 T hT)⟩
  obtain ⟨h1, h2⟩ := He.ba (List.all_eq_true.mp c1 _ (lookup_memN h))
  exact ⟨ins_ok h1, of_decide_eq_true h2⟩
theorem cr_ok (c : fCR C K = true) : ClX.CRead K (cA K C) (.type "type") := by
  obtain ⟨c1, c2⟩ := He.ba c
  exact ⟨c1, He.eqO_ok c2⟩
theorem stat_ok (c : fStat C m K = true) : StatOf K (cA K C) m (aS C m K) := by
  obtain ⟨c1, c⟩ := He.ba c
  obtain ⟨c2, c⟩ := He.ba c
  obtain ⟨c3, c4⟩ := He.ba c
  obtain ⟨rest, e⟩ := rcB_ok c3
  exact ⟨⟨_, _, rest, cr_ok c1, eqC_ok c2, e⟩, c4⟩
theorem prop_ok' (c : fProp C m K = true) : Cls K (cA K C) ∧ PropOf K (cA K C) m (He.ma K (cA K C) m) (aP C m K) := by
  obtain ⟨c1, c⟩ := He.ba c
  obtain ⟨c2, c⟩ := He.ba c
  obtain ⟨c3, c⟩ := He.ba c
  obtain ⟨c4, c5⟩ := He.ba c
  obtain ⟨rest, e⟩ := rcB_ok c5
  exact ⟨He.cls_ok c1, ⟨He.eqO_ok c2, He.eqO_ok c3, of_decide_eq_true c4, rest, e⟩⟩
theorem cc_ok {v : V} {d : D} (c : fCC C f v K = true) (r : ∀ B S H, Rp ⟨K, B⟩ S H d v) : ConK K (cA K C) f d := by
  obtain ⟨c1, c2⟩ := He.ba c
  split at c2
  · rename_i u e
    exact ⟨_, v, u, cr_ok c1, ⟨e, He.relB_ok c2⟩, r⟩
  · cases c2
end
end DL

namespace DL
open PySem PySem.Spec PyProof.Rows L2 TL

/-! ### steps at dicts, own len and repr -/
/-- what stands at a key -/
abbrev hVal_0 (kvs : List (Key × D)) (k : Key) (K : D → Prop) : Prop := ∃ d, valD kvs k = some d ∧ K d
@[irreducible] noncomputable def hVal (kvs : List (Key × D)) (k : Key) (K : D → Prop) : Prop := stuck (@hVal_0) kvs k K
theorem hVal_eq (kvs : List (Key × D)) (k : Key) (K : D → Prop) : hVal kvs k K = ∃ d, valD kvs k = some d ∧ K d := by unfold hVal; rw [stuck_eq]
theorem hVal_i {kvs : List (Key × D)} {k : Key} {K : D → Prop} {d : D} (e : valD kvs k = some d) (h : K d) : hVal kvs k K := by rw [hVal_eq]; exact ⟨d, e, h⟩
def asDk (k : List (Key × D) → Prop) : O → Prop
  | .dct kvs => k kvs
  | _ => False
def asIn (n : Bool) (x : D) (S : Sto) (q : QD) : O → Prop
  | .lst ds => hAnd (flatD x = true ∧ ds.all flatD = true) (q (.bl (if n then !inD x ds else inD x ds)) S)
  | .dct kvs => inK n kvs (keyD x) S q
  | _ => False
def asKeys (S : Sto) (q : QD) : O → Prop
  | .lst ds => q (.lst ds) S
  | .dct kvs => q (.lst (kvs.map fun kv => keyT kv.1)) S
  | _ => False
def asLenO (tab : List (Nat × Fm)) (a : Addr) (S : Sto) (q : QD) : O → Prop
  | .ins C _ => lkT tab C fun Φ => Φ [.ref a] [] S (asLen q) fun _ _ _ => False
  | .lst ds => q (.int ds.length) S
  | .dct kvs => q (.int kvs.length) S
  | _ => False
def asReprO (tab : List (Nat × Fm)) (a : Addr) (S : Sto) (q : QD) : O → Prop
  | .ins C _ => lkT tab C fun Φ => Φ [.ref a] [] S (asStr q) fun _ _ _ => False
  | _ => False
section
variable {S : Sto} {q : QD} {p : Addr} {a : List Nat} {x d : D} {r : Sto → Prop}
instance s_ix_dict : Stp (hIx (.ref p) (.str a) S q) (hAt S p (asDk fun kvs => hVal kvs (.inr (mkS a)) fun d => q d S)) := ⟨fun h => by
  rw [hAt_eq] at h
  obtain ⟨o, e, h⟩ := h
  cases o with
  | dct kvs =>
    have h : hVal kvs (.inr (mkS a)) fun d => q d S := h
    rw [hVal_eq] at h
    rw [hIx_eq]
    show ixT (S p) a S q
    rw [e]
    exact h
  | _ => exact (show False from h).elim⟩
instance s_set_dict : Stp (hSet (.ref p) (.str a) d S r) (hAt S p (asDk fun kvs => hAnd (kvs.length < sizeLine) (r (S.set p (.dct (DL.setD kvs (.inr (mkS a)) d)))))) := ⟨fun h => by
  rw [hAt_eq] at h
  obtain ⟨o, e, h⟩ := h
  cases o with
  | dct kvs =>
    obtain ⟨h1, h2⟩ := un_and (show hAnd _ _ from h)
    rw [hSet_eq]
    show setT (S p) p a d S r
    rw [e]
    exact ⟨h1, h2⟩
  | _ => exact (show False from h).elim⟩
theorem in_ref (n : Bool) (h : hAt S p (asIn n x S q)) : inO n x (S p) S q := by
  rw [hAt_eq] at h
  obtain ⟨o, e, h⟩ := h
  rw [e]
  cases o with
  | lst ds =>
    obtain ⟨h1, h2⟩ := un_and (show hAnd _ _ from h)
    exact ⟨h1.1, h1.2, h2⟩
  | dct kvs => exact h
  | _ => exact (show False from h).elim
instance s_in_ref : Stp (hIn x (.ref p) S q) (hAt S p (asIn false x S q)) := ⟨fun h => by rw [hIn_eq]; exact in_ref false h⟩
instance s_notin_ref : Stp (hNotIn x (.ref p) S q) (hAt S p (asIn true x S q)) := ⟨fun h => by rw [hNotIn_eq]; exact in_ref true h⟩
instance s_strI : Stp (hStrI (.int n) S q) (hAnd (n.natAbs.log2 < 1920) (q (.str (TL.tl (toString n))) S)) := ⟨fun h => by rw [hStrI_eq]; exact un_and h⟩
instance s_tupOf_lst : Stp (hTupOf (.lst ds) S q) (q (.tup ds) S) := ⟨fun h => by rw [hTupOf_eq]; exact h⟩
instance s_tupOf_rol : Stp (hTupOf (.rol ds) S q) (q (.tup ds) S) := ⟨fun h => by rw [hTupOf_eq]; exact h⟩
instance s_tupOf_tup : Stp (hTupOf (.tup ds) S q) (q (.tup ds) S) := ⟨fun h => by rw [hTupOf_eq]; exact h⟩
instance s_list_ref : Stp (hList (.ref p) S q) (hAt S p (asKeys S q)) := ⟨fun h => by
  rw [hAt_eq] at h
  obtain ⟨o, e, h⟩ := h
  rw [hList_eq]
  unfold rList
  dsimp only
  rw [e]
  cases o with
  | lst ds => exact h
  | dct kvs => exact h
  | _ => exact (show False from h).elim⟩
instance s_lenO_ref {tab : List (Nat × Fm)} : Stp (hLenO tab (.ref p) S q) (hAt S p (asLenO tab p S q)) := ⟨fun h => by
  rw [hAt_eq] at h
  obtain ⟨o, e, h⟩ := h
  rw [hLenO_eq]
  unfold rLenO
  dsimp only
  cases o with
  | ins C fs => rw [e]; exact h
  | lst ds =>
    rw [e]
    dsimp only
    rw [hLen_eq]
    show lenO (S p) fun n => q (.int n) S
    rw [e]; exact h
  | dct kvs =>
    rw [e]
    dsimp only
    rw [hLen_eq]
    show lenO (S p) fun n => q (.int n) S
    rw [e]; exact h
  | _ => exact (show False from h).elim⟩
instance s_lenO_str {tab : List (Nat × Fm)} : Stp (hLenO tab (.str a) S q) (hLen (.str a) S q) := ⟨fun h => by rw [hLenO_eq]; exact h⟩
instance s_lenO_lst {tab : List (Nat × Fm)} {ds : List D} : Stp (hLenO tab (.lst ds) S q) (hLen (.lst ds) S q) := ⟨fun h => by rw [hLenO_eq]; exact h⟩
instance s_lenO_tup {tab : List (Nat × Fm)} {ds : List D} : Stp (hLenO tab (.tup ds) S q) (hLen (.tup ds) S q) := ⟨fun h => by rw [hLenO_eq]; exact h⟩
instance s_lenO_rol {tab : List (Nat × Fm)} {ds : List D} : Stp (hLenO tab (.rol ds) S q) (hLen (.rol ds) S q) := ⟨fun h => by rw [hLenO_eq]; exact h⟩
instance s_reprO_ref {tab : List (Nat × Fm)} : Stp (hReprO tab (.ref p) S q) (hAt S p (asReprO tab p S q)) := ⟨fun h => by
  rw [hAt_eq] at h
  obtain ⟨o, e, h⟩ := h
  cases o with
  | ins C fs =>
    rw [hReprO_eq]
    unfold rReprO
    dsimp only
    rw [e]; exact h
  | _ => exact (show False from h).elim⟩
instance s_seqR {k : KP → List D → Prop} : Stp (hSeqR S p k) (hAt S p (asL fun ds => k (some fun S' => S' p = some (.lst ds)) ds)) := ⟨fun h => by
  rw [hAt_eq] at h
  obtain ⟨o, e, h⟩ := h
  rw [hSeqR_eq, e]
  cases o with
  | lst ds => exact h
  | _ => exact (show False from h).elim⟩
/-! == of lists of the store -/
theorem hEq_un {x y : D} (h : hEq (unR S x) (unR S y) S q) (hx : unR S (unR S x) = unR S x) (hy : unR S (unR S y) = unR S y) (nx : ∀ a, unR S x ≠ .str a) : hEq x y S q := by
  rw [hEq_eq] at h ⊢
  rcases h with h | ⟨a, b, e, _⟩
  · rw [hx, hy] at h; exact .inl h
  · exact absurd e (nx a)
theorem hNe_un {x y : D} (h : hNe (unR S x) (unR S y) S q) (hx : unR S (unR S x) = unR S x) (hy : unR S (unR S y) = unR S y) (nx : ∀ a, unR S x ≠ .str a) : hNe x y S q := by
  rw [hNe_eq] at h ⊢
  rcases h with h | ⟨a, b, e, _⟩
  · rw [hx, hy] at h; exact .inl h
  · exact absurd e (nx a)
instance s_eq_lr {ds : List D} : Stp (hEq (.lst ds) (.ref p) S q) (hAt S p (asL fun es => hEq (.lst ds) (.lst es) S q)) := ⟨fun h => by
  rw [hAt_eq] at h
  obtain ⟨o, e, h⟩ := h
  cases o with
  | lst es => exact hEq_un (by rw [unR_ref e]; exact h) rfl (by rw [unR_ref e]; rfl) (fun a z => by cases z)
  | _ => exact (show False from h).elim⟩
instance s_eq_rl {ds : List D} : Stp (hEq (.ref p) (.lst ds) S q) (hAt S p (asL fun es => hEq (.lst es) (.lst ds) S q)) := ⟨fun h => by
  rw [hAt_eq] at h
  obtain ⟨o, e, h⟩ := h
  cases o with
  | lst es => exact hEq_un (by rw [unR_ref e]; exact h) (by rw [unR_ref e]; rfl) rfl (fun a z => by rw [unR_ref e] at z; cases z)
  | _ => exact (show False from h).elim⟩
instance s_ne_lr {ds : List D} : Stp (hNe (.lst ds) (.ref p) S q) (hAt S p (asL fun es => hNe (.lst ds) (.lst es) S q)) := ⟨fun h => by
  rw [hAt_eq] at h
  obtain ⟨o, e, h⟩ := h
  cases o with
  | lst es => exact hNe_un (by rw [unR_ref e]; exact h) rfl (by rw [unR_ref e]; rfl) (fun a z => by cases z)
  | _ => exact (show False from h).elim⟩
instance s_ne_rl {ds : List D} : Stp (hNe (.ref p) (.lst ds) S q) (hAt S p (asL fun es => hNe (.lst es) (.lst ds) S q)) := ⟨fun h => by
  rw [hAt_eq] at h
  obtain ⟨o, e, h⟩ := h
  cases o with
  | lst es => exact hNe_un (by rw [unR_ref e]; exact h) (by rw [unR_ref e]; rfl) rfl (fun a z => by rw [unR_ref e] at z; cases z)
  | _ => exact (show False from h).elim⟩
/-! own __contains__, own __call__, text.index, text.endswith, bool -/
def asInO (n : Bool) (tab : List (Nat × Fm)) (p : Addr) (x : D) (S : Sto) (q : QD) : O → Prop
  | .ins C _ => lkD tab C fun Φ => Φ [.ref p, x] [] S (asBl n q) fun _ _ _ => False
  | .lst _ => rInB n x (.ref p) S q
  | .dct _ => rInB n x (.ref p) S q
  | _ => False
instance s_inO_ref {n : Bool} {tab : List (Nat × Fm)} : Stp (hInO n tab x (.ref p) S q) (hAt S p (asInO n tab p x S q)) := ⟨fun h => by
  rw [hAt_eq] at h
  obtain ⟨o, e, h⟩ := h
  rw [hInO_eq]
  unfold rInO
  dsimp only
  rw [e]
  cases o with
  | ins C fs => exact h
  | lst ds => exact h
  | dct kvs => exact h
  | _ => exact (show False from h).elim⟩
instance s_inO_str {tab : List (Nat × Fm)} : Stp (hInO false tab x (.str a) S q) (hIn x (.str a) S q) := ⟨fun h => by rw [hInO_eq]; exact h⟩
instance s_inO_lst {tab : List (Nat × Fm)} {ds : List D} : Stp (hInO false tab x (.lst ds) S q) (hIn x (.lst ds) S q) := ⟨fun h => by rw [hInO_eq]; exact h⟩
instance s_inO_tup {tab : List (Nat × Fm)} {ds : List D} : Stp (hInO false tab x (.tup ds) S q) (hIn x (.tup ds) S q) := ⟨fun h => by rw [hInO_eq]; exact h⟩
instance s_ninO_str {tab : List (Nat × Fm)} : Stp (hInO true tab x (.str a) S q) (hNotIn x (.str a) S q) := ⟨fun h => by rw [hInO_eq]; exact h⟩
instance s_ninO_lst {tab : List (Nat × Fm)} {ds : List D} : Stp (hInO true tab x (.lst ds) S q) (hNotIn x (.lst ds) S q) := ⟨fun h => by rw [hInO_eq]; exact h⟩
instance s_ninO_tup {tab : List (Nat × Fm)} {ds : List D} : Stp (hInO true tab x (.tup ds) S q) (hNotIn x (.tup ds) S q) := ⟨fun h => by rw [hInO_eq]; exact h⟩
instance s_isRef {k : Prop} : Stp (isRefD (.ref p) k) k := ⟨fun h => h⟩
def asCal (tab : List (Nat × Fm)) (k : Fm → Prop) : O → Prop
  | .ins C _ => lkD tab C k
  | _ => False
instance s_cal {tab : List (Nat × Fm)} {k : Fm → Prop} : Stp (hCal tab (.ref p) S k) (hAt S p (asCal tab k)) := ⟨fun h => by
  rw [hAt_eq] at h
  obtain ⟨o, e, h⟩ := h
  rw [hCal_eq]
  unfold rCal
  dsimp only
  rw [e]
  cases o with
  | ins C fs => exact h
  | _ => exact (show False from h).elim⟩
instance s_sidx {a : List Nat} {c : Nat} : Stp (hSidx (.str a) [.str [c]] S q) (hAnd (c ∈ a) (q (.int (a.idxOf c)) S)) := ⟨fun h => by rw [hSidx_eq]; exact un_and h⟩
instance s_ends {a b : List Nat} : Stp (hEnds (.str a) [.str b] S q) (q (.bl (b.isSuffixOf a)) S) := ⟨fun h => by rw [hEnds_eq]; exact h⟩
instance s_bool_int {i : Int} : Stp (hBool (.int i) S q) (q (.bl (i != 0)) S) := ⟨fun h => by rw [hBool_eq]; exact h⟩
instance s_bool_bl {b : Bool} : Stp (hBool (.bl b) S q) (q (.bl b) S) := ⟨fun h => by rw [hBool_eq]; exact h⟩
theorem hDisp_i {ps : List (D × D)} {kvs : List (Key × D)} (e : S p = some (.dct [])) (ek : keysD ps = some kvs) (l : kvs.length ≤ 15) (h : q (.ref p) (S.set p (.dct (mergeD [] kvs)))) : hDisp p ps S q := by
  rw [hDisp_eq]; exact ⟨e, kvs, ek, l, h⟩
instance s_disp1 : Stp (hDisp p [(.str a, d)] (S.set p (.dct [])) q) (q (.ref p) (S.set p (.dct [(.inr (mkS a), d)]))) := ⟨fun h => by
  refine hDisp_i Sto.set_same rfl (Nat.le_of_ble_eq_true rfl) ?_
  rw [Sto.set_set]; exact h⟩
theorem hSort_i {ds : List D} {ys : List (List Nat)} (e : strsD' ds = some ys) (l : ys.length < 64) (h : ∀ zs : List (List Nat), zs.Perm ys → sortedS (zs.map mkS) = true → q (.lst (zs.map .str)) S) : hSort (.lst ds) S q := by
  rw [hSort_eq]; exact .inl ⟨ys, e, h⟩
theorem hSort_n {ds : List D} {ns : List Int} (e : intsD' ds = some ns) (h : ∀ ms : List Int, ms.Perm ns → ms.Pairwise (· ≤ ·) → q (.lst (ms.map .int)) S) : hSort (.lst ds) S q := by
  rw [hSort_eq]; exact .inr ⟨ns, e, h⟩
theorem hSort_s {ds : List D} {ys : List (List Nat)} (e : strsD' ds = some ys) (h : ∀ zs : List (List Nat), zs.Perm ys → sortedS (zs.map mkS) = true → q (.lst (zs.map .str)) S) : hSort (.lst ds) S q := by
  rw [hSort_eq]; exact .inl ⟨ys, e, h⟩
theorem hIns_i {d : D} {ds : List D} {i : Int} (e : S p = some (.lst ds)) (l : ds.length < sizeLine ∧ 0 ≤ i ∧ i < 2 ^ 63) (h : q .non (S.set p (.lst (ds.take i.toNat ++ [d] ++ ds.drop i.toNat)))) : hIns (.ref p) [.int i, d] S q := by
  rw [hIns_eq]; show insO (S p) p i d S q; rw [e]; exact ⟨l, h⟩
instance s_iadd_int {i j : Int} : Stp (hIAdd (.int i) (.int j) S q) (q (.int (i + j)) S) := ⟨fun h => by rw [hIAdd_eq]; exact h⟩
instance s_iadd_str {a b : List Nat} : Stp (hIAdd (.str a) (.str b) S q) (hAnd (a.length + b.length ≤ sizeLine) (q (.str (a ++ b)) S)) := ⟨fun h => by rw [hIAdd_eq]; exact un_and h⟩
instance s_ins {i : Int} {d : D} : Stp (hIns (.ref p) [.int i, d] S q) (hAt S p (asL fun ds => hAnd (ds.length < sizeLine ∧ 0 ≤ i ∧ i < 2 ^ 63) (q .non (S.set p (.lst (ds.take i.toNat ++ [d] ++ ds.drop i.toNat)))))) := ⟨fun h => by
  rw [hAt_eq] at h
  obtain ⟨o, e, h⟩ := h
  cases o with
  | lst ds => exact hIns_i e (un_and (show hAnd _ _ from h)).1 (un_and (show hAnd _ _ from h)).2
  | _ => exact (show False from h).elim⟩
end
end DL

namespace DL
open PySem PySem.Spec PyProof.Rows L2 TL
/-! ### the order of texts -/
theorem cps_lt : ∀ a b : List Nat, ltCps a b = decide (a < b)
  | [], [] => rfl
  | [], _ :: _ => rfl
  | a :: as, [] => by
    have : ¬ (a :: as < ([] : List Nat)) := List.not_lt_nil _
    rw [decide_eq_false this]; rfl
  | a :: as, b :: bs => by
    show (decide (a < b) || (decide (a = b) && ltCps as bs)) = _
    rw [cps_lt as bs, Bool.eq_iff_iff]
    simp only [Bool.or_eq_true, Bool.and_eq_true, decide_eq_true_eq, List.cons_lt_cons_iff]
def srt (xs : List (List Nat)) : List (List Nat) := xs.mergeSort fun a b => decide (a ≤ b)
theorem srt_perm (xs : List (List Nat)) : (srt xs).Perm xs := List.mergeSort_perm _ _
theorem srt_pw (xs : List (List Nat)) : (srt xs).Pairwise (· ≤ ·) := by
  have := List.pairwise_mergeSort (le := fun a b : List Nat => decide (a ≤ b)) (fun a b c h1 h2 => decide_eq_true (List.le_trans (of_decide_eq_true h1) (of_decide_eq_true h2))) (fun a b => by
    rcases List.le_total a b with h | h
    · rw [decide_eq_true h]; rfl
    · rw [decide_eq_true h]; simp) xs
  exact this.imp fun h => of_decide_eq_true h
theorem pw_uniq {a b : List (List Nat)} (h1 : a.Pairwise (· ≤ ·)) (h2 : b.Pairwise (· ≤ ·)) (p : a.Perm b) : a = b :=
  List.Perm.eq_of_pairwise (fun _ _ _ _ x y => List.le_antisymm x y) h1 h2 p
theorem rising_pw : ∀ {zs : List (List Nat)} {p : List Nat}, risingS (mkS p) (zs.map mkS) = true → (p :: zs).Pairwise (· ≤ ·)
  | [], _, _ => by simp
  | x :: r, p, h => by
    obtain ⟨h1, h2⟩ := Bool.and_eq_true_iff.mp (show (!ltCps (mkS x).cps.toList (mkS p).cps.toList && risingS (mkS x) (r.map mkS)) = true from h)
    have ih := rising_pw h2
    have h1 : ¬ x < p := by
      have e1 : (mkS x).cps.toList = x := by simp
      have e2 : (mkS p).cps.toList = p := by simp
      rw [e1, e2, cps_lt] at h1
      simpa using h1
    refine List.pairwise_cons.mpr ⟨fun y hy => ?_, ih⟩
    rcases List.mem_cons.mp hy with rfl | hy
    · exact List.not_lt.mp h1
    · exact List.le_trans (List.not_lt.mp h1) ((List.pairwise_cons.mp ih).1 y hy)
theorem sorted_pw {zs : List (List Nat)} (h : sortedS (zs.map mkS) = true) : zs.Pairwise (· ≤ ·) := by
  cases zs with
  | nil => simp
  | cons p r => exact rising_pw h
theorem srt_eq {zs ys : List (List Nat)} (h : sortedS (zs.map mkS) = true) (p : zs.Perm ys) : zs = srt ys :=
  pw_uniq (sorted_pw h) (srt_pw ys) (p.trans (srt_perm ys).symm)
theorem strs'_map : ∀ ws : List (List Nat), strsD' (ws.map .str) = some ws
  | [] => rfl
  | w :: ws => by show (strsD' (ws.map .str)).map (w :: ·) = _; rw [strs'_map ws]; rfl
theorem hSort_t {S : Sto} {q : QD} {ys : List (List Nat)} (l : ys.length < 64) (h : q (.lst ((srt ys).map .str)) S) : hSort (.lst (ys.map .str)) S q :=
  hSort_i (strs'_map ys) l fun zs hp hs => by rw [srt_eq hs hp]; exact h
theorem hSort_all {S : Sto} {q : QD} {ys : List (List Nat)} (h : q (.lst ((srt ys).map .str)) S) : hSort (.lst (ys.map .str)) S q :=
  hSort_s (strs'_map ys) fun zs hp hs => by rw [srt_eq hs hp]; exact h
end DL

namespace DL
open PySem PySem.Spec PyProof.Rows L2

/-! ### facts of own exceptions -/
theorem exObj_ok {K : PySem.W.Frag} {C : Addr} (h : exObj K C = true) : ∃ nm q N bs bm sn sub ab col dd k0 k1 k2 k3 k5, K.lookup C = some (excClassObj nm q C N bs bm true sn sub ab col dd k0 k1 k2 k3 k5 "ValueError.__new__") ∧ PySem.HandSPX.refsVE bm = true := by
  unfold exObj at h
  split at h
  · rename_i dd cd sl ho
    split at h
    · rename_i C' bm k0 k1 k2 k3 n k5 hm hs
      simp only [Bool.and_eq_true, beq_iff_eq, Bool.not_eq_true'] at h
      obtain ⟨rfl, rfl, h1, h2, h3⟩ := h
      obtain ⟨c1, c2, c3, c4, c5, c6, c7, c8, c9, c10, c11⟩ := cd
      have hm : c3 = _ := hm
      have h1 : c11 = false := h1
      have h2 : c6 = true := h2
      subst hm h1 h2
      have hs2 : sl = #[k0, k1, k2, k3, some (.builtin "ValueError.__new__"), k5] := by rw [← Array.toList_inj]; exact hs
      subst hs2
      exact ⟨c1, c5, c4, c2, bm, c7, c8, c9, c10, dd, k0, k1, k2, k3, k5, ho, h3⟩
    · cases h
  · cases h
theorem oex_ok {K : PySem.W.Frag} {n : Nat} (c : fOex n K = true) : OexC K (cA K n) := by
  obtain ⟨c1, c⟩ := He.ba c
  obtain ⟨c2, c⟩ := He.ba c
  obtain ⟨c3, c⟩ := He.ba c
  obtain ⟨c4, c5⟩ := He.ba c
  exact ⟨exObj_ok c1, He.eqO_ok c2, of_decide_eq_true c3, of_decide_eq_true c4, c5⟩
theorem sup_ok {K : PySem.W.Frag} {n : Nat} (c : fSup n K = true) : SupC K (cA K n) := by
  obtain ⟨c1, c⟩ := He.ba c
  obtain ⟨c2, c⟩ := He.ba c
  obtain ⟨c3, c⟩ := He.ba c
  obtain ⟨c4, c5⟩ := He.ba c
  exact ⟨oex_ok c1, He.eqO_ok c2, of_decide_eq_true c3, of_decide_eq_true c4, He.eqO_ok c5⟩
/-- the text of such an __init__ -/
structure ExTxt (d : DefF) (x0 x1 m f : Str) : Prop where
  cl : d.cl = (["__class__"] : List Str)
  par : ∃ ar, (d.params.posonlyargs ++ d.params.args).head? = some ar ∧ ar.arg = x0
  sn : d.scope.names.lookup ("super" : Str) = some .globalImplicit
  cn : d.scope.names.lookup ("__class__" : Str) = some .free
  sc : NdefX.NScope [x0, x1, "__class__"] [x0, x1] ["__class__"] d.scope
  body : ∃ rest, (∀ c cl, InitS ⟨d.name, d.qual, d.params, d.body, d.scope, cl, c⟩ m rest) ∧ Rest1 rest x0 x1 m f
  bind : ∀ (cl : List (Str × Addr)) (doc pm cdv ct : Value) (us : List Value), us.length = [x0, x1].length → bindArgs (PySem.W.fnX d.name d.qual d.params d.body d.scope cl .none .none doc pm none cdv ct) ⟨us, []⟩ = pure ([x0, x1].zip us)
  d0 : (x0 == ("__debug__" : Str)) = false
  d1 : (x1 == ("__debug__" : Str)) = false
  c0 : (x0 == ("__classdict__" : Str)) = false
  c1 : (x1 == ("__classdict__" : Str)) = false
theorem exat_ok {P : Program} {w : World} {K : PySem.W.Frag} {mg : Str → Option Value} {base : Heap} {d : DefF} {n f : Nat} {m : List Nat} {x x0 x1 : Str} (had : d.ad K = aM n "__init__" K) (e : fnF K (d.ad K) = d.val) (c : d.ok K = true) (cf : fInit n (fN f) P.main.file K = true) (hm : mg x = some (.ref (cA K n))) (hs : mg "super" = none)
    (ht : (P.main.scope.names.lookup ("super" : Str)).isSome = false) (T : ExTxt d x0 x1 (mkS m) (fN f)) : ExAt P w K mg base 1 x n m f := by
  obtain ⟨c1, cf⟩ := He.ba cf
  obtain ⟨c2, cf⟩ := He.ba cf
  obtain ⟨c3, cf⟩ := He.ba cf
  obtain ⟨c4, cf⟩ := He.ba cf
  obtain ⟨c5, c6⟩ := He.ba cf
  have S := sup_ok c1
  obtain ⟨oc, od, osl, dV, kV, doc, pm, an, cdv, ct, cl, hcl, q⟩ := DefF.is e
  rw [T.cl] at hcl
  obtain ⟨kp, k2⟩ := He.ba c
  rw [q] at k2
  obtain ⟨hcd, _⟩ := He.ba (show (PySem.W.codeIn K cdv d.qual && _) = true from k2)
  rw [had] at q
  unfold inB at c4
  rw [q] at c4
  dsimp only at c4
  split at c4
  · rename_i y cc cd _
    obtain ⟨c7, c8⟩ := He.ba c4
    have hy : y = "__class__" := by simpa using hcl
    subst hy
    split at c7
    · rename_i u1 u2 C' u3 hcc
      have hC : C' = cA K n := by simpa using c7
      subst hC
      split at c8
      · rename_i v1 v2 vs v3 hcode
        split at c8
        · rename_i fl tf hvs
          obtain ⟨rest, hi, hr⟩ := T.body
          refine ⟨aM n "__init__" K, _, [x0, x1], hm, S.oex, He.eqO_ok c2, of_decide_eq_true c3, fn_exc1 (k := 0) (F := ⟨d.name, d.qual, d.params, d.body, d.scope, [("__class__", cc)], cd⟩) ⟨S, rfl, ⟨_, _, _, hcc⟩, ⟨oc, od, osl, doc, pm, ct, q⟩, T.par, ⟨_, _, vs, _, fl, tf, hcode, hvs, c8⟩, ht, hcd, T.sn, T.cn, hi _ _⟩ ⟨doc, pm, ct, oc, od, osl, rfl, q⟩ T.sc hs hr (He.eqO_ok c5) (He.eqO_ok c6) T.d0 T.d1 T.c0 T.c1, ?_⟩
          exact Binds.all fun us hl => T.bind _ _ _ _ _ us hl
        · cases c8
      · cases c8
    · cases c7
  · cases c4
/-! ### the caught errors -/
theorem fld_ok {K : PySem.W.Frag} {n : Nat} (c : fFld n K = true) : FldC K (cA K n) := by
  obtain ⟨c1, c2⟩ := He.ba c
  exact ⟨xfB_ok c1, fun f hf => He.eqO_ok (List.all_eq_true.mp c2 f hf)⟩
theorem errs_ok {K : PySem.W.Frag} {errs : List Nat} (c : fErrs errs K = true) : ErrsOk K [.ref (He.ga K "HouseError"), .ref (He.ga K "Missing"), .ref (He.ga K "NothingLeft")] errs := fun n hn => by
  obtain ⟨c1, c2⟩ := He.ba (List.all_eq_true.mp c n hn)
  exact ⟨fld_ok c1, of_decide_eq_true c2⟩
/-! ### tables -/
/-! ### a law that makes closures -/
def sp_lawT (P : Addr) (q : Str) : SpD := fun ds S qq e => ∃ cells, ds = [.rol cells] ∧ IntsD cells ∧ S P = some (.tbl q) ∧ (∀ p, p ≠ P → S p = none) ∧ ∀ S', qq (.bl true) S'
theorem law_upT {K : PySem.W.Frag} {H : Hp} {a P : Addr} {q : Str} {ns : List Int} (hS : SqL K H a (ns.map V.int)) (hP : H P = some (.tbl #[])) : upSp K (sp_lawT P q) [.ref a] H (fun v _ => v = .bl true) fun _ _ _ => False := by
  refine ⟨fun _ => False, [.rol (ns.map .int)], fun p => if p = P then some (.tbl q) else none, fun d _ => d = .bl true, fun _ _ _ => False, ⟨fun b o z => ?_, fun _ z => z.elim⟩, ⟨_, _, rfl, ⟨a, _, rfl, ?_, rps_ints ns⟩, rfl⟩,
    ⟨_, rfl, fun d hd => ?_, if_pos rfl, fun p hp => if_neg hp, fun _ => rfl⟩, fun d v S' H' _ _ r h => ?_, fun _ _ _ _ _ _ _ _ _ _ _ z => z.elim⟩
  · by_cases hb : b = P
    · subst hb
      have z := (if_pos rfl).symm.trans z
      cases z
      exact ⟨#[], hP, trivial, fun pos cv h => by cases h⟩
    · exact absurd ((if_neg hb).symm.trans z) (by simp)
  · refine hS.imp (fun h => ⟨h, ?_, fun z => z⟩) id
    by_cases ha : a = P
    · subst ha
      rcases h with h | ⟨o, h⟩ <;> (rw [hP] at h; cases h)
    · exact if_neg ha
  · obtain ⟨n, _, rfl⟩ := List.mem_map.mp hd
    exact ⟨n, rfl⟩
  · have h : d = .bl true := h
    subst h
    exact r
theorem fn_okT {P : Program} {w : World} {K : PySem.W.Frag} {mg : Str → Option Value} {base : Heap} {k kk : Nat} {x qual : Str} {st : Stmt} {f : Addr} {fd : FuncData} {N ps : List Str} {dvs : List V} {kws : List (Str × V)} {sp : SpD} {Gx : Tx → GX} {m n : Nat} {t : Tx → SD} {cd tab : Addr}
    (F : FunD K x qual (defArgs st) (defBody st) (defScope st) dvs kws f fd) (Sc : FnScope N ps (defScope st)) (hcd : fd.code = .ref cd) (TB : LamX.TabB base mg cd tab)
    (hN : ∀ x, (Gx x).N = N) (hs : ∀ x, (Gx x).sc = (defScope st).names) (hth : ∀ x, (Gx x).th = some x) (hjs : ∀ x y, cellSlots (Gx x) = cellSlots (Gx y)) (g : ∀ x, x.th = ⟨P, w, K, mg, base, kk + 1⟩ → GL (Gx x).gl (Gx x).tb P w K mg base k)
    (lg : ∀ x, x.th = ⟨P, w, K, mg, base, kk + 1⟩ → GL (Gx x).lgl (Gx x).tb P w K mg base kk)
    (len : ∀ ds S q e, sp ds S q e → ds.length = ps.length) (ht : ∀ x, compB m n (Gx x) (defBody st) = t x) (law : ∀ x : Tx, x.th = ⟨P, w, K, mg, base, kk + 1⟩ → x.tab = tab → x.qual = qual ++ ".<locals>." → x.js = cellSlots (Gx x) → codeT sp (t x) N.length) : FnOk P w K mg base (L2N.CX P w) (k + 1) f fd ps (upSp K sp) := by
  obtain ⟨oc, od, dV, kV, doc, pm, an, cdv, ct, osl, rfl, lk, hc, _, _⟩ := F.ex
  have hcd : cdv = .ref cd := hcd
  subst hcd
  refine fn_of lk hc Sc (fun vs H Q E h => ?_) fun A outer s H vs Q E hr h => ?_
  · obtain ⟨B, ds, S, q, e, _, r, h, _⟩ := h
    rw [← r.length]; exact len ds S q e h
  · obtain ⟨B, ds, S, q, e, R, r, h, g', ex⟩ := h
    generalize hX : cxOf (L2N.CX P w) P w K mg base N qual (defScope st) f (.ref cd) A outer s H E = X
    have hxx : ∃ x : Tx, x = ⟨⟨P, w, K, mg, base, kk + 1⟩, X.env.cells, tab, qual ++ ".<locals>.", cellSlots (Gx ⟨⟨P, w, K, mg, base, kk + 1⟩, [], 0, "", []⟩)⟩ := ⟨_, rfl⟩
    obtain ⟨x, hx⟩ := hxx
    have x1 : x.th = ⟨P, w, K, mg, base, kk + 1⟩ := by rw [hx]
    have x2 : x.js = cellSlots (Gx x) := by rw [hx]; exact hjs _ _
    have x3 : x.tab = tab := by rw [hx]
    have x4 : x.qual = qual ++ ".<locals>." := by rw [hx]
    have x5 : x.cl = X.env.cells := by rw [hx]
    subst hX
    have o : XOk (Gx x) (cxOf (L2N.CX P w) P w K mg base N qual (defScope st) f (.ref cd) A outer s H E) := ⟨(hN x).symm, (hN x) ▸ Sc.nd, (hs x).symm, rfl, fun _ _ _ _ => rfl, passes_of rfl, Sc.kind, (g x x1).ok hr, fun y hy => by
      rw [hth x] at hy
      cases hy
      exact ⟨⟨kk, x1, fun A hA => (lg x x1).ok hA⟩, x5, x2, x4, ⟨cd, x3 ▸ TB, rfl⟩, fun _ => rfl⟩⟩
    refine ⟨_, (compB_ok m o n (defBody st)).up B (fun cls d _ H' => E cls d H') (L2N.takes_of rfl rfl rfl rfl), ?_⟩
    rw [ht x]
    refine ⟨startD N.length ds, S, endD q e, R, sl_start r, fun C dd fs us ρ' σ' S' H' e' R' _ hd hn ru he => ex C dd fs us S' H' e' R' hd hn ru he, ⟨fun ρ σ S' H' e' R' L' q' => g' .non .non S' H' e' R' rfl q', g', fun _ _ _ _ _ _ _ z => z.elim, fun _ _ _ _ _ _ _ z => z.elim⟩, law x x1 x3 x4 x2 ds S q e h⟩
/-- the law of a row that makes closures, kept -/
structure LawOkT (P : Program) (k : Nat) (x : Str) (K : PySem.W.Frag) (w : World) (mg : Str → Option Value) (f : Addr) (fd : FuncData) (c tab : Addr) (q : Str) : Prop where
  b : ∀ (s : Shared) (v : Value), BindsTo s fd ⟨[v], []⟩ [(x, v)]
  ok : ∀ base : Heap, K.In base → base.Ns mainGlobals mg → LamX.TabB base mg c tab → FnOk P w K mg base (L2N.CX P w) k f fd [x] (upSp K (sp_lawT tab q))
theorem law_walkT {l : PySem.W.OpenLaw} {n k : Nat} {q : Program} {loose : List Str} {XP : (Str → Option Value) → Heap → Prop} {YP : World → Heap → Prop} {d : DefRec} {x : Str}
    (hn : l.most = some n) (hn2 : n ≤ sizeLine) (hdf : d.params.defaults = []) (hr : Room k callerA)
    (F : ∀ (w : World) (mg : Str → Option Value) (fa : Addr) (h : Heap), YP w h → h.Ns mainGlobals mg → mg d.name = some (.ref fa) → ∃ (K : PySem.W.Frag) (fd : FuncData) (c tab : Addr) (qq : Str), K.In h ∧ h.get? tab = some { cls := .none, data := .fields #[] } ∧ K.lookup tab = none ∧ PySem.W.CodeHd h c tab ∧ LawOkT l.prog k x K w mg fa fd c tab qq) :
    PySem.W.WalkO q loose XP YP l.row.toRowW d [] (fun f vs => PySem.call f vs) := by
  refine LamX.walk_ofTsE (CX := fun w => L2N.CX l.prog w) (x := x) hn hn2 hdf hr (fun w mg fa h Y G hm => ?_) fun w H s e s' hc => ?_
  · obtain ⟨K, fd, c, tab, qq, KX, h1, h2, h3, L⟩ := F w mg fa h Y G hm
    have one : ∀ {φ : Addr × Addr → Prop}, φ (c, tab) → ∀ p ∈ [(c, tab)], φ p := fun {φ} h p hp => by
      obtain rfl := List.mem_singleton.mp hp
      exact h
    exact ⟨K, KX, fd, [(c, tab)], _, one h1, one h2, one h3, L.b, fun H a ns _ _ hT hS => law_upT hS (hT (c, tab) (List.mem_singleton.mpr rfl)), fun base b1 b2 hT => L.ok base b1 b2 (hT (c, tab) (List.mem_singleton.mpr rfl))⟩
  · obtain ⟨a, B, H', cls, d, _, _, _, _, _, _, _, z⟩ := hc
    exact z
theorem binds_of {K : PySem.W.Frag} {fd : FuncData} {ps : List Str} (h : ∀ (s : Shared) (us : List Value), us.length = ps.length → BindsTo s fd ⟨us, []⟩ (ps.zip us)) : L2.Binds K fd ps [] := fun s us _ hl => by
  rw [List.append_nil] at hl ⊢
  exact h s us hl
/-! ### defs that are told cells -/
theorem fnt_at {P : Program} {w : World} {K : PySem.W.Frag} {mg : Str → Option Value} {base : Heap} {k : Nat} {y x qual : Str} {params : Arguments} {body : List Stmt} {scope : Scope} {dvs : List V} {kws : List (Str × V)} {f : Addr} {fd : FuncData} {ps : List Str} {sp : SpD}
    (F : FunD K x qual params body scope dvs kws f fd) (hm : mg y = some (.ref f)) (hb : L2.Binds K fd ps []) (G : FnOk P w K mg base (L2N.CX P w) k f fd ps (upSp K sp)) : FnT P w K mg base k y sp := ⟨f, fd, ps, hm, F.kp, hb, G⟩
theorem fna_at {P : Program} {w : World} {K : PySem.W.Frag} {mg : Str → Option Value} {base : Heap} {k : Nat} {y x qual : Str} {params : Arguments} {body : List Stmt} {scope : Scope} {dvs : List V} {kws : List (Str × V)} {f : Addr} {fd : FuncData} {ps : List Str} {sp : SpD} {sg : Sig}
    (F : FunD K x qual params body scope dvs kws f fd) (hm : mg y = some (.ref f)) (hents : ∀ e ∈ sg.ents, EntOk K fd ps [] e) (hdf : sg.dfs = []) (G : FnOk P w K mg base (L2N.CX P w) k f fd ps (upSp K sp)) : FnAt P w K mg base k y sg sp := ⟨f, fd, ps, [], [], hm, F.kp, hents, .nil, fun _ _ _ => by rw [hdf]; rfl, G⟩
end DL

namespace DL
open PySem PySem.Spec PyProof.Rows L2

/-! ### defs with positional defaults -/
/-- the values of a def's defaults, at hand -/
structure DflI (K : PySem.W.Frag) (x qual : Str) (params : Arguments) (body : List Stmt) (scope : Scope) (fd : FuncData) (du : List Value) : Prop where
  ex : ∃ (T : Addr) (o : Obj) (n : Nat) (kV doc pm : Value) (an : Option Addr) (cdv ct : Value), fd = PySem.W.fnOf x qual params body scope (.ref T) kV doc pm an cdv ct ∧ K.lookup T = some o ∧ o.data = .seq du.toArray n
section
variable {K : PySem.W.Frag} {x qual : Str} {params : Arguments} {body : List Stmt} {scope : Scope} {dvs : List V} {kws : List (Str × V)} {f : Addr} {fd : FuncData} {ps : List Str}
theorem dfl_of (F : FunD K x qual params body scope dvs kws f fd) (hd : dvs ≠ []) : ∃ du, Vals dvs du ∧ DflI K x qual params body scope fd du := by
  obtain ⟨oc, od, dV, kV, doc, pm, an, cdv, ct, osl, rfl, lk, hcd, hD, hK⟩ := F.ex
  rcases hD with ⟨e, _⟩ | ⟨_, T, o, its, m, rfl, lT, oT, rT⟩
  · exact absurd e hd
  · exact ⟨its, rT, T, o, m, kV, doc, pm, an, cdv, ct, rfl, lT, oT⟩
theorem ent_atD {e : Ent} {du : List Value} (I : DflI K x qual params body scope fd du) (m : Nat) (hm : du.length = m)
    (h : ∀ (T : Addr) (kV doc pm : Value) (an : Option Addr) (cdv ct : Value) (us ws its : List Value), us.length = e.n → ws.length = e.ks.length → its.length = m →
      ∃ k, bindArgs (PySem.W.fnOf x qual params body scope (.ref T) kV doc pm an cdv ct) ⟨us, e.ks.zip ws⟩ = seqItems? (.ref T) >>= k ∧ k (some its.toArray) = pure (ps.zip (pick .none e.src us ws its))) : EntOk K fd ps du e := by
  obtain ⟨T, o, n, kV, doc, pm, an, cdv, ct, rfl, lT, oT⟩ := I.ex
  refine ⟨fun s us ws X l1 l2 => ?_⟩
  obtain ⟨k, e1, e2⟩ := h T kV doc pm an cdv ct us ws du l1 l2 hm
  refine BindsTo.of_looks fun M => ?_
  rw [e1]
  exact looks_items X lT oT (.of_pure e2)
end
theorem tup0_ok {a : PySem.W.Frag → Addr} {K : PySem.W.Frag} (c : fTup0 a K = true) : ∀ B S H, Rp ⟨K, B⟩ S H (.tup []) (He.Dv.v K (.adr a)) := by
  have c2 : (match K.lookup (a K) with
    | some ⟨.type t, _, .seq its _, _⟩ => t == "tuple" && (decide (its.size ≤ sizeLine) && dvB [] its.toList)
    | _ => false) = true := c
  split at c2
  · rename_i t dd its n2 sl e2
    obtain ⟨h1, h2⟩ := He.ba c2
    obtain ⟨h2, h3⟩ := He.ba h2
    have h1 : t = "tuple" := by simpa using h1
    subst h1
    obtain ⟨vs, r, z⟩ := dvB_ok h3
    exact fun B S H => ⟨a K, vs, rfl, .inr ⟨_, its, n2, e2, rfl, rfl, of_decide_eq_true h2, r⟩, z _ _ _⟩
  · cases c2
/-! ### keyword-only defaults -/
/-- the values of a def's keyword-only defaults -/
structure KwdI (K : PySem.W.Frag) (x qual : Str) (params : Arguments) (body : List Stmt) (scope : Scope) (fd : FuncData) (nm : List Str) (mv : List Value) : Prop where
  ex : ∃ (D : Addr) (doc pm : Value) (an : Option Addr) (cdv ct : Value), fd = PySem.W.fnOf x qual params body scope .none (.ref D) doc pm an cdv ct ∧ ∀ q ∈ nm.zip mv, PySem.W.nsIn K D q.1 = some (some q.2)
section
variable {K : PySem.W.Frag} {x qual : Str} {params : Arguments} {body : List Stmt} {scope : Scope} {kws : List (Str × V)} {f : Addr} {fd : FuncData} {ps : List Str}
theorem kwd_of (F : FunD K x qual params body scope [] kws f fd) (hk : kws ≠ []) : ∃ mv, Vals (kws.map (·.2)) mv ∧ KwdI K x qual params body scope fd (kws.map (·.1)) mv := by
  obtain ⟨oc, od, dV, kV, doc, pm, an, cdv, ct, osl, rfl, lk, hcd, hD, hK⟩ := F.ex
  rcases hD with ⟨_, rfl⟩ | ⟨z, _⟩
  · rcases hK with e | ⟨D, rfl, hq⟩
    · exact absurd e hk
    · obtain ⟨mv, hl, rk, hks⟩ := kwd_vals hq
      exact ⟨mv, rk, D, doc, pm, an, cdv, ct, rfl, hks⟩
  · exact absurd rfl z
theorem ent_atK {e : Ent} {nm : List Str} {mv : List Value} (I : KwdI K x qual params body scope fd nm mv) (m : Nat) (hm : mv.length = m)
    (h : ∀ (D : Addr) (doc pm : Value) (an : Option Addr) (cdv ct : Value) (us ws its : List Value), us.length = e.n → ws.length = e.ks.length → its.length = m →
      ∃ ms : List (Str × Value), (∀ q ∈ ms, q ∈ nm.zip its) ∧ KwChain D ms (bindArgs (PySem.W.fnOf x qual params body scope .none (.ref D) doc pm an cdv ct) ⟨us, e.ks.zip ws⟩) (ps.zip (pick .none e.src us ws its))) : EntOk K fd ps mv e := by
  obtain ⟨D, doc, pm, an, cdv, ct, rfl, hks⟩ := I.ex
  refine ⟨fun s us ws X l1 l2 => ?_⟩
  obtain ⟨ms, h1, h2⟩ := h D doc pm an cdv ct us ws mv l1 l2 hm
  exact BindsTo.of_looks fun M => KwChain.looks X (fun q hq => hks q (h1 q hq)) h2
end
end DL

namespace K11
open PySem PySem.Spec PyProof.Rows L2 DL
def az : List Nat := [97, 98, 99, 100, 101, 102, 103, 104, 105, 106, 107, 108, 109, 110, 111, 112, 113, 114, 115, 116, 117, 118, 119, 120, 121, 122]
def AZ : List Nat := [65, 66, 67, 68, 69, 70, 71, 72, 73, 74, 75, 76, 77, 78, 79, 80, 81, 82, 83, 84, 85, 86, 87, 88, 89, 90]
/-- a value that may be asked about: told by a built-in class -/
def okV (v : D) : Prop := (tyN v).isSome = true ∧ match v with
  | .str cs => cs.length ≤ 1000
  | _ => True
/-- letters -/
def okL (ls : List Nat) : Prop := ls.length ≤ 1000 ∧ ∀ c ∈ ls, c < 1114112
def isRising (v : D) (ls : List Nat) (most : Int) : Bool := match v with
  | .str cs => (decide (1 ≤ (cs.length : Int)) && decide ((cs.length : Int) ≤ most)) && (cs.all (fun c => decide (c ∈ ls)) && decide (cs.Pairwise (· < ·)))
  | _ => false
def isString (v : D) (ls : List Nat) : Bool := match v with
  | .str cs => cs.all fun c => decide (c ∈ ls)
  | _ => false
def isCut (v : D) (ls : List Nat) : Bool := match v with
  | .str [a, b, c] => decide (a ∈ [124, 45]) && (decide (b ∈ ls) && decide (c ∈ ls))
  | _ => false
def isPart (v : D) (ls : List Nat) : Bool := match v with
  | .str cs => decide (cs = [46]) || isRising (.str cs) ls ls.length
  | _ => false
def cutOr (f : D) (fs : List Nat) : Bool := match f with
  | .str [] => true
  | f => isCut f fs
def isLine (v : D) (fs us : List Nat) : Bool := match v with
  | .tup [a, b, c, d, e, f] => (isPart a fs && (isPart b fs && (isPart c fs && isPart d fs))) && (isPart e us && cutOr f fs)
  | _ => false
def okLn (v : D) : Prop := (tyN v).isSome = true ∧ match v with
  | .str cs => cs.length ≤ 1000
  | .tup xs => ∀ x ∈ xs, okV x
  | _ => True
def none4 : List Nat := [110, 111, 110, 101]
/-- a line's words -/
def lnD (ws : List (List Nat)) : D := .tup (ws.map .str)
def lastW (w : List Nat) : List Nat := if w = [] then none4 else w
def lineText (ws : List (List Nat)) : List Nat := TL.joinL [32] (ws.take 5 ++ [lastW (ws.getD 5 [])])
def bookText (fs us : List Nat) (lns : List (List (List Nat))) : List Nat := TL.joinL [10] ((fs ++ [32] ++ us) :: lns.map lineText)
def lineOf (cs : List Nat) : D :=
  let ws := TL.spl [32] 0 [] cs
  if ws.length = 6 ∧ [] ∉ ws then .tup ((ws.take 5 ++ [if ws.getD 5 [] = none4 then [] else ws.getD 5 []]).map .str) else .non
/-- a book in the store -/
def bkO (fs us : List Nat) (ls : List D) : O := .ins 4 [(8, .str fs), (7, .str us), (25, .lst ls)]
def sp_is_rising : SpD := fun ds S q e => ∃ v ls most, ds = [v, .str ls, .int most] ∧ okV v ∧ (∀ c ∈ ls, c < 1114112) ∧ q (.bl (isRising v ls most)) S
def sp_is_faces : SpD := fun ds S q e => ∃ v, ds = [v] ∧ okV v ∧ q (.bl (isRising v az 6)) S
def sp_is_cutters : SpD := fun ds S q e => ∃ v, ds = [v] ∧ okV v ∧ q (.bl (isRising v AZ 4)) S
def sp_is_string : SpD := fun ds S q e => ∃ v ls, ds = [v, .str ls] ∧ okV v ∧ q (.bl (isString v ls)) S
def sp_is_cut : SpD := fun ds S q e => ∃ v ls, ds = [v, .str ls] ∧ okV v ∧ q (.bl (isCut v ls)) S
def sp_is_part : SpD := fun ds S q e => ∃ v ls, ds = [v, .str ls] ∧ okV v ∧ okL ls ∧ q (.bl (isPart v ls)) S
def sp_is_line : SpD := fun ds S q e => ∃ v fs us, ds = [v, .str fs, .str us] ∧ okLn v ∧ okL fs ∧ okL us ∧ q (.bl (isLine v fs us)) S
def sp_line_of : SpD := fun ds S q e => ∃ cs, ds = [.str cs] ∧ cs.length ≤ 100000 ∧ q (lineOf cs) S
def sp_Book___init__ : SpD := fun ds S q e => ∃ p fs us ls, ds = [.ref p, .str fs, .str us, .tup ls] ∧ S p = some (.ins 4 []) ∧ isRising (.str fs) az 6 = true ∧ isRising (.str us) AZ 4 = true ∧ ls.length ≤ 8 ∧ (∀ l ∈ ls, okLn l ∧ isLine l fs us = true) ∧ q .non (S.set p (bkO fs us ls))
def sp_Book_lines : SpD := fun ds S q e => ∃ p fs us ls, ds = [.ref p] ∧ S p = some (bkO fs us ls) ∧ q (.lst ls) S
/-- a line of six words, not too long -/
def ln6 (ws : List (List Nat)) : Prop := ws.length = 6 ∧ ∀ w ∈ ws, w.length ≤ 1000
def sp_Book_text : SpD := fun ds S q e => ∃ p fs us lns, ds = [.ref p] ∧ S p = some (bkO fs us (lns.map lnD)) ∧ fs.length ≤ 1000 ∧ us.length ≤ 1000 ∧ lns.length ≤ 8 ∧ (∀ ws ∈ lns, ln6 ws) ∧ q (.str (bookText fs us lns)) S
def sp_Book___eq__ : SpD := fun ds S q e => ∃ p p2 fs us ls fs2 us2 ls2, ds = [.ref p, .ref p2] ∧ S p = some (bkO fs us ls) ∧ S p2 = some (bkO fs2 us2 ls2) ∧ eqOk (.lst ls) = true ∧ eqOk (.lst ls2) = true ∧ q (.bl (decide (fs = fs2) && (decide (us = us2) && deq (.lst ls) (.lst ls2)))) S
/-- words of a book -/
def Gp (ls p : List Nat) : Prop := p = [46] ∨ (p ≠ [] ∧ p.Sublist ls)
def Gc (fs f : List Nat) : Prop := ∃ x y z, f = [x, y, z] ∧ x ∈ [124, 45] ∧ y ∈ fs ∧ z ∈ fs
def Gl (fs us : List Nat) (ws : List (List Nat)) : Prop := ∃ a b c d e f, ws = [a, b, c, d, e, f] ∧ Gp fs a ∧ Gp fs b ∧ Gp fs c ∧ Gp fs d ∧ Gp us e ∧ (f = [] ∨ Gc fs f)
structure Gb (fs us : List Nat) (lns : List (List (List Nat))) : Prop where
  f1 : fs.Sublist az
  f2 : fs ≠ []
  f3 : fs.length ≤ 6
  u1 : us.Sublist AZ
  u2 : us ≠ []
  u3 : us.length ≤ 4
  l1 : ∀ ws ∈ lns, Gl fs us ws
def sp_Book_read : SpD := fun ds S q e => ∃ fs us lns, ds = [.str (bookText fs us lns)] ∧ Gb fs us lns ∧ lns.length ≤ 8 ∧ ∀ p, S p = none → q (.ref p) (S.set p (bkO fs us (lns.map lnD)))
/-! the law's own draws -/
def sp__law_some_faces : SpD := fun ds S q e => ∃ p o most, ds = [.ref p, .int most] ∧ S p = some o ∧ BagO o ∧ 1 ≤ most ∧ most ≤ 26 ∧ ∀ cs o', cs.Sublist az → cs ≠ [] → (cs.length : Int) ≤ most → BagO o' → q (.str cs) (S.set p o')
def sp__law_some_cutters : SpD := fun ds S q e => ∃ p o most, ds = [.ref p, .int most] ∧ S p = some o ∧ BagO o ∧ 1 ≤ most ∧ most ≤ 26 ∧ ∀ cs o', cs.Sublist AZ → cs ≠ [] → (cs.length : Int) ≤ most → BagO o' → q (.str cs) (S.set p o')
def sp__law_part : SpD := fun ds S q e => ∃ p o ls, ds = [.ref p, .str ls] ∧ S p = some o ∧ BagO o ∧ ls.length ≤ 1000 ∧ ∀ cs o', Gp ls cs → BagO o' → q (.str cs) (S.set p o')
def sp__law_some_cut : SpD := fun ds S q e => ∃ p o fs, ds = [.ref p, .str fs] ∧ S p = some o ∧ BagO o ∧ fs ≠ [] ∧ fs.length ≤ 1000 ∧ ∀ cs o', Gc fs cs → BagO o' → q (.str cs) (S.set p o')
def sp__law_some_line : SpD := fun ds S q e => ∃ p o fs us, ds = [.ref p, .str fs, .str us] ∧ S p = some o ∧ BagO o ∧ fs ≠ [] ∧ fs.length ≤ 1000 ∧ us.length ≤ 1000 ∧ ∀ ws o', Gl fs us ws → BagO o' → q (lnD ws) (S.set p o')
def sp__law_some_book : SpD := fun ds S q e => ∃ p o a b c, ds = [.ref p, .lst [.int a, .int b, .int c]] ∧ S p = some o ∧ BagO o ∧ 1 ≤ a ∧ a ≤ 6 ∧ 1 ≤ b ∧ b ≤ 4 ∧ 0 ≤ c ∧ c ≤ 8 ∧ ∀ fs us lns o', Gb fs us lns → (lns.length : Int) ≤ c → BagO o' → q (.lst [.str fs, .str us, .lst (lns.map lnD)]) (S.set p o')
def sp__law_line_text : SpD := fun ds S q e => ∃ ws, ds = [lnD ws] ∧ ln6 ws ∧ q (.str (lineText ws)) S
def sp__law_book_text : SpD := fun ds S q e => ∃ fs us lns, ds = [.lst [.str fs, .str us, .lst (lns.map lnD)]] ∧ fs.length ≤ 1000 ∧ us.length ≤ 1000 ∧ lns.length ≤ 8 ∧ (∀ ws ∈ lns, ln6 ws) ∧ q (.str (bookText fs us lns)) S

/-! contracts where own errors are raised -/
def tInvalidFaces : List Nat := [73, 110, 118, 97, 108, 105, 100, 70, 97, 99, 101, 115]
def tInvalidCutters : List Nat := [73, 110, 118, 97, 108, 105, 100, 67, 117, 116, 116, 101, 114, 115]
def tInvalidLine : List Nat := [73, 110, 118, 97, 108, 105, 100, 76, 105, 110, 101]
/-- the first line, behind i others, that a book does not take -/
def firstBad (fs us : List Nat) : Nat → List D → Option Nat
  | _, [] => none
  | i, l :: r => if decide (8 ≤ i) || !isLine l fs us then some i else firstBad fs us (i + 1) r
/-- an error: its class, its text, its field and what it holds -/
structure Er where
  C : Nat
  m : List Nat
  f : Nat
  d : D
def Er.fs (x : Er) : List (Nat × D) := [(x.f, x.d), (codeN, .str x.m)]
/-- what stops Book(f, u, *ls) -/
def bookErr (f u : D) (ls : List D) : Option Er :=
  if isRising f az 6 = false then some ⟨16, tInvalidFaces, 9, f⟩ else
  if isRising u AZ 4 = false then some ⟨14, tInvalidCutters, 9, u⟩ else
  match f, u with
  | .str fs, .str us => (firstBad fs us 0 ls).map fun (i : Nat) => ⟨18, tInvalidLine, 1, .int i⟩
  | _, _ => none
def sp_Book_init : SpD := fun ds S q e => ∃ p f u ls, ds = [.ref p, f, u, .tup ls] ∧ S p = some (.ins 4 []) ∧ okV f ∧ okV u ∧ ls.length ≤ 1000 ∧ (∀ l ∈ ls, okLn l) ∧ (∀ fs us, f = .str fs → u = .str us → bookErr f u ls = none → q .non (S.set p (bkO fs us ls))) ∧ ∀ x, bookErr f u ls = some x → e x.C x.fs S
def sp_Book___len__ : SpD := fun ds S q e => ∃ p fs us ls, ds = [.ref p] ∧ S p = some (bkO fs us ls) ∧ q (.int ls.length) S
def sp_field : SpD := fun _ _ _ _ => False
/-- lines that no book over fs, us takes -/
def badL (fs us : List Nat) (l : D) : Prop := okLn l ∧ isLine l fs us = false
def sp__law_bad_lines : SpD := fun ds S q e => ∃ fs us l, ds = [.lst [.str fs, .str us, l]] ∧ fs.Sublist az ∧ fs ≠ [] ∧ us.Sublist AZ ∧ us ≠ [] ∧ fs.length ≤ 6 ∧ us.length ≤ 4 ∧ ∀ ls, ls ≠ [] → ls.length ≤ 100 → (∀ l ∈ ls, badL fs us l) → q (.lst ls) S

/-! machines -/
def isNum (v : D) (lo hi : Int) : Bool := match v with
  | .int i => decide (lo ≤ i) && decide (i ≤ hi)
  | _ => false
def sp_is_number : SpD := fun ds S q e => ∃ v lo hi, ds = [v, .int lo, .int hi] ∧ (tyN v).isSome = true ∧ q (.bl (isNum v lo hi)) S
def tInvalidTable : List Nat := [73, 110, 118, 97, 108, 105, 100, 84, 97, 98, 108, 101]
def tInvalidBad : List Nat := [73, 110, 118, 97, 108, 105, 100, 66, 97, 100]
/-- the items of a list or tuple, lists of the store too -/
def seqV (S : Sto) (d : D) : Option (List D) := match d with
  | .lst xs => some xs
  | .tup xs => some xs
  | .ref p => (match S p with
    | some (.lst xs) => some xs
    | _ => none)
  | _ => none
/-- a value that may be asked whether it is such a sequence, its items so -/
def SqV (S : Sto) (P : D → Prop) (d : D) : Prop := (∃ xs, (d = .lst xs ∨ d = .tup xs ∨ ∃ p, d = .ref p ∧ S p = some (.lst xs)) ∧ xs.length ≤ 100000 ∧ ∀ x ∈ xs, P x) ∨ (okV d ∧ seqV S d = none)
def rowOk (S : Sto) (n size : Nat) (r : D) : Bool := match seqV S r with
  | some xs => decide (xs.length = n) && xs.all fun x => isNum x 0 ((size : Int) - 1)
  | none => false
/-- the first of some rows that is none of a table, behind i others -/
def badRow (S : Sto) (n size : Nat) : Nat → List D → Option Int
  | _, [] => none
  | i, r :: rs => if rowOk S n size r then badRow S n size (i + 1) rs else some i
def tabErr (S : Sto) (n : Nat) (t : D) : Option Int := match seqV S t with
  | some rows => if 1 ≤ rows.length ∧ rows.length ≤ 200 then badRow S n rows.length 0 rows else some (-1)
  | none => some (-1)
def stepUp (y : Option D) (x : D) : Bool := match y, x with
  | some (.int a), .int b => decide (a < b)
  | _, _ => false
def badNum (size : Nat) (all : List D) : Nat → List D → Option Int
  | _, [] => none
  | i, x :: xs => if isNum x 0 ((size : Int) - 1) && (decide (i = 0) || stepUp all[i - 1]? x) then badNum size all (i + 1) xs else some i
def badErr (S : Sto) (size : Nat) (b : D) : Option Int := match seqV S b with
  | some xs => badNum size xs 0 xs
  | none => some (-1)
def sp_check_table : SpD := fun ds S q e => ∃ fs t, ds = [.str fs, t] ∧ fs.length ≤ 1000 ∧ SqV S (SqV S okV) t ∧ (tabErr S fs.length t = none → q .non S) ∧ ∀ i, tabErr S fs.length t = some i → e 31 [(1, .int i), (codeN, .str tInvalidTable)] S
def sp_check_bad : SpD := fun ds S q e => ∃ b size, ds = [b, .int (size : Nat)] ∧ SqV S okV b ∧ (badErr S size b = none → q .non S) ∧ ∀ i, badErr S size b = some i → e 12 [(1, .int i), (codeN, .str tInvalidBad)] S
def rowsT (S : Sto) (t : D) : List D := ((seqV S t).getD []).map fun r => .tup ((seqV S r).getD [])
def mcO (fs : List Nat) (rows bad : List D) : O := .ins 34 [(8, .str fs), (30, .lst rows), (17, .lst bad)]
def macErr (S : Sto) (f t b : D) : Option Er :=
  if isRising f az 6 = false then some ⟨16, tInvalidFaces, 9, f⟩ else
  match f with
  | .str fs => (match tabErr S fs.length t with
    | some i => some ⟨31, tInvalidTable, 1, .int i⟩
    | none => (badErr S ((seqV S t).getD []).length b).map fun i => ⟨12, tInvalidBad, 1, .int i⟩)
  | _ => none
def rowsG (S : Sto) (rows : List D) : List D := rows.map fun r => .tup ((seqV S r).getD [])
def sp_Machine_init : SpD := fun ds S q e => ∃ p f t b, ds = [.ref p, f, t, b] ∧ S p = some (.ins 34 []) ∧ okV f ∧ SqV S (SqV S okV) t ∧ SqV S okV b ∧
  (∀ fs rows bs, f = .str fs → macErr S f t b = none → seqV S t = some rows → seqV S b = some bs → q .non (S.set p (mcO fs (rowsG S rows) bs))) ∧ ∀ x, macErr S f t b = some x → e x.C x.fs S
def sp_Machine_size : SpD := fun ds S q e => ∃ p fs rows bad, ds = [.ref p] ∧ S p = some (mcO fs rows bad) ∧ q (.int rows.length) S
def sp__law_some_machine : SpD := fun ds S q e => ∃ p o fs most, ds = [.ref p, .str fs, .int most] ∧ S p = some o ∧ BagO o ∧ fs.length ≤ 26 ∧ 1 ≤ most ∧ most ≤ 50 ∧
  ∀ (rows : List D) (bad : List Int) o', rows ≠ [] → (rows.length : Int) ≤ most → (∀ r ∈ rows, ∃ xs : List Int, r = .tup (xs.map .int) ∧ xs.length = fs.length ∧ ∀ x ∈ xs, 0 ≤ x ∧ x < rows.length) → bad.Sublist ((List.range rows.length).map fun (i : Nat) => (i : Int)) → BagO o' → q (.lst [.lst rows, .lst (bad.map .int)]) (S.set p o')
def sp_Machine_table : SpD := fun ds S q e => ∃ p fs rows bad, ds = [.ref p] ∧ S p = some (mcO fs rows bad) ∧ ∀ a, S a = none → q (.ref a) (S.set a (.lst rows))
def sp_Machine_bad : SpD := fun ds S q e => ∃ p fs rows bad, ds = [.ref p] ∧ S p = some (mcO fs rows bad) ∧ ∀ a, S a = none → q (.ref a) (S.set a (.lst bad))
def sp_Machine_repr : SpD := fun ds S q e => ∃ p fs rows bad, ds = [.ref p] ∧ S p = some (mcO fs rows bad) ∧ rows.length ≤ 1000 ∧ q (.str ([77, 97, 99, 104, 105, 110, 101, 40] ++ TL.tl (toString (rows.length : Int)) ++ [32, 115, 116, 97, 116, 101, 115, 41])) S
def rowsI (rs : List (List Int)) : List D := rs.map fun xs => .tup (xs.map .int)
/-- other is asked: a machine, or a value that is none -/
def sp_Machine_eq : SpD := fun ds S q e => ∃ p y fs rs, ∃ bs : List Int, ds = [.ref p, y] ∧ S p = some (mcO fs (rowsI rs) (bs.map .int)) ∧ (rs.length ≤ 1000 ∧ bs.length ≤ 1000 ∧ ∀ r ∈ rs, r.length ≤ 1000) ∧
  ((∃ p2 fs2 rs2, ∃ (bs2 : List Int), y = .ref p2 ∧ S p2 = some (mcO fs2 (rowsI rs2) (bs2.map .int)) ∧ (rs2.length ≤ 1000 ∧ bs2.length ≤ 1000 ∧ ∀ r ∈ rs2, r.length ≤ 1000) ∧ q (.bl (decide (fs = fs2) && (decide (rs = rs2) && decide (bs = bs2)))) S) ∨ ((tyN y).isSome = true ∧ q (.bl false) S))

def en_is_number : Nat → Ent
  | 0 => ⟨3, [], [.p 0, .p 1, .p 2]⟩
  | _ => ⟨0, [], []⟩
def sg_is_number : Sig := ⟨[en_is_number 0], [], false⟩
def en_is_rising : Nat → Ent
  | 0 => ⟨3, [], [.p 0, .p 1, .p 2]⟩
  | _ => ⟨0, [], []⟩
def sg_is_rising : Sig := ⟨[en_is_rising 0], [], false⟩
def en_is_faces : Nat → Ent
  | 0 => ⟨1, [], [.p 0]⟩
  | _ => ⟨0, [], []⟩
def sg_is_faces : Sig := ⟨[en_is_faces 0], [], false⟩
def en_check_table : Nat → Ent
  | 0 => ⟨2, [], [.p 0, .p 1]⟩
  | _ => ⟨0, [], []⟩
def sg_check_table : Sig := ⟨[en_check_table 0], [], false⟩
def en_check_bad : Nat → Ent
  | 0 => ⟨2, [], [.p 0, .p 1]⟩
  | _ => ⟨0, [], []⟩
def sg_check_bad : Sig := ⟨[en_check_bad 0], [], false⟩
def en_Machine___init__ : Nat → Ent
  | 0 => ⟨4, [], [.p 0, .p 1, .p 2, .p 3]⟩
  | 1 => ⟨3, [], [.p 0, .p 1, .p 2, .d 0]⟩
  | _ => ⟨0, [], []⟩
def sg_Machine___init__ : Sig := ⟨[en_Machine___init__ 0, en_Machine___init__ 1], [.tup []], false⟩
def en_Machine_size : Nat → Ent
  | 0 => ⟨1, [], [.p 0]⟩
  | _ => ⟨0, [], []⟩
def sg_Machine_size : Sig := ⟨[en_Machine_size 0], [], false⟩
def en_Machine_table : Nat → Ent
  | 0 => ⟨1, [], [.p 0]⟩
  | _ => ⟨0, [], []⟩
def sg_Machine_table : Sig := ⟨[en_Machine_table 0], [], false⟩
def en_Machine_bad : Nat → Ent
  | 0 => ⟨1, [], [.p 0]⟩
  | _ => ⟨0, [], []⟩
def sg_Machine_bad : Sig := ⟨[en_Machine_bad 0], [], false⟩
def en_Machine___eq__ : Nat → Ent
  | 0 => ⟨2, [], [.p 0, .p 1]⟩
  | _ => ⟨0, [], []⟩
def sg_Machine___eq__ : Sig := ⟨[en_Machine___eq__ 0], [], false⟩
def en_Machine___repr__ : Nat → Ent
  | 0 => ⟨1, [], [.p 0]⟩
  | _ => ⟨0, [], []⟩
def sg_Machine___repr__ : Sig := ⟨[en_Machine___repr__ 0], [], false⟩
def en__law_open : Nat → Ent
  | 0 => ⟨1, [], [.p 0]⟩
  | _ => ⟨0, [], []⟩
def sg__law_open : Sig := ⟨[en__law_open 0], [], false⟩
def en__law_draw : Nat → Ent
  | 0 => ⟨2, [], [.p 0, .p 1]⟩
  | _ => ⟨0, [], []⟩
def sg__law_draw : Sig := ⟨[en__law_draw 0], [], false⟩
def en__law_same : Nat → Ent
  | 0 => ⟨2, [], [.p 0, .p 1]⟩
  | _ => ⟨0, [], []⟩
def sg__law_same : Sig := ⟨[en__law_same 0], [], false⟩
def en__law_letters : Nat → Ent
  | 0 => ⟨3, [], [.p 0, .p 1, .p 2]⟩
  | _ => ⟨0, [], []⟩
def sg__law_letters : Sig := ⟨[en__law_letters 0], [], false⟩
def en__law_some_faces : Nat → Ent
  | 0 => ⟨2, [], [.p 0, .p 1]⟩
  | _ => ⟨0, [], []⟩
def sg__law_some_faces : Sig := ⟨[en__law_some_faces 0], [], false⟩
def en__law_some_machine : Nat → Ent
  | 0 => ⟨3, [], [.p 0, .p 1, .p 2]⟩
  | _ => ⟨0, [], []⟩
def sg__law_some_machine : Sig := ⟨[en__law_some_machine 0], [], false⟩
def en_law : Nat → Ent
  | 0 => ⟨1, [], [.p 0]⟩
  | _ => ⟨0, [], []⟩
def sg_law : Sig := ⟨[en_law 0], [], false⟩
section
abbrev N_is_number : List Str := ["value", "least", "most"]
abbrev p_is_number : List Str := ["value", "least", "most"]
theorem sc_is_number : FnScope N_is_number p_is_number (defScope s_is_number) := ⟨rfl, rfl, rfl, by decide +kernel, rfl, by decide +kernel, by decide +kernel⟩
def G_is_number : GX := ⟨N_is_number, (defScope s_is_number).names, [("isinstance", .bi), ("bool", .bi), ("int", .bi)], [], true, GT.nil, [], none, []⟩
def t_is_number : SD := (sRet (kAnd (eCall (b2 hIsi) (aCons (eVar 0) (aCons (eC (.ty "int")) aNil))) (kAnd (kNot (eCall (b2 hIsi) (aCons (eVar 0) (aCons (eC (.ty "bool")) aNil)))) (kChain hLe hLe (eVar 1) (eVar 0) (eVar 2)))))
theorem c_is_number : compB 60 12 (G_is_number) (defBody s_is_number) = t_is_number := by kernel_rfl
abbrev N_is_rising : List Str := ["value", "letters", "most", "letter"]
abbrev p_is_rising : List Str := ["value", "letters", "most"]
theorem sc_is_rising : FnScope N_is_rising p_is_rising (defScope s_is_rising) := ⟨rfl, rfl, rfl, by decide +kernel, rfl, by decide +kernel, by decide +kernel⟩
def G_is_rising : GX := ⟨N_is_rising, (defScope s_is_rising).names, [("list", .bi), ("sorted", .bi), ("set", .bi), ("all", .bi), ("len", .bi), ("isinstance", .bi), ("str", .bi)], [], true, GT.nil, [], none, []⟩
def t_is_rising : SD := (sSeq (kSif (kOrT (eNotT (kTr (eCall (b2 hIsi) (aCons (eVar 0) (aCons (eC (.ty "str")) aNil))))) (eNotT (eB (kChain hLe hLe (eC (.int 1)) (eCall (b1 hLen) (aCons (eVar 0) aNil)) (eVar 2))))) (sRet (eC (.bl false))) sNext) (sRet (kAnd (eCall (b1 hAll) (aCons (kLc (iIt (eVar 0)) (dName 3) eYes (eOp hIn (eVar 3) (eVar 1)) [3]) aNil)) (eOp hEq (eCall (b1 hList) (aCons (eVar 0) aNil)) (kSS (eVar 0))))))
theorem c_is_rising : compB 60 12 (G_is_rising) (defBody s_is_rising) = t_is_rising := by kernel_rfl
abbrev N_is_faces : List Str := ["value"]
abbrev p_is_faces : List Str := ["value"]
theorem sc_is_faces : FnScope N_is_faces p_is_faces (defScope s_is_faces) := ⟨rfl, rfl, rfl, by decide +kernel, rfl, by decide +kernel, by decide +kernel⟩
def G_is_faces : GX := ⟨N_is_faces, (defScope s_is_faces).names, [("is_rising", .fn sp_is_rising sg_is_rising), ("LOWER", .val (.str [97, 98, 99, 100, 101, 102, 103, 104, 105, 106, 107, 108, 109, 110, 111, 112, 113, 114, 115, 116, 117, 118, 119, 120, 121, 122]))], [], true, GT.nil, [], none, []⟩
def t_is_faces : SD := (sRet (kCallK sg_is_rising (en_is_rising 0) sp_is_rising (aCons (eVar 0) (aCons (eC (.str [97, 98, 99, 100, 101, 102, 103, 104, 105, 106, 107, 108, 109, 110, 111, 112, 113, 114, 115, 116, 117, 118, 119, 120, 121, 122])) (aCons (eC (.int 6)) aNil))) aNil))
theorem c_is_faces : compB 60 12 (G_is_faces) (defBody s_is_faces) = t_is_faces := by kernel_rfl
abbrev N_check_table : List Str := ["faces", "table", "at", "row", "state"]
abbrev p_check_table : List Str := ["faces", "table"]
theorem sc_check_table : FnScope N_check_table p_check_table (defScope s_check_table) := ⟨rfl, rfl, rfl, by decide +kernel, rfl, by decide +kernel, by decide +kernel⟩
def G_check_table : GX := ⟨N_check_table, (defScope s_check_table).names, [("enumerate", .bi), ("all", .bi), ("is_number", .fn sp_is_number sg_is_number), ("len", .bi), ("InvalidTable", .exc 31 [73, 110, 118, 97, 108, 105, 100, 84, 97, 98, 108, 101] 1), ("isinstance", .bi), ("list", .bi), ("tuple", .bi)], [], true, ⟨[], [], [], [], [], [("Machine", "MOST", (.int 200))], [], [], []⟩, [], none, []⟩
def t_check_table : SD := (sSeq (kSif (kOrT (eNotT (kTr (eCall (b2 hIsi) (aCons (eVar 1) (aCons (kTup (aCons (eC (.ty "list")) (aCons (eC (.ty "tuple")) aNil))) aNil))))) (eNotT (eB (kChain hLe hLe (eC (.int 1)) (eCall (b1 hLen) (aCons (eVar 1) aNil)) (eC (.int 200)))))) (sRaise 31 [73, 110, 118, 97, 108, 105, 100, 84, 97, 98, 108, 101] 1 (eUn hNeg (eC (.int 1)))) sNext) (kFor (iEnu (aCons (eVar 1) aNil)) (kTupG 2 (dCons (dName 2) (dCons (dName 3) kNil))) (sSeq (kSif (kOrT (eNotT (kTr (eCall (b2 hIsi) (aCons (eVar 3) (aCons (kTup (aCons (eC (.ty "list")) (aCons (eC (.ty "tuple")) aNil))) aNil))))) (eB (eOp hNe (eCall (b1 hLen) (aCons (eVar 3) aNil)) (eCall (b1 hLen) (aCons (eVar 0) aNil))))) (sRaise 31 [73, 110, 118, 97, 108, 105, 100, 84, 97, 98, 108, 101] 1 (eVar 2)) sNext) (kSif (eNotT (kTr (eCall (b1 hAll) (aCons (kLc (iIt (eVar 3)) (dName 4) eYes (kCallK sg_is_number (en_is_number 0) sp_is_number (aCons (eVar 4) (aCons (eC (.int 0)) (aCons (eOp hSub (eCall (b1 hLen) (aCons (eVar 1) aNil)) (eC (.int 1))) aNil))) aNil) [4]) aNil)))) (sRaise 31 [73, 110, 118, 97, 108, 105, 100, 84, 97, 98, 108, 101] 1 (eVar 2)) sNext))))
theorem c_check_table : compB 60 12 (G_check_table) (defBody s_check_table) = t_check_table := by kernel_rfl
abbrev N_check_bad : List Str := ["bad", "size", "at", "state"]
abbrev p_check_bad : List Str := ["bad", "size"]
theorem sc_check_bad : FnScope N_check_bad p_check_bad (defScope s_check_bad) := ⟨rfl, rfl, rfl, by decide +kernel, rfl, by decide +kernel, by decide +kernel⟩
def G_check_bad : GX := ⟨N_check_bad, (defScope s_check_bad).names, [("enumerate", .bi), ("is_number", .fn sp_is_number sg_is_number), ("InvalidBad", .exc 12 [73, 110, 118, 97, 108, 105, 100, 66, 97, 100] 1), ("isinstance", .bi), ("list", .bi), ("tuple", .bi)], [], true, GT.nil, [], none, []⟩
def t_check_bad : SD := (sSeq (kSif (eNotT (kTr (eCall (b2 hIsi) (aCons (eVar 0) (aCons (kTup (aCons (eC (.ty "list")) (aCons (eC (.ty "tuple")) aNil))) aNil))))) (sRaise 12 [73, 110, 118, 97, 108, 105, 100, 66, 97, 100] 1 (eUn hNeg (eC (.int 1)))) sNext) (kFor (iEnu (aCons (eVar 0) aNil)) (kTupG 2 (dCons (dName 2) (dCons (dName 3) kNil))) (kSif (kOrT (eNotT (kTr (kCallK sg_is_number (en_is_number 0) sp_is_number (aCons (eVar 3) (aCons (eC (.int 0)) (aCons (eOp hSub (eVar 1) (eC (.int 1))) aNil))) aNil))) (kAndT (eB (eOp hGt (eVar 2) (eC (.int 0)))) (eB (eOp hLe (eVar 3) (eOp hIx (eVar 0) (eOp hSub (eVar 2) (eC (.int 1)))))))) (sRaise 12 [73, 110, 118, 97, 108, 105, 100, 66, 97, 100] 1 (eVar 2)) sNext)))
theorem c_check_bad : compB 60 12 (G_check_bad) (defBody s_check_bad) = t_check_bad := by kernel_rfl
abbrev N_Machine___init__ : List Str := ["self", "faces", "table", "bad", "row"]
abbrev p_Machine___init__ : List Str := ["self", "faces", "table", "bad"]
theorem sc_Machine___init__ : FnScope N_Machine___init__ p_Machine___init__ (defScope s_Machine___init__) := ⟨rfl, rfl, rfl, by decide +kernel, rfl, by decide +kernel, by decide +kernel⟩
def G_Machine___init__ : GX := ⟨N_Machine___init__, (defScope s_Machine___init__).names, [("list", .bi), ("tuple", .bi), ("check_bad", .fn sp_check_bad sg_check_bad), ("len", .bi), ("check_table", .fn sp_check_table sg_check_table), ("is_faces", .fn sp_is_faces sg_is_faces), ("InvalidFaces", .exc 16 [73, 110, 118, 97, 108, 105, 100, 70, 97, 99, 101, 115] 9)], [], true, ⟨[], [], [], [("own_bad", 34), ("own_table", 34), ("faces", 34)], [], [], [], [], []⟩, [], none, []⟩
def t_Machine___init__ : SD := (sSeq (kSif (eNotT (kTr (kCallK sg_is_faces (en_is_faces 0) sp_is_faces (aCons (eVar 1) aNil) aNil))) (sRaise 16 [73, 110, 118, 97, 108, 105, 100, 70, 97, 99, 101, 115] 9 (eVar 1)) sNext) (sSeq (sExpr (kCallK sg_check_table (en_check_table 0) sp_check_table (aCons (eVar 1) (aCons (eVar 2) aNil)) aNil)) (sSeq (sExpr (kCallK sg_check_bad (en_check_bad 0) sp_check_bad (aCons (eVar 3) (aCons (eCall (b1 hLen) (aCons (eVar 2) aNil)) aNil)) aNil)) (sSeq (sPutF (some 8) [34] (eVar 1) (eVar 0)) (sSeq (sPutF (some 30) [34] (kLc (iIt (eVar 2)) (dName 4) eYes (eCall (b1 hTupOf) (aCons (eVar 4) aNil)) [4]) (eVar 0)) (sPutF (some 17) [34] (eCall (b1 hList) (aCons (eVar 3) aNil)) (eVar 0)))))))
theorem c_Machine___init__ : compB 60 12 (G_Machine___init__) (defBody s_Machine___init__) = t_Machine___init__ := by kernel_rfl
abbrev N_Machine_size : List Str := ["self"]
abbrev p_Machine_size : List Str := ["self"]
theorem sc_Machine_size : FnScope N_Machine_size p_Machine_size (defScope s_Machine_size) := ⟨rfl, rfl, rfl, by decide +kernel, rfl, by decide +kernel, by decide +kernel⟩
def G_Machine_size : GX := ⟨N_Machine_size, (defScope s_Machine_size).names, [("len", .bi)], [], true, ⟨[], [], [("own_table", 34, .fld)], [], [], [], [], [], []⟩, [], none, []⟩
def t_Machine_size : SD := (sRet (eCall (b1 hLen) (aCons (kAtt (some 30) [(34, .fld)] (eVar 0)) aNil)))
theorem c_Machine_size : compB 60 12 (G_Machine_size) (defBody s_Machine_size) = t_Machine_size := by kernel_rfl
abbrev N_Machine_table : List Str := ["self"]
abbrev p_Machine_table : List Str := ["self"]
theorem sc_Machine_table : FnScope N_Machine_table p_Machine_table (defScope s_Machine_table) := ⟨rfl, rfl, rfl, by decide +kernel, rfl, by decide +kernel, by decide +kernel⟩
def G_Machine_table : GX := ⟨N_Machine_table, (defScope s_Machine_table).names, [("list", .bi)], [(80, 15)], true, ⟨[], [], [("own_table", 34, .fld)], [], [], [], [], [], []⟩, [], none, []⟩
def t_Machine_table : SD := (sRet (eCall (muR (b1 hList)) (aCons (kAtt (some 30) [(34, .fld)] (eVar 0)) aNil)))
theorem c_Machine_table : compB 60 12 (G_Machine_table) (defBody s_Machine_table) = t_Machine_table := by kernel_rfl
abbrev N_Machine_bad : List Str := ["self"]
abbrev p_Machine_bad : List Str := ["self"]
theorem sc_Machine_bad : FnScope N_Machine_bad p_Machine_bad (defScope s_Machine_bad) := ⟨rfl, rfl, rfl, by decide +kernel, rfl, by decide +kernel, by decide +kernel⟩
def G_Machine_bad : GX := ⟨N_Machine_bad, (defScope s_Machine_bad).names, [("list", .bi)], [(83, 15)], true, ⟨[], [], [("own_bad", 34, .fld)], [], [], [], [], [], []⟩, [], none, []⟩
def t_Machine_bad : SD := (sRet (eCall (muR (b1 hList)) (aCons (kAtt (some 17) [(34, .fld)] (eVar 0)) aNil)))
theorem c_Machine_bad : compB 60 12 (G_Machine_bad) (defBody s_Machine_bad) = t_Machine_bad := by kernel_rfl
abbrev N_Machine___eq__ : List Str := ["self", "other"]
abbrev p_Machine___eq__ : List Str := ["self", "other"]
theorem sc_Machine___eq__ : FnScope N_Machine___eq__ p_Machine___eq__ (defScope s_Machine___eq__) := ⟨rfl, rfl, rfl, by decide +kernel, rfl, by decide +kernel, by decide +kernel⟩
def G_Machine___eq__ : GX := ⟨N_Machine___eq__, (defScope s_Machine___eq__).names, [("isinstance", .bi)], [], true, ⟨[], [("bad", 34, (.fix sg_Machine_bad sp_Machine_bad)), ("table", 34, (.fix sg_Machine_table sp_Machine_table))], [("own_bad", 34, .fld), ("own_table", 34, .fld), ("faces", 34, .fld)], [], [], [], [("Machine", [(34, true)])], [], []⟩, [], none, []⟩
def t_Machine___eq__ : SD := (sSeq (kSif (kOrT (eNotT (kTr (kIsO [(34, true)] (eVar 1)))) (eB (eOp hNe (kAtt (some 8) [(34, .fld)] (eVar 0)) (kAtt (some 8) [(34, .fld)] (eVar 1))))) (sRet (eC (.bl false))) sNext) (sRet (kAnd (eOp hEq (kAtt (some 30) [(34, .fld)] (eVar 0)) (kMth none [(34, (fK sg_Machine_table (en_Machine_table 0) sp_Machine_table))] (eVar 1) aNil aNil)) (eOp hEq (kAtt (some 17) [(34, .fld)] (eVar 0)) (kMth none [(34, (fK sg_Machine_bad (en_Machine_bad 0) sp_Machine_bad))] (eVar 1) aNil aNil)))))
theorem c_Machine___eq__ : compB 60 12 (G_Machine___eq__) (defBody s_Machine___eq__) = t_Machine___eq__ := by kernel_rfl
abbrev N_Machine___repr__ : List Str := ["self"]
abbrev p_Machine___repr__ : List Str := ["self"]
theorem sc_Machine___repr__ : FnScope N_Machine___repr__ p_Machine___repr__ (defScope s_Machine___repr__) := ⟨rfl, rfl, rfl, by decide +kernel, rfl, by decide +kernel, by decide +kernel⟩
def G_Machine___repr__ : GX := ⟨N_Machine___repr__, (defScope s_Machine___repr__).names, [("len", .bi)], [], true, ⟨[], [], [("own_table", 34, .fld)], [], [], [], [], [], []⟩, [], none, []⟩
def t_Machine___repr__ : SD := (sRet (kJoin [(eC (.str [77, 97, 99, 104, 105, 110, 101, 40])), (kFmt (eCall (b1 hLen) (aCons (kAtt (some 30) [(34, .fld)] (eVar 0)) aNil))), (eC (.str [32, 115, 116, 97, 116, 101, 115, 41]))]))
theorem c_Machine___repr__ : compB 60 12 (G_Machine___repr__) (defBody s_Machine___repr__) = t_Machine___repr__ := by kernel_rfl
abbrev N__law_open : List Str := ["_law_script", "_law_mixed", "_law_cell"]
abbrev p__law_open : List Str := ["_law_script"]
theorem sc__law_open : FnScope N__law_open p__law_open (defScope s__law_open) := ⟨rfl, rfl, rfl, by decide +kernel, rfl, by decide +kernel, by decide +kernel⟩
def G__law_open : GX := ⟨N__law_open, (defScope s__law_open).names, [("list", .bi), ("int", .bi)], [(168, 11)], true, GT.nil, [], none, []⟩
def t__law_open : SD := (sSeq (sAsg (eC (.int 10042)) (dName 1)) (sSeq (kFor (iIt (eSl hSl (eVar 0) oNo (oSome (eC (.int 63))))) (dName 2) (sAsg (eOp hMod (eCall (b1 hInt) (aCons (eOp hAdd (eOp hAdd (eOp hMul (eVar 1) (eC (.int 52321))) (eOp hMul (eOp hMod (eCall (b1 hInt) (aCons (eVar 2) aNil)) (eC (.int 1000033))) (eC (.int 977)))) (eC (.int 29))) aNil)) (eC (.int 2147483549))) (dName 1))) (sRet (kLstM (aCons (eCall (b1 hList) (aCons (eSl hSl (eVar 0) oNo (oSome (eC (.int 63)))) aNil)) (aCons (eC (.int 0)) (aCons (eC (.int 0)) (aCons (eVar 1) (aCons (eC (.int 0)) aNil)))))))))
theorem c__law_open : compB 60 12 (G__law_open) (defBody s__law_open) = t__law_open := by kernel_rfl
abbrev N__law_draw : List Str := ["_law_bag", "_law_many", "_law_cell", "_law_digit", "_law_twice"]
abbrev p__law_draw : List Str := ["_law_bag", "_law_many"]
theorem sc__law_draw : FnScope N__law_draw p__law_draw (defScope s__law_draw) := ⟨rfl, rfl, rfl, by decide +kernel, rfl, by decide +kernel, by decide +kernel⟩
def G__law_draw : GX := ⟨N__law_draw, (defScope s__law_draw).names, [("int", .bi), ("len", .bi), ("abs", .bi)], [], true, GT.nil, [], none, []⟩
def t__law_draw : SD := (sSeq (sAsg (eOp hAdd (eOp hIx (eVar 0) (eC (.int 4))) (eC (.int 1))) (dSub (eVar 0) (eC (.int 4)) hSet)) (sSeq (kSif (kAndT (eB (eOp hEq (eOp hIx (eVar 0) (eC (.int 2))) (eC (.int 0)))) (eB (eOp hLt (eOp hIx (eVar 0) (eC (.int 1))) (eCall (b1 hLen) (aCons (eOp hIx (eVar 0) (eC (.int 0))) aNil))))) (sSeq (sAsg (eOp hIx (eOp hIx (eVar 0) (eC (.int 0))) (eOp hIx (eVar 0) (eC (.int 1)))) (dName 2)) (sSeq (sAsg (eOp hAdd (eOp hIx (eVar 0) (eC (.int 1))) (eC (.int 1))) (dSub (eVar 0) (eC (.int 1)) hSet)) (kSif (eB (eOp hGe (eCall (b1 hAbs) (aCons (eVar 2) aNil)) (eOp hPow (eC (.int 10)) (eC (.int 18))))) (sAsg (eCall (b1 hAbs) (aCons (eVar 2) aNil)) (dSub (eVar 0) (eC (.int 2)) hSet)) (sAsg (eOp hMod (eCall (b1 hInt) (aCons (eOp hAdd (eOp hAdd (eOp hMul (eOp hIx (eVar 0) (eC (.int 3))) (eC (.int 45589))) (eOp hMul (eOp hMod (eCall (b1 hInt) (aCons (eVar 2) aNil)) (eC (.int 1000033))) (eC (.int 701)))) (eC (.int 53))) aNil)) (eC (.int 2147483587))) (dSub (eVar 0) (eC (.int 3)) hSet))))) sNext) (sSeq (kSif (eB (eOp hGt (eOp hIx (eVar 0) (eC (.int 2))) (eC (.int 0)))) (sSeq (sAsg (eOp hMod (eCall (b1 hInt) (aCons (eOp hIx (eVar 0) (eC (.int 2))) aNil)) (eVar 1)) (dName 3)) (sSeq (sAsg (eOp hDiv (eOp hIx (eVar 0) (eC (.int 2))) (eVar 1)) (dSub (eVar 0) (eC (.int 2)) hSet)) (sRet (eVar 3)))) sNext) (sSeq (sAsg (eOp hMod (eCall (b1 hInt) (aCons (eOp hAdd (eOp hMul (eOp hIx (eVar 0) (eC (.int 3))) (eOp hIx (eVar 0) (eC (.int 3)))) (eOp hMul (eOp hIx (eVar 0) (eC (.int 4))) (eC (.int 8111)))) aNil)) (eC (.int 2147483629))) (dName 4)) (sSeq (sAsg (eOp hMod (eCall (b1 hInt) (aCons (eOp hAdd (eOp hAdd (eOp hMul (eVar 4) (eC (.int 17041))) (eOp hMul (eOp hIx (eVar 0) (eC (.int 3))) (eC (.int 48049)))) (eC (.int 70001))) aNil)) (eC (.int 2147483587))) (dSub (eVar 0) (eC (.int 3)) hSet)) (sRet (eOp hMod (eCall (b1 hInt) (aCons (eOp hDiv (eOp hIx (eVar 0) (eC (.int 3))) (eC (.int 64))) aNil)) (eVar 1))))))))
theorem c__law_draw : compB 60 12 (G__law_draw) (defBody s__law_draw) = t__law_draw := by kernel_rfl
abbrev N__law_same : List Str := ["_law_found", "_law_due", "_law_a", "_law_b"]
abbrev p__law_same : List Str := ["_law_found", "_law_due"]
theorem sc__law_same : FnScope N__law_same p__law_same (defScope s__law_same) := ⟨rfl, rfl, rfl, by decide +kernel, rfl, by decide +kernel, by decide +kernel⟩
def G__law_same (n : Nat) : GX := ⟨N__law_same, (defScope s__law_same).names, [("isinstance", .bi), ("str", .bi), ("int", .bi), ("bool", .bi), ("list", .bi), ("tuple", .bi), ("all", .bi), ("zip", .bi), ("_law_same", .fn (sp_same n) sg__law_same), ("len", .bi)], [], true, GT.nil, [], none, []⟩
def t__law_same (n : Nat) : SD := (sSeq (kSif (kOrT (eB (eOp hIs (eVar 1) (eC .non))) (eB (eOp hIs (eVar 0) (eC .non)))) (sRet (kAnd (eOp hIs (eVar 1) (eC .non)) (eOp hIs (eVar 0) (eC .non)))) sNext) (sSeq (kSif (kTr (eCall (b2 hIsi) (aCons (eVar 1) (aCons (kTup (aCons (eC (.ty "list")) (aCons (eC (.ty "tuple")) aNil))) aNil)))) (sSeq (kSif (eB (eOp hNe (eCall (b2 hIsi) (aCons (eVar 0) (aCons (eC (.ty "list")) aNil))) (eCall (b2 hIsi) (aCons (eVar 1) (aCons (eC (.ty "list")) aNil))))) (sRet (eC (.bl false))) sNext) (sSeq (kSif (kOrT (eB (eOp hNe (eCall (b2 hIsi) (aCons (eVar 0) (aCons (eC (.ty "tuple")) aNil))) (eCall (b2 hIsi) (aCons (eVar 1) (aCons (eC (.ty "tuple")) aNil))))) (eB (eOp hNe (eCall (b1 hLen) (aCons (eVar 0) aNil)) (eCall (b1 hLen) (aCons (eVar 1) aNil))))) (sRet (eC (.bl false))) sNext) (sRet (eCall (b1 hAll) (aCons (kLc (iZip2 (aCons (eVar 0) (aCons (eVar 1) aNil))) (kTupG 2 (dCons (dName 2) (dCons (dName 3) kNil))) eYes (kCallK sg__law_same (en__law_same 0) (sp_same n) (aCons (eVar 2) (aCons (eVar 3) aNil)) aNil) [2, 3]) aNil))))) sNext) (sSeq (kSif (kTr (eCall (b2 hIsi) (aCons (eVar 0) (aCons (kTup (aCons (eC (.ty "list")) (aCons (eC (.ty "tuple")) aNil))) aNil)))) (sRet (eC (.bl false))) sNext) (sSeq (kSif (eB (eOp hNe (eCall (b2 hIsi) (aCons (eVar 0) (aCons (eC (.ty "bool")) aNil))) (eCall (b2 hIsi) (aCons (eVar 1) (aCons (eC (.ty "bool")) aNil))))) (sRet (eC (.bl false))) sNext) (sSeq (kSif (eB (eOp hNe (eCall (b2 hIsi) (aCons (eVar 0) (aCons (eC (.ty "int")) aNil))) (eCall (b2 hIsi) (aCons (eVar 1) (aCons (eC (.ty "int")) aNil))))) (sRet (eC (.bl false))) sNext) (sRet (kAnd (eOp hEq (eCall (b2 hIsi) (aCons (eVar 0) (aCons (eC (.ty "str")) aNil))) (eCall (b2 hIsi) (aCons (eVar 1) (aCons (eC (.ty "str")) aNil)))) (eOp hEq (eVar 0) (eVar 1)))))))))
theorem c__law_same (n : Nat) : compB 60 12 (G__law_same n) (defBody s__law_same) = t__law_same n := by kernel_rfl
abbrev N__law_letters : List Str := ["_law_bag", "_law_letters_here", "_law_many", "_law_found", "_law_low", "_law_k", "_law_at"]
abbrev p__law_letters : List Str := ["_law_bag", "_law_letters_here", "_law_many"]
theorem sc__law_letters : FnScope N__law_letters p__law_letters (defScope s__law_letters) := ⟨rfl, rfl, rfl, by decide +kernel, rfl, by decide +kernel, by decide +kernel⟩
def G__law_letters : GX := ⟨N__law_letters, (defScope s__law_letters).names, [("range", .bi), ("_law_draw", .fn sp_draw sg__law_draw), ("len", .bi)], [], true, GT.nil, [], none, []⟩
def t__law_letters : SD := (sSeq (sAsg (kTup (aCons (eC (.str [])) (aCons (eC (.int 0)) aNil))) (kTupG 2 (dCons (dName 3) (dCons (dName 4) kNil)))) (sSeq (kFor (kRg1 (aCons (eVar 2) aNil)) (dName 5) (sSeq (sAsg (eOp hAdd (eVar 4) (kCallK sg__law_draw (en__law_draw 0) sp_draw (aCons (eVar 0) (aCons (eOp hSub (eOp hSub (eCall (b1 hLen) (aCons (eVar 1) aNil)) (eVar 4)) (eOp hSub (eOp hSub (eVar 2) (eC (.int 1))) (eVar 5))) aNil)) aNil)) (dName 6)) (sPar2 3 4 (aCons (eOp hAdd (eVar 3) (eOp hIx (eVar 1) (eVar 6))) (aCons (eOp hAdd (eVar 6) (eC (.int 1))) aNil))))) (sRet (eVar 3))))
theorem c__law_letters : compB 60 12 (G__law_letters) (defBody s__law_letters) = t__law_letters := by kernel_rfl
abbrev N__law_some_faces : List Str := ["_law_bag", "_law_most"]
abbrev p__law_some_faces : List Str := ["_law_bag", "_law_most"]
theorem sc__law_some_faces : FnScope N__law_some_faces p__law_some_faces (defScope s__law_some_faces) := ⟨rfl, rfl, rfl, by decide +kernel, rfl, by decide +kernel, by decide +kernel⟩
def G__law_some_faces : GX := ⟨N__law_some_faces, (defScope s__law_some_faces).names, [("_law_letters", .fn sp_letters sg__law_letters), ("_law_draw", .fn sp_draw sg__law_draw)], [], true, GT.nil, [], none, []⟩
def t__law_some_faces : SD := (sRet (kCallK sg__law_letters (en__law_letters 0) sp_letters (aCons (eVar 0) (aCons (eC (.str [97, 98, 99, 100, 101, 102, 103, 104, 105, 106, 107, 108, 109, 110, 111, 112, 113, 114, 115, 116, 117, 118, 119, 120, 121, 122])) (aCons (eOp hAdd (eC (.int 1)) (kCallK sg__law_draw (en__law_draw 0) sp_draw (aCons (eVar 0) (aCons (eVar 1) aNil)) aNil)) aNil))) aNil))
theorem c__law_some_faces : compB 60 12 (G__law_some_faces) (defBody s__law_some_faces) = t__law_some_faces := by kernel_rfl
abbrev N__law_some_machine : List Str := ["_law_bag", "_law_faces", "_law_most", "_law_size", "_law_table", "_law_at", "_law_face"]
abbrev p__law_some_machine : List Str := ["_law_bag", "_law_faces", "_law_most"]
theorem sc__law_some_machine : FnScope N__law_some_machine p__law_some_machine (defScope s__law_some_machine) := ⟨rfl, rfl, rfl, by decide +kernel, rfl, by decide +kernel, by decide +kernel⟩
def G__law_some_machine : GX := ⟨N__law_some_machine, (defScope s__law_some_machine).names, [("range", .bi), ("_law_draw", .fn sp_draw sg__law_draw), ("tuple", .bi)], [], true, GT.nil, [], none, []⟩
def t__law_some_machine : SD := (sSeq (sAsg (eOp hAdd (eC (.int 1)) (kCallK sg__law_draw (en__law_draw 0) sp_draw (aCons (eVar 0) (aCons (eVar 2) aNil)) aNil)) (dName 3)) (sSeq (sAsg (kLc (kRg1 (aCons (eVar 3) aNil)) (dName 5) eYes (eCall (b1 hTupOf) (aCons (kLc (iIt (eVar 1)) (dName 6) eYes (kCallK sg__law_draw (en__law_draw 0) sp_draw (aCons (eVar 0) (aCons (eVar 3) aNil)) aNil) [6]) aNil)) [5]) (dName 4)) (sRet (kLst (aCons (eVar 4) (aCons (kLc (kRg1 (aCons (eVar 3) aNil)) (dName 5) (eB (eOp hEq (kCallK sg__law_draw (en__law_draw 0) sp_draw (aCons (eVar 0) (aCons (eC (.int 3)) aNil)) aNil) (eC (.int 0)))) (eVar 5) [5]) aNil))))))
theorem c__law_some_machine : compB 60 12 (G__law_some_machine) (defBody s__law_some_machine) = t__law_some_machine := by kernel_rfl
abbrev N_law : List Str := ["_law_script", "_law_bag", "_law_faces", "_law_table", "_law_bad", "_law_mine", "_law_wrong", "_law_machine", "_law_size", "_law_due", "_law_row", "_law_turn", "_law_told", "_law_lost", "_law_twice", "_law_others", "_law_at", "_law_spot", "_law_odd", "_law_letter", "_law_other"]
abbrev p_law : List Str := ["_law_script"]
theorem sc_law : FnScope N_law p_law (defScope s_law) := ⟨rfl, rfl, rfl, by decide +kernel, rfl, by decide +kernel, by decide +kernel⟩
def G_law : GX := ⟨N_law, (defScope s_law).names, [("any", .bi), ("sorted", .bi), ("list", .bi), ("int", .bi), ("_law_draw", .fn sp_draw sg__law_draw), ("len", .bi), ("range", .bi), ("_law_same", .fn (sp_same 6) sg__law_same), ("tuple", .bi), ("repr", .bi), ("isinstance", .bi), ("str", .bi), ("_law_some_machine", .fn sp__law_some_machine sg__law_some_machine), ("_law_some_faces", .fn sp__law_some_faces sg__law_some_faces), ("_law_open", .fn sp_open sg__law_open)], [(217, 29), (217, 30), (217, 119), (239, 18), (242, 19)], true, ⟨[("Machine", 34, (.fix sg_Machine___init__ sp_Machine_init))], [("bad", 34, (.fix sg_Machine_bad sp_Machine_bad)), ("table", 34, (.fix sg_Machine_table sp_Machine_table))], [("faces", 34, .fld), ("size", 34, (.prop (.fix sg_Machine_size sp_Machine_size)))], [], [], [("Machine", "MOST", (.int 200))], [], [("__eq__", 34, (.fix sg_Machine___eq__ sp_Machine_eq)), ("__repr__", 34, (.fix sg_Machine___repr__ sp_Machine_repr))], [34]⟩, [], none, []⟩
@[irreducible] def t_law_c17 : SD := (sSeq (sAsg (eOp hIx (kLc (iIt (eC (.str [97, 98, 99, 100, 101, 102, 103, 104, 105, 106, 107, 108, 109, 110, 111, 112, 113, 114, 115, 116, 117, 118, 119, 120, 121, 122]))) (dName 19) (eB (eOp hNotIn (eVar 19) (eVar 2))) (eVar 19) [19]) (eC (.int 0))) (dName 18)) (sSeq (sExpr (kMet hApp "list" (eVar 15) (aCons (kMake 34 (fK sg_Machine___init__ (en_Machine___init__ 0) sp_Machine_init) (aCons (kMet hJoin "str" (eC (.str [])) (aCons (eCall (b1 hSort) (aCons (eCall (b1 hList) (aCons (eOp hAdd (eVar 18) (eSl hSl (eVar 2) (oSome (eC (.int 1))) oNo)) aNil)) aNil)) aNil)) (aCons (eVar 3) (aCons (eVar 4) aNil))) aNil) aNil))) (sRet (kAnd (kNot (eCall (b1 hAny) (aCons (kLc (iIt (eVar 15)) (dName 20) eYes (eOp (hEqO false [(34, (fK sg_Machine___eq__ (en_Machine___eq__ 0) sp_Machine_eq))]) (eVar 20) (eVar 7)) [20]) aNil))) (kAnd (eOp (hEqO true [(34, (fK sg_Machine___eq__ (en_Machine___eq__ 0) sp_Machine_eq))]) (eVar 7) (eVar 3)) (kNot (eOp (hEqO false [(34, (fK sg_Machine___eq__ (en_Machine___eq__ 0) sp_Machine_eq))]) (eVar 7) (eC .non))))))))
theorem t_law_c17_eq : t_law_c17 = (sSeq (sAsg (eOp hIx (kLc (iIt (eC (.str [97, 98, 99, 100, 101, 102, 103, 104, 105, 106, 107, 108, 109, 110, 111, 112, 113, 114, 115, 116, 117, 118, 119, 120, 121, 122]))) (dName 19) (eB (eOp hNotIn (eVar 19) (eVar 2))) (eVar 19) [19]) (eC (.int 0))) (dName 18)) (sSeq (sExpr (kMet hApp "list" (eVar 15) (aCons (kMake 34 (fK sg_Machine___init__ (en_Machine___init__ 0) sp_Machine_init) (aCons (kMet hJoin "str" (eC (.str [])) (aCons (eCall (b1 hSort) (aCons (eCall (b1 hList) (aCons (eOp hAdd (eVar 18) (eSl hSl (eVar 2) (oSome (eC (.int 1))) oNo)) aNil)) aNil)) aNil)) (aCons (eVar 3) (aCons (eVar 4) aNil))) aNil) aNil))) (sRet (kAnd (kNot (eCall (b1 hAny) (aCons (kLc (iIt (eVar 15)) (dName 20) eYes (eOp (hEqO false [(34, (fK sg_Machine___eq__ (en_Machine___eq__ 0) sp_Machine_eq))]) (eVar 20) (eVar 7)) [20]) aNil))) (kAnd (eOp (hEqO true [(34, (fK sg_Machine___eq__ (en_Machine___eq__ 0) sp_Machine_eq))]) (eVar 7) (eVar 3)) (kNot (eOp (hEqO false [(34, (fK sg_Machine___eq__ (en_Machine___eq__ 0) sp_Machine_eq))]) (eVar 7) (eC .non)))))))) := by unfold t_law_c17; rfl
@[irreducible] def t_law_c16 : SD := (sSeq (kSif (eB (eOp hGt (eVar 8) (eC (.int 1)))) (sSeq (sPar2 16 17 (aCons (kCallK sg__law_draw (en__law_draw 0) sp_draw (aCons (eVar 1) (aCons (eVar 8) aNil)) aNil) (aCons (kCallK sg__law_draw (en__law_draw 0) sp_draw (aCons (eVar 1) (aCons (eCall (b1 hLen) (aCons (eVar 2) aNil)) aNil)) aNil) aNil))) (sSeq (sAsg (eCall (muR (b1 hList)) (aCons (eOp hIx (eVar 3) (eVar 16)) aNil)) (dName 10)) (sSeq (sAsg (eOp hMod (eCall (b1 hInt) (aCons (eOp hAdd (eOp hIx (eVar 10) (eVar 17)) (eC (.int 1))) aNil)) (eVar 8)) (dSub (eVar 10) (eVar 17) hSet)) (sExpr (kMet hApp "list" (eVar 15) (aCons (kMake 34 (fK sg_Machine___init__ (en_Machine___init__ 0) sp_Machine_init) (aCons (eVar 2) (aCons (eOp hAdd (eOp hAdd (eSl hSl (eVar 3) oNo (oSome (eVar 16))) (kLst (aCons (eVar 10) aNil))) (eSl hSl (eVar 3) (oSome (eOp hAdd (eVar 16) (eC (.int 1)))) oNo)) (aCons (eVar 4) aNil))) aNil) aNil)))))) sNext) (t_law_c17))
theorem t_law_c16_eq : t_law_c16 = (sSeq (kSif (eB (eOp hGt (eVar 8) (eC (.int 1)))) (sSeq (sPar2 16 17 (aCons (kCallK sg__law_draw (en__law_draw 0) sp_draw (aCons (eVar 1) (aCons (eVar 8) aNil)) aNil) (aCons (kCallK sg__law_draw (en__law_draw 0) sp_draw (aCons (eVar 1) (aCons (eCall (b1 hLen) (aCons (eVar 2) aNil)) aNil)) aNil) aNil))) (sSeq (sAsg (eCall (muR (b1 hList)) (aCons (eOp hIx (eVar 3) (eVar 16)) aNil)) (dName 10)) (sSeq (sAsg (eOp hMod (eCall (b1 hInt) (aCons (eOp hAdd (eOp hIx (eVar 10) (eVar 17)) (eC (.int 1))) aNil)) (eVar 8)) (dSub (eVar 10) (eVar 17) hSet)) (sExpr (kMet hApp "list" (eVar 15) (aCons (kMake 34 (fK sg_Machine___init__ (en_Machine___init__ 0) sp_Machine_init) (aCons (eVar 2) (aCons (eOp hAdd (eOp hAdd (eSl hSl (eVar 3) oNo (oSome (eVar 16))) (kLst (aCons (eVar 10) aNil))) (eSl hSl (eVar 3) (oSome (eOp hAdd (eVar 16) (eC (.int 1)))) oNo)) (aCons (eVar 4) aNil))) aNil) aNil)))))) sNext) (t_law_c17)) := by unfold t_law_c16; rfl
@[irreducible] def t_law_c15 : SD := (sSeq (sAsg (kLstM (aCons (kMake 34 (fK sg_Machine___init__ (en_Machine___init__ 0) sp_Machine_init) (aCons (eVar 2) (aCons (eVar 3) (aCons (kLc (kRg1 (aCons (eVar 8) aNil)) (dName 16) (eB (eOp hNotIn (eVar 16) (eVar 4))) (eVar 16) [16]) aNil))) aNil) (aCons (kMake 34 (fK sg_Machine___init__ (en_Machine___init__ 0) sp_Machine_init) (aCons (eVar 2) (aCons (eOp hAdd (eVar 3) (kLst (aCons (eOp hIx (eVar 3) (eC (.int 0))) aNil))) (aCons (eVar 4) aNil))) aNil) aNil))) (dName 15)) (t_law_c16))
theorem t_law_c15_eq : t_law_c15 = (sSeq (sAsg (kLstM (aCons (kMake 34 (fK sg_Machine___init__ (en_Machine___init__ 0) sp_Machine_init) (aCons (eVar 2) (aCons (eVar 3) (aCons (kLc (kRg1 (aCons (eVar 8) aNil)) (dName 16) (eB (eOp hNotIn (eVar 16) (eVar 4))) (eVar 16) [16]) aNil))) aNil) (aCons (kMake 34 (fK sg_Machine___init__ (en_Machine___init__ 0) sp_Machine_init) (aCons (eVar 2) (aCons (eOp hAdd (eVar 3) (kLst (aCons (eOp hIx (eVar 3) (eC (.int 0))) aNil))) (aCons (eVar 4) aNil))) aNil) aNil))) (dName 15)) (t_law_c16)) := by unfold t_law_c15; rfl
@[irreducible] def t_law_c11 : SD := (sSeq (sAsg (kMake 34 (fK sg_Machine___init__ (en_Machine___init__ 0) sp_Machine_init) (aCons (eVar 2) (aCons (eCall (b1 hTupOf) (aCons (eVar 3) aNil)) (aCons (eCall (b1 hTupOf) (aCons (eVar 4) aNil)) aNil))) aNil) (dName 14)) (sSeq (kSif (eB (eOp (hEqO true [(34, (fK sg_Machine___eq__ (en_Machine___eq__ 0) sp_Machine_eq))]) (eVar 7) (eVar 14))) (sRet (eC (.bl false))) sNext) (sSeq (kSif (eNotT (eB (eOp (hEqO false [(34, (fK sg_Machine___eq__ (en_Machine___eq__ 0) sp_Machine_eq))]) (eVar 7) (eVar 14)))) (sRet (eC (.bl false))) sNext) (sSeq (kSif (eNotT (kTr (kCallK sg__law_same (en__law_same 0) (sp_same 6) (aCons (kMth none [(34, (fK sg_Machine_bad (en_Machine_bad 0) sp_Machine_bad))] (kMake 34 (fK sg_Machine___init__ (en_Machine___init__ 1) sp_Machine_init) (aCons (eVar 2) (aCons (eVar 3) aNil)) aNil) aNil aNil) (aCons (kLst aNil) aNil)) aNil))) (sRet (eC (.bl false))) sNext) (t_law_c15)))))
theorem t_law_c11_eq : t_law_c11 = (sSeq (sAsg (kMake 34 (fK sg_Machine___init__ (en_Machine___init__ 0) sp_Machine_init) (aCons (eVar 2) (aCons (eCall (b1 hTupOf) (aCons (eVar 3) aNil)) (aCons (eCall (b1 hTupOf) (aCons (eVar 4) aNil)) aNil))) aNil) (dName 14)) (sSeq (kSif (eB (eOp (hEqO true [(34, (fK sg_Machine___eq__ (en_Machine___eq__ 0) sp_Machine_eq))]) (eVar 7) (eVar 14))) (sRet (eC (.bl false))) sNext) (sSeq (kSif (eNotT (eB (eOp (hEqO false [(34, (fK sg_Machine___eq__ (en_Machine___eq__ 0) sp_Machine_eq))]) (eVar 7) (eVar 14)))) (sRet (eC (.bl false))) sNext) (sSeq (kSif (eNotT (kTr (kCallK sg__law_same (en__law_same 0) (sp_same 6) (aCons (kMth none [(34, (fK sg_Machine_bad (en_Machine_bad 0) sp_Machine_bad))] (kMake 34 (fK sg_Machine___init__ (en_Machine___init__ 1) sp_Machine_init) (aCons (eVar 2) (aCons (eVar 3) aNil)) aNil) aNil aNil) (aCons (kLst aNil) aNil)) aNil))) (sRet (eC (.bl false))) sNext) (t_law_c15))))) := by unfold t_law_c11; rfl
@[irreducible] def t_law_c10 : SD := (sSeq (kFor (kRg1 (aCons (eC (.int 2)) aNil)) (dName 11) (sSeq (sPar2 12 13 (aCons (kMth none [(34, (fK sg_Machine_table (en_Machine_table 0) sp_Machine_table))] (eVar 7) aNil aNil) (aCons (kMth none [(34, (fK sg_Machine_bad (en_Machine_bad 0) sp_Machine_bad))] (eVar 7) aNil aNil) aNil))) (sSeq (kSif (eNotT (kTr (kCallK sg__law_same (en__law_same 0) (sp_same 6) (aCons (kLst (aCons (kAtt (some 8) [(34, .fld)] (eVar 7)) (aCons (kAtt none [(34, .prop (fK sg_Machine_size (en_Machine_size 0) sp_Machine_size))] (eVar 7)) (aCons (eVar 12) (aCons (eVar 13) (aCons (eCall (b1 (hReprO [(34, (fK sg_Machine___repr__ (en_Machine___repr__ 0) sp_Machine_repr))])) (aCons (eVar 7) aNil)) (aCons (eC (.int 200)) aNil))))))) (aCons (eVar 9) aNil)) aNil))) (sRet (eC (.bl false))) sNext) (sSeq (sExpr (kMet hApp "list" (eVar 12) (aCons (eC (.int 1)) aNil))) (sExpr (kMet hApp "list" (eVar 13) (aCons (eC (.int 1)) aNil))))))) (t_law_c11))
theorem t_law_c10_eq : t_law_c10 = (sSeq (kFor (kRg1 (aCons (eC (.int 2)) aNil)) (dName 11) (sSeq (sPar2 12 13 (aCons (kMth none [(34, (fK sg_Machine_table (en_Machine_table 0) sp_Machine_table))] (eVar 7) aNil aNil) (aCons (kMth none [(34, (fK sg_Machine_bad (en_Machine_bad 0) sp_Machine_bad))] (eVar 7) aNil aNil) aNil))) (sSeq (kSif (eNotT (kTr (kCallK sg__law_same (en__law_same 0) (sp_same 6) (aCons (kLst (aCons (kAtt (some 8) [(34, .fld)] (eVar 7)) (aCons (kAtt none [(34, .prop (fK sg_Machine_size (en_Machine_size 0) sp_Machine_size))] (eVar 7)) (aCons (eVar 12) (aCons (eVar 13) (aCons (eCall (b1 (hReprO [(34, (fK sg_Machine___repr__ (en_Machine___repr__ 0) sp_Machine_repr))])) (aCons (eVar 7) aNil)) (aCons (eC (.int 200)) aNil))))))) (aCons (eVar 9) aNil)) aNil))) (sRet (eC (.bl false))) sNext) (sSeq (sExpr (kMet hApp "list" (eVar 12) (aCons (eC (.int 1)) aNil))) (sExpr (kMet hApp "list" (eVar 13) (aCons (eC (.int 1)) aNil))))))) (t_law_c11)) := by unfold t_law_c10; rfl
@[irreducible] def t_law_c7 : SD := (sSeq (kFor (iIt (eVar 5)) (dName 10) (kSif (kTr (eCall (b2 hIsi) (aCons (eVar 10) (aCons (eC (.ty "list")) aNil)))) (sAsg (eC .non) (dSub (eVar 10) (eC (.int 0)) hSet)) sNext)) (sSeq (sAsg (eC .non) (dSub (eVar 5) (eC (.int 0)) hSet)) (sSeq (sExpr (kMet hApp "list" (eVar 6) (aCons (eC (.int 99)) aNil))) (t_law_c10))))
theorem t_law_c7_eq : t_law_c7 = (sSeq (kFor (iIt (eVar 5)) (dName 10) (kSif (kTr (eCall (b2 hIsi) (aCons (eVar 10) (aCons (eC (.ty "list")) aNil)))) (sAsg (eC .non) (dSub (eVar 10) (eC (.int 0)) hSet)) sNext)) (sSeq (sAsg (eC .non) (dSub (eVar 5) (eC (.int 0)) hSet)) (sSeq (sExpr (kMet hApp "list" (eVar 6) (aCons (eC (.int 99)) aNil))) (t_law_c10)))) := by unfold t_law_c7; rfl
@[irreducible] def t_law_c4 : SD := (sSeq (sAsg (kMake 34 (fK sg_Machine___init__ (en_Machine___init__ 0) sp_Machine_init) (aCons (eVar 2) (aCons (eVar 5) (aCons (eVar 6) aNil))) aNil) (dName 7)) (sSeq (sAsg (eCall (b1 hLen) (aCons (eVar 3) aNil)) (dName 8)) (sSeq (sAsg (kLst (aCons (eVar 2) (aCons (eVar 8) (aCons (eVar 3) (aCons (eVar 4) (aCons (eOp hAdd (eOp hAdd (eC (.str [77, 97, 99, 104, 105, 110, 101, 40])) (eCall (b1 hStrI) (aCons (eVar 8) aNil))) (eC (.str [32, 115, 116, 97, 116, 101, 115, 41]))) (aCons (eC (.int 200)) aNil))))))) (dName 9)) (t_law_c7))))
theorem t_law_c4_eq : t_law_c4 = (sSeq (sAsg (kMake 34 (fK sg_Machine___init__ (en_Machine___init__ 0) sp_Machine_init) (aCons (eVar 2) (aCons (eVar 5) (aCons (eVar 6) aNil))) aNil) (dName 7)) (sSeq (sAsg (eCall (b1 hLen) (aCons (eVar 3) aNil)) (dName 8)) (sSeq (sAsg (kLst (aCons (eVar 2) (aCons (eVar 8) (aCons (eVar 3) (aCons (eVar 4) (aCons (eOp hAdd (eOp hAdd (eC (.str [77, 97, 99, 104, 105, 110, 101, 40])) (eCall (b1 hStrI) (aCons (eVar 8) aNil))) (eC (.str [32, 115, 116, 97, 116, 101, 115, 41]))) (aCons (eC (.int 200)) aNil))))))) (dName 9)) (t_law_c7)))) := by unfold t_law_c4; rfl
def t_law : SD := (sSeq (sAsg (kCallK sg__law_open (en__law_open 0) sp_open (aCons (eVar 0) aNil) aNil) (dName 1)) (sSeq (sAsg (kCallK sg__law_some_faces (en__law_some_faces 0) sp__law_some_faces (aCons (eVar 1) (aCons (eC (.int 4)) aNil)) aNil) (dName 2)) (sSeq (sAsg (kCallK sg__law_some_machine (en__law_some_machine 0) sp__law_some_machine (aCons (eVar 1) (aCons (eVar 2) (aCons (eC (.int 6)) aNil))) aNil) (kTupG 2 (dCons (dName 3) (dCons (dName 4) kNil)))) (sSeq (sPar2 5 6 (aCons (kLcM (kLc (iIt (eVar 3)) (dName 10) eYes (kIf (eB (eOp (hEqO false [(34, (fK sg_Machine___eq__ (en_Machine___eq__ 0) sp_Machine_eq))]) (kCallK sg__law_draw (en__law_draw 0) sp_draw (aCons (eVar 1) (aCons (eC (.int 2)) aNil)) aNil) (eC (.int 0)))) (eCall (muR (b1 hList)) (aCons (eVar 10) aNil)) (eVar 10)) [10])) (aCons (eCall (muR (b1 hList)) (aCons (eVar 4) aNil)) aNil))) (t_law_c4)))))
theorem c_law : compB 60 12 (G_law) (defBody s_law) = t_law := by kernel_rfl
end

end K11

namespace K11
open PySem PySem.Spec PyProof.Rows L2 DL
local macro_rules | `(tactic| wtm_at "dl side") => `(tactic| first
  | ((with_reducible refine (?_ : _ = _)); eq_refl)
  | ((with_reducible refine (?_ : _ ≤ sizeLine)); first | apply Nat.le_of_ble_eq_true rfl | (unfold sizeLine; omega) | (simp only [List.length_append, List.length_cons, List.length_nil, List.length_map, List.length_take, List.length_drop, List.length_replicate, sizeLine]; omega))
  | with_reducible assumption
  | ((with_reducible refine (?_ : _ ∧ _)); refine ⟨?_, ?_⟩ <;> wtm_at "dl side")
  | ((with_reducible refine (?_ : CMul _ _ ∨ CMulW _ _)); first | exact .inl (.inr (by omega)) | exact .inl (.inl (by omega)) | exact .inl (.inr (by decide)) | exact .inl (.inl (by decide)))
  | ((with_reducible refine (?_ : CPow _ _)); exact ⟨by decide, by decide, by decide⟩)
  | ((with_reducible refine (?_ : isTy _ _ _)); first | apply rfl | exact isTy_lst (by wtm_at "dl at"))
  | ((with_reducible refine (?_ : small62 _)); constructor <;> first | decide | omega)
  | ((with_reducible refine (?_ : List.length _ < _)); apply Nat.le_of_ble_eq_true rfl)
  | ((with_reducible refine (?_ : hSameC _ _ _)); first | (apply sameC_ty; apply rfl) | (apply sameC_ref; wtm_at "dl at"))
  | omega
  | decide
  | (simp only [List.length_append, List.length_cons, List.length_nil, List.length_map, List.length_take, List.length_drop, List.length_replicate, sizeLine]; omega)
  | ((try simp only [List.length_append, List.length_cons, List.length_nil, List.length_map, List.length_replicate] at *); unfold sizeLine; omega))
local macro_rules | `(tactic| wtm_at "dl at") => `(tactic| first
  | with_reducible apply Sto.set_same
  | with_reducible assumption
  | assumption
  | ((repeat (first | (with_reducible exact Sto.set_same) | (refine (Sto.set_ne (by assumption)).trans ?_) | (refine (Sto.set_ne (Ne.symm (by assumption))).trans ?_))) <;> assumption))
local macro_rules | `(tactic| wtm_at "dl ix") => `(tactic| first | with_reducible assumption | apply rfl | assumption)
local macro_rules | `(tactic| wtm_at "dl st") => `(tactic| ((conv => whnf); first
  | apply stp
  | refine hAnd_i (by wtm_at "dl side") ?_
  | refine hAt_i (by wtm_at "dl at") ?_
  | refine hGet_i (by wtm_at "dl ix") ?_
  | refine hGetC_i (by wtm_at "dl ix") ?_
  | refine hVal_i (by wtm_at "dl ix") ?_
  | refine hKd_i (by wtm_at "dl ix") ?_
  | refine hTab_i (by wtm_at "dl at") ?_
  | refine hPut_i rfl ?_
  | refine hIf_t ?_
  | refine hIf_f ?_))
local macro_rules | `(tactic| wtm_at "dl go") => `(tactic| ((repeat wtm_at "dl st"); try (conv => whnf)))

theorem l__law_draw : codeT sp_draw t__law_draw 5 := by
  intro ds S q e h
  obtain ⟨p, o, many, rfl, hS, ⟨cells, i, b, m, t, rfl, hc, hi, hb, hm, hm2⟩, h0, h1, k⟩ := h
  have fin : ∀ r i b m t S', 0 ≤ r → r < many → 0 ≤ i → 0 ≤ b → 0 ≤ m → m < 2 ^ 40 → S' = S.set p (.lst [.lst cells, .int i, .int b, .int m, .int t]) → q (.int r) S' := fun r i b m t S' a1 a2 a3 a4 a5 a6 z => z ▸ k r _ a1 a2 (bag_mk hc a3 a4 a5 a6)
  have md : ∀ x : Int, 0 ≤ x % many ∧ x % many < many := fun x => ⟨Int.emod_nonneg x (by omega), Int.emod_lt_of_pos x h0⟩
  repeat wtm_at "dl st"
  refine hIf_c (fun c => ?_) (fun c => ?_)
  · repeat wtm_at "dl st"
    have c := of_decide_eq_true c
    refine hIf_c (fun c2 => ?_) (fun c2 => ?_)
    · have c2 := of_decide_eq_true c2
      obtain ⟨d, hd, hd2⟩ := atI_mem hi c2
      obtain ⟨n, rfl⟩ := hc d hd2
      refine hIx_ref (by first | exact Sto.set_same | assumption) rfl ?_
      refine hIx_ref (by first | exact Sto.set_same | assumption) rfl ?_
      refine hIx_lst hd ?_
      repeat wtm_at "dl st"
      refine hIf_c (fun c3 => ?_) (fun c3 => ?_)
      · have c3 := of_decide_eq_true c3
        repeat wtm_at "dl st"
        have b0 : (0 : Int) < if n < 0 then -n else n := by
          have : (10 : Int) ^ Int.toNat 18 = 1000000000000000000 := by decide
          omega
        refine hIf_p (decide_eq_true b0) ?_
        repeat wtm_at "dl st"
        refine fin _ _ _ _ _ _ (md _).1 (md _).2 ?_ ?_ hm hm2 (by (try simp only [Sto.set_set]); rfl)
        · omega
        · exact Int.ediv_nonneg (by omega) (by omega)
      · repeat wtm_at "dl st"
        refine hIf_n (decide_eq_false (by omega)) ?_
        repeat wtm_at "dl st"
        refine fin _ _ _ _ _ _ (md _).1 (md _).2 ?_ ?_ ?_ ?_ (by (try simp only [Sto.set_set]); rfl)
        all_goals omega
    · repeat wtm_at "dl st"
      refine hIf_n (decide_eq_false (by omega)) ?_
      repeat wtm_at "dl st"
      refine fin _ _ _ _ _ _ (md _).1 (md _).2 ?_ ?_ ?_ ?_ (by (try simp only [Sto.set_set]); rfl)
      all_goals omega
  · refine hIf_f ?_
    repeat wtm_at "dl st"
    refine hIf_c (fun c2 => ?_) (fun c2 => ?_)
    · repeat wtm_at "dl st"
      refine fin _ _ _ _ _ _ (md _).1 (md _).2 ?_ ?_ hm hm2 (by (try simp only [Sto.set_set]); rfl)
      · omega
      · exact Int.ediv_nonneg hb (by omega)
    · repeat wtm_at "dl st"
      refine fin _ _ _ _ _ _ (md _).1 (md _).2 ?_ ?_ ?_ ?_ (by (try simp only [Sto.set_set]); rfl)
      all_goals omega
theorem l__law_open : codeT sp_open t__law_open 3 := by
  intro ds S q e h
  obtain ⟨cells, rfl, hc, k⟩ := h
  have hc2 : IntsD (cutD cells none (some 63)) := fun d hd => hc d (List.mem_of_mem_drop (List.mem_of_mem_take hd))
  refine hSl_rol ?_
  refine forInv (fun r ρ S' => S' = S ∧ IntsD r ∧ ∃ (m : Int) (x : Option D), 0 ≤ m ∧ m < 2 ^ 40 ∧ ρ = [some (.rol cells), some (.int m), x]) (fun d r ρ S' ih h => ?_) (fun ρ S' h => ?_) _ _ _ ⟨rfl, hc2, _, _, by decide, by decide, rfl⟩
  · obtain ⟨rfl, hr, m, x, m0, m1, rfl⟩ := h
    obtain ⟨n, rfl⟩ := hr d (List.mem_cons_self ..)
    repeat wtm_at "dl st"
    exact ih _ _ ⟨rfl, fun d h => hr d (List.mem_cons_of_mem _ h), _, _, by omega, by omega, rfl⟩
  · obtain ⟨rfl, hr, m, x, m0, m1, rfl⟩ := h
    refine hSl_rol ?_
    refine hList_lst ?_
    refine hAnd_i (by wtm_at "dl side") ?_
    exact fun p hp => k p _ hp (bag_mk hc2 (by decide) (by decide) m0 m1)
theorem l__law_letters : codeT sp_letters t__law_letters 7 := by
  intro ds S q e h
  obtain ⟨p, o, ls, many, rfl, hS, hB, h0, h1, h2, k⟩ := h
  repeat wtm_at "dl st"
  refine forInv (fun r ρ S' => ∃ (t : Nat) (low : Nat) (cs : List Nat) (o' : O) (x y : Option D), r = intsD t (many.toNat - t) ∧ t ≤ many.toNat ∧ cs.length = t ∧ cs.Sublist (ls.take low) ∧ low + (many.toNat - t) ≤ ls.length ∧ BagO o' ∧ S' = S.set p o' ∧
    ρ = [some (.ref p), some (.str ls), some (.int many), some (.str cs), some (.int low), x, y]) (fun d r ρ S' ih h => ?_) (fun ρ S' h => ?_) _ _ _ ?_
  · obtain ⟨t, low, cs, o', x, y, hr, ht, hcs, hsub, hlow, hB', rfl, rfl⟩ := h
    obtain ⟨u, hu⟩ : ∃ u, many.toNat - t = u + 1 := by
      cases h : many.toNat - t with
      | zero => rw [h] at hr; cases hr
      | succ u => exact ⟨u, rfl⟩
    rw [hu] at hr
    injection hr with hd hr
    subst hd hr
    refine hLen_str (by wtm_at "dl side") ?_
    repeat wtm_at "dl st"
    refine ⟨p, o', _, rfl, Sto.set_same, hB', ?_, ?_, fun n o2 n0 n1 hB2 => ?_⟩
    · omega
    · omega
    · have hn : low + n.toNat < ls.length := by omega
      have e1 : ∀ m : Int, m = low + n → atI ls m = some ls[low + n.toNat] := fun m e => by
        rw [atI_nat (by omega) (by omega), show m.toNat = low + n.toNat by omega]
        exact List.getElem?_eq_getElem hn
      refine hAdd_int ?_
      refine hIx_str (by wtm_at "dl side") (e1 _ rfl) ?_
      refine hAdd_str (by wtm_at "dl side") ?_
      refine hAdd_int ?_
      refine ih _ _ ⟨t + 1, low + n.toNat + 1, cs ++ [ls[low + n.toNat]], o2, some (.int t), some (.int (low + n)), ?_, by omega, by simp [hcs], ?_, by omega, hB2, Sto.set_set, ?_⟩
      · rw [show many.toNat - (t + 1) = u by omega]
        exact congrArg (fun z => intsD z u) (by omega)
      · have h3 : ls.take (low + n.toNat + 1) = ls.take (low + n.toNat) ++ [ls[low + n.toNat]] := by
          rw [List.take_succ, List.getElem?_eq_getElem hn]; rfl
        rw [h3]
        refine List.Sublist.append (hsub.trans ?_) (List.Sublist.refl _)
        exact List.take_sublist_take_left (by omega)
      · have e : ((low + n.toNat + 1 : Nat) : Int) = (low : Int) + n + 1 := by omega
        rw [e]; rfl
  · obtain ⟨t, low, cs, o', x, y, hr, ht, hcs, hsub, hlow, hB', rfl, rfl⟩ := h
    have : t = many.toNat := by
      cases h : many.toNat - t with
      | zero => omega
      | succ u => rw [h] at hr; cases hr
    exact k cs o' (hcs.trans this) (hsub.trans (List.take_sublist _ _)) hB'
  · refine ⟨0, 0, [], o, none, none, by simp, Nat.zero_le _, rfl, by simp, by omega, hB, ?_, rfl⟩
    funext a
    by_cases h : a = p
    · subst h; rw [Sto.set_same]; exact hS
    · rw [Sto.set_ne h]
theorem bools_map {α : Type} (f : α → Bool) : ∀ l : List α, bools (l.map fun x => .bl (f x)) = some (l.map f)
  | [] => rfl
  | a :: l => by show (bools (l.map fun x => .bl (f x))).map (_ :: ·) = _; rw [bools_map f l]; rfl
theorem bools_rep : ∀ n : Nat, bools (List.replicate n (.bl true)) = some (List.replicate n true)
  | 0 => rfl
  | n + 1 => by show (bools (List.replicate n (.bl true))).map (_ :: ·) = _; rw [bools_rep n]; rfl
theorem pairs_self {ds : List D} : pairs ds ds = ds.map fun d => .tup [d, d] := by
  induction ds with
  | nil => rfl
  | cons d ds ih => show _ :: pairs ds ds = _ :: _; rw [ih]
theorem l__law_same (n : Nat) : codeT (sp_same (n + 1)) (t__law_same n) 4 := by
  intro ds S q e h
  obtain ⟨x, y, z, rfl, hx, hy, k⟩ := h
  have fin : ∀ (acc : List D), acc = List.replicate acc.length (.bl true) → hAll (.lst acc) S q := fun acc h3 => by
    rw [h3]
    refine hAll_i (bools_rep _) ?_
    show q (.bl _) S
    have : (List.replicate acc.length true).all id = true := by simp
    rw [this]; exact k
  have loop : ∀ (kp : KP) (g : GD) (te : ED) (w : XD) (ρ : St') (q' : QD) (xs ys zs : List D), kpOk kp S → zs.length ≤ 1000000 → SeeL (See S n) xs zs → SeeL (See S n) ys zs →
      (∀ a b c K, See S n a c → See S n b c → K (.bl true) S → g (.tup [a, b]) w ρ S fun ρ1 S1 => te w ρ1 S1 K) → (∀ acc, acc = List.replicate acc.length (.bl true) → q' (.lst acc) S) → hLc kp g eYes te w ρ q' (pairs xs ys) [] S := fun kp g te w ρ q' xs ys zs hk hl h1 h2 step en => by
    refine lcInvK (fun r acc S' => S' = S ∧ ∃ a b c : List D, r = pairs a b ∧ SeeL (See S n) a c ∧ SeeL (See S n) b c ∧ c.length + acc.length ≤ 1000000 ∧ acc = List.replicate acc.length (.bl true)) (fun r acc S' h => by rw [h.1]; exact hk) (fun d r acc S' ih h => ?_) (fun acc S' h => ?_) _ _ _ ⟨rfl, xs, ys, zs, rfl, h1, h2, hl, rfl⟩
    · obtain ⟨rfl, a, b, c, hr, h1, h2, h3, h4⟩ := h
      match a, b, c, hr, h1, h2, h3 with
      | a1 :: a, b1 :: b, c1 :: c, hr, h1, h2, h3 =>
        injection hr with e1 e2
        subst e1 e2
        have e : ∀ {A B : Prop}, hIf true A B = A := fun {A B} => by rw [hIf_eq]; simp
        show g _ w ρ S' fun ρ1 S1 => hIf true _ _
        simp only [e]
        refine step a1 b1 c1 _ h1.1 h2.1 ?_
        refine hAnd_i ?_ (ih _ _ ⟨rfl, a, b, c, rfl, h1.2, h2.2, ?_, ?_⟩)
        · unfold sizeLine; simp only [List.length_cons] at h3; omega
        · simp only [List.length_append, List.length_cons, List.length_nil] at h3 ⊢; omega
        · rw [h4, List.length_append, List.length_replicate, List.replicate_append_replicate.symm]; rfl
      | [], _, _, hr, _, _, _ => cases hr
      | _ :: _, [], _, hr, _, _, _ => cases hr
      | _ :: _, _ :: _, [], hr, h1, _, _ => exact h1.elim
    · obtain ⟨rfl, a, b, c, hr, h1, h2, h3, h4⟩ := h
      exact en acc h4
  cases z <;> first | exact (show False from hx).elim | skip
  · obtain rfl : x = .non := hx
    obtain rfl : y = .non := hy
    wtm_at "dl go"
    exact k
  · rename_i b
    obtain rfl : x = .bl b := hx
    obtain rfl : y = .bl b := hy
    wtm_at "dl go"
    cases b <;> exact k
  · rename_i i
    obtain rfl : x = .int i := hx
    obtain rfl : y = .int i := hy
    wtm_at "dl go"
    show q (.bl (decide _)) S
    rw [decide_eq_true rfl]; exact k
  · rename_i cs
    obtain rfl : x = .str cs := hx
    obtain rfl : y = .str cs := hy
    wtm_at "dl go"
    show q (.bl (decide _)) S
    rw [decide_eq_true rfl]; exact k
  · rename_i zs
    obtain ⟨hl, xs, hx, h1⟩ := (show zs.length ≤ 1000000 ∧ ∃ xs, (x = .lst xs ∨ ∃ p, x = .ref p ∧ S p = some (.lst xs)) ∧ SeeL (See S n) xs zs from hx)
    obtain ⟨_, ys, hy, h2⟩ := (show zs.length ≤ 1000000 ∧ ∃ ys, (y = .lst ys ∨ ∃ p, y = .ref p ∧ S p = some (.lst ys)) ∧ SeeL (See S n) ys zs from hy)
    rcases hx with rfl | ⟨p, rfl, ep⟩ <;> rcases hy with rfl | ⟨p2, rfl, ep2⟩
    all_goals
      wtm_at "dl go"
      refine hIf_n (by rw [h1.len, h2.len]; simp) ?_
      wtm_at "dl go"
      refine loop _ _ _ _ _ _ xs ys zs (by first | trivial | assumption | exact ⟨‹_›, ‹_›⟩) hl h1 h2 (fun a b c K ha hb hK => ?_) fin
      wtm_at "dl go"
      exact ⟨a, b, c, rfl, ha, hb, hK⟩
  · rename_i zs
    obtain ⟨hl, xs, rfl, h1⟩ := (show zs.length ≤ 1000000 ∧ ∃ xs, x = .tup xs ∧ SeeL (See S n) xs zs from hx)
    obtain ⟨_, ys, rfl, h2⟩ := (show zs.length ≤ 1000000 ∧ ∃ ys, y = .tup ys ∧ SeeL (See S n) ys zs from hy)
    wtm_at "dl go"
    refine hIf_n (by rw [h1.len, h2.len]; simp) ?_
    wtm_at "dl go"
    refine loop _ _ _ _ _ _ xs ys zs trivial hl h1 h2 (fun a b c K ha hb hK => ?_) fin
    wtm_at "dl go"
    exact ⟨a, b, c, rfl, ha, hb, hK⟩


end K11

namespace K11
open PySem PySem.Spec PyProof.Rows L2 DL
local macro_rules | `(tactic| wtm_at "dl side") => `(tactic| first
  | ((with_reducible refine (?_ : _ = _)); eq_refl)
  | ((with_reducible refine (?_ : _ ≤ sizeLine)); first | apply Nat.le_of_ble_eq_true rfl | (unfold sizeLine; omega) | (simp only [List.length_append, List.length_cons, List.length_nil, List.length_map, List.length_take, List.length_drop, List.length_replicate, sizeLine]; omega))
  | with_reducible assumption
  | ((with_reducible refine (?_ : _ ∧ _)); refine ⟨?_, ?_⟩ <;> wtm_at "dl side")
  | ((with_reducible refine (?_ : CMul _ _ ∨ CMulW _ _)); first | exact .inl (.inr (by omega)) | exact .inl (.inl (by omega)) | exact .inl (.inr (by decide)) | exact .inl (.inl (by decide)))
  | ((with_reducible refine (?_ : CPow _ _)); exact ⟨by decide, by decide, by decide⟩)
  | ((with_reducible refine (?_ : isTy _ _ _)); first | apply rfl | exact isTy_lst (by wtm_at "dl at"))
  | ((with_reducible refine (?_ : small62 _)); constructor <;> first | decide | omega)
  | ((with_reducible refine (?_ : List.length _ < _)); apply Nat.le_of_ble_eq_true rfl)
  | ((with_reducible refine (?_ : hSameC _ _ _)); first | (apply sameC_ty; apply rfl) | (apply sameC_ref; wtm_at "dl at"))
  | omega
  | decide
  | (simp only [List.length_append, List.length_cons, List.length_nil, List.length_map, List.length_take, List.length_drop, List.length_replicate, sizeLine]; omega)
  | ((try simp only [List.length_append, List.length_cons, List.length_nil, List.length_map, List.length_replicate] at *); unfold sizeLine; omega))
local macro_rules | `(tactic| wtm_at "dl at") => `(tactic| first
  | with_reducible apply Sto.set_same
  | with_reducible assumption
  | assumption
  | ((repeat (first | (with_reducible exact Sto.set_same) | (refine (Sto.set_ne (by assumption)).trans ?_) | (refine (Sto.set_ne (Ne.symm (by assumption))).trans ?_))) <;> assumption))
local macro_rules | `(tactic| wtm_at "dl ix") => `(tactic| first | with_reducible assumption | apply rfl | assumption)
local macro_rules | `(tactic| wtm_at "dl st") => `(tactic| ((conv => whnf); first
  | apply stp
  | refine hAnd_i (by wtm_at "dl side") ?_
  | refine hAt_i (by wtm_at "dl at") ?_
  | refine hGet_i (by wtm_at "dl ix") ?_
  | refine hGetC_i (by wtm_at "dl ix") ?_
  | refine hVal_i (by wtm_at "dl ix") ?_
  | refine hKd_i (by wtm_at "dl ix") ?_
  | refine hTab_i (by wtm_at "dl at") ?_
  | refine hPut_i rfl ?_
  | refine hIf_t ?_
  | refine hIf_f ?_))
local macro_rules | `(tactic| wtm_at "dl go") => `(tactic| ((repeat wtm_at "dl st"); try (conv => whnf)))

theorem l_is_rising : codeT sp_is_rising t_is_rising 4 := by
  intro ds S q e h
  obtain ⟨v, ls, most, rfl, ⟨hv, hv2⟩, hls, k⟩ := h
  cases v <;> first | (cases hv; done) | skip
  · wtm_at "dl go"; exact k
  · wtm_at "dl go"; exact k
  · wtm_at "dl go"; exact k
  · rename_i cs
    have hv2 : cs.length ≤ 1000 := hv2
    have out : ∀ b : Bool, (decide (1 ≤ (cs.length : Int)) && decide ((cs.length : Int) ≤ most)) = b → q (.bl (b && (cs.all (fun c => decide (c ∈ ls)) && decide (cs.Pairwise (· < ·))))) S := fun b e => by
      have k : q (.bl ((decide (1 ≤ (cs.length : Int)) && decide ((cs.length : Int) ≤ most)) && (cs.all (fun c => decide (c ∈ ls)) && decide (cs.Pairwise (· < ·))))) S := k
      rw [e] at k; exact k
    wtm_at "dl go"
    refine hIf_c (fun c => ?_) (fun c => ?_)
    · wtm_at "dl go"
      refine hIf_c (fun c2 => ?_) (fun c2 => ?_)
      · wtm_at "dl go"
        exact out false (by rw [(Bool.not_eq_true' _).mp c2, Bool.and_false])
      · have c2 := (Bool.not_eq_false' _).mp c2
        have out := out true (by rw [c, c2]; rfl)
        rw [Bool.true_and] at out
        wtm_at "dl go"
        refine lcMap (fun c : Nat => .str [c]) (fun c => .bl (decide (c ∈ ls))) cs (by wtm_at "dl side") (fun x hx K hK => ?_) ?_
        · wtm_at "dl go"
          exact hK
        · refine hAll_map ?_
          wtm_at "dl go"
          refine hIf_c (fun c3 => ?_) (fun c3 => ?_)
          · rw [c3, Bool.true_and] at out
            wtm_at "dl go"
            intro us h1 h2
            refine hEq_g (eqOk_sig fun x hx => ?_) (eqOk_sig fun x hx => ?_) ?_
            · exact hls x (of_decide_eq_true (List.all_eq_true.mp c3 x hx))
            · exact hls x (of_decide_eq_true (List.all_eq_true.mp c3 x ((h2 x).mp hx)))
            · show q (.bl (deq (.lst (sigD cs)) (.lst (sigD us)))) S
              rw [deq_sig, rise_iff h1 h2]; exact out
          · rw [c3, Bool.false_and] at out
            rw [c3]; exact out
    · wtm_at "dl go"
      exact out false (by rw [c, Bool.false_and])
  · wtm_at "dl go"; exact k
  · wtm_at "dl go"; exact k
theorem l_is_faces : codeT sp_is_faces t_is_faces 1 := by
  intro ds S q e h
  obtain ⟨v, rfl, hv, k⟩ := h
  wtm_at "dl go"
  exact ⟨v, _, 6, rfl, hv, by decide, k⟩
theorem spl_len (S : List Nat) : ∀ (l acc : List Nat) (k : Nat), ∀ w ∈ TL.spl S k acc l, w.length ≤ acc.length + l.length
  | [], acc, k, w, h => by
    rw [TL.spl_nil] at h
    rw [List.mem_singleton.mp h]; simp
  | c :: r, acc, k, w, h => by
    cases k with
    | succ k =>
      have := spl_len S r acc k w h
      simp only [List.length_cons]; omega
    | zero =>
      cases hp : TL.pre S (c :: r) with
      | true =>
        rw [TL.spl_hit hp] at h
        rcases List.mem_cons.mp h with rfl | h
        · omega
        · have := spl_len S r [] _ w h
          simp only [List.length_nil, List.length_cons] at this ⊢; omega
      | false =>
        rw [TL.spl_miss hp] at h
        have := spl_len S r _ 0 w h
        simp only [List.length_append, List.length_cons, List.length_nil] at this ⊢; omega
theorem inD_strs (w : List Nat) : ∀ ws : List (List Nat), inD (.str w) (ws.map .str) = decide (w ∈ ws)
  | [] => rfl
  | x :: ws => by
    show (deq (.str x) (.str w) || inD (.str w) (ws.map .str)) = _
    rw [deq_str, inD_strs w ws]
    by_cases h : x = w
    · subst h; simp
    · rw [decide_eq_false h, Bool.false_or]
      have : (w ∈ x :: ws) = (w ∈ ws) := propext ⟨fun z => (List.mem_cons.mp z).resolve_left (fun z => h z.symm), List.mem_cons_of_mem _⟩
      simp only [this]
theorem all_flat (ws : List (List Nat)) : (ws.map D.str).all flatD = true := by
  rw [List.all_map]; simp [Function.comp_def, flatD]
theorem rising_len {cs ls : List Nat} {m : Int} (h : isRising (.str cs) ls m = true) : (cs.length : Int) ≤ m := by
  unfold isRising at h
  simp only [Bool.and_eq_true, decide_eq_true_eq] at h
  exact h.1.2
theorem rising_in {cs ls : List Nat} {m : Int} (h : isRising (.str cs) ls m = true) : ∀ c ∈ cs, c ∈ ls := by
  unfold isRising at h
  simp only [Bool.and_eq_true, decide_eq_true_eq, List.all_eq_true] at h
  exact h.2.1
theorem az_small : ∀ c ∈ az, c < 1114112 := by decide
theorem AZ_small : ∀ c ∈ AZ, c < 1114112 := by decide
theorem rising_okL {cs : List Nat} {m : Int} (h : isRising (.str cs) az m = true) (hm : m ≤ 1000) : okL cs := ⟨by have := rising_len h; omega, fun c hc => az_small c (rising_in h c hc)⟩
theorem rising_okU {cs : List Nat} {m : Int} (h : isRising (.str cs) AZ m = true) (hm : m ≤ 1000) : okL cs := ⟨by have := rising_len h; omega, fun c hc => AZ_small c (rising_in h c hc)⟩
theorem sum_le {M : Nat} : ∀ {ws : List (List Nat)}, (∀ w ∈ ws, w.length ≤ M) → (ws.map List.length).sum ≤ ws.length * M
  | [], _ => by simp
  | w :: ws, h => by
    have h1 := h w (List.mem_cons_self ..)
    have h2 := sum_le (ws := ws) fun x hx => h x (List.mem_cons_of_mem _ hx)
    simp only [List.map_cons, List.sum_cons, List.length_cons, Nat.succ_mul]
    omega
theorem sum_words {ws : List (List Nat)} (h : ∀ w ∈ ws, w.length ≤ 1000) : (ws.map List.length).sum ≤ ws.length * 1000 := sum_le h
theorem strsD_map (ws : List (List Nat)) : strsD (ws.map .str) = some ws := by
  induction ws with
  | nil => rfl
  | cons w ws ih => show (strsD (ws.map .str)).map (_ :: ·) = _; rw [ih]; rfl
theorem lastW_len {w : List Nat} (h : w.length ≤ 1000) : (lastW w).length ≤ 1000 := by
  unfold lastW
  split
  · decide
  · exact h
theorem joinL_len (S : List Nat) : ∀ ws : List (List Nat), (TL.joinL S ws).length ≤ (ws.map List.length).sum + ws.length * S.length
  | [] => Nat.zero_le _
  | [w] => by simp [TL.joinL]
  | w :: v :: ws => by
    have := joinL_len S (v :: ws)
    have e : TL.joinL S (w :: v :: ws) = w ++ (S ++ TL.joinL S (v :: ws)) := rfl
    rw [e]
    simp only [List.length_append, List.map_cons, List.sum_cons, List.length_cons] at this ⊢
    rw [Nat.succ_mul]
    omega
theorem lineText_len {ws : List (List Nat)} (h : ln6 ws) : (lineText ws).length ≤ 6010 := by
  obtain ⟨hl, hw⟩ := h
  match ws, hl, hw with
  | [a, b, c, d, e, f], _, hw =>
    have e1 : lineText [a, b, c, d, e, f] = TL.joinL [32] [a, b, c, d, e, lastW f] := rfl
    rw [e1]
    have h1 := joinL_len [32] [a, b, c, d, e, lastW f]
    have h2 := sum_words (ws := [a, b, c, d, e, lastW f]) fun w hw' => by
      simp only [List.mem_cons, List.not_mem_nil, or_false] at hw'
      rcases hw' with rfl | rfl | rfl | rfl | rfl | rfl
      · exact hw _ (by simp)
      · exact hw _ (by simp)
      · exact hw _ (by simp)
      · exact hw _ (by simp)
      · exact hw _ (by simp)
      · exact lastW_len (hw f (by simp))
    simp only [List.length_cons, List.length_nil] at h1 h2
    omega
theorem join_rows {fs us : List Nat} {lns : List (List (List Nat))} {S : Sto} {q : QD} (hf : fs.length ≤ 1000) (hu : us.length ≤ 1000) (hl : lns.length ≤ 8) (hln : ∀ ws ∈ lns, ln6 ws) (k : q (.str (bookText fs us lns)) S) :
    hJoin (.str [10]) [.lst (.str (fs ++ [32] ++ us) :: (lns.map (fun ws => .str (lineText ws)) ++ []))] S q := by
  have e : (D.str (fs ++ [32] ++ us) :: (lns.map (fun ws => D.str (lineText ws)) ++ [])) = ((fs ++ [32] ++ us) :: lns.map lineText).map .str := by
    simp [Function.comp_def]
  rw [e]
  have h2 : (((fs ++ [32] ++ us) :: lns.map lineText).map List.length).sum ≤ ((fs ++ [32] ++ us) :: lns.map lineText).length * 6010 := sum_le fun w hw => by
    rcases List.mem_cons.mp hw with rfl | hw
    · simp only [List.length_append, List.length_cons, List.length_nil]; omega
    · obtain ⟨ws, h1, rfl⟩ := List.mem_map.mp hw
      exact lineText_len (hln ws h1)
  refine hJoin_l (strsD_map _) (Nat.le_trans (Nat.add_le_add_right h2 _) ?_) k
  simp only [List.length_cons, List.length_nil, List.length_map]
  omega

end K11

namespace K11
open PySem PySem.Spec PyProof.Rows L2 DL
local macro_rules | `(tactic| wtm_at "dl side") => `(tactic| first
  | ((with_reducible refine (?_ : _ = _)); eq_refl)
  | ((with_reducible refine (?_ : _ ≤ sizeLine)); first | apply Nat.le_of_ble_eq_true rfl | (unfold sizeLine; omega) | (simp only [List.length_append, List.length_cons, List.length_nil, List.length_map, List.length_take, List.length_drop, List.length_replicate, sizeLine]; omega))
  | with_reducible assumption
  | ((with_reducible refine (?_ : _ ∧ _)); refine ⟨?_, ?_⟩ <;> wtm_at "dl side")
  | ((with_reducible refine (?_ : CMul _ _ ∨ CMulW _ _)); first | exact .inl (.inr (by omega)) | exact .inl (.inl (by omega)) | exact .inl (.inr (by decide)) | exact .inl (.inl (by decide)))
  | ((with_reducible refine (?_ : CPow _ _)); exact ⟨by decide, by decide, by decide⟩)
  | ((with_reducible refine (?_ : isTy _ _ _)); first | apply rfl | exact isTy_lst (by wtm_at "dl at"))
  | ((with_reducible refine (?_ : small62 _)); constructor <;> first | decide | omega)
  | ((with_reducible refine (?_ : List.length _ < _)); apply Nat.le_of_ble_eq_true rfl)
  | ((with_reducible refine (?_ : hSameC _ _ _)); first | (apply sameC_ty; apply rfl) | (apply sameC_ref; wtm_at "dl at"))
  | omega
  | decide
  | (simp only [List.length_append, List.length_cons, List.length_nil, List.length_map, List.length_take, List.length_drop, List.length_replicate, sizeLine]; omega)
  | ((try simp only [List.length_append, List.length_cons, List.length_nil, List.length_map, List.length_replicate] at *); unfold sizeLine; omega))
local macro_rules | `(tactic| wtm_at "dl at") => `(tactic| first
  | with_reducible apply Sto.set_same
  | with_reducible assumption
  | assumption
  | ((repeat (first | (with_reducible exact Sto.set_same) | (refine (Sto.set_ne (by assumption)).trans ?_) | (refine (Sto.set_ne (Ne.symm (by assumption))).trans ?_))) <;> assumption))
local macro_rules | `(tactic| wtm_at "dl ix") => `(tactic| first | with_reducible assumption | apply rfl | assumption)
local macro_rules | `(tactic| wtm_at "dl st") => `(tactic| ((conv => whnf); first
  | apply stp
  | refine hAnd_i (by wtm_at "dl side") ?_
  | refine hAt_i (by wtm_at "dl at") ?_
  | refine hGet_i (by wtm_at "dl ix") ?_
  | refine hGetC_i (by wtm_at "dl ix") ?_
  | refine hVal_i (by wtm_at "dl ix") ?_
  | refine hKd_i (by wtm_at "dl ix") ?_
  | refine hTab_i (by wtm_at "dl at") ?_
  | refine hPut_i rfl ?_
  | refine hIf_t ?_
  | refine hIf_f ?_))
local macro_rules | `(tactic| wtm_at "dl go") => `(tactic| ((repeat wtm_at "dl st"); try (conv => whnf)))

theorem l_is_number : codeT sp_is_number t_is_number 3 := by
  intro ds S q e h
  obtain ⟨v, lo, hi, rfl, hv, k⟩ := h
  cases v <;> first | (cases hv; done) | skip
  · wtm_at "dl go"; exact k
  · wtm_at "dl go"; exact k
  · wtm_at "dl go"
    refine hIf_c (fun c => ?_) (fun c => ?_)
    · have e : isNum (.int ‹Int›) lo hi = decide (‹Int› ≤ hi) := by
        show (decide _ && _) = _
        rw [c, Bool.true_and]
      wtm_at "dl go"
      rw [e] at k; exact k
    · have e : isNum (.int ‹Int›) lo hi = false := by
        show (decide _ && _) = _
        rw [c, Bool.false_and]
      wtm_at "dl go"
      rw [e] at k; exact k
  · wtm_at "dl go"; exact k
  · wtm_at "dl go"; exact k
  · wtm_at "dl go"; exact k
abbrev SqF (S : Sto) (d : D) (xs : List D) : Prop := d = .lst xs ∨ d = .tup xs ∨ ∃ p, d = .ref p ∧ S p = some (.lst xs)
theorem sq_val {S : Sto} {d : D} {xs : List D} (h : SqF S d xs) : seqV S d = some xs := by
  rcases h with rfl | rfl | ⟨p, rfl, e⟩
  · rfl
  · rfl
  · show (match S p with | some (.lst xs) => some xs | _ => none) = some xs
    rw [e]
theorem sq_len {S : Sto} {d : D} {xs : List D} {q : QD} (h : SqF S d xs) (k : q (.int xs.length) S) : hLen d S q := by
  rcases h with rfl | rfl | ⟨p, rfl, e⟩
  · exact hLen_lst k
  · exact hLen_tup k
  · exact hLen_ref e k
theorem sq_isi {S : Sto} {d : D} {xs : List D} {q : QD} (h : SqF S d xs) (k : q (.bl true) S) : hIsi d (.tup [.ty "list", .ty "tuple"]) S q := by
  rcases h with rfl | rfl | ⟨p, rfl, e⟩
  · exact hIsi_tup (c := "list") rfl (by decide) (by decide) k
  · exact hIsi_tup (c := "tuple") rfl (by decide) (by decide) k
  · exact hIsi_tup (c := "list") (by show tyO (S p) = _; rw [e]; rfl) (by decide) (by decide) k
theorem non_isi {S : Sto} {d : D} {q : QD} (h : okV d) (hn : seqV S d = none) (k : q (.bl false) S) : hIsi d (.tup [.ty "list", .ty "tuple"]) S q := by
  obtain ⟨h1, _⟩ := h
  cases d <;> first | (cases h1; done) | (cases hn; done) | skip
  · exact hIsi_tup (c := "NoneType") rfl (by decide) (by decide) k
  · exact hIsi_tup (c := "bool") rfl (by decide) (by decide) k
  · exact hIsi_tup (c := "int") rfl (by decide) (by decide) k
  · exact hIsi_tup (c := "str") rfl (by decide) (by decide) k
theorem sq_seq {S : Sto} {d : D} {xs : List D} {k : KP → List D → Prop} (h : SqF S d xs) (hk : ∀ kp, kpOk kp S → k kp xs) : seqK d S k := by
  rcases h with rfl | rfl | ⟨p, rfl, e⟩
  · exact hk none trivial
  · exact hk none trivial
  · show hSeqR S p k
    rw [hSeqR_eq, e]
    exact hk _ e
theorem lcMapK {α : Type} {kp : KP} {g : GD} {te : ED} {w : XD} {ρ : St'} {q : QD} {S : Sto} (hkp : kpOk kp S) (inp out : α → D) (xs : List α) (len : xs.length ≤ sizeLine)
    (step : ∀ x ∈ xs, ∀ K : QD, K (out x) S → g (inp x) w ρ S fun ρ1 S1 => te w ρ1 S1 K) (h : q (.lst (xs.map out)) S) : hLc kp g eYes te w ρ q (xs.map inp) [] S := by
  refine lcInvK (fun r acc S' => S' = S ∧ ∃ a b : List α, xs = a ++ b ∧ r = b.map inp ∧ acc = a.map out) (fun r acc S' h => by rw [h.1]; exact hkp) (fun d r acc S' ih h => ?_) (fun acc S' h => ?_) _ _ _ ⟨rfl, [], xs, rfl, rfl, rfl⟩
  · obtain ⟨rfl, a, b, e, hr, rfl⟩ := h
    cases b with
    | nil => cases hr
    | cons x b =>
      injection hr with e1 e2
      subst e1 e2
      have e3 : ∀ {A B : Prop}, hIf true A B = A := fun {A B} => by rw [hIf_eq]; simp
      show g (inp x) w ρ S' fun ρ1 S1 => hIf true (te w ρ1 S1 _) _
      simp only [e3]
      refine step x (by rw [e]; simp) _ (hAnd_i ?_ (ih _ _ ⟨rfl, a ++ [x], b, by simp [e], rfl, by simp⟩))
      have h2 := congrArg List.length e
      simp only [List.length_append, List.length_cons, List.length_map] at h2 ⊢
      omega
  · obtain ⟨rfl, a, b, e, hr, rfl⟩ := h
    cases b with
    | cons x b => cases hr
    | nil =>
      rw [List.append_nil] at e
      subst e
      exact h
theorem l_check_table : codeT sp_check_table t_check_table 5 := by
  intro ds S q e h
  obtain ⟨fs, t, rfl, hf, ht, k, ke⟩ := h
  wtm_at "dl go"
  rcases ht with ⟨rows, hF, hl, hP⟩ | ⟨hv, hn⟩
  · refine sq_isi hF ?_
    wtm_at "dl go"
    refine sq_len hF ?_
    wtm_at "dl go"
    have tv := sq_val hF
    have bad : ¬ (1 ≤ rows.length ∧ rows.length ≤ 200) → e 31 [(1, .int (-1)), (codeN, .str tInvalidTable)] S := fun c => ke (-1) (by unfold tabErr; rw [tv]; exact if_neg c)
    have good : (1 ≤ rows.length ∧ rows.length ≤ 200) → tabErr S fs.length t = badRow S fs.length rows.length 0 rows := fun c => by unfold tabErr; rw [tv]; exact if_pos c
    refine hIf_c (fun c => ?_) (fun c => ?_)
    · have c := of_decide_eq_true c
      wtm_at "dl go"
      refine hIf_c (fun c2 => ?_) (fun c2 => ?_)
      · wtm_at "dl go"
        exact bad (by have c2 : ¬ ((rows.length : Int) ≤ 200) := by simpa using c2
                      omega)
      · have c2 : rows.length ≤ 200 := by
          have c3 : ((rows.length : Int) ≤ 200) := by simpa using c2
          omega
        have gd := good ⟨by omega, c2⟩
        rcases hF with rfl | rfl | ⟨p1, rfl, e1⟩
        · wtm_at "dl go"
          refine forInvK (fun r ρ S' => S' = S ∧ ∃ (i : Nat) (l : List D) (x2 x3 x4 : Option D), r = enum i l ∧ (∀ x ∈ l, SqV S okV x) ∧ badRow S fs.length rows.length i l = badRow S fs.length rows.length 0 rows ∧ ρ = [some (.str fs), some (.lst rows), x2, x3, x4]) (fun _ _ _ h => by first | trivial | (rw [h.1]; exact e1)) (fun d r ρ S' ih h => ?_) (fun ρ S' h => ?_) _ _ _ ⟨rfl, 0, rows, none, none, none, rfl, hP, rfl, rfl⟩
          · obtain ⟨rfl, i, l, x2, x3, x4, hrr, hx, hb, rfl⟩ := h
            cases l with
            | nil => cases hrr
            | cons r0 l =>
              cases hrr
              have hrow := hx r0 (List.mem_cons_self ..)
              have no : rowOk S' fs.length rows.length r0 = false → badRow S' fs.length rows.length 0 rows = some (i : Int) := fun c => by
                rw [← hb]
                show (if _ then _ else _) = _
                rw [if_neg (by rw [c]; decide)]
              have ye : rowOk S' fs.length rows.length r0 = true → badRow S' fs.length rows.length (i + 1) l = badRow S' fs.length rows.length 0 rows := fun c => by
                rw [← hb]
                show _ = (if _ then _ else _)
                rw [if_pos c]
              wtm_at "dl go"
              rcases hrow with ⟨xs, hR, hxl, hxo⟩ | ⟨hv, hn⟩
              · have rv := sq_val hR
                refine sq_isi hR ?_
                wtm_at "dl go"
                refine sq_len hR ?_
                wtm_at "dl go"
                refine hIf_c (fun c3 => ?_) (fun c3 => ?_)
                · wtm_at "dl go"
                  have c3 : xs.length ≠ fs.length := by
                    have := of_decide_eq_false (by simpa using c3)
                    omega
                  refine ke i (gd.trans (no ?_))
                  unfold rowOk
                  rw [rv]
                  show (decide _ && _) = false
                  rw [decide_eq_false c3, Bool.false_and]
                · have c3 : xs.length = fs.length := by
                    have := of_decide_eq_true (by simpa using c3)
                    omega
                  have ro : rowOk S' fs.length rows.length r0 = xs.all fun x => isNum x 0 ((rows.length : Int) - 1) := by
                    unfold rowOk
                    rw [rv]
                    show (decide _ && _) = _
                    rw [decide_eq_true c3, Bool.true_and]
                  wtm_at "dl go"
                  have fin : ∀ (K : QD), (xs.all (fun x => isNum x 0 ((rows.length : Int) - 1)) = true → K (.bl true) S') → (xs.all (fun x => isNum x 0 ((rows.length : Int) - 1)) = false → K (.bl false) S') → hAll (.lst (xs.map fun x => .bl (isNum x 0 ((rows.length : Int) - 1)))) S' K := fun K k1 k2 => by
                    refine hAll_i (bools_map (fun x => isNum x 0 ((rows.length : Int) - 1)) xs) ?_
                    have e : (xs.map fun x => isNum x 0 ((rows.length : Int) - 1)).all id = xs.all fun x => isNum x 0 ((rows.length : Int) - 1) := by rw [List.all_map]; rfl
                    rw [e]
                    cases c : xs.all fun x => isNum x 0 ((rows.length : Int) - 1) with
                    | true => exact k1 c
                    | false => exact k2 c
                  rcases hR with rfl | rfl | ⟨pr, rfl, er⟩
                  all_goals
                    wtm_at "dl go"
                    rw [← List.map_id xs]
                    refine lcMapK (by first | trivial | exact er | (rw [List.map_id]; exact er)) (fun x : D => id x) (fun x => .bl (isNum x 0 ((rows.length : Int) - 1))) xs (by unfold sizeLine; omega) (fun x hx2 K hK => ?_) ?_
                    · wtm_at "dl go"
                      exact ⟨x, 0, _, rfl, (hxo x hx2).1, hK⟩
                    · wtm_at "dl go"
                      refine fin _ (fun c4 => ?_) (fun c4 => ?_)
                      · wtm_at "dl go"
                        exact ih _ _ ⟨rfl, i + 1, l, _, _, _, rfl, fun y hy => hx y (List.mem_cons_of_mem _ hy), ye (ro.trans c4), rfl⟩
                      · wtm_at "dl go"
                        exact ke i (gd.trans (no (ro.trans c4)))
              · refine non_isi hv hn ?_
                wtm_at "dl go"
                refine ke i (gd.trans (no ?_))
                unfold rowOk
                rw [hn]
          · obtain ⟨rfl, i, l, x2, x3, x4, hrr, hx, hb, rfl⟩ := h
            cases l with
            | cons _ _ => cases hrr
            | nil =>
              wtm_at "dl go"
              exact k (gd.trans hb.symm)
        · wtm_at "dl go"
          refine forInvK (fun r ρ S' => S' = S ∧ ∃ (i : Nat) (l : List D) (x2 x3 x4 : Option D), r = enum i l ∧ (∀ x ∈ l, SqV S okV x) ∧ badRow S fs.length rows.length i l = badRow S fs.length rows.length 0 rows ∧ ρ = [some (.str fs), some (.tup rows), x2, x3, x4]) (fun _ _ _ h => by first | trivial | (rw [h.1]; exact e1)) (fun d r ρ S' ih h => ?_) (fun ρ S' h => ?_) _ _ _ ⟨rfl, 0, rows, none, none, none, rfl, hP, rfl, rfl⟩
          · obtain ⟨rfl, i, l, x2, x3, x4, hrr, hx, hb, rfl⟩ := h
            cases l with
            | nil => cases hrr
            | cons r0 l =>
              cases hrr
              have hrow := hx r0 (List.mem_cons_self ..)
              have no : rowOk S' fs.length rows.length r0 = false → badRow S' fs.length rows.length 0 rows = some (i : Int) := fun c => by
                rw [← hb]
                show (if _ then _ else _) = _
                rw [if_neg (by rw [c]; decide)]
              have ye : rowOk S' fs.length rows.length r0 = true → badRow S' fs.length rows.length (i + 1) l = badRow S' fs.length rows.length 0 rows := fun c => by
                rw [← hb]
                show _ = (if _ then _ else _)
                rw [if_pos c]
              wtm_at "dl go"
              rcases hrow with ⟨xs, hR, hxl, hxo⟩ | ⟨hv, hn⟩
              · have rv := sq_val hR
                refine sq_isi hR ?_
                wtm_at "dl go"
                refine sq_len hR ?_
                wtm_at "dl go"
                refine hIf_c (fun c3 => ?_) (fun c3 => ?_)
                · wtm_at "dl go"
                  have c3 : xs.length ≠ fs.length := by
                    have := of_decide_eq_false (by simpa using c3)
                    omega
                  refine ke i (gd.trans (no ?_))
                  unfold rowOk
                  rw [rv]
                  show (decide _ && _) = false
                  rw [decide_eq_false c3, Bool.false_and]
                · have c3 : xs.length = fs.length := by
                    have := of_decide_eq_true (by simpa using c3)
                    omega
                  have ro : rowOk S' fs.length rows.length r0 = xs.all fun x => isNum x 0 ((rows.length : Int) - 1) := by
                    unfold rowOk
                    rw [rv]
                    show (decide _ && _) = _
                    rw [decide_eq_true c3, Bool.true_and]
                  wtm_at "dl go"
                  have fin : ∀ (K : QD), (xs.all (fun x => isNum x 0 ((rows.length : Int) - 1)) = true → K (.bl true) S') → (xs.all (fun x => isNum x 0 ((rows.length : Int) - 1)) = false → K (.bl false) S') → hAll (.lst (xs.map fun x => .bl (isNum x 0 ((rows.length : Int) - 1)))) S' K := fun K k1 k2 => by
                    refine hAll_i (bools_map (fun x => isNum x 0 ((rows.length : Int) - 1)) xs) ?_
                    have e : (xs.map fun x => isNum x 0 ((rows.length : Int) - 1)).all id = xs.all fun x => isNum x 0 ((rows.length : Int) - 1) := by rw [List.all_map]; rfl
                    rw [e]
                    cases c : xs.all fun x => isNum x 0 ((rows.length : Int) - 1) with
                    | true => exact k1 c
                    | false => exact k2 c
                  rcases hR with rfl | rfl | ⟨pr, rfl, er⟩
                  all_goals
                    wtm_at "dl go"
                    rw [← List.map_id xs]
                    refine lcMapK (by first | trivial | exact er | (rw [List.map_id]; exact er)) (fun x : D => id x) (fun x => .bl (isNum x 0 ((rows.length : Int) - 1))) xs (by unfold sizeLine; omega) (fun x hx2 K hK => ?_) ?_
                    · wtm_at "dl go"
                      exact ⟨x, 0, _, rfl, (hxo x hx2).1, hK⟩
                    · wtm_at "dl go"
                      refine fin _ (fun c4 => ?_) (fun c4 => ?_)
                      · wtm_at "dl go"
                        exact ih _ _ ⟨rfl, i + 1, l, _, _, _, rfl, fun y hy => hx y (List.mem_cons_of_mem _ hy), ye (ro.trans c4), rfl⟩
                      · wtm_at "dl go"
                        exact ke i (gd.trans (no (ro.trans c4)))
              · refine non_isi hv hn ?_
                wtm_at "dl go"
                refine ke i (gd.trans (no ?_))
                unfold rowOk
                rw [hn]
          · obtain ⟨rfl, i, l, x2, x3, x4, hrr, hx, hb, rfl⟩ := h
            cases l with
            | cons _ _ => cases hrr
            | nil =>
              wtm_at "dl go"
              exact k (gd.trans hb.symm)
        · wtm_at "dl go"
          refine forInvK (fun r ρ S' => S' = S ∧ ∃ (i : Nat) (l : List D) (x2 x3 x4 : Option D), r = enum i l ∧ (∀ x ∈ l, SqV S okV x) ∧ badRow S fs.length rows.length i l = badRow S fs.length rows.length 0 rows ∧ ρ = [some (.str fs), some (.ref p1), x2, x3, x4]) (fun _ _ _ h => by first | trivial | (rw [h.1]; exact e1)) (fun d r ρ S' ih h => ?_) (fun ρ S' h => ?_) _ _ _ ⟨rfl, 0, rows, none, none, none, rfl, hP, rfl, rfl⟩
          · obtain ⟨rfl, i, l, x2, x3, x4, hrr, hx, hb, rfl⟩ := h
            cases l with
            | nil => cases hrr
            | cons r0 l =>
              cases hrr
              have hrow := hx r0 (List.mem_cons_self ..)
              have no : rowOk S' fs.length rows.length r0 = false → badRow S' fs.length rows.length 0 rows = some (i : Int) := fun c => by
                rw [← hb]
                show (if _ then _ else _) = _
                rw [if_neg (by rw [c]; decide)]
              have ye : rowOk S' fs.length rows.length r0 = true → badRow S' fs.length rows.length (i + 1) l = badRow S' fs.length rows.length 0 rows := fun c => by
                rw [← hb]
                show _ = (if _ then _ else _)
                rw [if_pos c]
              wtm_at "dl go"
              rcases hrow with ⟨xs, hR, hxl, hxo⟩ | ⟨hv, hn⟩
              · have rv := sq_val hR
                refine sq_isi hR ?_
                wtm_at "dl go"
                refine sq_len hR ?_
                wtm_at "dl go"
                refine hIf_c (fun c3 => ?_) (fun c3 => ?_)
                · wtm_at "dl go"
                  have c3 : xs.length ≠ fs.length := by
                    have := of_decide_eq_false (by simpa using c3)
                    omega
                  refine ke i (gd.trans (no ?_))
                  unfold rowOk
                  rw [rv]
                  show (decide _ && _) = false
                  rw [decide_eq_false c3, Bool.false_and]
                · have c3 : xs.length = fs.length := by
                    have := of_decide_eq_true (by simpa using c3)
                    omega
                  have ro : rowOk S' fs.length rows.length r0 = xs.all fun x => isNum x 0 ((rows.length : Int) - 1) := by
                    unfold rowOk
                    rw [rv]
                    show (decide _ && _) = _
                    rw [decide_eq_true c3, Bool.true_and]
                  wtm_at "dl go"
                  have fin : ∀ (K : QD), (xs.all (fun x => isNum x 0 ((rows.length : Int) - 1)) = true → K (.bl true) S') → (xs.all (fun x => isNum x 0 ((rows.length : Int) - 1)) = false → K (.bl false) S') → hAll (.lst (xs.map fun x => .bl (isNum x 0 ((rows.length : Int) - 1)))) S' K := fun K k1 k2 => by
                    refine hAll_i (bools_map (fun x => isNum x 0 ((rows.length : Int) - 1)) xs) ?_
                    have e : (xs.map fun x => isNum x 0 ((rows.length : Int) - 1)).all id = xs.all fun x => isNum x 0 ((rows.length : Int) - 1) := by rw [List.all_map]; rfl
                    rw [e]
                    cases c : xs.all fun x => isNum x 0 ((rows.length : Int) - 1) with
                    | true => exact k1 c
                    | false => exact k2 c
                  rcases hR with rfl | rfl | ⟨pr, rfl, er⟩
                  all_goals
                    wtm_at "dl go"
                    rw [← List.map_id xs]
                    refine lcMapK (by first | trivial | exact er | (rw [List.map_id]; exact er)) (fun x : D => id x) (fun x => .bl (isNum x 0 ((rows.length : Int) - 1))) xs (by unfold sizeLine; omega) (fun x hx2 K hK => ?_) ?_
                    · wtm_at "dl go"
                      exact ⟨x, 0, _, rfl, (hxo x hx2).1, hK⟩
                    · wtm_at "dl go"
                      refine fin _ (fun c4 => ?_) (fun c4 => ?_)
                      · wtm_at "dl go"
                        exact ih _ _ ⟨rfl, i + 1, l, _, _, _, rfl, fun y hy => hx y (List.mem_cons_of_mem _ hy), ye (ro.trans c4), rfl⟩
                      · wtm_at "dl go"
                        exact ke i (gd.trans (no (ro.trans c4)))
              · refine non_isi hv hn ?_
                wtm_at "dl go"
                refine ke i (gd.trans (no ?_))
                unfold rowOk
                rw [hn]
          · obtain ⟨rfl, i, l, x2, x3, x4, hrr, hx, hb, rfl⟩ := h
            cases l with
            | cons _ _ => cases hrr
            | nil =>
              wtm_at "dl go"
              exact k (gd.trans hb.symm)
    · have c := of_decide_eq_false c
      wtm_at "dl go"
      exact bad (by omega)
  · refine non_isi hv hn ?_
    wtm_at "dl go"
    exact ke (-1) (by unfold tabErr; rw [hn])


end K11

namespace K11
open PySem PySem.Spec PyProof.Rows L2 DL
local macro_rules | `(tactic| wtm_at "dl side") => `(tactic| first
  | ((with_reducible refine (?_ : _ = _)); eq_refl)
  | ((with_reducible refine (?_ : _ ≤ sizeLine)); first | apply Nat.le_of_ble_eq_true rfl | (unfold sizeLine; omega) | (simp only [List.length_append, List.length_cons, List.length_nil, List.length_map, List.length_take, List.length_drop, List.length_replicate, sizeLine]; omega))
  | with_reducible assumption
  | ((with_reducible refine (?_ : _ ∧ _)); refine ⟨?_, ?_⟩ <;> wtm_at "dl side")
  | ((with_reducible refine (?_ : CMul _ _ ∨ CMulW _ _)); first | exact .inl (.inr (by omega)) | exact .inl (.inl (by omega)) | exact .inl (.inr (by decide)) | exact .inl (.inl (by decide)))
  | ((with_reducible refine (?_ : CPow _ _)); exact ⟨by decide, by decide, by decide⟩)
  | ((with_reducible refine (?_ : isTy _ _ _)); first | apply rfl | exact isTy_lst (by wtm_at "dl at"))
  | ((with_reducible refine (?_ : small62 _)); constructor <;> first | decide | omega)
  | ((with_reducible refine (?_ : List.length _ < _)); apply Nat.le_of_ble_eq_true rfl)
  | ((with_reducible refine (?_ : hSameC _ _ _)); first | (apply sameC_ty; apply rfl) | (apply sameC_ref; wtm_at "dl at"))
  | omega
  | decide
  | (simp only [List.length_append, List.length_cons, List.length_nil, List.length_map, List.length_take, List.length_drop, List.length_replicate, sizeLine]; omega)
  | ((try simp only [List.length_append, List.length_cons, List.length_nil, List.length_map, List.length_replicate] at *); unfold sizeLine; omega))
local macro_rules | `(tactic| wtm_at "dl at") => `(tactic| first
  | with_reducible apply Sto.set_same
  | with_reducible assumption
  | assumption
  | ((repeat (first | (with_reducible exact Sto.set_same) | (refine (Sto.set_ne (by assumption)).trans ?_) | (refine (Sto.set_ne (Ne.symm (by assumption))).trans ?_))) <;> assumption))
local macro_rules | `(tactic| wtm_at "dl ix") => `(tactic| first | with_reducible assumption | apply rfl | assumption)
local macro_rules | `(tactic| wtm_at "dl st") => `(tactic| ((conv => whnf); first
  | apply stp
  | refine hAnd_i (by wtm_at "dl side") ?_
  | refine hAt_i (by wtm_at "dl at") ?_
  | refine hGet_i (by wtm_at "dl ix") ?_
  | refine hGetC_i (by wtm_at "dl ix") ?_
  | refine hVal_i (by wtm_at "dl ix") ?_
  | refine hKd_i (by wtm_at "dl ix") ?_
  | refine hTab_i (by wtm_at "dl at") ?_
  | refine hPut_i rfl ?_
  | refine hIf_t ?_
  | refine hIf_f ?_))
local macro_rules | `(tactic| wtm_at "dl go") => `(tactic| ((repeat wtm_at "dl st"); try (conv => whnf)))

theorem l_check_bad : codeT sp_check_bad t_check_bad 4 := by
  intro ds S q e h
  obtain ⟨b, size, rfl, hb0, k, ke⟩ := h
  wtm_at "dl go"
  rcases hb0 with ⟨xs, hF, hl, hP⟩ | ⟨hv, hn⟩
  · refine sq_isi hF ?_
    wtm_at "dl go"
    have bv : badErr S size b = badNum size xs 0 xs := by unfold badErr; rw [sq_val hF]
    rcases hF with rfl | rfl | ⟨p1, rfl, e1⟩
    · wtm_at "dl go"
      refine forInvK (fun r ρ S' => S' = S ∧ ∃ (pre l : List D) (x2 x3 : Option D), xs = pre ++ l ∧ r = enum pre.length l ∧ (∀ y ∈ pre, isNum y 0 ((size : Int) - 1) = true) ∧ badNum size xs pre.length l = badNum size xs 0 xs ∧ ρ = [some (.lst xs), some (.int size), x2, x3]) (fun _ _ _ h => by first | trivial | (rw [h.1]; exact e1)) (fun d r ρ S' ih h => ?_) (fun ρ S' h => ?_) _ _ _ ⟨rfl, [], xs, none, none, rfl, rfl, (fun _ z => by cases z), rfl, rfl⟩
      · obtain ⟨rfl, pre, l, x2, x3, eX, hrr, hpre, hb, rfl⟩ := h
        cases l with
        | nil => cases hrr
        | cons x l =>
          cases hrr
          have hx : okV x := hP x (by rw [eX]; simp)
          have st : badNum size xs pre.length (x :: l) = if isNum x 0 ((size : Int) - 1) && (decide (pre.length = 0) || stepUp xs[pre.length - 1]? x) then badNum size xs (pre.length + 1) l else some (pre.length : Int) := rfl
          have el : (pre ++ [x]).length = pre.length + 1 := by simp
          have no : (isNum x 0 ((size : Int) - 1) && (decide (pre.length = 0) || stepUp xs[pre.length - 1]? x)) = false → e 12 [(1, .int pre.length), (codeN, .str tInvalidBad)] S' := fun c => ke _ (by rw [bv, ← hb, st, if_neg (by rw [c]; decide)])
          have nxt : (isNum x 0 ((size : Int) - 1) && (decide (pre.length = 0) || stepUp xs[pre.length - 1]? x)) = true → ∀ y2 y3, hFor _ _ _ _ (enum (pre.length + 1) l) [some (.lst xs), some (.int size), y2, y3] S' := fun c y2 y3 => ih _ _ ⟨rfl, pre ++ [x], l, y2, y3, by rw [eX, List.append_assoc]; rfl, by rw [el]; rfl, fun y hy => by
            rcases List.mem_append.mp hy with hy | hy
            · exact hpre y hy
            · rw [List.mem_singleton.mp hy]; exact (Bool.and_eq_true_iff.mp c).1, by rw [el, ← hb, st, if_pos c], rfl⟩
          wtm_at "dl go"
          refine ⟨x, 0, _, rfl, hx.1, ?_⟩
          cases c1 : isNum x 0 ((size : Int) - 1) with
          | false =>
            wtm_at "dl go"
            exact no (by rw [c1]; rfl)
          | true =>
            obtain ⟨b, rfl⟩ : ∃ b, x = .int b := by
              cases x <;> first | (cases c1; done) | exact ⟨_, rfl⟩
            wtm_at "dl go"
            refine hIf_c (fun c2 => ?_) (fun c2 => ?_)
            · have c2 : 0 < pre.length := by have := of_decide_eq_true c2; omega
              have hlt : pre.length - 1 < pre.length := by omega
              obtain ⟨a, ea⟩ : ∃ a, xs[pre.length - 1]? = some (.int a) := by
                have h1 : xs[pre.length - 1]? = some pre[pre.length - 1] := by rw [eX, List.getElem?_append_left hlt]; exact List.getElem?_eq_getElem hlt
                have h2 := hpre _ (List.getElem_mem hlt)
                cases z : pre[pre.length - 1] with
                | int a => exact ⟨a, by rw [h1, z]⟩
                | _ => rw [z] at h2; cases h2
              have xl := (List.getElem?_eq_some_iff.mp ea).1
              have ai : atI xs ((pre.length : Int) - 1) = some (.int a) := by
                rw [atI_nat (by omega) (by omega), show ((pre.length : Int) - 1).toNat = pre.length - 1 by omega]; exact ea
              have su : stepUp xs[pre.length - 1]? (.int b) = decide (a < b) := by rw [ea]; rfl
              wtm_at "dl go"
              refine hIf_c (fun c3 => ?_) (fun c3 => ?_)
              · wtm_at "dl go"
                have c3 := of_decide_eq_true c3
                exact no (by rw [c1, su, decide_eq_false (show ¬ pre.length = 0 by omega), decide_eq_false (show ¬ a < b by omega)]; rfl)
              · have c3 := of_decide_eq_false c3
                wtm_at "dl go"
                exact nxt (by rw [c1, su, decide_eq_true (show a < b by omega), Bool.or_true]; rfl) _ _
            · have c2 : pre.length = 0 := by have := of_decide_eq_false c2; omega
              wtm_at "dl go"
              exact nxt (by rw [c1, decide_eq_true c2]; rfl) _ _
      · obtain ⟨rfl, pre, l, x2, x3, eX, hrr, hpre, hb, rfl⟩ := h
        cases l with
        | cons _ _ => cases hrr
        | nil =>
          wtm_at "dl go"
          exact k (bv.trans hb.symm)
    · wtm_at "dl go"
      refine forInvK (fun r ρ S' => S' = S ∧ ∃ (pre l : List D) (x2 x3 : Option D), xs = pre ++ l ∧ r = enum pre.length l ∧ (∀ y ∈ pre, isNum y 0 ((size : Int) - 1) = true) ∧ badNum size xs pre.length l = badNum size xs 0 xs ∧ ρ = [some (.tup xs), some (.int size), x2, x3]) (fun _ _ _ h => by first | trivial | (rw [h.1]; exact e1)) (fun d r ρ S' ih h => ?_) (fun ρ S' h => ?_) _ _ _ ⟨rfl, [], xs, none, none, rfl, rfl, (fun _ z => by cases z), rfl, rfl⟩
      · obtain ⟨rfl, pre, l, x2, x3, eX, hrr, hpre, hb, rfl⟩ := h
        cases l with
        | nil => cases hrr
        | cons x l =>
          cases hrr
          have hx : okV x := hP x (by rw [eX]; simp)
          have st : badNum size xs pre.length (x :: l) = if isNum x 0 ((size : Int) - 1) && (decide (pre.length = 0) || stepUp xs[pre.length - 1]? x) then badNum size xs (pre.length + 1) l else some (pre.length : Int) := rfl
          have el : (pre ++ [x]).length = pre.length + 1 := by simp
          have no : (isNum x 0 ((size : Int) - 1) && (decide (pre.length = 0) || stepUp xs[pre.length - 1]? x)) = false → e 12 [(1, .int pre.length), (codeN, .str tInvalidBad)] S' := fun c => ke _ (by rw [bv, ← hb, st, if_neg (by rw [c]; decide)])
          have nxt : (isNum x 0 ((size : Int) - 1) && (decide (pre.length = 0) || stepUp xs[pre.length - 1]? x)) = true → ∀ y2 y3, hFor _ _ _ _ (enum (pre.length + 1) l) [some (.tup xs), some (.int size), y2, y3] S' := fun c y2 y3 => ih _ _ ⟨rfl, pre ++ [x], l, y2, y3, by rw [eX, List.append_assoc]; rfl, by rw [el]; rfl, fun y hy => by
            rcases List.mem_append.mp hy with hy | hy
            · exact hpre y hy
            · rw [List.mem_singleton.mp hy]; exact (Bool.and_eq_true_iff.mp c).1, by rw [el, ← hb, st, if_pos c], rfl⟩
          wtm_at "dl go"
          refine ⟨x, 0, _, rfl, hx.1, ?_⟩
          cases c1 : isNum x 0 ((size : Int) - 1) with
          | false =>
            wtm_at "dl go"
            exact no (by rw [c1]; rfl)
          | true =>
            obtain ⟨b, rfl⟩ : ∃ b, x = .int b := by
              cases x <;> first | (cases c1; done) | exact ⟨_, rfl⟩
            wtm_at "dl go"
            refine hIf_c (fun c2 => ?_) (fun c2 => ?_)
            · have c2 : 0 < pre.length := by have := of_decide_eq_true c2; omega
              have hlt : pre.length - 1 < pre.length := by omega
              obtain ⟨a, ea⟩ : ∃ a, xs[pre.length - 1]? = some (.int a) := by
                have h1 : xs[pre.length - 1]? = some pre[pre.length - 1] := by rw [eX, List.getElem?_append_left hlt]; exact List.getElem?_eq_getElem hlt
                have h2 := hpre _ (List.getElem_mem hlt)
                cases z : pre[pre.length - 1] with
                | int a => exact ⟨a, by rw [h1, z]⟩
                | _ => rw [z] at h2; cases h2
              have xl := (List.getElem?_eq_some_iff.mp ea).1
              have ai : atI xs ((pre.length : Int) - 1) = some (.int a) := by
                rw [atI_nat (by omega) (by omega), show ((pre.length : Int) - 1).toNat = pre.length - 1 by omega]; exact ea
              have su : stepUp xs[pre.length - 1]? (.int b) = decide (a < b) := by rw [ea]; rfl
              wtm_at "dl go"
              refine hIf_c (fun c3 => ?_) (fun c3 => ?_)
              · wtm_at "dl go"
                have c3 := of_decide_eq_true c3
                exact no (by rw [c1, su, decide_eq_false (show ¬ pre.length = 0 by omega), decide_eq_false (show ¬ a < b by omega)]; rfl)
              · have c3 := of_decide_eq_false c3
                wtm_at "dl go"
                exact nxt (by rw [c1, su, decide_eq_true (show a < b by omega), Bool.or_true]; rfl) _ _
            · have c2 : pre.length = 0 := by have := of_decide_eq_false c2; omega
              wtm_at "dl go"
              exact nxt (by rw [c1, decide_eq_true c2]; rfl) _ _
      · obtain ⟨rfl, pre, l, x2, x3, eX, hrr, hpre, hb, rfl⟩ := h
        cases l with
        | cons _ _ => cases hrr
        | nil =>
          wtm_at "dl go"
          exact k (bv.trans hb.symm)
    · wtm_at "dl go"
      refine forInvK (fun r ρ S' => S' = S ∧ ∃ (pre l : List D) (x2 x3 : Option D), xs = pre ++ l ∧ r = enum pre.length l ∧ (∀ y ∈ pre, isNum y 0 ((size : Int) - 1) = true) ∧ badNum size xs pre.length l = badNum size xs 0 xs ∧ ρ = [some (.ref p1), some (.int size), x2, x3]) (fun _ _ _ h => by first | trivial | (rw [h.1]; exact e1)) (fun d r ρ S' ih h => ?_) (fun ρ S' h => ?_) _ _ _ ⟨rfl, [], xs, none, none, rfl, rfl, (fun _ z => by cases z), rfl, rfl⟩
      · obtain ⟨rfl, pre, l, x2, x3, eX, hrr, hpre, hb, rfl⟩ := h
        cases l with
        | nil => cases hrr
        | cons x l =>
          cases hrr
          have hx : okV x := hP x (by rw [eX]; simp)
          have st : badNum size xs pre.length (x :: l) = if isNum x 0 ((size : Int) - 1) && (decide (pre.length = 0) || stepUp xs[pre.length - 1]? x) then badNum size xs (pre.length + 1) l else some (pre.length : Int) := rfl
          have el : (pre ++ [x]).length = pre.length + 1 := by simp
          have no : (isNum x 0 ((size : Int) - 1) && (decide (pre.length = 0) || stepUp xs[pre.length - 1]? x)) = false → e 12 [(1, .int pre.length), (codeN, .str tInvalidBad)] S' := fun c => ke _ (by rw [bv, ← hb, st, if_neg (by rw [c]; decide)])
          have nxt : (isNum x 0 ((size : Int) - 1) && (decide (pre.length = 0) || stepUp xs[pre.length - 1]? x)) = true → ∀ y2 y3, hFor _ _ _ _ (enum (pre.length + 1) l) [some (.ref p1), some (.int size), y2, y3] S' := fun c y2 y3 => ih _ _ ⟨rfl, pre ++ [x], l, y2, y3, by rw [eX, List.append_assoc]; rfl, by rw [el]; rfl, fun y hy => by
            rcases List.mem_append.mp hy with hy | hy
            · exact hpre y hy
            · rw [List.mem_singleton.mp hy]; exact (Bool.and_eq_true_iff.mp c).1, by rw [el, ← hb, st, if_pos c], rfl⟩
          wtm_at "dl go"
          refine ⟨x, 0, _, rfl, hx.1, ?_⟩
          cases c1 : isNum x 0 ((size : Int) - 1) with
          | false =>
            wtm_at "dl go"
            exact no (by rw [c1]; rfl)
          | true =>
            obtain ⟨b, rfl⟩ : ∃ b, x = .int b := by
              cases x <;> first | (cases c1; done) | exact ⟨_, rfl⟩
            wtm_at "dl go"
            refine hIf_c (fun c2 => ?_) (fun c2 => ?_)
            · have c2 : 0 < pre.length := by have := of_decide_eq_true c2; omega
              have hlt : pre.length - 1 < pre.length := by omega
              obtain ⟨a, ea⟩ : ∃ a, xs[pre.length - 1]? = some (.int a) := by
                have h1 : xs[pre.length - 1]? = some pre[pre.length - 1] := by rw [eX, List.getElem?_append_left hlt]; exact List.getElem?_eq_getElem hlt
                have h2 := hpre _ (List.getElem_mem hlt)
                cases z : pre[pre.length - 1] with
                | int a => exact ⟨a, by rw [h1, z]⟩
                | _ => rw [z] at h2; cases h2
              have xl := (List.getElem?_eq_some_iff.mp ea).1
              have ai : atI xs ((pre.length : Int) - 1) = some (.int a) := by
                rw [atI_nat (by omega) (by omega), show ((pre.length : Int) - 1).toNat = pre.length - 1 by omega]; exact ea
              have su : stepUp xs[pre.length - 1]? (.int b) = decide (a < b) := by rw [ea]; rfl
              wtm_at "dl go"
              refine hIf_c (fun c3 => ?_) (fun c3 => ?_)
              · wtm_at "dl go"
                have c3 := of_decide_eq_true c3
                exact no (by rw [c1, su, decide_eq_false (show ¬ pre.length = 0 by omega), decide_eq_false (show ¬ a < b by omega)]; rfl)
              · have c3 := of_decide_eq_false c3
                wtm_at "dl go"
                exact nxt (by rw [c1, su, decide_eq_true (show a < b by omega), Bool.or_true]; rfl) _ _
            · have c2 : pre.length = 0 := by have := of_decide_eq_false c2; omega
              wtm_at "dl go"
              exact nxt (by rw [c1, decide_eq_true c2]; rfl) _ _
      · obtain ⟨rfl, pre, l, x2, x3, eX, hrr, hpre, hb, rfl⟩ := h
        cases l with
        | cons _ _ => cases hrr
        | nil =>
          wtm_at "dl go"
          exact k (bv.trans hb.symm)
  · refine non_isi hv hn ?_
    wtm_at "dl go"
    exact ke (-1) (by unfold badErr; rw [hn])


end K11

namespace K11
open PySem PySem.Spec PyProof.Rows L2 DL
local macro_rules | `(tactic| wtm_at "dl side") => `(tactic| first
  | ((with_reducible refine (?_ : _ = _)); eq_refl)
  | ((with_reducible refine (?_ : _ ≤ sizeLine)); first | apply Nat.le_of_ble_eq_true rfl | (unfold sizeLine; omega) | (simp only [List.length_append, List.length_cons, List.length_nil, List.length_map, List.length_take, List.length_drop, List.length_replicate, sizeLine]; omega))
  | with_reducible assumption
  | ((with_reducible refine (?_ : _ ∧ _)); refine ⟨?_, ?_⟩ <;> wtm_at "dl side")
  | ((with_reducible refine (?_ : CMul _ _ ∨ CMulW _ _)); first | exact .inl (.inr (by omega)) | exact .inl (.inl (by omega)) | exact .inl (.inr (by decide)) | exact .inl (.inl (by decide)))
  | ((with_reducible refine (?_ : CPow _ _)); exact ⟨by decide, by decide, by decide⟩)
  | ((with_reducible refine (?_ : isTy _ _ _)); first | apply rfl | exact isTy_lst (by wtm_at "dl at"))
  | ((with_reducible refine (?_ : small62 _)); constructor <;> first | decide | omega)
  | ((with_reducible refine (?_ : List.length _ < _)); apply Nat.le_of_ble_eq_true rfl)
  | ((with_reducible refine (?_ : hSameC _ _ _)); first | (apply sameC_ty; apply rfl) | (apply sameC_ref; wtm_at "dl at"))
  | omega
  | decide
  | (simp only [List.length_append, List.length_cons, List.length_nil, List.length_map, List.length_take, List.length_drop, List.length_replicate, sizeLine]; omega)
  | ((try simp only [List.length_append, List.length_cons, List.length_nil, List.length_map, List.length_replicate] at *); unfold sizeLine; omega))
local macro_rules | `(tactic| wtm_at "dl at") => `(tactic| first
  | with_reducible apply Sto.set_same
  | with_reducible assumption
  | assumption
  | ((repeat (first | (with_reducible exact Sto.set_same) | (refine (Sto.set_ne (by assumption)).trans ?_) | (refine (Sto.set_ne (Ne.symm (by assumption))).trans ?_))) <;> assumption))
local macro_rules | `(tactic| wtm_at "dl ix") => `(tactic| first | with_reducible assumption | apply rfl | assumption)
local macro_rules | `(tactic| wtm_at "dl st") => `(tactic| ((conv => whnf); first
  | apply stp
  | refine hAnd_i (by wtm_at "dl side") ?_
  | refine hAt_i (by wtm_at "dl at") ?_
  | refine hGet_i (by wtm_at "dl ix") ?_
  | refine hGetC_i (by wtm_at "dl ix") ?_
  | refine hVal_i (by wtm_at "dl ix") ?_
  | refine hKd_i (by wtm_at "dl ix") ?_
  | refine hTab_i (by wtm_at "dl at") ?_
  | refine hPut_i rfl ?_
  | refine hIf_t ?_
  | refine hIf_f ?_))
local macro_rules | `(tactic| wtm_at "dl go") => `(tactic| ((repeat wtm_at "dl st"); try (conv => whnf)))

/-! ### == of tables and of lists of ints -/
theorem eqv_ints : ∀ a b : List Int, PyData.eqvAll (toPs (a.map .int)) (toPs (b.map .int)) = decide (a = b)
  | [], [] => rfl
  | [], _ :: _ => rfl
  | _ :: _, [] => rfl
  | c :: a, d :: b => by
    show (PyData.eqv (.int c) (.int d) && PyData.eqvAll (toPs (a.map .int)) (toPs (b.map .int))) = _
    rw [eqv_ints a b]
    by_cases h : c = d
    · subst h
      simp [PyData.eqv]
    · simp [PyData.eqv, h]
theorem eqv_rows : ∀ a b : List (List Int), PyData.eqvAll (toPs (rowsI a)) (toPs (rowsI b)) = decide (a = b)
  | [], [] => rfl
  | [], _ :: _ => rfl
  | _ :: _, [] => rfl
  | c :: a, d :: b => by
    show (PyData.eqv (.tuple (toPs (c.map .int))) (.tuple (toPs (d.map .int))) && PyData.eqvAll (toPs (rowsI a)) (toPs (rowsI b))) = _
    rw [eqv_rows a b, show PyData.eqv (.tuple (toPs (c.map .int))) (.tuple (toPs (d.map .int))) = PyData.eqvAll (toPs (c.map .int)) (toPs (d.map .int)) by simp [PyData.eqv], eqv_ints, Bool.eq_iff_iff, Bool.and_eq_true]
    simp only [decide_eq_true_eq, List.cons.injEq]
theorem deq_ints {a b : List Int} : deq (.lst (a.map .int)) (.lst (b.map .int)) = decide (a = b) := by
  show PyData.eqv (.list (toPs (a.map .int))) (.list (toPs (b.map .int))) = _
  rw [← eqv_ints]; simp [PyData.eqv]
theorem deq_rows {a b : List (List Int)} : deq (.lst (rowsI a)) (.lst (rowsI b)) = decide (a = b) := by
  show PyData.eqv (.list (toPs (rowsI a))) (.list (toPs (rowsI b))) = _
  rw [← eqv_rows]; simp [PyData.eqv]
theorem lay_ints : ∀ a : List Int, PyData.canLayAll0 (toPs (a.map .int)) = true
  | [] => rfl
  | c :: a => by
    show (PyData.canLay0 (.int c) && PyData.canLayAll0 (toPs (a.map .int))) = true
    rw [lay_ints a, Bool.and_true]
    simp [PyData.canLay0]
theorem dep_ints : ∀ a : List Int, PyData.depthAll (toPs (a.map .int)) = 0
  | [] => rfl
  | c :: a => by
    show max (PyData.depth (.int c)) (PyData.depthAll (toPs (a.map .int))) = 0
    rw [dep_ints a]
    simp [PyData.depth]
theorem lay_rows : ∀ a : List (List Int), PyData.canLayAll0 (toPs (rowsI a)) = true
  | [] => rfl
  | c :: a => by
    show (PyData.canLay0 (.tuple (toPs (c.map .int))) && PyData.canLayAll0 (toPs (rowsI a))) = true
    rw [lay_rows a, Bool.and_true, ← lay_ints c]
    simp [PyData.canLay0]
theorem dep_rows : ∀ a : List (List Int), PyData.depthAll (toPs (rowsI a)) ≤ 1
  | [] => Nat.zero_le _
  | c :: a => by
    show max (PyData.depth (.tuple (toPs (c.map .int)))) (PyData.depthAll (toPs (rowsI a))) ≤ 1
    have := dep_rows a
    have h : PyData.depth (.tuple (toPs (c.map .int))) = 1 := by simp [PyData.depth, dep_ints]
    rw [h]
    omega
theorem eqOk_ints (a : List Int) : eqOk (.lst (a.map .int)) = true := by
  show (PyData.canLay0 (.list (toPs (a.map .int))) && decide (PyData.depth (.list (toPs (a.map .int))) ≤ 64)) = true
  have h1 : PyData.canLay0 (.list (toPs (a.map .int))) = true := by
    rw [← lay_ints a]; simp [PyData.canLay0]
  have h2 : PyData.depth (.list (toPs (a.map .int))) = 1 := by
    simp [PyData.depth, dep_ints]
  rw [h1, h2]; rfl
theorem eqOk_rows (a : List (List Int)) : eqOk (.lst (rowsI a)) = true := by
  show (PyData.canLay0 (.list (toPs (rowsI a))) && decide (PyData.depth (.list (toPs (rowsI a))) ≤ 64)) = true
  have h1 : PyData.canLay0 (.list (toPs (rowsI a))) = true := by
    rw [← lay_rows a]; simp [PyData.canLay0]
  have h2 : PyData.depth (.list (toPs (rowsI a))) ≤ 2 := by
    have := dep_rows a
    simp [PyData.depth]; omega
  rw [h1, Bool.true_and]
  exact decide_eq_true (by omega)


end K11

namespace K11
open PySem PySem.Spec PyProof.Rows L2 DL
local macro_rules | `(tactic| wtm_at "dl side") => `(tactic| first
  | ((with_reducible refine (?_ : _ = _)); eq_refl)
  | ((with_reducible refine (?_ : _ ≤ sizeLine)); first | apply Nat.le_of_ble_eq_true rfl | (unfold sizeLine; omega) | (simp only [List.length_append, List.length_cons, List.length_nil, List.length_map, List.length_take, List.length_drop, List.length_replicate, sizeLine]; omega))
  | with_reducible assumption
  | ((with_reducible refine (?_ : _ ∧ _)); refine ⟨?_, ?_⟩ <;> wtm_at "dl side")
  | ((with_reducible refine (?_ : CMul _ _ ∨ CMulW _ _)); first | exact .inl (.inr (by omega)) | exact .inl (.inl (by omega)) | exact .inl (.inr (by decide)) | exact .inl (.inl (by decide)))
  | ((with_reducible refine (?_ : CPow _ _)); exact ⟨by decide, by decide, by decide⟩)
  | ((with_reducible refine (?_ : isTy _ _ _)); first | apply rfl | exact isTy_lst (by wtm_at "dl at"))
  | ((with_reducible refine (?_ : small62 _)); constructor <;> first | decide | omega)
  | ((with_reducible refine (?_ : List.length _ < _)); apply Nat.le_of_ble_eq_true rfl)
  | ((with_reducible refine (?_ : hSameC _ _ _)); first | (apply sameC_ty; apply rfl) | (apply sameC_ref; wtm_at "dl at"))
  | omega
  | decide
  | (simp only [List.length_append, List.length_cons, List.length_nil, List.length_map, List.length_take, List.length_drop, List.length_replicate, sizeLine]; omega)
  | ((try simp only [List.length_append, List.length_cons, List.length_nil, List.length_map, List.length_replicate] at *); unfold sizeLine; omega))
local macro_rules | `(tactic| wtm_at "dl at") => `(tactic| first
  | with_reducible apply Sto.set_same
  | with_reducible assumption
  | assumption
  | ((repeat (first | (with_reducible exact Sto.set_same) | (refine (Sto.set_ne (by assumption)).trans ?_) | (refine (Sto.set_ne (Ne.symm (by assumption))).trans ?_))) <;> assumption))
local macro_rules | `(tactic| wtm_at "dl ix") => `(tactic| first | with_reducible assumption | apply rfl | assumption)
local macro_rules | `(tactic| wtm_at "dl st") => `(tactic| ((conv => whnf); first
  | apply stp
  | refine hAnd_i (by wtm_at "dl side") ?_
  | refine hAt_i (by wtm_at "dl at") ?_
  | refine hGet_i (by wtm_at "dl ix") ?_
  | refine hGetC_i (by wtm_at "dl ix") ?_
  | refine hVal_i (by wtm_at "dl ix") ?_
  | refine hKd_i (by wtm_at "dl ix") ?_
  | refine hTab_i (by wtm_at "dl at") ?_
  | refine hPut_i rfl ?_
  | refine hIf_t ?_
  | refine hIf_f ?_))
local macro_rules | `(tactic| wtm_at "dl go") => `(tactic| ((repeat wtm_at "dl st"); try (conv => whnf)))

theorem rising_str {v : D} {ls : List Nat} {m : Int} (h : isRising v ls m = true) : ∃ cs, v = .str cs := by
  cases v <;> first | (cases h; done) | exact ⟨_, rfl⟩
theorem SqV.form {S : Sto} {P : D → Prop} {d : D} {xs : List D} (h : SqV S P d) (e : seqV S d = some xs) : SqF S d xs ∧ ∀ x ∈ xs, P x := by
  rcases h with ⟨ys, hF, _, hp⟩ | ⟨_, hn⟩
  · have := (sq_val hF).symm.trans e
    cases this
    exact ⟨hF, hp⟩
  · rw [hn] at e; cases e
theorem tab_some {S : Sto} {n : Nat} {t : D} (h : tabErr S n t = none) : ∃ rows, seqV S t = some rows ∧ rows.length ≤ 200 ∧ badRow S n rows.length 0 rows = none := by
  unfold tabErr at h
  split at h
  · rename_i rows e
    split at h
    · rename_i c; exact ⟨rows, e, c.2, h⟩
    · cases h
  · cases h
theorem badRow_none {S : Sto} {n size : Nat} : ∀ {i : Nat} {l : List D}, badRow S n size i l = none → ∀ r ∈ l, rowOk S n size r = true
  | _, [], _, _, h => by cases h
  | i, x :: l, h, r, hr => by
    have h : (if rowOk S n size x then badRow S n size (i + 1) l else some (i : Int)) = none := h
    split at h
    · rename_i c
      rcases List.mem_cons.mp hr with rfl | hr
      · exact c
      · exact badRow_none h r hr
    · cases h
theorem row_some {S : Sto} {n size : Nat} {r : D} (h : rowOk S n size r = true) : ∃ xs, seqV S r = some xs := by
  unfold rowOk at h
  split at h
  · rename_i xs e; exact ⟨xs, e⟩
  · cases h
theorem bad_some {S : Sto} {n : Nat} {t : D} (h : badErr S n t = none) : ∃ xs, seqV S t = some xs := by
  unfold badErr at h
  split at h
  · rename_i xs e; exact ⟨xs, e⟩
  · cases h
theorem sq_tup {S : Sto} {d : D} {xs : List D} {q : QD} (h : SqF S d xs) (k : q (.tup xs) S) : hTupOf d S q := by
  rcases h with rfl | rfl | ⟨p, rfl, e⟩
  · rw [hTupOf_eq]; exact k
  · rw [hTupOf_eq]; exact k
  · rw [hTupOf_eq]
    show (match S p with
      | some (.lst ds) => q (.tup ds) S
      | _ => False)
    rw [e]
    exact k
theorem sq_list {S : Sto} {d : D} {xs : List D} {q : QD} (h : SqF S d xs) (k : q (.lst xs) S) : hList d S q := by
  rcases h with rfl | rfl | ⟨p, rfl, e⟩
  · wtm_at "dl go"
    exact k
  · wtm_at "dl go"
    exact k
  · wtm_at "dl go"
    exact k
theorem SqF.keep {S S' : Sto} {d : D} {xs : List D} (h : SqF S d xs) (k : ∀ p, S p = some (.lst xs) → S' p = some (.lst xs)) : SqF S' d xs := by
  rcases h with rfl | rfl | ⟨p, rfl, e⟩
  · exact .inl rfl
  · exact .inr (.inl rfl)
  · exact .inr (.inr ⟨p, rfl, k p e⟩)
theorem l_Machine___init__ : codeT sp_Machine_init t_Machine___init__ 5 := by
  intro ds S q e h
  obtain ⟨p, f, t, b, rfl, hS, hf, ht, hb, k, ke⟩ := h
  wtm_at "dl go"
  refine ⟨f, rfl, hf, ?_⟩
  cases c1 : isRising f az 6 with
  | false =>
    wtm_at "dl go"
    exact ke ⟨16, tInvalidFaces, 9, f⟩ (by unfold macErr; rw [if_pos c1])
  | true =>
    obtain ⟨fs, rfl⟩ := rising_str c1
    have e0 : macErr S (.str fs) t b = (match tabErr S fs.length t with
      | some i => some ⟨31, tInvalidTable, 1, .int i⟩
      | none => (badErr S ((seqV S t).getD []).length b).map fun i => ⟨12, tInvalidBad, 1, .int i⟩) := by
      unfold macErr
      rw [if_neg (by rw [c1]; decide)] <;> rfl
    wtm_at "dl go"
    refine ⟨fs, t, rfl, hf.2, ht, fun c2 => ?_, fun i c2 => ke ⟨31, tInvalidTable, 1, .int i⟩ (by rw [e0, c2])⟩
    obtain ⟨rows, er, hl, hbr⟩ := tab_some c2
    rw [c2, er] at e0
    have e0 : macErr S (.str fs) t b = (badErr S rows.length b).map fun i => ⟨12, tInvalidBad, 1, .int i⟩ := e0
    obtain ⟨hF, hP⟩ := ht.form er
    wtm_at "dl go"
    refine sq_len hF ?_
    wtm_at "dl go"
    refine ⟨b, rows.length, rfl, hb, fun c3 => ?_, fun i c3 => ke ⟨12, tInvalidBad, 1, .int i⟩ (by rw [e0, c3]; rfl)⟩
    obtain ⟨bs, eb⟩ := bad_some c3
    rw [c3] at e0
    have kk := k fs rows bs rfl e0 er eb
    clear k
    obtain ⟨hB, _⟩ := hb.form eb
    have keep : ∀ {o : O} {xs : List D} (p2 : Addr), S p2 = some (.lst xs) → S.set p o p2 = some (.lst xs) := fun p2 e2 => by
      have n : p2 ≠ p := fun z => by rw [z, hS] at e2; cases e2
      rw [Sto.set_ne n]; exact e2
    have hF1 := fun o => hF.keep (S' := S.set p o) (fun p2 e2 => keep p2 e2)
    have hB1 := fun o => hB.keep (S' := S.set p o) (fun p2 e2 => keep p2 e2)
    have ne : ∀ p1, S p1 = some (.lst rows) → p1 ≠ p := fun p1 e2 z => by rw [z, hS] at e2; cases e2
    rcases hF with rfl | rfl | ⟨p1, rfl, e1⟩
    all_goals
      try have n1 := ne p1 e1
      wtm_at "dl go"
      rw [← List.map_id rows]
      refine lcMapK (by first | trivial | exact keep p1 e1 | (rw [List.map_id]; exact keep p1 e1)) (fun x : D => id x) (fun r => .tup ((seqV S r).getD [])) rows (by unfold sizeLine; omega) (fun r hr K h => ?_) ?_
      · obtain ⟨xs, ex⟩ := row_some (badRow_none hbr r hr)
        obtain ⟨hR, _⟩ := (hP r hr).form ex
        wtm_at "dl go"
        refine sq_tup (hR.keep (S' := S.set p _) fun p2 e2 => keep p2 e2) ?_
        rw [ex] at h
        exact h
      · wtm_at "dl go"
        simp only [Sto.set_set]
        refine sq_list (hB1 _) ?_
        wtm_at "dl go"
        simp only [Sto.set_set]
        exact kk
theorem l_Machine_size : codeT sp_Machine_size t_Machine_size 1 := by
  intro ds S q e h
  obtain ⟨p, fs, rows, bad, rfl, hS, k⟩ := h
  unfold mcO at hS
  wtm_at "dl go"
  exact k


end K11

namespace K11
open PySem PySem.Spec PyProof.Rows L2 DL
local macro_rules | `(tactic| wtm_at "dl side") => `(tactic| first
  | ((with_reducible refine (?_ : _ = _)); eq_refl)
  | ((with_reducible refine (?_ : _ ≤ sizeLine)); first | apply Nat.le_of_ble_eq_true rfl | (unfold sizeLine; omega) | (simp only [List.length_append, List.length_cons, List.length_nil, List.length_map, List.length_take, List.length_drop, List.length_replicate, sizeLine]; omega))
  | with_reducible assumption
  | ((with_reducible refine (?_ : _ ∧ _)); refine ⟨?_, ?_⟩ <;> wtm_at "dl side")
  | ((with_reducible refine (?_ : CMul _ _ ∨ CMulW _ _)); first | exact .inl (.inr (by omega)) | exact .inl (.inl (by omega)) | exact .inl (.inr (by decide)) | exact .inl (.inl (by decide)))
  | ((with_reducible refine (?_ : CPow _ _)); exact ⟨by decide, by decide, by decide⟩)
  | ((with_reducible refine (?_ : isTy _ _ _)); first | apply rfl | exact isTy_lst (by wtm_at "dl at"))
  | ((with_reducible refine (?_ : small62 _)); constructor <;> first | decide | omega)
  | ((with_reducible refine (?_ : List.length _ < _)); apply Nat.le_of_ble_eq_true rfl)
  | ((with_reducible refine (?_ : hSameC _ _ _)); first | (apply sameC_ty; apply rfl) | (apply sameC_ref; wtm_at "dl at"))
  | omega
  | decide
  | (simp only [List.length_append, List.length_cons, List.length_nil, List.length_map, List.length_take, List.length_drop, List.length_replicate, sizeLine]; omega)
  | ((try simp only [List.length_append, List.length_cons, List.length_nil, List.length_map, List.length_replicate] at *); unfold sizeLine; omega))
local macro_rules | `(tactic| wtm_at "dl at") => `(tactic| first
  | with_reducible apply Sto.set_same
  | with_reducible assumption
  | assumption
  | ((repeat (first | (with_reducible exact Sto.set_same) | (refine (Sto.set_ne (by assumption)).trans ?_) | (refine (Sto.set_ne (Ne.symm (by assumption))).trans ?_))) <;> assumption))
local macro_rules | `(tactic| wtm_at "dl ix") => `(tactic| first | with_reducible assumption | apply rfl | assumption)
local macro_rules | `(tactic| wtm_at "dl st") => `(tactic| ((conv => whnf); first
  | apply stp
  | refine hAnd_i (by wtm_at "dl side") ?_
  | refine hAt_i (by wtm_at "dl at") ?_
  | refine hGet_i (by wtm_at "dl ix") ?_
  | refine hGetC_i (by wtm_at "dl ix") ?_
  | refine hVal_i (by wtm_at "dl ix") ?_
  | refine hKd_i (by wtm_at "dl ix") ?_
  | refine hTab_i (by wtm_at "dl at") ?_
  | refine hPut_i rfl ?_
  | refine hIf_t ?_
  | refine hIf_f ?_))
local macro_rules | `(tactic| wtm_at "dl go") => `(tactic| ((repeat wtm_at "dl st"); try (conv => whnf)))

theorem log_small {n : Nat} (h : n ≤ 1000) : ((n : Int)).natAbs.log2 < 1920 := by
  rw [Int.natAbs_natCast]
  by_cases c : n = 0
  · subst c; decide
  · exact (Nat.log2_lt c).mpr (Nat.lt_of_lt_of_le (show n < 2 ^ 10 by omega) (Nat.pow_le_pow_right (by decide) (by decide)))
theorem le_gone {S : Sto} {p : Addr} {o : O} (h : S p = none) : Sto.Le S (S.set p o) := fun b => by
  by_cases e : b = p
  · exact .inr (by rw [e]; exact h)
  · exact .inl (by rw [Sto.set_ne e])
theorem le_trans {A B C : Sto} (h1 : Sto.Le A B) (h2 : Sto.Le B C) : Sto.Le A C := fun b => (h1 b).elim (fun e => (h2 b).elim (fun e2 => .inl (e.trans e2)) (fun z => .inr (e.trans z))) .inr
theorem rep_small : ∀ n : Nat, n < 1001 → (TL.tl (toString (n : Int))).length ≤ 10 := by decide +kernel
theorem l_Machine_table : codeT sp_Machine_table t_Machine_table 1 := by
  intro ds S q e h
  obtain ⟨p, fs, rows, bad, rfl, hS, k⟩ := h
  unfold mcO at hS
  wtm_at "dl go"
  intro a ha
  wtm_at "dl go"
  exact k a ha
theorem l_Machine_bad : codeT sp_Machine_bad t_Machine_bad 1 := by
  intro ds S q e h
  obtain ⟨p, fs, rows, bad, rfl, hS, k⟩ := h
  unfold mcO at hS
  wtm_at "dl go"
  intro a ha
  wtm_at "dl go"
  exact k a ha
theorem l_Machine___repr__ : codeT sp_Machine_repr t_Machine___repr__ 1 := by
  intro ds S q e h
  obtain ⟨p, fs, rows, bad, rfl, hS, hl, k⟩ := h
  unfold mcO at hS
  have lg := log_small hl
  have rl := rep_small rows.length (by omega)
  wtm_at "dl go"
  exact k
theorem l_Machine___eq__ : codeG sp_Machine_eq t_Machine___eq__ 2 := by
  intro ds S q e h
  obtain ⟨p, y, fs, rs, bs, rfl, hS, hl, h⟩ := h
  unfold mcO at hS
  rcases h with ⟨p2, fs2, rs2, bs2, rfl, hS2, hl2, k⟩ | ⟨hy, k⟩
  · unfold mcO at hS2
    wtm_at "dl go"
    refine hIf_c (fun c => ?_) (fun c => ?_)
    · wtm_at "dl go"
      have c : fs ≠ fs2 := by simpa using c
      rw [decide_eq_false c, Bool.false_and] at k
      exact ⟨S, .refl, k⟩
    · have c : fs = fs2 := by simpa using c
      rw [decide_eq_true c, Bool.true_and] at k
      wtm_at "dl go"
      refine ⟨p2, fs2, rowsI rs2, bs2.map .int, rfl, hS2, fun a ha => ?_⟩
      have n1 : p ≠ a := Sto.ne_of hS ha
      have n2 : p2 ≠ a := Sto.ne_of hS2 ha
      wtm_at "dl go"
      refine hEq_g (eqOk_rows _) (eqOk_rows _) ?_
      rw [deq_rows]
      by_cases c2 : rs = rs2
      · rw [decide_eq_true c2, Bool.true_and] at k
        rw [decide_eq_true c2]
        wtm_at "dl go"
        refine ⟨p2, fs2, rowsI rs2, bs2.map .int, rfl, (by wtm_at "dl at"), fun b hb => ?_⟩
        wtm_at "dl go"
        refine hEq_g (eqOk_ints _) (eqOk_ints _) ?_
        rw [deq_ints]
        wtm_at "dl go"
        exact ⟨S, le_trans (le_gone ha) (le_gone hb), k⟩
      · rw [decide_eq_false c2, Bool.false_and] at k
        rw [decide_eq_false c2]
        wtm_at "dl go"
        exact ⟨S, le_gone ha, k⟩
  · cases y <;> first | (cases hy; done) | skip
    all_goals
      wtm_at "dl go"
      exact ⟨S, .refl, k⟩


end K11

namespace K11
open PySem PySem.Spec PyProof.Rows L2 DL
local macro_rules | `(tactic| wtm_at "dl side") => `(tactic| first
  | ((with_reducible refine (?_ : _ = _)); eq_refl)
  | ((with_reducible refine (?_ : _ ≤ sizeLine)); first | apply Nat.le_of_ble_eq_true rfl | (unfold sizeLine; omega) | (simp only [List.length_append, List.length_cons, List.length_nil, List.length_map, List.length_take, List.length_drop, List.length_replicate, sizeLine]; omega))
  | with_reducible assumption
  | ((with_reducible refine (?_ : _ ∧ _)); refine ⟨?_, ?_⟩ <;> wtm_at "dl side")
  | ((with_reducible refine (?_ : CMul _ _ ∨ CMulW _ _)); first | exact .inl (.inr (by omega)) | exact .inl (.inl (by omega)) | exact .inl (.inr (by decide)) | exact .inl (.inl (by decide)))
  | ((with_reducible refine (?_ : CPow _ _)); exact ⟨by decide, by decide, by decide⟩)
  | ((with_reducible refine (?_ : isTy _ _ _)); first | apply rfl | exact isTy_lst (by wtm_at "dl at"))
  | ((with_reducible refine (?_ : small62 _)); constructor <;> first | decide | omega)
  | ((with_reducible refine (?_ : List.length _ < _)); apply Nat.le_of_ble_eq_true rfl)
  | ((with_reducible refine (?_ : hSameC _ _ _)); first | (apply sameC_ty; apply rfl) | (apply sameC_ref; wtm_at "dl at"))
  | omega
  | decide
  | (simp only [List.length_append, List.length_cons, List.length_nil, List.length_map, List.length_take, List.length_drop, List.length_replicate, sizeLine]; omega)
  | ((try simp only [List.length_append, List.length_cons, List.length_nil, List.length_map, List.length_replicate] at *); unfold sizeLine; omega))
local macro_rules | `(tactic| wtm_at "dl at") => `(tactic| first
  | with_reducible apply Sto.set_same
  | with_reducible assumption
  | assumption
  | ((repeat (first | (with_reducible exact Sto.set_same) | (refine (Sto.set_ne (by assumption)).trans ?_) | (refine (Sto.set_ne (Ne.symm (by assumption))).trans ?_))) <;> assumption))
local macro_rules | `(tactic| wtm_at "dl ix") => `(tactic| first | with_reducible assumption | apply rfl | assumption)
local macro_rules | `(tactic| wtm_at "dl st") => `(tactic| ((conv => whnf); first
  | apply stp
  | refine hAnd_i (by wtm_at "dl side") ?_
  | refine hAt_i (by wtm_at "dl at") ?_
  | refine hGet_i (by wtm_at "dl ix") ?_
  | refine hGetC_i (by wtm_at "dl ix") ?_
  | refine hVal_i (by wtm_at "dl ix") ?_
  | refine hKd_i (by wtm_at "dl ix") ?_
  | refine hTab_i (by wtm_at "dl at") ?_
  | refine hPut_i rfl ?_
  | refine hIf_t ?_
  | refine hIf_f ?_))
local macro_rules | `(tactic| wtm_at "dl go") => `(tactic| ((repeat wtm_at "dl st"); try (conv => whnf)))

theorem l__law_some_machine : codeT sp__law_some_machine t__law_some_machine 7 := by
  intro ds S q e h
  obtain ⟨p, o, fs, most, rfl, hS, hB, hf, m1, m2, k⟩ := h
  wtm_at "dl go"
  refine ⟨p, o, most, rfl, hS, hB, by omega, by omega, fun r o1 r0 r1 hB1 => ?_⟩
  obtain ⟨n, rfl⟩ : ∃ n : Nat, r = n := ⟨r.toNat, by omega⟩
  have en : (1 + (n : Int)).toNat = n + 1 := by omega
  wtm_at "dl go"
  refine lcInv (fun r acc S' => r.length + acc.length = n + 1 ∧ ∃ o', BagO o' ∧ S' = S.set p o' ∧ ∀ x ∈ acc, ∃ xs : List Int, x = .tup (xs.map .int) ∧ xs.length = fs.length ∧ ∀ y ∈ xs, 0 ≤ y ∧ y < 1 + (n : Int)) (fun d r acc S' ih h => ?_) (fun acc S' h => ?_) _ _ _ ⟨by rw [intsD_length]; simp; omega, o1, hB1, rfl, fun _ z => by cases z⟩
  · obtain ⟨hl, o', hB', rfl, ha⟩ := h
    wtm_at "dl go"
    refine lcInv (fun r2 acc2 S2 => r2.length + acc2.length = fs.length ∧ ∃ o2, BagO o2 ∧ S2 = S.set p o2 ∧ ∃ xs : List Int, acc2 = xs.map .int ∧ ∀ y ∈ xs, 0 ≤ y ∧ y < 1 + (n : Int)) (fun d2 r2 acc2 S2 ih2 h2 => ?_) (fun acc2 S2 h2 => ?_) _ _ _ ⟨by unfold DL.signs; simp, o', hB', rfl, [], rfl, fun _ z => by cases z⟩
    · obtain ⟨hl2, o2, hB2, rfl, xs, rfl, hx⟩ := h2
      simp only [List.length_cons, List.length_map] at hl2
      wtm_at "dl go"
      refine ⟨p, o2, _, rfl, Sto.set_same, hB2, by omega, by omega, fun y o3 y0 y1 hB3 => ?_⟩
      wtm_at "dl go"
      refine ih2 _ _ ⟨?_, o3, hB3, Sto.set_set, xs ++ [y], by rw [List.map_append]; rfl, fun z hz => ?_⟩
      · simp only [List.length_append, List.length_map, List.length_cons, List.length_nil]; omega
      · rcases List.mem_append.mp hz with hz | hz
        · exact hx z hz
        · rw [List.mem_singleton.mp hz]; exact ⟨y0, y1⟩
    · obtain ⟨hl2, o2, hB2, rfl, xs, rfl, hx⟩ := h2
      simp only [List.length_nil, List.length_map] at hl2
      simp only [List.length_cons] at hl
      wtm_at "dl go"
      refine ih _ _ ⟨?_, o2, hB2, rfl, fun z hz => ?_⟩
      · simp only [List.length_append, List.length_cons, List.length_nil]; omega
      · rcases List.mem_append.mp hz with hz | hz
        · exact ha z hz
        · rw [List.mem_singleton.mp hz]; exact ⟨xs, rfl, by omega, hx⟩
  · obtain ⟨hl, o', hB', rfl, ha⟩ := h
    simp only [List.length_nil, Nat.zero_add] at hl
    wtm_at "dl go"
    rw [intsD_range]
    refine lcInv (fun r acc2 S' => ∃ (o2 : O) (a b cs : List Nat), BagO o2 ∧ S' = S.set p o2 ∧ List.range (n + 1) = a ++ b ∧ r = (b.map fun i : Nat => D.int i) ∧ cs.Sublist a ∧ acc2 = cs.map fun i : Nat => D.int i) (fun d r acc2 S' ih h => ?_) (fun acc2 S' h => ?_) _ _ _ ⟨o', [], List.range (n + 1), [], hB', rfl, rfl, by first | rfl | rw [en], .slnil, rfl⟩
    · obtain ⟨o2, a, b, cs, hB2, rfl, e1, e2, hc, rfl⟩ := h
      cases b with
      | nil => cases e2
      | cons i b =>
        cases e2
        have hl3 := congrArg List.length e1
        have hl4 := hc.length_le
        simp only [List.length_range, List.length_append, List.length_cons] at hl3
        wtm_at "dl go"
        refine ⟨p, o2, _, rfl, Sto.set_same, hB2, by omega, by omega, fun y o3 y0 y1 hB3 => ?_⟩
        wtm_at "dl go"
        refine hIf_c (fun c => ?_) (fun c => ?_)
        · wtm_at "dl go"
          exact ih _ _ ⟨o3, a ++ [i], b, cs ++ [i], hB3, Sto.set_set, by rw [e1, List.append_assoc]; rfl, rfl, hc.append (List.Sublist.refl _), by rw [List.map_append]; rfl⟩
        · exact ih _ _ ⟨o3, a ++ [i], b, cs, hB3, Sto.set_set, by rw [e1, List.append_assoc]; rfl, rfl, hc.trans (List.sublist_append_left _ _), rfl⟩
    · obtain ⟨o2, a, b, cs, hB2, rfl, e1, e2, hc, rfl⟩ := h
      cases b with
      | cons i b => cases e2
      | nil =>
        rw [List.append_nil] at e1
        subst e1
        have k2 := k acc (cs.map fun i : Nat => (i : Int)) o2 (fun z => by rw [z] at hl; cases hl) (by omega) (fun r hr => by
          obtain ⟨xs, e, el, hx⟩ := ha r hr
          exact ⟨xs, e, el, fun y hy => by have := hx y hy; omega⟩) (by rw [hl]; exact hc.map _) hB2
        rw [List.map_map] at k2
        wtm_at "dl go"
        exact k2


end K11

namespace K11
open PySem PySem.Spec PyProof.Rows L2 DL
local macro_rules | `(tactic| wtm_at "dl side") => `(tactic| first
  | ((with_reducible refine (?_ : _ = _)); eq_refl)
  | ((with_reducible refine (?_ : _ ≤ sizeLine)); first | apply Nat.le_of_ble_eq_true rfl | (unfold sizeLine; omega) | (simp only [List.length_append, List.length_cons, List.length_nil, List.length_map, List.length_take, List.length_drop, List.length_replicate, sizeLine]; omega))
  | with_reducible assumption
  | ((with_reducible refine (?_ : _ ∧ _)); refine ⟨?_, ?_⟩ <;> wtm_at "dl side")
  | ((with_reducible refine (?_ : CMul _ _ ∨ CMulW _ _)); first | exact .inl (.inr (by omega)) | exact .inl (.inl (by omega)) | exact .inl (.inr (by decide)) | exact .inl (.inl (by decide)))
  | ((with_reducible refine (?_ : CPow _ _)); exact ⟨by decide, by decide, by decide⟩)
  | ((with_reducible refine (?_ : isTy _ _ _)); first | apply rfl | exact isTy_lst (by wtm_at "dl at"))
  | ((with_reducible refine (?_ : small62 _)); constructor <;> first | decide | omega)
  | ((with_reducible refine (?_ : List.length _ < _)); apply Nat.le_of_ble_eq_true rfl)
  | ((with_reducible refine (?_ : hSameC _ _ _)); first | (apply sameC_ty; apply rfl) | (apply sameC_ref; wtm_at "dl at"))
  | omega
  | decide
  | (simp only [List.length_append, List.length_cons, List.length_nil, List.length_map, List.length_take, List.length_drop, List.length_replicate, sizeLine]; omega)
  | ((try simp only [List.length_append, List.length_cons, List.length_nil, List.length_map, List.length_replicate] at *); unfold sizeLine; omega))
local macro_rules | `(tactic| wtm_at "dl at") => `(tactic| first
  | with_reducible apply Sto.set_same
  | with_reducible assumption
  | assumption
  | ((repeat (first | (with_reducible exact Sto.set_same) | (refine (Sto.set_ne (by assumption)).trans ?_) | (refine (Sto.set_ne (Ne.symm (by assumption))).trans ?_))) <;> assumption))
local macro_rules | `(tactic| wtm_at "dl ix") => `(tactic| first | with_reducible assumption | apply rfl | assumption)
local macro_rules | `(tactic| wtm_at "dl st") => `(tactic| ((conv => whnf); first
  | apply stp
  | refine hAnd_i (by wtm_at "dl side") ?_
  | refine hAt_i (by wtm_at "dl at") ?_
  | refine hGet_i (by wtm_at "dl ix") ?_
  | refine hGetC_i (by wtm_at "dl ix") ?_
  | refine hVal_i (by wtm_at "dl ix") ?_
  | refine hKd_i (by wtm_at "dl ix") ?_
  | refine hTab_i (by wtm_at "dl at") ?_
  | refine hPut_i rfl ?_
  | refine hIf_t ?_
  | refine hIf_f ?_))
local macro_rules | `(tactic| wtm_at "dl go") => `(tactic| ((repeat wtm_at "dl st"); try (conv => whnf)))

/-! ### a machine is made -/
def Tr (n : Nat) (rs : List (List Int)) : Prop := 1 ≤ rs.length ∧ ∀ xs ∈ rs, xs.length = n ∧ ∀ x ∈ xs, 0 ≤ x ∧ x < (rs.length : Int)
def BadOk (n : Nat) (bs : List Int) : Prop := (∀ x ∈ bs, 0 ≤ x ∧ x < (n : Int)) ∧ bs.Pairwise (· < ·)
/-- the rows of a table, lists of the store too -/
def RowsF (S : Sto) : List D → List (List Int) → Prop
  | [], [] => True
  | d :: ds, xs :: rs => SqF S d (xs.map .int) ∧ RowsF S ds rs
  | _, _ => False
theorem RowsF.len {S : Sto} : ∀ {ds : List D} {rs : List (List Int)}, RowsF S ds rs → ds.length = rs.length
  | [], [], _ => rfl
  | _ :: _, _ :: _, h => congrArg (· + 1) (RowsF.len h.2)
  | [], _ :: _, h => h.elim
  | _ :: _, [], h => h.elim
theorem RowsF.mem {S : Sto} : ∀ {ds : List D} {rs : List (List Int)}, RowsF S ds rs → ∀ d ∈ ds, ∃ xs ∈ rs, SqF S d (xs.map .int)
  | [], [], _, d, h => by cases h
  | _ :: _, xs :: rs, h, d, hd => by
    rcases List.mem_cons.mp hd with rfl | hd
    · exact ⟨xs, List.mem_cons_self .., h.1⟩
    · obtain ⟨ys, h1, h2⟩ := RowsF.mem h.2 d hd
      exact ⟨ys, List.mem_cons_of_mem _ h1, h2⟩
  | [], _ :: _, h, _, _ => h.elim
  | _ :: _, [], h, _, _ => h.elim
theorem RowsF.rows {S : Sto} : ∀ {ds : List D} {rs : List (List Int)}, RowsF S ds rs → rowsG S ds = rowsI rs
  | [], [], _ => rfl
  | d :: ds, xs :: rs, h => by
    show D.tup ((seqV S d).getD []) :: rowsG S ds = .tup (xs.map .int) :: rowsI rs
    rw [sq_val h.1, RowsF.rows h.2]; rfl
  | [], _ :: _, h => h.elim
  | _ :: _, [], h => h.elim
theorem RowsF.of {S : Sto} : ∀ {rs : List (List Int)}, RowsF S (rowsI rs) rs
  | [] => trivial
  | xs :: rs => ⟨.inr (.inl rfl), RowsF.of⟩
theorem RowsF.app {S : Sto} : ∀ {ds : List D} {rs : List (List Int)} {es : List D} {us : List (List Int)}, RowsF S ds rs → RowsF S es us → RowsF S (ds ++ es) (rs ++ us)
  | [], [], _, _, _, h => h
  | _ :: _, _ :: _, _, _, h, h2 => ⟨h.1, RowsF.app h.2 h2⟩
  | [], _ :: _, _, _, h, _ => h.elim
  | _ :: _, [], _, _, h, _ => h.elim
theorem RowsF.keep {S S' : Sto} (k : ∀ a xs, S a = some (.lst xs) → S' a = some (.lst xs)) : ∀ {ds : List D} {rs : List (List Int)}, RowsF S ds rs → RowsF S' ds rs
  | [], [], _ => trivial
  | _ :: _, _ :: _, h => ⟨h.1.keep fun p e => k p _ e, RowsF.keep k h.2⟩
  | [], _ :: _, h => h.elim
  | _ :: _, [], h => h.elim
theorem num_ok {size : Nat} {x : Int} (h : 0 ≤ x ∧ x < (size : Int)) : isNum (.int x) 0 ((size : Int) - 1) = true := by
  show (decide (0 ≤ x) && decide (x ≤ (size : Int) - 1)) = true
  rw [decide_eq_true h.1, decide_eq_true (show x ≤ (size : Int) - 1 by omega)]; rfl
theorem nums_all {xs : List Int} {size : Nat} (h : ∀ x ∈ xs, 0 ≤ x ∧ x < (size : Int)) : (xs.map D.int).all (fun x => isNum x 0 ((size : Int) - 1)) = true := by
  rw [List.all_eq_true]
  intro d hd
  obtain ⟨x, hx, rfl⟩ := List.mem_map.mp hd
  exact num_ok (h x hx)
theorem row_ok {S : Sto} {n size : Nat} {d : D} {xs : List Int} (hF : SqF S d (xs.map .int)) (hl : xs.length = n) (h : ∀ x ∈ xs, 0 ≤ x ∧ x < (size : Int)) : rowOk S n size d = true := by
  unfold rowOk
  rw [sq_val hF]
  show (decide ((xs.map D.int).length = n) && _) = true
  rw [List.length_map, decide_eq_true hl, nums_all h]; rfl
theorem ok_int (i : Int) : okV (.int i) := ⟨rfl, trivial⟩
theorem SqF.sq {S : Sto} {d : D} {xs : List Int} (h : SqF S d (xs.map .int)) (hl : xs.length ≤ 100000) : SqV S okV d := .inl ⟨xs.map .int, h, by rw [List.length_map]; exact hl, fun z hz => by
  obtain ⟨x, _, rfl⟩ := List.mem_map.mp hz
  exact ok_int x⟩
theorem badRow_no {S : Sto} {n size : Nat} : ∀ {l : List D} {i : Nat}, (∀ r ∈ l, rowOk S n size r = true) → badRow S n size i l = none
  | [], _, _ => rfl
  | r :: l, i, h => by
    show (if rowOk S n size r then badRow S n size (i + 1) l else some (i : Int)) = none
    rw [if_pos (h r (List.mem_cons_self ..))]
    exact badRow_no fun y hy => h y (List.mem_cons_of_mem _ hy)
theorem badNum_no {size : Nat} : ∀ {l pre : List Int}, BadOk size (pre ++ l) → badNum size ((pre ++ l).map .int) pre.length (l.map .int) = none
  | [], _, _ => rfl
  | x :: l, pre, h => by
    have hx := h.1 x (by simp)
    have up : (decide (pre.length = 0) || stepUp ((pre ++ x :: l).map D.int)[pre.length - 1]? (.int x)) = true := by
      cases hp : pre.length with
      | zero => rfl
      | succ m =>
        have hlt : m < pre.length := by omega
        have e1 : ((pre ++ x :: l).map D.int)[m + 1 - 1]? = some (.int pre[m]) := by
          rw [Nat.add_sub_cancel, List.getElem?_map, List.getElem?_append_left hlt, List.getElem?_eq_getElem hlt]; rfl
        rw [e1]
        show (false || decide (pre[m] < x)) = true
        rw [Bool.false_or]
        exact decide_eq_true ((List.pairwise_append.mp h.2).2.2 _ (List.getElem_mem hlt) x (List.mem_cons_self ..))
    show (if isNum (.int x) 0 ((size : Int) - 1) && (decide (pre.length = 0) || stepUp ((pre ++ x :: l).map D.int)[pre.length - 1]? (.int x)) then badNum size ((pre ++ x :: l).map .int) (pre.length + 1) (l.map .int) else some (pre.length : Int)) = none
    rw [num_ok hx, up, Bool.true_and, if_pos rfl]
    have e : pre ++ x :: l = (pre ++ [x]) ++ l := by rw [List.append_assoc]; rfl
    have el : pre.length + 1 = (pre ++ [x]).length := by simp
    rw [e] at h ⊢
    rw [el]
    exact badNum_no h
theorem mac_none {S : Sto} {fs : List Nat} {t b : D} {rows : List D} {rs : List (List Int)} {bs : List Int} (hf : isRising (.str fs) az 6 = true) (tr : Tr fs.length rs) (h200 : rs.length ≤ 200) (hT : SqF S t rows) (hR : RowsF S rows rs) (hB : SqF S b (bs.map .int)) (hb : BadOk rs.length bs) : macErr S (.str fs) t b = none := by
  have h1 : tabErr S fs.length t = none := by
    unfold tabErr
    rw [sq_val hT]
    show (if 1 ≤ rows.length ∧ rows.length ≤ 200 then badRow S fs.length rows.length 0 rows else some (-1)) = none
    have := hR.len
    have := tr.1
    rw [if_pos ⟨by omega, by omega⟩]
    refine badRow_no fun r hr => ?_
    obtain ⟨xs, hx, hF⟩ := hR.mem r hr
    exact row_ok hF (tr.2 xs hx).1 (by rw [hR.len]; exact (tr.2 xs hx).2)
  have h2 : badErr S rows.length b = none := by
    unfold badErr
    rw [sq_val hB, hR.len]
    exact badNum_no (pre := []) hb
  unfold macErr
  rw [if_neg (by rw [hf]; decide)]
  show (match tabErr S fs.length t with | some i => _ | none => (badErr S ((seqV S t).getD []).length b).map _) = none
  rw [h1, sq_val hT]
  show (badErr S rows.length b).map _ = none
  rw [h2]; rfl
theorem asc_len : ∀ {l : List Int} {a hi : Int}, l.Pairwise (· < ·) → (∀ x ∈ l, a ≤ x ∧ x < hi) → (l.length : Int) ≤ max (hi - a) 0
  | [], _, _, _, _ => by simp; omega
  | x :: l, a, hi, h, hx => by
    have h1 := hx x (List.mem_cons_self ..)
    have ih := asc_len (a := x + 1) (hi := hi) (List.pairwise_cons.mp h).2 fun y hy => by
      have a1 := (List.pairwise_cons.mp h).1 y hy
      have a2 := hx y (List.mem_cons_of_mem _ hy)
      omega
    simp only [List.length_cons]
    omega
theorem mk_facts {S : Sto} {fs : List Nat} {t b : D} {rows : List D} {rs : List (List Int)} {bs : List Int} (hf : isRising (.str fs) az 6 = true) (tr : Tr fs.length rs) (h200 : rs.length ≤ 200) (hT : SqF S t rows) (hR : RowsF S rows rs) (hB : SqF S b (bs.map .int)) (hb : BadOk rs.length bs) :
    okV (.str fs) ∧ SqV S (SqV S okV) t ∧ SqV S okV b ∧ macErr S (.str fs) t b = none ∧ seqV S t = some rows ∧ seqV S b = some (bs.map .int) ∧ rowsG S rows = rowsI rs := by
  have fl : fs.length ≤ 6 := by
    unfold isRising at hf
    simp only [Bool.and_eq_true, decide_eq_true_eq] at hf
    omega
  have bl : bs.length ≤ 100000 := by
    have h1 := asc_len hb.2 hb.1
    simp only [Int.sub_zero] at h1
    omega
  refine ⟨⟨rfl, by show fs.length ≤ 1000; omega⟩, .inl ⟨rows, hT, by rw [hR.len]; omega, fun r hr => ?_⟩, hB.sq bl, mac_none hf tr h200 hT hR hB hb, sq_val hT, sq_val hB, hR.rows⟩
  obtain ⟨xs, hx, hF⟩ := hR.mem r hr
  exact hF.sq (by have := (tr.2 xs hx).1; omega)
theorem rows_rs {n m : Nat} : ∀ {rows : List D}, (∀ r ∈ rows, ∃ xs : List Int, r = .tup (xs.map .int) ∧ xs.length = n ∧ ∀ x ∈ xs, 0 ≤ x ∧ x < (m : Int)) → ∃ rs : List (List Int), rows = rowsI rs ∧ ∀ xs ∈ rs, xs.length = n ∧ ∀ x ∈ xs, 0 ≤ x ∧ x < (m : Int)
  | [], _ => ⟨[], rfl, fun _ h => by cases h⟩
  | r :: rows, h => by
    obtain ⟨xs, rfl, h1⟩ := h r (List.mem_cons_self ..)
    obtain ⟨rs, rfl, h2⟩ := rows_rs fun y hy => h y (List.mem_cons_of_mem _ hy)
    exact ⟨xs :: rs, rfl, fun y hy => by
      rcases List.mem_cons.mp hy with rfl | hy
      · exact h1
      · exact h2 y hy⟩
theorem bad_sub {n : Nat} {bs : List Int} (h : bs.Sublist ((List.range n).map fun (i : Nat) => (i : Int))) : BadOk n bs := by
  refine ⟨fun x hx => ?_, ?_⟩
  · obtain ⟨i, hi, rfl⟩ := List.mem_map.mp (h.subset hx)
    have := List.mem_range.mp hi
    omega
  · refine List.Pairwise.sublist h ?_
    rw [List.pairwise_map]
    exact List.pairwise_lt_range.imp fun h => by omega
theorem lcMapD {kp : KP} {g : GD} {te : ED} {w : XD} {ρ : St'} {q : QD} {S : Sto} (hkp : kpOk kp S) (out : D → D) (xs : List D) (len : xs.length ≤ sizeLine)
    (step : ∀ x ∈ xs, ∀ K : QD, K (out x) S → g x w ρ S fun ρ1 S1 => te w ρ1 S1 K) (h : q (.lst (xs.map out)) S) : hLc kp g eYes te w ρ q xs [] S := by
  have := lcMapK hkp (fun x : D => x) out xs len step h
  rw [show xs.map (fun x : D => x) = xs from List.map_id xs] at this
  exact this
theorem bools_no {α : Type} : ∀ xs : List α, bools (xs.map fun _ => D.bl false) = some (xs.map fun _ => false)
  | [] => rfl
  | x :: xs => by
    show (bools (xs.map fun _ => D.bl false)).map (false :: ·) = _
    rw [bools_no xs]; rfl
theorem any_no {α : Type} : ∀ xs : List α, (xs.map fun _ => false).any id = false
  | [] => rfl
  | _ :: xs => any_no xs


end K11

namespace K11
open PySem PySem.Spec PyProof.Rows L2 DL
local macro_rules | `(tactic| wtm_at "dl side") => `(tactic| first
  | ((with_reducible refine (?_ : _ = _)); eq_refl)
  | ((with_reducible refine (?_ : _ ≤ sizeLine)); first | apply Nat.le_of_ble_eq_true rfl | (unfold sizeLine; omega) | (simp only [List.length_append, List.length_cons, List.length_nil, List.length_map, List.length_take, List.length_drop, List.length_replicate, sizeLine]; omega))
  | with_reducible assumption
  | ((with_reducible refine (?_ : _ ∧ _)); refine ⟨?_, ?_⟩ <;> wtm_at "dl side")
  | ((with_reducible refine (?_ : CMul _ _ ∨ CMulW _ _)); first | exact .inl (.inr (by omega)) | exact .inl (.inl (by omega)) | exact .inl (.inr (by decide)) | exact .inl (.inl (by decide)))
  | ((with_reducible refine (?_ : CPow _ _)); exact ⟨by decide, by decide, by decide⟩)
  | ((with_reducible refine (?_ : isTy _ _ _)); first | apply rfl | exact isTy_lst (by wtm_at "dl at"))
  | ((with_reducible refine (?_ : small62 _)); constructor <;> first | decide | omega)
  | ((with_reducible refine (?_ : List.length _ < _)); apply Nat.le_of_ble_eq_true rfl)
  | ((with_reducible refine (?_ : hSameC _ _ _)); first | (apply sameC_ty; apply rfl) | (apply sameC_ref; wtm_at "dl at"))
  | omega
  | decide
  | (simp only [List.length_append, List.length_cons, List.length_nil, List.length_map, List.length_take, List.length_drop, List.length_replicate, sizeLine]; omega)
  | ((try simp only [List.length_append, List.length_cons, List.length_nil, List.length_map, List.length_replicate] at *); unfold sizeLine; omega))
local macro_rules | `(tactic| wtm_at "dl at") => `(tactic| first
  | with_reducible apply Sto.set_same
  | with_reducible assumption
  | assumption
  | ((repeat (first | (with_reducible exact Sto.set_same) | (refine (Sto.set_ne (by assumption)).trans ?_) | (refine (Sto.set_ne (Ne.symm (by assumption))).trans ?_))) <;> assumption))
local macro_rules | `(tactic| wtm_at "dl ix") => `(tactic| first | with_reducible assumption | apply rfl | assumption)
local macro_rules | `(tactic| wtm_at "dl st") => `(tactic| ((conv => whnf); first
  | apply stp
  | refine hAnd_i (by wtm_at "dl side") ?_
  | refine hAt_i (by wtm_at "dl at") ?_
  | refine hGet_i (by wtm_at "dl ix") ?_
  | refine hGetC_i (by wtm_at "dl ix") ?_
  | refine hVal_i (by wtm_at "dl ix") ?_
  | refine hKd_i (by wtm_at "dl ix") ?_
  | refine hTab_i (by wtm_at "dl at") ?_
  | refine hPut_i rfl ?_
  | refine hIf_t ?_
  | refine hIf_f ?_))
local macro_rules | `(tactic| wtm_at "dl go") => `(tactic| ((repeat wtm_at "dl st"); try (conv => whnf)))

theorem joinSig : ∀ cs : List Nat, TL.joinL [] (cs.map fun c => [c]) = cs
  | [] => rfl
  | [c] => rfl
  | c :: b :: cs => by
    show [c] ++ ([] ++ TL.joinL [] ((b :: cs).map fun c => [c])) = _
    rw [joinSig (b :: cs)]; rfl
theorem strsSig : ∀ cs : List Nat, strsD (cs.map fun c => D.str [c]) = some (cs.map fun c => [c])
  | [] => rfl
  | c :: cs => by show (strsD (cs.map fun c => D.str [c])).map (_ :: ·) = _; rw [strsSig cs]; rfl
theorem sumSig (cs : List Nat) : ((cs.map fun c => [c]).map List.length).sum = cs.length := by
  induction cs with
  | nil => rfl
  | cons c cs ih => simp only [List.map_cons, List.sum_cons, List.length_cons, ih]; simp; omega
theorem l__law_some_faces : codeT sp__law_some_faces t__law_some_faces 2 := by
  intro ds S q e h
  obtain ⟨p, o, most, rfl, hS, hB, h1, h2, k⟩ := h
  wtm_at "dl go"
  refine ⟨p, o, most, rfl, hS, hB, by omega, by omega, fun r o' a b hB' => ?_⟩
  wtm_at "dl go"
  refine ⟨p, o', az, 1 + r, rfl, Sto.set_same, hB', by omega, ?_, by decide, fun cs o2 l1 l2 hB2 => ?_⟩
  · show (1 + r).toNat ≤ 26
    omega
  · rw [Sto.set_set]
    exact k cs o2 l2 (fun z => by subst z; simp at l1; omega) (by omega) hB2

end K11

namespace K11
open PySem PySem.Spec PyProof.Rows L2 DL
local macro_rules | `(tactic| wtm_at "dl side") => `(tactic| first
  | ((with_reducible refine (?_ : _ = _)); eq_refl)
  | ((with_reducible refine (?_ : _ ≤ sizeLine)); first | apply Nat.le_of_ble_eq_true rfl | (unfold sizeLine; omega) | (simp only [List.length_append, List.length_cons, List.length_nil, List.length_map, List.length_take, List.length_drop, List.length_replicate, sizeLine]; omega))
  | with_reducible assumption
  | ((with_reducible refine (?_ : _ ∧ _)); refine ⟨?_, ?_⟩ <;> wtm_at "dl side")
  | ((with_reducible refine (?_ : CMul _ _ ∨ CMulW _ _)); first | exact .inl (.inr (by omega)) | exact .inl (.inl (by omega)) | exact .inl (.inr (by decide)) | exact .inl (.inl (by decide)))
  | ((with_reducible refine (?_ : CPow _ _)); exact ⟨by decide, by decide, by decide⟩)
  | ((with_reducible refine (?_ : isTy _ _ _)); first | apply rfl | exact isTy_lst (by wtm_at "dl at"))
  | ((with_reducible refine (?_ : small62 _)); constructor <;> first | decide | omega)
  | ((with_reducible refine (?_ : List.length _ < _)); apply Nat.le_of_ble_eq_true rfl)
  | ((with_reducible refine (?_ : hSameC _ _ _)); first | (apply sameC_ty; apply rfl) | (apply sameC_ref; wtm_at "dl at"))
  | omega
  | decide
  | (simp only [List.length_append, List.length_cons, List.length_nil, List.length_map, List.length_take, List.length_drop, List.length_replicate, sizeLine]; omega)
  | ((try simp only [List.length_append, List.length_cons, List.length_nil, List.length_map, List.length_replicate] at *); unfold sizeLine; omega))
local macro_rules | `(tactic| wtm_at "dl at") => `(tactic| first
  | with_reducible apply Sto.set_same
  | with_reducible assumption
  | assumption
  | ((repeat (first | (with_reducible exact Sto.set_same) | (refine (Sto.set_ne (by assumption)).trans ?_) | (refine (Sto.set_ne (Ne.symm (by assumption))).trans ?_))) <;> assumption))
local macro_rules | `(tactic| wtm_at "dl ix") => `(tactic| first | with_reducible assumption | apply rfl | assumption)
local macro_rules | `(tactic| wtm_at "dl st") => `(tactic| ((conv => whnf); first
  | apply stp
  | refine hAnd_i (by wtm_at "dl side") ?_
  | refine hAt_i (by wtm_at "dl at") ?_
  | refine hGet_i (by wtm_at "dl ix") ?_
  | refine hGetC_i (by wtm_at "dl ix") ?_
  | refine hVal_i (by wtm_at "dl ix") ?_
  | refine hKd_i (by wtm_at "dl ix") ?_
  | refine hTab_i (by wtm_at "dl at") ?_
  | refine hPut_i rfl ?_
  | refine hIf_t ?_
  | refine hIf_f ?_))
local macro_rules | `(tactic| wtm_at "dl go") => `(tactic| ((repeat wtm_at "dl st"); try (conv => whnf)))

theorem gone_of {ls fs : List Nat} (h : fs.length < ls.length) (nd : ls.Nodup) : ∃ g r, ls.filter (fun c => !decide (c ∈ fs)) = g :: r ∧ g ∈ ls ∧ g ∉ fs := by
  cases e : ls.filter (fun c => !decide (c ∈ fs)) with
  | nil =>
    have : ∀ c ∈ ls, c ∈ fs := fun c hc => by
      rw [List.filter_eq_nil_iff] at e
      simpa using e c hc
    have := nodup_le nd this
    omega
  | cons g r =>
    have hm : g ∈ ls.filter (fun c => !decide (c ∈ fs)) := by rw [e]; simp
    rw [List.mem_filter] at hm
    exact ⟨g, r, rfl, hm.1, by simpa using hm.2⟩
theorem az_p : az.Pairwise (· < ·) := by decide
theorem one_le {a b : Nat} (h : ([a] : List Nat) ≤ [b]) : a ≤ b := Nat.le_of_not_lt fun z => by
  have : ([b] : List Nat) < [a] := List.cons_lt_cons_iff.mpr (.inl z)
  exact absurd this (List.not_lt.mpr h)
theorem new_faces {fs : List Nat} {g : Nat} (h1 : fs.Sublist az) (hg : g ∈ az) (hg2 : g ∉ fs) (l1 : 1 ≤ fs.length) (l6 : fs.length ≤ 6) :
    ∃ nf : List Nat, srt ((g :: fs.drop 1).map fun c => [c]) = nf.map (fun c => [c]) ∧ isRising (.str nf) az 6 = true ∧ g ∈ nf ∧ nf.length = fs.length := by
  have pm := srt_perm ((g :: fs.drop 1).map fun c => [c])
  have all : ∀ w ∈ srt ((g :: fs.drop 1).map fun c => [c]), ∃ c, w = [c] ∧ c ∈ g :: fs.drop 1 := fun w hw => by
    obtain ⟨c, hc, rfl⟩ := List.mem_map.mp (pm.mem_iff.mp hw)
    exact ⟨c, rfl, hc⟩
  have ex : ∀ ws : List (List Nat), (∀ w ∈ ws, ∃ c, w = [c] ∧ c ∈ g :: fs.drop 1) → ∃ nf : List Nat, ws = nf.map (fun c => [c]) ∧ ∀ c ∈ nf, c ∈ g :: fs.drop 1 := fun ws => by
    induction ws with
    | nil => intro _; exact ⟨[], rfl, fun _ h => by cases h⟩
    | cons w ws ih =>
      intro h
      obtain ⟨c, rfl, hc⟩ := h w (List.mem_cons_self ..)
      obtain ⟨nf, rfl, hn⟩ := ih fun y hy => h y (List.mem_cons_of_mem _ hy)
      exact ⟨c :: nf, rfl, fun d hd => by
        rcases List.mem_cons.mp hd with rfl | hd
        · exact hc
        · exact hn d hd⟩
  obtain ⟨nf, e, hn⟩ := ex _ all
  have inj : ∀ (a : List Nat), (a.map fun c => [c]).Nodup ↔ a.Nodup := fun a => by
    unfold List.Nodup
    rw [List.pairwise_map]
    constructor
    · exact fun h => h.imp fun h2 z => h2 (by rw [z])
    · exact fun h => h.imp fun h2 z => h2 (by simpa using z)
  have nd : (g :: fs.drop 1).Nodup := List.nodup_cons.mpr ⟨fun z => hg2 (List.mem_of_mem_drop z), (List.Pairwise.sublist (List.drop_sublist 1 fs) ((az_p.sublist h1).imp fun h => Nat.ne_of_lt h))⟩
  have nd2 : nf.Nodup := (inj nf).mp (e ▸ (pm.nodup_iff.mpr ((inj _).mpr nd)))
  have pw : nf.Pairwise (· ≤ ·) := by
    have := srt_pw ((g :: fs.drop 1).map fun c => [c])
    rw [e, List.pairwise_map] at this
    exact this.imp one_le
  have len : nf.length = fs.length := by
    have := pm.length_eq
    rw [e, List.length_map, List.length_map, List.length_cons, List.length_drop] at this
    omega
  refine ⟨nf, e, ?_, ?_, len⟩
  · unfold isRising
    simp only [Bool.and_eq_true, decide_eq_true_eq, List.all_eq_true]
    refine ⟨⟨by omega, by omega⟩, fun c hc => ?_, (pw.and nd2).imp fun h => Nat.lt_of_le_of_ne h.1 h.2⟩
    rcases List.mem_cons.mp (hn c hc) with rfl | h
    · exact hg
    · exact h1.subset (List.mem_of_mem_drop h)
  · have : ([g] : List Nat) ∈ srt ((g :: fs.drop 1).map fun c => [c]) := pm.mem_iff.mpr (by simp)
    rw [e] at this
    obtain ⟨c, hc, z⟩ := List.mem_map.mp this
    cases z
    exact hc
def OtherOk (S : Sto) (p pc : Addr) (fs : List Nat) (rs : List (List Int)) (bs : List Int) (d : D) : Prop := ∃ p2 fs2 rs2, ∃ (bs2 : List Int), d = .ref p2 ∧ S p2 = some (mcO fs2 (rowsI rs2) (bs2.map .int)) ∧ (rs2.length ≤ 1000 ∧ bs2.length ≤ 1000 ∧ ∀ r ∈ rs2, r.length ≤ 1000) ∧ (decide (fs2 = fs) && (decide (rs2 = rs) && decide (bs2 = bs))) = false
theorem OtherOk.set {S : Sto} {p pc a : Addr} {fs : List Nat} {rs : List (List Int)} {bs : List Int} {d : D} {o : O} (h : OtherOk S p pc fs rs bs d) (ha : ∀ C fs, S a ≠ some (.ins C fs)) : OtherOk (S.set a o) p pc fs rs bs d := by
  obtain ⟨p2, fs2, rs2, bs2, rfl, h1, h2, h3⟩ := h
  refine ⟨p2, fs2, rs2, bs2, rfl, ?_, h2, h3⟩
  rw [Sto.set_ne (fun z => ha _ _ (by rw [← z]; exact h1))]
  exact h1
theorem dec_and3 {a b c : Prop} [Decidable a] [Decidable b] [Decidable c] (h : ¬ (a ∧ b ∧ c)) : (decide a && (decide b && decide c)) = false := by
  by_cases h1 : a
  · by_cases h2 : b
    · by_cases h3 : c
      · exact absurd ⟨h1, h2, h3⟩ h
      · rw [decide_eq_false h3, Bool.and_false, Bool.and_false]
    · rw [decide_eq_false h2, Bool.false_and, Bool.and_false]
  · rw [decide_eq_false h1, Bool.false_and]
theorem law_17 {S' : Sto} {q : QD} {e : ExD} {p pc po : Addr} {o' : O} {fs : List Nat} {rs : List (List Int)} {bs : List Int} {os : List D} {x0 x5 x6 x9 x10 x11 x12 x13 x14 x16 x17 x18 x19 x20 : Option D} (k : ∀ S', q (.bl true) S') (hs : fs.Sublist az) (hf : isRising (.str fs) az 6 = true) (f1 : 1 ≤ fs.length) (f4 : fs.length ≤ 4) (tr : Tr fs.length rs) (hr6 : rs.length ≤ 6) (hbl : bs.length ≤ 6) (hb : BadOk rs.length bs)
    (hp' : S' p = some o') (hB' : BagO o') (hc : S' pc = some (mcO fs (rowsI rs) (bs.map .int))) (ho : S' po = some (.lst os)) (hol : os.length ≤ 3) (hos : ∀ d ∈ os, OtherOk S' p pc fs rs bs d) :
    t_law_c17 (endD q e) [x0, some (.ref p), some (.str fs), some (.lst (rowsI rs)), some (.lst (bs.map .int)), x5, x6, some (.ref pc), some (.int rs.length), x9, x10, x11, x12, x13, x14, some (.ref po), x16, x17, x18, x19, x20] S' := by
  rw [t_law_c17_eq]
  obtain ⟨g, r2, eg, hg, hg2⟩ := gone_of (ls := az) (fs := fs) (by have : az.length = 26 := rfl; omega) (by decide)
  obtain ⟨nf, en, hn, gn, nl⟩ := new_faces hs hg hg2 f1 (by omega)
  have cd : cutD fs (some 1) none = fs.drop 1 := cut_from (n := 1) (by omega)
  have lens : rs.length ≤ 1000 ∧ bs.length ≤ 1000 ∧ ∀ r ∈ rs, r.length ≤ 1000 := ⟨by omega, by omega, fun r hr => by have := (tr.2 r hr).1; omega⟩
  wtm_at "dl go"
  refine lcFilt (fun c : Nat => .str [c]) (fun c => .str [c]) (fun c => !decide (c ∈ fs)) az (by wtm_at "dl side") (fun y hy K J h1 h2 => ?_) ?_
  · wtm_at "dl go"
    refine hIf_c (fun c => ?_) (fun c => ?_)
    · wtm_at "dl go"
      exact h1 c
    · exact h2 c
  rw [eg, List.map_cons]
  wtm_at "dl go"
  rw [cd]
  wtm_at "dl go"
  have e17 : (List.map (fun c => D.str [c]) ([g] ++ List.drop 1 fs)) = (((g :: fs.drop 1).map fun c => [c]).map .str) := by rw [List.map_map]; rfl
  rw [e17]
  refine hSort_all ?_
  rw [en]
  have e18 : ∀ l : List Nat, (l.map fun c => [c]).flatten = l := fun l => by
    induction l with
    | nil => rfl
    | cons c l ih => rw [List.map_cons, List.flatten_cons, ih]; rfl
  wtm_at "dl go"
  have j2 : ∀ cs : List Nat, TL.joinL [] (cs.map fun c => [c]) = cs := fun cs => by
    induction cs with
    | nil => rfl
    | cons c cs ih =>
      cases cs with
      | nil => rfl
      | cons b cs => show [c] ++ ([] ++ TL.joinL [] ((b :: cs).map fun c => [c])) = _; rw [ih]; rfl
  have j3 : ∀ cs : List Nat, ((cs.map fun c => [c]).map List.length).sum = cs.length := fun cs => by
    induction cs with
    | nil => rfl
    | cons c cs ih => simp only [List.map_cons, List.sum_cons, List.length_cons, ih]; simp; omega
  have j1 : ∀ ws : List (List Nat), strsD (ws.map .str) = some ws := fun ws => by
    induction ws with
    | nil => rfl
    | cons w ws ih => show (strsD (ws.map .str)).map (w :: ·) = _; rw [ih]; rfl
  refine hJoin_l (j1 _) ?_ ?_
  · rw [j3]; simp; omega
  rw [j2]
  wtm_at "dl go"
  intro a ha
  have n1 : p ≠ a := Sto.ne_of hp' ha
  have n2 : pc ≠ a := Sto.ne_of hc ha
  have n3 : po ≠ a := Sto.ne_of ho ha
  wtm_at "dl go"
  obtain ⟨m1, m2, m3, m4, m5, m6, m7⟩ := mk_facts (S := S'.set a (.ins 34 [])) hn (show Tr nf.length rs by rw [nl]; exact tr) (by omega) (.inl rfl) RowsF.of (.inl rfl) hb
  refine ⟨a, .str nf, .lst (rowsI rs), .lst (bs.map .int), rfl, Sto.set_same, m1, m2, m3, fun fs2 rows2 bs2 q1 q2 q3 q4 => ?_, fun y hy => (by have z := m4.symm.trans hy; cases z)⟩
  cases q1
  obtain rfl := Option.some.inj (m5.symm.trans q3)
  obtain rfl := Option.some.inj (m6.symm.trans q4)
  rw [m7]
  clear m1 m2 m3 m4 m5 m6 m7 q2 q3 q4
  rw [Sto.set_set]
  have npo : pc ≠ po := fun z => by rw [z, ho] at hc; cases hc
  wtm_at "dl go"
  have hcS : ((S'.set a (mcO nf (rowsI rs) (bs.map .int))).set po (.lst (os ++ [.ref a]))) pc = some (mcO fs (rowsI rs) (bs.map .int)) := by
    rw [Sto.set_ne npo, Sto.set_ne n2]; exact hc
  have hall : ∀ d ∈ os ++ [.ref a], OtherOk ((S'.set a (mcO nf (rowsI rs) (bs.map .int))).set po (.lst (os ++ [.ref a]))) p pc fs rs bs d := fun d hd => by
    rcases List.mem_append.mp hd with h | h
    · refine OtherOk.set (OtherOk.set (hos d h) fun C fs z => by rw [ha] at z; cases z) fun C fs z => ?_
      rw [Sto.set_ne n3, ho] at z
      cases z
    · rw [List.mem_singleton.mp h]
      refine ⟨a, nf, rs, bs, rfl, by rw [Sto.set_ne n3.symm]; exact Sto.set_same, lens, dec_and3 fun z => hg2 (z.1 ▸ gn)⟩
  refine lcMapD ?_ (fun _ => .bl false) (os ++ [.ref a]) (by simp; unfold sizeLine; omega) (fun x hx K h => ?_) ?_
  · exact Sto.set_same
  · obtain ⟨p2, fs2, rs2, bs2, rfl, h1, h2, h3⟩ := hall x hx
    wtm_at "dl go"
    refine ⟨p2, .ref pc, fs2, rs2, bs2, rfl, h1, h2, .inl ⟨pc, fs, rs, bs, rfl, hcS, lens, ?_⟩⟩
    rw [h3]
    wtm_at "dl go"
    exact h
  wtm_at "dl go"
  refine hAny_i (bools_no _) ?_
  rw [any_no]
  wtm_at "dl go"
  refine ⟨pc, .lst (rowsI rs), fs, rs, bs, rfl, hcS, lens, .inr ⟨rfl, ?_⟩⟩
  wtm_at "dl go"
  refine ⟨pc, .non, fs, rs, bs, rfl, hcS, lens, .inr ⟨rfl, ?_⟩⟩
  wtm_at "dl go"
  exact k _
theorem inD_ints (x : Int) : ∀ bs : List Int, inD (.int x) (bs.map .int) = decide (x ∈ bs)
  | [] => by simp [inD]
  | b :: bs => by
    show (deq (.int b) (.int x) || inD (.int x) (bs.map .int)) = _
    rw [inD_ints x bs, deq_int, Bool.eq_iff_iff, Bool.or_eq_true]
    simp only [decide_eq_true_eq, List.mem_cons]
    constructor
    · rintro (h | h)
      · exact .inl h.symm
      · exact .inr h
    · rintro (h | h)
      · exact .inl h.symm
      · exact .inr h
theorem flat_ints (bs : List Int) : (bs.map D.int).all flatD = true := by
  rw [List.all_eq_true]
  intro d hd
  obtain ⟨x, _, rfl⟩ := List.mem_map.mp hd
  rfl
/-- the states that are not bad -/
def others (n : Nat) (bs : List Int) : List Int := ((List.range n).filter fun i : Nat => !decide ((i : Int) ∈ bs)).map fun i : Nat => (i : Int)
theorem others_ne {n : Nat} {bs : List Int} (h : 1 ≤ n) : others n bs ≠ bs := fun z => by
  by_cases c : (0 : Int) ∈ bs
  · have c2 := c
    rw [← z] at c2
    obtain ⟨i, hi, e⟩ := List.mem_map.mp c2
    have := (List.mem_filter.mp hi).2
    have e : i = 0 := by omega
    subst e
    have t3 : ¬ ((0 : Nat) : Int) ∈ bs := fun z => by rw [decide_eq_true z] at this; cases this
    exact t3 c
  · apply c
    rw [← z]
    refine List.mem_map.mpr ⟨0, List.mem_filter.mpr ⟨List.mem_range.mpr (by omega), ?_⟩, rfl⟩
    rw [decide_eq_false (show ¬ ((0 : Nat) : Int) ∈ bs from c)]; rfl
theorem others_ok {n : Nat} {bs : List Int} : BadOk n (others n bs) := bad_sub (List.filter_sublist.map _)
theorem others_len {n : Nat} {bs : List Int} : (others n bs).length ≤ n := by
  unfold others
  rw [List.length_map]
  have := List.length_filter_le (fun i : Nat => !decide ((i : Int) ∈ bs)) (List.range n)
  rw [List.length_range] at this
  exact this
theorem BadOk.mono {n m : Nat} {bs : List Int} (h : BadOk n bs) (l : n ≤ m) : BadOk m bs := ⟨fun x hx => by have := h.1 x hx; omega, h.2⟩
theorem Tr.snoc {n : Nat} {rs : List (List Int)} {r0 : List Int} (tr : Tr n rs) (h : r0 ∈ rs) : Tr n (rs ++ [r0]) := ⟨by simp, fun xs hx => by
  rw [List.length_append, List.length_cons, List.length_nil]
  have : xs ∈ rs := by
    rcases List.mem_append.mp hx with h2 | h2
    · exact h2
    · rw [List.mem_singleton.mp h2]; exact h
  exact ⟨(tr.2 xs this).1, fun x hx2 => by have := (tr.2 xs this).2 x hx2; omega⟩⟩
theorem set_split {α : Type} {l : List α} {i : Nat} {y : α} (h : i < l.length) : l.take i ++ y :: l.drop (i + 1) = l.set i y := by
  rw [List.set_eq_take_append_cons_drop, if_pos h]
theorem law_16 {S' : Sto} {q : QD} {e : ExD} {p pc po : Addr} {o' : O} {fs : List Nat} {rs : List (List Int)} {bs : List Int} {os : List D} {x0 x5 x6 x9 x10 x11 x12 x13 x14 x16 x17 x18 x19 x20 : Option D} (k : ∀ S', q (.bl true) S') (hs : fs.Sublist az) (hf : isRising (.str fs) az 6 = true) (f1 : 1 ≤ fs.length) (f4 : fs.length ≤ 4) (tr : Tr fs.length rs) (hr6 : rs.length ≤ 6) (hbl : bs.length ≤ 6) (hb : BadOk rs.length bs)
    (hp' : S' p = some o') (hB' : BagO o') (hc : S' pc = some (mcO fs (rowsI rs) (bs.map .int))) (ho : S' po = some (.lst os)) (hol : os.length ≤ 2) (npo : p ≠ po) (hos : ∀ d ∈ os, OtherOk S' p pc fs rs bs d) :
    t_law_c16 (endD q e) [x0, some (.ref p), some (.str fs), some (.lst (rowsI rs)), some (.lst (bs.map .int)), x5, x6, some (.ref pc), some (.int rs.length), x9, x10, x11, x12, x13, x14, some (.ref po), x16, x17, x18, x19, x20] S' := by
  rw [t_law_c16_eq]
  have rl : (rowsI rs).length = rs.length := by unfold rowsI; rw [List.length_map]
  wtm_at "dl go"
  refine hIf_c (fun c => ?_) (fun c => ?_)
  · have c : 1 < rs.length := by have := of_decide_eq_true c; omega
    wtm_at "dl go"
    refine ⟨p, o', rs.length, rfl, hp', hB', by omega, by omega, fun ai o1 a0 a1 hB1 => ?_⟩
    obtain ⟨j, rfl⟩ : ∃ j : Nat, ai = j := ⟨ai.toNat, by omega⟩
    have hj : j < rs.length := by omega
    obtain ⟨xs, ej⟩ : ∃ xs, rs[j]? = some xs := ⟨_, List.getElem?_eq_getElem hj⟩
    have mj := List.mem_of_getElem? ej
    obtain ⟨xl, xr⟩ := tr.2 xs mj
    have aj : atI (rowsI rs) (j : Int) = some (.tup (xs.map .int)) := by
      rw [atI_nat (by omega) (by omega)]
      unfold rowsI
      rw [Int.toNat_natCast, List.getElem?_map, ej]; rfl
    wtm_at "dl go"
    refine ⟨p, o1, fs.length, rfl, Sto.set_same, hB1, by omega, by omega, fun ii o2 i0 i1 hB2 => ?_⟩
    obtain ⟨i, rfl⟩ : ∃ i : Nat, ii = i := ⟨ii.toNat, by omega⟩
    have hi : i < xs.length := by omega
    obtain ⟨v, ev⟩ : ∃ v, xs[i]? = some v := ⟨_, List.getElem?_eq_getElem hi⟩
    have vr := xr v (List.mem_of_getElem? ev)
    have ai : atI (xs.map D.int) (i : Int) = some (.int v) := by
      rw [atI_nat (by omega) (by rw [List.length_map]; omega), Int.toNat_natCast, List.getElem?_map, ev]; rfl
    rw [Sto.set_set]
    have npc : p ≠ pc := fun z => by
      rw [z, hc] at hp'
      cases hp'
      obtain ⟨_, _, _, _, _, e, _⟩ := hB'
      cases e
    wtm_at "dl go"
    intro pr hpr
    have r1 : p ≠ pr := Sto.ne_of (o := o2) (by wtm_at "dl at") hpr
    have r2 : pc ≠ pr := Sto.ne_of (o := mcO fs (rowsI rs) (bs.map .int)) (by wtm_at "dl at") hpr
    have r3 : po ≠ pr := Sto.ne_of (o := .lst os) (by wtm_at "dl at") hpr
    have ws : 0 ≤ (v + 1) % (rs.length : Int) ∧ (v + 1) % (rs.length : Int) < rs.length := ⟨Int.emod_nonneg _ (by omega), Int.emod_lt_of_pos _ (by omega)⟩
    have wn : (v + 1) % (rs.length : Int) ≠ v := by
      by_cases cv : v + 1 < rs.length
      · rw [Int.emod_eq_of_lt (by omega) cv]; omega
      · have : v + 1 = rs.length := by omega
        rw [this, Int.emod_self]; omega
    have c1 : cutD (rowsI rs) none (some (j : Int)) = (rowsI rs).take j := cut_to (by omega)
    have c2 : cutD (rowsI rs) (some ((j : Int) + 1)) none = (rowsI rs).drop (j + 1) := cut_from (n := j + 1) (by omega)
    wtm_at "dl go"
    refine hPut_i (j := i) ?_ ?_
    · rw [List.length_map]
      unfold ixN
      rw [if_pos (Int.natCast_nonneg i), if_pos (by omega)]; rfl
    rw [Sto.set_set]
    generalize (v + 1) % (rs.length : Int) = w at ws wn
    have ew : (xs.map D.int).set i (.int w) = (xs.set i w).map .int := by rw [List.map_set]
    rw [ew]
    wtm_at "dl go"
    rw [c1]
    wtm_at "dl go"
    rw [c2]
    wtm_at "dl go"
    intro a3 ha3
    have r4 : p ≠ a3 := Sto.ne_of (o := o2) (by wtm_at "dl at") ha3
    have r5 : pc ≠ a3 := Sto.ne_of (o := mcO fs (rowsI rs) (bs.map .int)) (by wtm_at "dl at") ha3
    have r6 : po ≠ a3 := Sto.ne_of (o := .lst os) (by wtm_at "dl at") ha3
    have r7 : pr ≠ a3 := Sto.ne_of Sto.set_same ha3
    wtm_at "dl go"
    have t1 : (rowsI rs).take j = rowsI (rs.take j) := by unfold rowsI; rw [List.map_take]
    have t2 : (rowsI rs).drop (j + 1) = rowsI (rs.drop (j + 1)) := by unfold rowsI; rw [List.map_drop]
    have es : rs.take j ++ [xs.set i w] ++ rs.drop (j + 1) = rs.set j (xs.set i w) := by rw [List.append_assoc]; exact set_split hj
    have el : (rs.set j (xs.set i w)).length = rs.length := List.length_set
    have tr2 : Tr fs.length (rs.set j (xs.set i w)) := ⟨by omega, fun ys hy => by
      rw [el]
      rcases List.mem_or_eq_of_mem_set hy with h | rfl
      · exact tr.2 ys h
      · refine ⟨by rw [List.length_set]; exact xl, fun z hz => ?_⟩
        rcases List.mem_or_eq_of_mem_set hz with h | rfl
        · exact xr z h
        · exact ws⟩
    have hR : RowsF (((S'.set p o2).set pr (O.lst ((xs.set i w).map .int))).set a3 (.ins 34 [])) ((rowsI rs).take j ++ [.ref pr] ++ (rowsI rs).drop (j + 1)) (rs.set j (xs.set i w)) := by
      rw [t1, t2, ← es]
      exact (RowsF.of.app (show RowsF _ [D.ref pr] [xs.set i w] from ⟨.inr (.inr ⟨pr, rfl, by rw [Sto.set_ne r7]; exact Sto.set_same⟩), trivial⟩)).app RowsF.of
    obtain ⟨m1, m2, m3, m4, m5, m6, m7⟩ := mk_facts (S := ((S'.set p o2).set pr (O.lst ((xs.set i w).map .int))).set a3 (.ins 34 [])) hf tr2 (by omega) (.inl rfl) hR (.inl rfl) (show BadOk (rs.set j (xs.set i w)).length bs by rw [el]; exact hb)
    refine ⟨a3, .str fs, .lst ((rowsI rs).take j ++ [.ref pr] ++ (rowsI rs).drop (j + 1)), .lst (bs.map .int), rfl, Sto.set_same, m1, m2, m3, fun fs2 rows2 bs2 q1 q2 q3 q4 => ?_, fun y hy => (by have z := m4.symm.trans hy; cases z)⟩
    cases q1
    obtain rfl := Option.some.inj (m5.symm.trans q3)
    obtain rfl := Option.some.inj (m6.symm.trans q4)
    rw [m7]
    clear m1 m2 m3 m4 m5 m6 m7 q2 q3 q4
    wtm_at "dl go"
    rw [Sto.set_set]
    wtm_at "dl go"
    have npc2 : pc ≠ po := fun z => by rw [z, ho] at hc; cases hc
    have noI : ∀ C fs, S' p ≠ some (.ins C fs) := fun C fs z => by
      rw [hp'] at z
      cases z
      obtain ⟨_, _, _, _, _, e, _⟩ := hB'
      cases e
    refine law_17 (o' := o2) k hs hf f1 f4 tr hr6 hbl hb ?_ hB2 ?_ Sto.set_same (by simp; omega) fun d hd => ?_
    · wtm_at "dl at"
    · wtm_at "dl at"
    rcases List.mem_append.mp hd with h | h
    · have q1 := (hos d h).set (a := p) (o := o2) noI
      have q2 := q1.set (a := pr) (o := O.lst ((xs.set i w).map .int)) fun C fs z => by rw [hpr] at z; cases z
      have q3 := q2.set (a := a3) (o := mcO fs (rowsI (rs.set j (xs.set i w))) (bs.map .int)) fun C fs z => by rw [ha3] at z; cases z
      exact q3.set (a := po) fun C fs z => by
        rw [Sto.set_ne r6, Sto.set_ne r3, Sto.set_ne npo.symm, ho] at z
        cases z
    · rw [List.mem_singleton.mp h]
      refine ⟨a3, fs, rs.set j (xs.set i w), bs, rfl, (by wtm_at "dl at"), ⟨by omega, by omega, fun r hr => by have := (tr2.2 r hr).1; omega⟩, dec_and3 fun z => ?_⟩
      have e1 : (rs.set j (xs.set i w))[j]? = rs[j]? := by rw [z.2.1]
      rw [List.getElem?_set_self hj, ej] at e1
      have e1 := Option.some.inj e1
      have e2 : (xs.set i w)[i]? = xs[i]? := by rw [e1]
      rw [List.getElem?_set_self hi, ev] at e2
      exact wn (Option.some.inj e2)
  · wtm_at "dl go"
    exact law_17 (o' := o') k hs hf f1 f4 tr hr6 hbl hb hp' hB' hc ho (by omega) hos
theorem law_15 {S' : Sto} {q : QD} {e : ExD} {p pc : Addr} {o' : O} {fs : List Nat} {rs : List (List Int)} {bs : List Int} {x0 x5 x6 x9 x10 x11 x12 x13 x14 x15 x16 x17 x18 x19 x20 : Option D} (k : ∀ S', q (.bl true) S') (hs : fs.Sublist az) (hf : isRising (.str fs) az 6 = true) (f1 : 1 ≤ fs.length) (f4 : fs.length ≤ 4) (tr : Tr fs.length rs) (hr6 : rs.length ≤ 6) (hbl : bs.length ≤ 6) (hb : BadOk rs.length bs)
    (hp' : S' p = some o') (hB' : BagO o') (hc : S' pc = some (mcO fs (rowsI rs) (bs.map .int))) :
    t_law_c15 (endD q e) [x0, some (.ref p), some (.str fs), some (.lst (rowsI rs)), some (.lst (bs.map .int)), x5, x6, some (.ref pc), some (.int rs.length), x9, x10, x11, x12, x13, x14, x15, x16, x17, x18, x19, x20] S' := by
  rw [t_law_c15_eq]
  have r1 := tr.1
  have rl : (rowsI rs).length = rs.length := by unfold rowsI; rw [List.length_map]
  obtain ⟨d0, e0, m0⟩ := atI_mem (l := rowsI rs) (r := 0) (by decide) (by omega)
  obtain ⟨r0, hr0, rfl⟩ := List.mem_map.mp m0
  have il : (intsD 0 (rs.length : Int).toNat) = (List.range rs.length).map fun i : Nat => D.int i := intsD_range rs.length
  have fb := flat_ints bs
  wtm_at "dl go"
  rw [il]
  refine lcFilt (fun i : Nat => .int i) (fun i : Nat => .int i) (fun i : Nat => !decide ((i : Int) ∈ bs)) (List.range rs.length) (by rw [List.length_range]; unfold sizeLine; omega) (fun i hi K J h1 h2 => ?_) ?_
  · wtm_at "dl go"
    rw [inD_ints]
    refine hIf_c (fun c => ?_) (fun c => ?_)
    · wtm_at "dl go"
      exact h1 c
    · exact h2 c
  have eo : (((List.range rs.length).filter fun i : Nat => !decide ((i : Int) ∈ bs)).map fun i : Nat => D.int i) = (others rs.length bs).map .int := by unfold others; rw [List.map_map]; rfl
  rw [eo]
  wtm_at "dl go"
  intro a ha
  have n1 : p ≠ a := Sto.ne_of hp' ha
  have n2 : pc ≠ a := Sto.ne_of hc ha
  wtm_at "dl go"
  obtain ⟨m1, m2, m3, m4, m5, m6, m7⟩ := mk_facts (S := S'.set a (.ins 34 [])) hf tr (by omega) (.inl rfl) RowsF.of (.inl rfl) (others_ok (bs := bs))
  refine ⟨a, .str fs, .lst (rowsI rs), .lst ((others rs.length bs).map .int), rfl, Sto.set_same, m1, m2, m3, fun fs2 rows2 bs2 q1 q2 q3 q4 => ?_, fun y hy => (by have z := m4.symm.trans hy; cases z)⟩
  cases q1
  obtain rfl := Option.some.inj (m5.symm.trans q3)
  obtain rfl := Option.some.inj (m6.symm.trans q4)
  rw [m7]
  clear m1 m2 m3 m4 m5 m6 m7 q2 q3 q4
  wtm_at "dl go"
  rw [Sto.set_set]
  intro a2 ha2
  have n3 : p ≠ a2 := Sto.ne_of (o := o') (by wtm_at "dl at") ha2
  have n4 : pc ≠ a2 := Sto.ne_of (o := mcO fs (rowsI rs) (bs.map .int)) (by wtm_at "dl at") ha2
  have n5 : a ≠ a2 := Sto.ne_of Sto.set_same ha2
  have e2 : rowsI rs ++ [D.tup (r0.map .int)] = rowsI (rs ++ [r0]) := by unfold rowsI; rw [List.map_append]; rfl
  rw [e2]
  wtm_at "dl go"
  obtain ⟨m1, m2, m3, m4, m5, m6, m7⟩ := mk_facts (S := (S'.set a (mcO fs (rowsI rs) ((others rs.length bs).map .int))).set a2 (.ins 34 [])) hf (tr.snoc hr0) (by simp; omega) (.inl rfl) RowsF.of (.inl rfl) (hb.mono (by simp))
  refine ⟨a2, .str fs, .lst (rowsI (rs ++ [r0])), .lst (bs.map .int), rfl, Sto.set_same, m1, m2, m3, fun fs2 rows2 bs2 q1 q2 q3 q4 => ?_, fun y hy => (by have z := m4.symm.trans hy; cases z)⟩
  cases q1
  obtain rfl := Option.some.inj (m5.symm.trans q3)
  obtain rfl := Option.some.inj (m6.symm.trans q4)
  rw [m7]
  clear m1 m2 m3 m4 m5 m6 m7 q2 q3 q4
  wtm_at "dl go"
  rw [Sto.set_set]
  wtm_at "dl go"
  intro po hpo
  have n6 : p ≠ po := Sto.ne_of (o := o') (by wtm_at "dl at") hpo
  have n7 : pc ≠ po := Sto.ne_of (o := mcO fs (rowsI rs) (bs.map .int)) (by wtm_at "dl at") hpo
  have n8 : a ≠ po := Sto.ne_of (o := mcO fs (rowsI rs) ((others rs.length bs).map .int)) (by wtm_at "dl at") hpo
  have n9 : a2 ≠ po := Sto.ne_of Sto.set_same hpo
  wtm_at "dl go"
  refine law_16 (o' := o') k hs hf f1 f4 tr hr6 hbl hb ?_ hB' ?_ Sto.set_same (Nat.le_of_ble_eq_true rfl) n6 fun d hd => ?_
  · wtm_at "dl at"
  · wtm_at "dl at"
  simp only [List.mem_cons, List.not_mem_nil, or_false] at hd
  rcases hd with rfl | rfl
  · refine ⟨a, fs, rs, others rs.length bs, rfl, (by wtm_at "dl at"), ⟨by omega, by have := others_len (n := rs.length) (bs := bs); omega, fun r hr => by have := (tr.2 r hr).1; omega⟩, dec_and3 fun z => others_ne r1 z.2.2⟩
  · refine ⟨a2, fs, rs ++ [r0], bs, rfl, (by wtm_at "dl at"), ⟨by simp; omega, by omega, fun r hr => by have := ((tr.snoc hr0).2 r hr).1; omega⟩, dec_and3 fun z => ?_⟩
    have := congrArg List.length z.2.1
    simp at this
theorem plain_ints (n : Nat) (l : List Int) (h : l.length ≤ 1000000) : plainD (n + 2) (.lst (l.map .int)) = true := by
  show ((l.map D.int).all (plainD (n + 1)) && decide ((l.map D.int).length ≤ 1000000)) = true
  rw [Bool.and_eq_true, List.all_eq_true]
  refine ⟨fun x hx => ?_, decide_eq_true (by rw [List.length_map]; exact h)⟩
  obtain ⟨p, _, rfl⟩ := List.mem_map.mp hx
  rfl
theorem plain_rows (n : Nat) (l : List (List Int)) (h : l.length ≤ 1000000) (h2 : ∀ r ∈ l, r.length ≤ 1000000) : plainD (n + 3) (.lst (rowsI l)) = true := by
  show ((rowsI l).all (plainD (n + 2)) && decide ((rowsI l).length ≤ 1000000)) = true
  unfold rowsI
  rw [Bool.and_eq_true, List.all_eq_true]
  refine ⟨fun x hx => ?_, decide_eq_true (by rw [List.length_map]; exact h)⟩
  obtain ⟨r, hr, rfl⟩ := List.mem_map.mp hx
  show ((r.map D.int).all (plainD (n + 1)) && decide ((r.map D.int).length ≤ 1000000)) = true
  rw [Bool.and_eq_true, List.all_eq_true]
  refine ⟨fun y hy => ?_, decide_eq_true (by rw [List.length_map]; exact h2 r hr)⟩
  obtain ⟨p, _, rfl⟩ := List.mem_map.mp hy
  rfl
theorem law_11 {S' : Sto} {q : QD} {e : ExD} {p pc : Addr} {o' : O} {fs : List Nat} {rs : List (List Int)} {bs : List Int} {x0 x5 x6 x9 x10 x11 x12 x13 x14 x15 x16 x17 x18 x19 x20 : Option D} (k : ∀ S', q (.bl true) S') (hs : fs.Sublist az) (hf : isRising (.str fs) az 6 = true) (f1 : 1 ≤ fs.length) (f4 : fs.length ≤ 4) (tr : Tr fs.length rs) (hr6 : rs.length ≤ 6) (hbl : bs.length ≤ 6) (hb : BadOk rs.length bs)
    (hp' : S' p = some o') (hB' : BagO o') (hc : S' pc = some (mcO fs (rowsI rs) (bs.map .int))) :
    t_law_c11 (endD q e) [x0, some (.ref p), some (.str fs), some (.lst (rowsI rs)), some (.lst (bs.map .int)), x5, x6, some (.ref pc), some (.int rs.length), x9, x10, x11, x12, x13, x14, x15, x16, x17, x18, x19, x20] S' := by
  rw [t_law_c11_eq]
  have lens : rs.length ≤ 1000 ∧ bs.length ≤ 1000 ∧ ∀ r ∈ rs, r.length ≤ 1000 := ⟨by omega, by omega, fun r hr => by have := (tr.2 r hr).1; omega⟩
  wtm_at "dl go"
  intro a ha
  have n1 : p ≠ a := Sto.ne_of hp' ha
  have n2 : pc ≠ a := Sto.ne_of hc ha
  wtm_at "dl go"
  obtain ⟨m1, m2, m3, m4, m5, m6, m7⟩ := mk_facts (S := S'.set a (.ins 34 [])) (t := .tup (rowsI rs)) (b := .tup (bs.map .int)) hf tr (by omega) (.inr (.inl rfl)) RowsF.of (.inr (.inl rfl)) hb
  refine ⟨a, .str fs, .tup (rowsI rs), .tup (bs.map .int), rfl, Sto.set_same, m1, m2, m3, fun fs2 rows2 bs2 q1 q2 q3 q4 => ?_, fun y hy => (by have z := m4.symm.trans hy; cases z)⟩
  cases q1
  obtain rfl := Option.some.inj (m5.symm.trans q3)
  obtain rfl := Option.some.inj (m6.symm.trans q4)
  rw [m7]
  clear m1 m2 m3 m4 m5 m6 m7 q2 q3 q4
  wtm_at "dl go"
  rw [Sto.set_set]
  wtm_at "dl go"
  have hcS : (S'.set a (mcO fs (rowsI rs) (bs.map .int))) pc = some (mcO fs (rowsI rs) (bs.map .int)) := (by wtm_at "dl at")
  have haS : (S'.set a (mcO fs (rowsI rs) (bs.map .int))) a = some (mcO fs (rowsI rs) (bs.map .int)) := Sto.set_same
  have tru : (decide (fs = fs) && (decide (rs = rs) && decide (bs = bs))) = true := by simp
  wtm_at "dl go"
  refine ⟨pc, .ref a, fs, rs, bs, rfl, hcS, lens, .inl ⟨a, fs, rs, bs, rfl, Sto.set_same, lens, ?_⟩⟩
  rw [tru]
  wtm_at "dl go"
  refine ⟨pc, .ref a, fs, rs, bs, rfl, hcS, lens, .inl ⟨a, fs, rs, bs, rfl, Sto.set_same, lens, ?_⟩⟩
  rw [tru]
  wtm_at "dl go"
  intro a2 ha2
  have n3 : p ≠ a2 := Sto.ne_of (o := o') (by wtm_at "dl at") ha2
  have n4 : pc ≠ a2 := Sto.ne_of hcS ha2
  wtm_at "dl go"
  obtain ⟨m1, m2, m3, m4, m5, m6, m7⟩ := mk_facts (S := (S'.set a (mcO fs (rowsI rs) (bs.map .int))).set a2 (.ins 34 [])) (b := .tup []) (bs := []) hf tr (by omega) (.inl rfl) RowsF.of (.inr (.inl rfl)) ⟨(fun _ h => by cases h), .nil⟩
  refine ⟨a2, .str fs, .lst (rowsI rs), .tup [], rfl, Sto.set_same, m1, m2, m3, fun fs2 rows2 bs2 q1 q2 q3 q4 => ?_, fun y hy => (by have z := m4.symm.trans hy; cases z)⟩
  cases q1
  obtain rfl := Option.some.inj (m5.symm.trans q3)
  obtain rfl := Option.some.inj (m6.symm.trans q4)
  rw [m7]
  clear m1 m2 m3 m4 m5 m6 m7 q2 q3 q4
  wtm_at "dl go"
  rw [Sto.set_set]
  wtm_at "dl go"
  refine ⟨a2, fs, _, [], rfl, Sto.set_same, fun a3 ha3 => ?_⟩
  have n5 : p ≠ a3 := Sto.ne_of (o := o') (by wtm_at "dl at") ha3
  have n6 : pc ≠ a3 := Sto.ne_of (o := mcO fs (rowsI rs) (bs.map .int)) (by wtm_at "dl at") ha3
  wtm_at "dl go"
  refine ⟨_, _, .lst [], rfl, see_ref Sto.set_same rfl, see_self rfl, ?_⟩
  wtm_at "dl go"
  refine law_15 (o' := o') k hs hf f1 f4 tr hr6 hbl hb ?_ hB' ?_
  · wtm_at "dl at"
  · wtm_at "dl at"
theorem law_10 {S' : Sto} {q : QD} {e : ExD} {p pc : Addr} {o' : O} {fs : List Nat} {rs : List (List Int)} {bs : List Int} {x0 x5 x6 x10 x11 x12 x13 x14 x15 x16 x17 x18 x19 x20 : Option D} (k : ∀ S', q (.bl true) S') (hs : fs.Sublist az) (hf : isRising (.str fs) az 6 = true) (f1 : 1 ≤ fs.length) (f4 : fs.length ≤ 4) (tr : Tr fs.length rs) (hr6 : rs.length ≤ 6) (hbl : bs.length ≤ 6) (hb : BadOk rs.length bs)
    (hp' : S' p = some o') (hB' : BagO o') (hc : S' pc = some (mcO fs (rowsI rs) (bs.map .int))) :
    t_law_c10 (endD q e) [x0, some (.ref p), some (.str fs), some (.lst (rowsI rs)), some (.lst (bs.map .int)), x5, x6, some (.ref pc), some (.int rs.length), some (.lst [.str fs, .int rs.length, .lst (rowsI rs), .lst (bs.map .int), .str ([77, 97, 99, 104, 105, 110, 101, 40] ++ TL.tl (toString (rs.length : Int)) ++ [32, 115, 116, 97, 116, 101, 115, 41]), .int 200]), x10, x11, x12, x13, x14, x15, x16, x17, x18, x19, x20] S' := by
  rw [t_law_c10_eq]
  have lens : rs.length ≤ 1000 ∧ bs.length ≤ 1000 ∧ ∀ r ∈ rs, r.length ≤ 1000 := ⟨by omega, by omega, fun r hr => by have := (tr.2 r hr).1; omega⟩
  have rl : (rowsI rs).length = rs.length := by unfold rowsI; rw [List.length_map]
  wtm_at "dl go"
  refine forInv (fun r ρ S2 => ∃ (y11 y12 y13 : Option D), S2 p = some o' ∧ S2 pc = some (mcO fs (rowsI rs) (bs.map .int)) ∧ ρ = [x0, some (.ref p), some (.str fs), some (.lst (rowsI rs)), some (.lst (bs.map .int)), x5, x6, some (.ref pc), some (.int rs.length), some (.lst [.str fs, .int rs.length, .lst (rowsI rs), .lst (bs.map .int), .str ([77, 97, 99, 104, 105, 110, 101, 40] ++ TL.tl (toString (rs.length : Int)) ++ [32, 115, 116, 97, 116, 101, 115, 41]), .int 200]), x10, y11, y12, y13, x14, x15, x16, x17, x18, x19, x20]) (fun d r ρ S2 ih h => ?_) (fun ρ S2 h => ?_) _ _ _ ⟨x11, x12, x13, hp', hc, rfl⟩
  · obtain ⟨y11, y12, y13, hp2, hc2, rfl⟩ := h
    wtm_at "dl go"
    refine ⟨pc, fs, rowsI rs, bs.map .int, rfl, hc2, fun t ht => ?_⟩
    have n1 : p ≠ t := Sto.ne_of hp2 ht
    have n2 : pc ≠ t := Sto.ne_of hc2 ht
    wtm_at "dl go"
    refine ⟨pc, fs, rowsI rs, bs.map .int, rfl, (by wtm_at "dl at"), fun l hl => ?_⟩
    have n3 : p ≠ l := Sto.ne_of (o := o') (by wtm_at "dl at") hl
    have n4 : pc ≠ l := Sto.ne_of (o := mcO fs (rowsI rs) (bs.map .int)) (by wtm_at "dl at") hl
    have n5 : t ≠ l := Sto.ne_of Sto.set_same hl
    have hcS : ((S2.set t (.lst (rowsI rs))).set l (.lst (bs.map .int))) pc = some (mcO fs (rowsI rs) (bs.map .int)) := (by wtm_at "dl at")
    wtm_at "dl go"
    refine ⟨pc, fs, rowsI rs, bs.map .int, rfl, hcS, ?_⟩
    wtm_at "dl go"
    refine ⟨pc, fs, rowsI rs, bs.map .int, rfl, hcS, by omega, ?_⟩
    wtm_at "dl go"
    rw [rl]
    have pr := plain_rows 2 rs (by omega) (fun r hr => by have := (tr.2 r hr).1; omega)
    have pb := plain_ints 3 bs (by omega)
    have pl : plainD 6 (.lst [.str fs, .int rs.length, .lst (rowsI rs), .lst (bs.map .int), .str ([77, 97, 99, 104, 105, 110, 101, 40] ++ TL.tl (toString (rs.length : Int)) ++ [32, 115, 116, 97, 116, 101, 115, 41]), .int 200]) = true := by
      show ((true && (true && (plainD 5 _ && (plainD 5 _ && (true && (true && true)))))) && decide _) = true
      rw [pr, pb]; rfl
    refine ⟨_, _, .lst [.str fs, .int rs.length, .lst (rowsI rs), .lst (bs.map .int), .str ([77, 97, 99, 104, 105, 110, 101, 40] ++ TL.tl (toString (rs.length : Int)) ++ [32, 115, 116, 97, 116, 101, 115, 41]), .int 200], rfl, ⟨Nat.le_of_ble_eq_true rfl, _, .inl rfl, rfl, rfl, see_ref (by rw [Sto.set_ne n5]; exact Sto.set_same) pr, see_ref Sto.set_same pb, rfl, rfl, trivial⟩, see_self pl, ?_⟩
    wtm_at "dl go"
    refine ih _ _ ⟨_, _, _, ?_, ?_, rfl⟩
    · wtm_at "dl at"
    · wtm_at "dl at"
  · obtain ⟨y11, y12, y13, hp2, hc2, rfl⟩ := h
    wtm_at "dl go"
    exact law_11 (o' := o') k hs hf f1 f4 tr hr6 hbl hb hp2 hB' hc2
/-- a row of the law's own table: a tuple, or a list of the store that is none of some others -/
def RowS (S : Sto) (ps : List Addr) (d : D) : Prop := (∃ xs, d = .tup xs) ∨ ∃ a xs, d = .ref a ∧ (∀ b ∈ ps, a ≠ b) ∧ S a = some (.lst xs) ∧ 1 ≤ xs.length
theorem law_7 {S' : Sto} {q : QD} {e : ExD} {p pc pm pw : Addr} {o' : O} {fs : List Nat} {rs : List (List Int)} {bs : List Int} {ms : List D} {x0 x10 x11 x12 x13 x14 x15 x16 x17 x18 x19 x20 : Option D} (k : ∀ S', q (.bl true) S') (hs : fs.Sublist az) (hf : isRising (.str fs) az 6 = true) (f1 : 1 ≤ fs.length) (f4 : fs.length ≤ 4) (tr : Tr fs.length rs) (hr6 : rs.length ≤ 6) (hbl : bs.length ≤ 6) (hb : BadOk rs.length bs)
    (hp' : S' p = some o') (hB' : BagO o') (hc : S' pc = some (mcO fs (rowsI rs) (bs.map .int))) (hm : S' pm = some (.lst ms)) (hml : 1 ≤ ms.length) (hml2 : ms.length ≤ 6) (hw : S' pw = some (.lst (bs.map .int))) (npm : p ≠ pm) (npw : p ≠ pw) (nmw : pm ≠ pw) (hms : ∀ d ∈ ms, RowS S' [p, pc, pm, pw] d) :
    t_law_c7 (endD q e) [x0, some (.ref p), some (.str fs), some (.lst (rowsI rs)), some (.lst (bs.map .int)), some (.ref pm), some (.ref pw), some (.ref pc), some (.int rs.length), some (.lst [.str fs, .int rs.length, .lst (rowsI rs), .lst (bs.map .int), .str ([77, 97, 99, 104, 105, 110, 101, 40] ++ TL.tl (toString (rs.length : Int)) ++ [32, 115, 116, 97, 116, 101, 115, 41]), .int 200]), x10, x11, x12, x13, x14, x15, x16, x17, x18, x19, x20] S' := by
  rw [t_law_c7_eq]
  have ncm : pc ≠ pm := fun z => by rw [z, hm] at hc; cases hc
  have ncw : pc ≠ pw := fun z => by rw [z, hw] at hc; cases hc
  wtm_at "dl go"
  refine forInvK (fun r ρ S2 => ∃ y10 : Option D, S2 p = some o' ∧ S2 pc = some (mcO fs (rowsI rs) (bs.map .int)) ∧ S2 pm = some (.lst ms) ∧ S2 pw = some (.lst (bs.map .int)) ∧ (∀ d ∈ r, RowS S2 [p, pc, pm, pw] d) ∧ ρ = [x0, some (.ref p), some (.str fs), some (.lst (rowsI rs)), some (.lst (bs.map .int)), some (.ref pm), some (.ref pw), some (.ref pc), some (.int rs.length), some (.lst [.str fs, .int rs.length, .lst (rowsI rs), .lst (bs.map .int), .str ([77, 97, 99, 104, 105, 110, 101, 40] ++ TL.tl (toString (rs.length : Int)) ++ [32, 115, 116, 97, 116, 101, 115, 41]), .int 200]), y10, x11, x12, x13, x14, x15, x16, x17, x18, x19, x20]) (fun r ρ S2 h => ?_) (fun d r ρ S2 ih h => ?_) (fun ρ S2 h => ?_) _ _ _ ⟨x10, hp', hc, hm, hw, hms, rfl⟩
  · obtain ⟨y10, h1, h2, h3, h4, h5, rfl⟩ := h
    exact h3
  · obtain ⟨y10, h1, h2, h3, h4, h5, rfl⟩ := h
    rcases h5 d (List.mem_cons_self ..) with ⟨xs, rfl⟩ | ⟨a, xs, rfl, hn, ha, hx⟩
    · wtm_at "dl go"
      exact ih _ _ ⟨_, h1, h2, h3, h4, fun y hy => h5 y (List.mem_cons_of_mem _ hy), rfl⟩
    · have n1 := hn p (by simp)
      have n2 := hn pc (by simp)
      have n3 := hn pm (by simp)
      have n4 := hn pw (by simp)
      wtm_at "dl go"
      refine hPut_i (j := 0) ?_ ?_
      · unfold ixN
        rw [if_pos (by decide), if_pos (by omega)]; rfl
      wtm_at "dl go"
      refine ih _ _ ⟨_, by rw [Sto.set_ne n1.symm]; exact h1, by rw [Sto.set_ne n2.symm]; exact h2, by rw [Sto.set_ne n3.symm]; exact h3, by rw [Sto.set_ne n4.symm]; exact h4, fun y hy => ?_, rfl⟩
      rcases h5 y (List.mem_cons_of_mem _ hy) with h | ⟨b, zs, rfl, hb1, hb2, hb3⟩
      · exact .inl h
      · by_cases eb : b = a
        · subst eb
          exact .inr ⟨b, xs.set 0 .non, rfl, hb1, Sto.set_same, by rw [List.length_set]; exact hx⟩
        · exact .inr ⟨b, zs, rfl, hb1, by rw [Sto.set_ne eb]; exact hb2, hb3⟩
  · obtain ⟨y10, h1, h2, h3, h4, h5, rfl⟩ := h
    wtm_at "dl go"
    refine hPut_i (j := 0) ?_ ?_
    · unfold ixN
      rw [if_pos (by decide), if_pos (by omega)]; rfl
    wtm_at "dl go"
    refine law_10 (o' := o') k hs hf f1 f4 tr hr6 hbl hb ?_ hB' ?_
    · wtm_at "dl at"
    · wtm_at "dl at"
theorem law_4 {S' : Sto} {q : QD} {e : ExD} {p pm pw : Addr} {o' : O} {fs : List Nat} {rs : List (List Int)} {bs : List Int} {ms : List D} {x0 x7 x8 x9 x10 x11 x12 x13 x14 x15 x16 x17 x18 x19 x20 : Option D} (k : ∀ S', q (.bl true) S') (hs : fs.Sublist az) (hf : isRising (.str fs) az 6 = true) (f1 : 1 ≤ fs.length) (f4 : fs.length ≤ 4) (tr : Tr fs.length rs) (hr6 : rs.length ≤ 6) (hbl : bs.length ≤ 6) (hb : BadOk rs.length bs)
    (hp' : S' p = some o') (hB' : BagO o') (hm : S' pm = some (.lst ms)) (hw : S' pw = some (.lst (bs.map .int))) (npm : p ≠ pm) (npw : p ≠ pw) (nmw : pm ≠ pw) (hR : RowsF S' ms rs) (hms : ∀ d ∈ ms, RowS S' [p, pm, pw] d) :
    t_law_c4 (endD q e) [x0, some (.ref p), some (.str fs), some (.lst (rowsI rs)), some (.lst (bs.map .int)), some (.ref pm), some (.ref pw), x7, x8, x9, x10, x11, x12, x13, x14, x15, x16, x17, x18, x19, x20] S' := by
  rw [t_law_c4_eq]
  have rl : (rowsI rs).length = rs.length := by unfold rowsI; rw [List.length_map]
  have ml := hR.len
  have r1 := tr.1
  have lg := log_small (n := rs.length) (by omega)
  have rp := rep_small rs.length (by omega)
  wtm_at "dl go"
  intro pc hpc
  have n1 : p ≠ pc := Sto.ne_of hp' hpc
  have n2 : pm ≠ pc := Sto.ne_of hm hpc
  have n3 : pw ≠ pc := Sto.ne_of hw hpc
  have hR2 : RowsF (S'.set pc (.ins 34 [])) ms rs := hR.keep fun a xs h => by rw [Sto.set_ne (Sto.ne_of h hpc)]; exact h
  wtm_at "dl go"
  obtain ⟨m1, m2, m3, m4, m5, m6, m7⟩ := mk_facts (S := S'.set pc (.ins 34 [])) (t := .ref pm) (b := .ref pw) hf tr (by omega) (.inr (.inr ⟨pm, rfl, (by wtm_at "dl at")⟩)) hR2 (.inr (.inr ⟨pw, rfl, (by wtm_at "dl at")⟩)) hb
  refine ⟨pc, .str fs, .ref pm, .ref pw, rfl, Sto.set_same, m1, m2, m3, fun fs2 rows2 bs2 q1 q2 q3 q4 => ?_, fun y hy => (by have z := m4.symm.trans hy; cases z)⟩
  cases q1
  obtain rfl := Option.some.inj (m5.symm.trans q3)
  obtain rfl := Option.some.inj (m6.symm.trans q4)
  rw [m7]
  clear m1 m2 m3 m4 m5 m6 m7 q2 q3 q4
  wtm_at "dl go"
  rw [Sto.set_set]
  wtm_at "dl go"
  rw [rl]
  wtm_at "dl go"
  refine law_7 (o' := o') (ms := ms) k hs hf f1 f4 tr hr6 hbl hb ?_ hB' Sto.set_same ?_ (by omega) (by omega) ?_ npm npw nmw fun d hd => ?_
  · wtm_at "dl at"
  · wtm_at "dl at"
  · wtm_at "dl at"
  rcases hms d hd with h | ⟨a, xs, rfl, h1, h2, h3⟩
  · exact .inl h
  · have na : a ≠ pc := Sto.ne_of h2 hpc
    refine .inr ⟨a, xs, rfl, fun b hb2 => ?_, by rw [Sto.set_ne na]; exact h2, h3⟩
    simp only [List.mem_cons, List.not_mem_nil, or_false] at hb2
    rcases hb2 with rfl | rfl | rfl | rfl
    · exact h1 b (by simp)
    · exact na
    · exact h1 b (by simp)
    · exact h1 b (by simp)
theorem RowsF.keepR {S S' : Sto} : ∀ {ds : List D} {rs : List (List Int)}, (∀ a, D.ref a ∈ ds → S' a = S a) → RowsF S ds rs → RowsF S' ds rs
  | [], [], _, _ => trivial
  | d :: _, _ :: _, k, h => ⟨by
    rcases h.1 with e | e | ⟨p, e, e2⟩
    · exact .inl e
    · exact .inr (.inl e)
    · exact .inr (.inr ⟨p, e, by rw [k p (by rw [e]; exact List.mem_cons_self ..)]; exact e2⟩), RowsF.keepR (fun a ha => k a (List.mem_cons_of_mem _ ha)) h.2⟩
  | [], _ :: _, _, h => h.elim
  | _ :: _, [], _, h => h.elim
theorem l_law : codeT sp_law t_law 21 := by
  intro ds S q e h
  obtain ⟨cells, rfl, hc, hS0, k⟩ := h
  wtm_at "dl go"
  refine ⟨cells, rfl, hc, fun p o hp hB => ?_⟩
  wtm_at "dl go"
  refine ⟨p, o, 4, rfl, Sto.set_same, hB, by decide, by decide, fun fs o1 hf1 hf2 hf3 hB1 => ?_⟩
  have fl1 : 1 ≤ fs.length := List.length_pos_iff.mpr hf2
  have fl4 : fs.length ≤ 4 := by omega
  have hf : isRising (.str fs) az 6 = true := by
    unfold isRising
    simp only [Bool.and_eq_true, decide_eq_true_eq, List.all_eq_true]
    exact ⟨⟨by omega, by omega⟩, fun c hc => hf1.subset hc, az_p.sublist hf1⟩
  wtm_at "dl go"
  refine ⟨p, o1, fs, 6, rfl, Sto.set_same, hB1, by omega, by decide, by decide, fun rows bs o2 h0 h6 hr hbd hB2 => ?_⟩
  have hb := bad_sub hbd
  have bl : bs.length ≤ 6 := by have := hbd.length_le; rw [List.length_map, List.length_range] at this; omega
  obtain ⟨rs, rfl, hrs⟩ := rows_rs hr
  have rl : (rowsI rs).length = rs.length := by unfold rowsI; rw [List.length_map]
  rw [rl] at hrs hb h6
  have tr : Tr fs.length rs := ⟨by have := List.length_pos_iff.mpr h0; omega, hrs⟩
  wtm_at "dl go"
  refine lcInv (fun r acc S2 => ∃ (o2 : O) (us vs : List (List Int)), rs = us ++ vs ∧ r = rowsI vs ∧ RowsF S2 acc us ∧ BagO o2 ∧ S2 p = some o2 ∧ ∀ d ∈ acc, RowS S2 [p] d) (fun d r acc S2 ih h => ?_) (fun acc S2 h => ?_) _ _ _ ⟨o2, [], rs, rfl, rfl, trivial, hB2, Sto.set_same, fun _ h => by cases h⟩
  · obtain ⟨o3, us, vs, e1, e2, hR, hB3, hp3, ha⟩ := h
    cases vs with
    | nil => cases e2
    | cons xs vs =>
      cases e2
      have mx : xs ∈ rs := by rw [e1]; simp
      have xl := (hrs xs mx).1
      have la := congrArg List.length e1
      have al := hR.len
      simp only [List.length_append, List.length_cons] at la
      wtm_at "dl go"
      refine ⟨p, o3, 2, rfl, hp3, hB3, by decide, by decide, fun y o4 y0 y1 hB4 => ?_⟩
      have refs : ∀ a, D.ref a ∈ acc → a ≠ p := fun a h => by
        rcases ha _ h with ⟨_, z⟩ | ⟨b, zs, z, h1, _, _⟩
        · cases z
        · cases z; exact h1 p (by simp)
      have hR2 : RowsF (S2.set p o4) acc us := hR.keepR fun a h => Sto.set_ne (refs a h)
      have ha2 : ∀ d ∈ acc, RowS (S2.set p o4) [p] d := fun d hd => by
        rcases ha d hd with h | ⟨b, zs, rfl, h1, h2, h3⟩
        · exact .inl h
        · exact .inr ⟨b, zs, rfl, h1, by rw [Sto.set_ne (refs b hd)]; exact h2, h3⟩
      wtm_at "dl go"
      refine hIf_c (fun c => ?_) (fun c => ?_)
      · wtm_at "dl go"
        intro a hz
        have na : p ≠ a := Sto.ne_of Sto.set_same hz
        wtm_at "dl go"
        refine ih _ _ ⟨o4, us ++ [xs], vs, by rw [e1, List.append_assoc]; rfl, rfl, RowsF.app (hR2.keep fun b zs hb => by rw [Sto.set_ne (Sto.ne_of hb hz)]; exact hb) (show RowsF _ [D.ref a] [xs] from ⟨.inr (.inr ⟨a, rfl, Sto.set_same⟩), trivial⟩), hB4, by rw [Sto.set_ne na]; exact Sto.set_same, fun d hd => ?_⟩
        rcases List.mem_append.mp hd with h | h
        · rcases ha2 d h with h | ⟨b, zs, rfl, h1, h2, h3⟩
          · exact .inl h
          · exact .inr ⟨b, zs, rfl, h1, by rw [Sto.set_ne (Sto.ne_of h2 hz)]; exact h2, h3⟩
        · rw [List.mem_singleton.mp h]
          exact .inr ⟨a, xs.map .int, rfl, fun b hb => by rw [List.mem_singleton.mp hb]; exact na.symm, Sto.set_same, by rw [List.length_map]; omega⟩
      · wtm_at "dl go"
        refine ih _ _ ⟨o4, us ++ [xs], vs, by rw [e1, List.append_assoc]; rfl, rfl, RowsF.app hR2 (show RowsF _ [D.tup (xs.map .int)] [xs] from ⟨.inr (.inl rfl), trivial⟩), hB4, Sto.set_same, fun d hd => ?_⟩
        rcases List.mem_append.mp hd with h | h
        · exact ha2 d h
        · rw [List.mem_singleton.mp h]
          exact .inl ⟨_, rfl⟩
  · obtain ⟨o3, us, vs, e1, e2, hR, hB3, hp3, ha⟩ := h
    cases vs with
    | cons xs vs => cases e2
    | nil =>
      rw [List.append_nil] at e1
      subst e1
      wtm_at "dl go"
      intro pm hpm
      have n1 : p ≠ pm := Sto.ne_of hp3 hpm
      wtm_at "dl go"
      intro pw hpw
      have n2 : p ≠ pw := Sto.ne_of (o := o3) (by wtm_at "dl at") hpw
      have n3 : pm ≠ pw := Sto.ne_of Sto.set_same hpw
      wtm_at "dl go"
      have k1 : RowsF (S2.set pm (.lst acc)) acc rs := hR.keep fun b zs hb => by rw [Sto.set_ne (Sto.ne_of hb hpm)]; exact hb
      have k2 : RowsF ((S2.set pm (.lst acc)).set pw (.lst (bs.map .int))) acc rs := k1.keep fun b zs hb => by rw [Sto.set_ne (Sto.ne_of hb hpw)]; exact hb
      refine law_4 (o' := o3) (ms := acc) k hf1 hf fl1 fl4 tr (by omega) bl hb ?_ hB3 ?_ Sto.set_same n1 n2 n3 k2 fun d hd => ?_
      · wtm_at "dl at"
      · wtm_at "dl at"
      rcases ha d hd with h | ⟨b, zs, rfl, h1, h2, h3⟩
      · exact .inl h
      · have m1 : b ≠ pm := Sto.ne_of h2 hpm
        have h4 : (S2.set pm (.lst acc)) b = some (.lst zs) := by rw [Sto.set_ne m1]; exact h2
        have m2 : b ≠ pw := Sto.ne_of h4 hpw
        refine .inr ⟨b, zs, rfl, fun y hy => ?_, by rw [Sto.set_ne m2]; exact h4, h3⟩
        simp only [List.mem_cons, List.not_mem_nil, or_false] at hy
        rcases hy with rfl | rfl | rfl
        · exact h1 y (by simp)
        · exact m1
        · exact m2


end K11

set_option maxHeartbeats 0
namespace K11
open PySem PySem.Spec PyProof.Rows L2 DL
local macro_rules | `(tactic| wtm_at "dl side") => `(tactic| first
  | ((with_reducible refine (?_ : _ = _)); eq_refl)
  | ((with_reducible refine (?_ : _ ≤ sizeLine)); first | apply Nat.le_of_ble_eq_true rfl | (unfold sizeLine; omega) | (simp only [List.length_append, List.length_cons, List.length_nil, List.length_map, List.length_take, List.length_drop, List.length_replicate, sizeLine]; omega))
  | with_reducible assumption
  | ((with_reducible refine (?_ : _ ∧ _)); refine ⟨?_, ?_⟩ <;> wtm_at "dl side")
  | ((with_reducible refine (?_ : CMul _ _ ∨ CMulW _ _)); first | exact .inl (.inr (by omega)) | exact .inl (.inl (by omega)) | exact .inl (.inr (by decide)) | exact .inl (.inl (by decide)))
  | ((with_reducible refine (?_ : CPow _ _)); exact ⟨by decide, by decide, by decide⟩)
  | ((with_reducible refine (?_ : isTy _ _ _)); first | apply rfl | exact isTy_lst (by wtm_at "dl at"))
  | ((with_reducible refine (?_ : small62 _)); constructor <;> first | decide | omega)
  | ((with_reducible refine (?_ : List.length _ < _)); apply Nat.le_of_ble_eq_true rfl)
  | ((with_reducible refine (?_ : hSameC _ _ _)); first | (apply sameC_ty; apply rfl) | (apply sameC_ref; wtm_at "dl at"))
  | omega
  | decide
  | (simp only [List.length_append, List.length_cons, List.length_nil, List.length_map, List.length_take, List.length_drop, List.length_replicate, sizeLine]; omega)
  | ((try simp only [List.length_append, List.length_cons, List.length_nil, List.length_map, List.length_replicate] at *); unfold sizeLine; omega))
local macro_rules | `(tactic| wtm_at "dl at") => `(tactic| first
  | with_reducible apply Sto.set_same
  | with_reducible assumption
  | assumption
  | ((repeat (first | (with_reducible exact Sto.set_same) | (refine (Sto.set_ne (by assumption)).trans ?_) | (refine (Sto.set_ne (Ne.symm (by assumption))).trans ?_))) <;> assumption))
local macro_rules | `(tactic| wtm_at "dl ix") => `(tactic| first | with_reducible assumption | apply rfl | assumption)
local macro_rules | `(tactic| wtm_at "dl st") => `(tactic| ((conv => whnf); first
  | apply stp
  | refine hAnd_i (by wtm_at "dl side") ?_
  | refine hAt_i (by wtm_at "dl at") ?_
  | refine hGet_i (by wtm_at "dl ix") ?_
  | refine hGetC_i (by wtm_at "dl ix") ?_
  | refine hVal_i (by wtm_at "dl ix") ?_
  | refine hKd_i (by wtm_at "dl ix") ?_
  | refine hTab_i (by wtm_at "dl at") ?_
  | refine hPut_i rfl ?_
  | refine hIf_t ?_
  | refine hIf_f ?_))
local macro_rules | `(tactic| wtm_at "dl go") => `(tactic| ((repeat wtm_at "dl st"); try (conv => whnf)))

local macro_rules | `(tactic| wtm_at "dl len") => `(tactic| (intro ds S q e h; repeat (first | (obtain ⟨h1, _⟩ := h; subst h1; rfl) | (obtain ⟨_, h⟩ := h))))
local macro_rules | `(tactic| wtm_at "dl len2") => `(tactic| (intro ds S q e h; rcases h with h | h <;> (repeat (first | (obtain ⟨h1, _⟩ := h; subst h1; rfl) | (obtain ⟨_, h⟩ := h)))))
local macro_rules | `(tactic| wtm_at "dl len3") => `(tactic| (intro ds S q e h; obtain ⟨_, _, _, _, h⟩ := h; rcases h with h | h <;> (repeat (first | (obtain ⟨h1, _⟩ := h; subst h1; rfl) | (obtain ⟨_, h⟩ := h)))))
theorem et_InvalidFaces___init__ : ExTxt d_InvalidFaces___init__ "self" "given" "InvalidFaces" "given" := ⟨rfl, ⟨_, rfl, rfl⟩, by decide +kernel, by decide +kernel, NdefX.nscope_by (by decide +kernel), ⟨_, fun c cl => ⟨⟨_, _, _, _, _, _, _, _, rfl, fun env => by first | rfl | kernel_rfl⟩⟩, ⟨⟨_, _, _, _, _, _, _, _, _, rfl⟩⟩⟩, fun cl doc pm cdv ct us hl => (match us, hl with | [_, _], _ => rfl), by decide, by decide, by decide, by decide⟩
theorem et_InvalidTable___init__ : ExTxt d_InvalidTable___init__ "self" "at" "InvalidTable" "at" := ⟨rfl, ⟨_, rfl, rfl⟩, by decide +kernel, by decide +kernel, NdefX.nscope_by (by decide +kernel), ⟨_, fun c cl => ⟨⟨_, _, _, _, _, _, _, _, rfl, fun env => by first | rfl | kernel_rfl⟩⟩, ⟨⟨_, _, _, _, _, _, _, _, _, rfl⟩⟩⟩, fun cl doc pm cdv ct us hl => (match us, hl with | [_, _], _ => rfl), by decide, by decide, by decide, by decide⟩
theorem et_InvalidBad___init__ : ExTxt d_InvalidBad___init__ "self" "at" "InvalidBad" "at" := ⟨rfl, ⟨_, rfl, rfl⟩, by decide +kernel, by decide +kernel, NdefX.nscope_by (by decide +kernel), ⟨_, fun c cl => ⟨⟨_, _, _, _, _, _, _, _, rfl, fun env => by first | rfl | kernel_rfl⟩⟩, ⟨⟨_, _, _, _, _, _, _, _, _, rfl⟩⟩⟩, fun cl doc pm cdv ct us hl => (match us, hl with | [_, _], _ => rfl), by decide, by decide, by decide, by decide⟩
theorem facts {P : Program} {w : World} {K : PySem.W.Frag} {h : Heap} {mg : Str → Option Value} {f : Addr} (X : K.In h) (Gn : h.Ns mainGlobals mg) (hfa : mg "law" = some (.ref f)) (c : SaysF fal fnl K) (cT : TsOk tsl w K) (hPf : P.main.file = "/claim/cut.py") (hPs : (P.main.scope.names.lookup ("super" : Str)).isSome = false) : ∃ fd : FuncData, LawOk P 8 "_law_script" K w mg f fd := by
  obtain ⟨fd_is_number, D_is_number⟩ := c.def_ 0 (d := d_is_number) rfl
  obtain ⟨fd_is_rising, D_is_rising⟩ := c.def_ 1 (d := d_is_rising) rfl
  obtain ⟨fd_is_faces, D_is_faces⟩ := c.def_ 2 (d := d_is_faces) rfl
  obtain ⟨fd_check_table, D_check_table⟩ := c.def_ 3 (d := d_check_table) rfl
  obtain ⟨fd_check_bad, D_check_bad⟩ := c.def_ 4 (d := d_check_bad) rfl
  obtain ⟨fd_Machine___init__, D_Machine___init__⟩ := c.def_ 5 (d := d_Machine___init__) rfl
  obtain ⟨fd_Machine_size, D_Machine_size⟩ := c.def_ 6 (d := d_Machine_size) rfl
  obtain ⟨fd_Machine_table, D_Machine_table⟩ := c.def_ 7 (d := d_Machine_table) rfl
  obtain ⟨fd_Machine_bad, D_Machine_bad⟩ := c.def_ 8 (d := d_Machine_bad) rfl
  obtain ⟨fd_Machine___eq__, D_Machine___eq__⟩ := c.def_ 9 (d := d_Machine___eq__) rfl
  obtain ⟨fd_Machine___repr__, D_Machine___repr__⟩ := c.def_ 10 (d := d_Machine___repr__) rfl
  obtain ⟨fd__law_open, D__law_open⟩ := c.def_ 11 (d := d__law_open) rfl
  obtain ⟨fd__law_draw, D__law_draw⟩ := c.def_ 12 (d := d__law_draw) rfl
  obtain ⟨fd__law_same, D__law_same⟩ := c.def_ 13 (d := d__law_same) rfl
  obtain ⟨fd__law_letters, D__law_letters⟩ := c.def_ 14 (d := d__law_letters) rfl
  obtain ⟨fd__law_some_faces, D__law_some_faces⟩ := c.def_ 15 (d := d__law_some_faces) rfl
  obtain ⟨fd__law_some_machine, D__law_some_machine⟩ := c.def_ 16 (d := d__law_some_machine) rfl
  obtain ⟨fd_law, D_law⟩ := c.def_ 17 (d := d_law) rfl
  obtain ⟨du_Machine___init__, R_Machine___init__, I_Machine___init__⟩ := dfl_of D_Machine___init__ (List.cons_ne_nil _ _)
  have c0 := c.fact 0 (f := (fFa (.glo "is_number"))) rfl
  have c1 := c.fact 1 (f := (fFa (.glo "is_rising"))) rfl
  have c2 := c.fact 2 (f := (fFa (.glo "is_faces"))) rfl
  have c3 := c.fact 3 (f := (fFa (.glo "check_table"))) rfl
  have c4 := c.fact 4 (f := (fFa (.glo "check_bad"))) rfl
  have c5 := c.fact 5 (f := (fFa (.glo "_law_open"))) rfl
  have c6 := c.fact 6 (f := (fFa (.glo "_law_draw"))) rfl
  have c7 := c.fact 7 (f := (fFa (.glo "_law_same"))) rfl
  have c8 := c.fact 8 (f := (fFa (.glo "_law_letters"))) rfl
  have c9 := c.fact 9 (f := (fFa (.glo "_law_some_faces"))) rfl
  have c10 := c.fact 10 (f := (fFa (.glo "_law_some_machine"))) rfl
  have c11 := c.fact 11 (f := (fFa (.glo "law"))) rfl
  have c12 := c.fact 12 (f := (fFa (.glo "Machine"))) rfl
  have c13 := c.fact 13 (f := (fFa (.free "isinstance"))) rfl
  have c14 := c.fact 14 (f := (fFa (.free "bool"))) rfl
  have c15 := c.fact 15 (f := (fFa (.free "int"))) rfl
  have c16 := c.fact 16 (f := (fFa (.free "list"))) rfl
  have c17 := c.fact 17 (f := (fFa (.free "sorted"))) rfl
  have c18 := c.fact 18 (f := (fFa (.free "set"))) rfl
  have c19 := c.fact 19 (f := (fFa (.free "all"))) rfl
  have c20 := c.fact 20 (f := (fFa (.free "len"))) rfl
  have c21 := c.fact 21 (f := (fFa (.free "str"))) rfl
  have c22 := c.fact 22 (f := (fFa (.str "LOWER" "abcdefghijklmnopqrstuvwxyz"))) rfl
  have c23 := c.fact 23 (f := (fFa (.free "enumerate"))) rfl
  have c24 := c.fact 24 (f := (fFa (.glo "InvalidTable"))) rfl
  have c25 := c.fact 25 (f := (fFa (.free "tuple"))) rfl
  have c26 := c.fact 26 (f := (fCC 34 "MOST" (.int 200))) rfl
  have c27 := c.fact 27 (f := (fFa (.glo "InvalidBad"))) rfl
  have c28 := c.fact 28 (f := (fFa (.glo "InvalidFaces"))) rfl
  have c29 := c.fact 29 (f := (fCls 34)) rfl
  have c30 := c.fact 30 (f := (fNo 34 "own_bad")) rfl
  have c31 := c.fact 31 (f := (fNo 34 "own_table")) rfl
  have c32 := c.fact 32 (f := (fNo 34 "faces")) rfl
  have c33 := c.fact 33 (f := (fMeth 34 "bad")) rfl
  have c34 := c.fact 34 (f := (fMeth 34 "table")) rfl
  have c35 := c.fact 35 (f := (fIs 34 [(34, true)])) rfl
  have c36 := c.fact 36 (f := (fFa (.free "abs"))) rfl
  have c37 := c.fact 37 (f := (fFa (.free "zip"))) rfl
  have c38 := c.fact 38 (f := (fFa (.free "range"))) rfl
  have c39 := c.fact 39 (f := (fFa (.free "any"))) rfl
  have c40 := c.fact 40 (f := (fFa (.free "repr"))) rfl
  have c41 := c.fact 41 (f := (fMk 34)) rfl
  have c42 := c.fact 42 (f := (fProp 34 "size")) rfl
  have c43 := c.fact 43 (f := (fMeth 34 "__eq__")) rfl
  have c44 := c.fact 44 (f := (fMeth 34 "__repr__")) rfl
  have c45 := c.fact 45 (f := (fNe 34)) rfl
  have c46 := c.fact 46 (f := (fInit 16 "given" "/claim/cut.py")) rfl
  have c47 := c.fact 47 (f := (fInit 31 "at" "/claim/cut.py")) rfl
  have c48 := c.fact 48 (f := (fInit 12 "at" "/claim/cut.py")) rfl
  have c49 := c.fact 49 (f := (fFa (.free "super"))) rfl
  have c50 := c.fact 50 (f := (fTup0 (aD (aM 34 "__init__") 0))) rfl
  have X_InvalidFaces : ∀ base : Heap, ExAt P w K mg base 1 "InvalidFaces" 16 [73, 110, 118, 97, 108, 105, 100, 70, 97, 99, 101, 115] 9 := fun base => exat_ok (d := d_InvalidFaces___init__) rfl (c.at_ 18 (d := d_InvalidFaces___init__) rfl).1 (c.at_ 18 (d := d_InvalidFaces___init__) rfl).2 (by rw [hPf]; exact c46) (He.glo_ok X Gn c28) (He.free_ok X Gn c49) hPs (by have z := et_InvalidFaces___init__; exact z)
  have X_InvalidTable : ∀ base : Heap, ExAt P w K mg base 1 "InvalidTable" 31 [73, 110, 118, 97, 108, 105, 100, 84, 97, 98, 108, 101] 1 := fun base => exat_ok (d := d_InvalidTable___init__) rfl (c.at_ 19 (d := d_InvalidTable___init__) rfl).1 (c.at_ 19 (d := d_InvalidTable___init__) rfl).2 (by rw [hPf]; exact c47) (He.glo_ok X Gn c24) (He.free_ok X Gn c49) hPs (by have z := et_InvalidTable___init__; exact z)
  have X_InvalidBad : ∀ base : Heap, ExAt P w K mg base 1 "InvalidBad" 12 [73, 110, 118, 97, 108, 105, 100, 66, 97, 100] 1 := fun base => exat_ok (d := d_InvalidBad___init__) rfl (c.at_ 20 (d := d_InvalidBad___init__) rfl).1 (c.at_ 20 (d := d_InvalidBad___init__) rfl).2 (by rw [hPf]; exact c48) (He.glo_ok X Gn c27) (He.free_ok X Gn c49) hPs (by have z := et_InvalidBad___init__; exact z)
  have e := hfa.symm.trans (He.glo_ok X Gn c11)
  cases e
  refine ⟨fd_law, ⟨fun s v => FunD.bindsA (ps := ["_law_script"]) D_law (fun _ _ _ _ _ _ us hl => match us, hl with | [_], _ => rfl) s [v] rfl, fun base hb1 hb2 => ?_⟩⟩
  have X_InvalidFaces := X_InvalidFaces base
  have X_InvalidTable := X_InvalidTable base
  have X_InvalidBad := X_InvalidBad base
  have F_is_number : FnAt P w K mg base 1 "is_number" sg_is_number sp_is_number := fn_at (k := 0) D_is_number (He.glo_ok X Gn c0) sc_is_number rfl rfl rfl (GL.bic (He.free_ok X Gn c13) (GL.bic (He.free_ok X Gn c14) (GL.bic (He.free_ok X Gn c15) GL.nil))) (ents_cons (ent_at D_is_number fun _ _ _ _ _ _ us ws l1 l2 => match us, ws, l1, l2 with | [_, _, _], [], _, _ => rfl) ents_nil) .nil (fun _ _ _ => rfl) (by wtm_at "dl len") c_is_number l_is_number
  have F_is_rising : FnAt P w K mg base 1 "is_rising" sg_is_rising sp_is_rising := fn_at (k := 0) D_is_rising (He.glo_ok X Gn c1) sc_is_rising rfl rfl rfl (GL.bic (He.free_ok X Gn c16) (GL.bic (He.free_ok X Gn c17) (GL.bic (He.free_ok X Gn c18) (GL.bic (He.free_ok X Gn c19) (GL.bic (He.free_ok X Gn c20) (GL.bic (He.free_ok X Gn c13) (GL.bic (He.free_ok X Gn c21) GL.nil))))))) (ents_cons (ent_at D_is_rising fun _ _ _ _ _ _ us ws l1 l2 => match us, ws, l1, l2 with | [_, _, _], [], _, _ => rfl) ents_nil) .nil (fun _ _ _ => rfl) (by wtm_at "dl len") c_is_rising l_is_rising
  have F_is_faces : FnAt P w K mg base 2 "is_faces" sg_is_faces sp_is_faces := fn_at (k := 1) D_is_faces (He.glo_ok X Gn c2) sc_is_faces rfl rfl rfl (GL.fnc F_is_rising (by omega) (GL.strc (He.str_ok X Gn c22) GL.nil)) (ents_cons (ent_at D_is_faces fun _ _ _ _ _ _ us ws l1 l2 => match us, ws, l1, l2 with | [_], [], _, _ => rfl) ents_nil) .nil (fun _ _ _ => rfl) (by wtm_at "dl len") c_is_faces l_is_faces
  have F_check_table : FnAt P w K mg base 3 "check_table" sg_check_table sp_check_table := fn_at (k := 2) D_check_table (He.glo_ok X Gn c3) sc_check_table rfl rfl rfl (GL.bic (He.free_ok X Gn c23) (GL.bic (He.free_ok X Gn c19) (GL.fnc F_is_number (by omega) (GL.bic (He.free_ok X Gn c20) (GL.excc X_InvalidTable (by omega) (GL.bic (He.free_ok X Gn c13) (GL.bic (He.free_ok X Gn c16) (GL.bic (He.free_ok X Gn c25) (GL.nilT ⟨all_nil, all_nil, all_nil, all_nil, all_nil, (all_cons ⟨⟨_, (He.glo_ok X Gn c12), cc_ok c26 fun _ _ _ => rfl⟩⟩ all_nil), all_nil, all_nil, all_nil⟩))))))))) (ents_cons (ent_at D_check_table fun _ _ _ _ _ _ us ws l1 l2 => match us, ws, l1, l2 with | [_, _], [], _, _ => rfl) ents_nil) .nil (fun _ _ _ => rfl) (by wtm_at "dl len") c_check_table l_check_table
  have F_check_bad : FnAt P w K mg base 3 "check_bad" sg_check_bad sp_check_bad := fn_at (k := 2) D_check_bad (He.glo_ok X Gn c4) sc_check_bad rfl rfl rfl (GL.bic (He.free_ok X Gn c23) (GL.fnc F_is_number (by omega) (GL.excc X_InvalidBad (by omega) (GL.bic (He.free_ok X Gn c13) (GL.bic (He.free_ok X Gn c16) (GL.bic (He.free_ok X Gn c25) GL.nil)))))) (ents_cons (ent_at D_check_bad fun _ _ _ _ _ _ us ws l1 l2 => match us, ws, l1, l2 with | [_, _], [], _, _ => rfl) ents_nil) .nil (fun _ _ _ => rfl) (by wtm_at "dl len") c_check_bad l_check_bad
  have F_Machine___init__ : FG P w K mg base 4 ((aM 34 "__init__") K) (upPh K (ciP (.fix sg_Machine___init__ sp_Machine_init))) := fg_at (k := 3) D_Machine___init__ sc_Machine___init__ rfl rfl rfl (GL.bic (He.free_ok X Gn c16) (GL.bic (He.free_ok X Gn c25) (GL.fnc F_check_bad (by omega) (GL.bic (He.free_ok X Gn c20) (GL.fnc F_check_table (by omega) (GL.fnc F_is_faces (by omega) (GL.excc X_InvalidFaces (by omega) (GL.nilT ⟨all_nil, all_nil, all_nil, (all_cons ⟨⟨cls_ok c29, no_ok c30⟩⟩ (all_cons ⟨⟨cls_ok c29, no_ok c31⟩⟩ (all_cons ⟨⟨cls_ok c29, no_ok c32⟩⟩ all_nil))), all_nil, all_nil, all_nil, all_nil, all_nil⟩)))))))) (ents_cons (ent_atD I_Machine___init__ 1 R_Machine___init__.length.symm fun _ _ _ _ _ _ _ us ws its l1 l2 l3 => match us, ws, its, l1, l2, l3 with | [_, _, _, _], [], [_], _, _, _ => ⟨_, rfl, rfl⟩) (ents_cons (ent_atD I_Machine___init__ 1 R_Machine___init__.length.symm fun _ _ _ _ _ _ _ us ws its l1 l2 l3 => match us, ws, its, l1, l2, l3 with | [_, _, _], [], [_], _, _, _ => ⟨_, rfl, rfl⟩) ents_nil)) R_Machine___init__ (fun _ _ _ => ⟨_, _, rfl, (tup0_ok c50 _ _ _), rfl⟩) (by wtm_at "dl len") c_Machine___init__ l_Machine___init__
  have F_Machine_size : FG P w K mg base 1 ((aP 34 "size") K) (upPh K (ciP (.fix sg_Machine_size sp_Machine_size))) := fg_at (k := 0) D_Machine_size sc_Machine_size rfl rfl rfl (GL.bic (He.free_ok X Gn c20) (GL.nilT ⟨all_nil, all_nil, (all_cons ⟨cls_ok c29, no_ok c31⟩ all_nil), all_nil, all_nil, all_nil, all_nil, all_nil, all_nil⟩)) (ents_cons (ent_at D_Machine_size fun _ _ _ _ _ _ us ws l1 l2 => match us, ws, l1, l2 with | [_], [], _, _ => rfl) ents_nil) .nil (fun _ _ _ => rfl) (by wtm_at "dl len") c_Machine_size l_Machine_size
  have F_Machine_table : FG P w K mg base 1 ((aM 34 "table") K) (upPh K (ciP (.fix sg_Machine_table sp_Machine_table))) := fg_at (k := 0) D_Machine_table sc_Machine_table rfl rfl rfl (GL.bic (He.free_ok X Gn c16) (GL.nilT ⟨all_nil, all_nil, (all_cons ⟨cls_ok c29, no_ok c31⟩ all_nil), all_nil, all_nil, all_nil, all_nil, all_nil, all_nil⟩)) (ents_cons (ent_at D_Machine_table fun _ _ _ _ _ _ us ws l1 l2 => match us, ws, l1, l2 with | [_], [], _, _ => rfl) ents_nil) .nil (fun _ _ _ => rfl) (by wtm_at "dl len") c_Machine_table l_Machine_table
  have F_Machine_bad : FG P w K mg base 1 ((aM 34 "bad") K) (upPh K (ciP (.fix sg_Machine_bad sp_Machine_bad))) := fg_at (k := 0) D_Machine_bad sc_Machine_bad rfl rfl rfl (GL.bic (He.free_ok X Gn c16) (GL.nilT ⟨all_nil, all_nil, (all_cons ⟨cls_ok c29, no_ok c30⟩ all_nil), all_nil, all_nil, all_nil, all_nil, all_nil, all_nil⟩)) (ents_cons (ent_at D_Machine_bad fun _ _ _ _ _ _ us ws l1 l2 => match us, ws, l1, l2 with | [_], [], _, _ => rfl) ents_nil) .nil (fun _ _ _ => rfl) (by wtm_at "dl len") c_Machine_bad l_Machine_bad
  have F_Machine___eq__ : FG P w K mg base 2 ((aM 34 "__eq__") K) (upPh K (ciP (.fix sg_Machine___eq__ sp_Machine_eq))) := FG.gcF rfl (fg_at (k := 1) D_Machine___eq__ sc_Machine___eq__ rfl rfl rfl (GL.bic (He.free_ok X Gn c13) (GL.nilT ⟨all_nil, (all_cons ⟨⟨cls_ok c29, _, _, meth_ok c33, by omega, F_Machine_bad⟩⟩ (all_cons ⟨⟨cls_ok c29, _, _, meth_ok c34, by omega, F_Machine_table⟩⟩ all_nil)), (all_cons ⟨cls_ok c29, no_ok c30⟩ (all_cons ⟨cls_ok c29, no_ok c31⟩ (all_cons ⟨cls_ok c29, no_ok c32⟩ all_nil))), all_nil, all_nil, all_nil, (all_cons ⟨⟨_, (He.glo_ok X Gn c12), is_ok c35⟩⟩ all_nil), all_nil, all_nil⟩)) (ents_cons (ent_at D_Machine___eq__ fun _ _ _ _ _ _ us ws l1 l2 => match us, ws, l1, l2 with | [_, _], [], _, _ => rfl) ents_nil) .nil (fun _ _ _ => rfl) (by wtm_at "dl len") c_Machine___eq__ (codeG.t l_Machine___eq__))
  have F_Machine___repr__ : FG P w K mg base 1 ((aM 34 "__repr__") K) (upPh K (ciP (.fix sg_Machine___repr__ sp_Machine_repr))) := fg_at (k := 0) D_Machine___repr__ sc_Machine___repr__ rfl rfl rfl (GL.bic (He.free_ok X Gn c20) (GL.nilT ⟨all_nil, all_nil, (all_cons ⟨cls_ok c29, no_ok c31⟩ all_nil), all_nil, all_nil, all_nil, all_nil, all_nil, all_nil⟩)) (ents_cons (ent_at D_Machine___repr__ fun _ _ _ _ _ _ us ws l1 l2 => match us, ws, l1, l2 with | [_], [], _, _ => rfl) ents_nil) .nil (fun _ _ _ => rfl) (by wtm_at "dl len") c_Machine___repr__ l_Machine___repr__
  have F__law_open : FnAt P w K mg base 1 "_law_open" sg__law_open sp_open := fn_at (k := 0) D__law_open (He.glo_ok X Gn c5) sc__law_open rfl rfl rfl (GL.bic (He.free_ok X Gn c16) (GL.bic (He.free_ok X Gn c15) GL.nil)) (ents_cons (ent_at D__law_open fun _ _ _ _ _ _ us ws l1 l2 => match us, ws, l1, l2 with | [_], [], _, _ => rfl) ents_nil) .nil (fun _ _ _ => rfl) (by wtm_at "dl len") c__law_open l__law_open
  have F__law_draw : FnAt P w K mg base 1 "_law_draw" sg__law_draw sp_draw := fn_at (k := 0) D__law_draw (He.glo_ok X Gn c6) sc__law_draw rfl rfl rfl (GL.bic (He.free_ok X Gn c15) (GL.bic (He.free_ok X Gn c20) (GL.bic (He.free_ok X Gn c36) GL.nil))) (ents_cons (ent_at D__law_draw fun _ _ _ _ _ _ us ws l1 l2 => match us, ws, l1, l2 with | [_, _], [], _, _ => rfl) ents_nil) .nil (fun _ _ _ => rfl) (by wtm_at "dl len") c__law_draw l__law_draw
  have F__law_same : ∀ n, FnAt P w K mg base (1 + n) "_law_same" sg__law_same (sp_same n) := fun n => by
    induction n with
    | zero => exact fn_at (n := 12) (m := 60) (G := ⟨N__law_same, (defScope s__law_same).names, [], [], true, GT.nil, [], none, []⟩) (k := 0) D__law_same (He.glo_ok X Gn c7) sc__law_same rfl rfl rfl GL.nil (ents_cons (ent_at D__law_same fun _ _ _ _ _ _ us ws l1 l2 => match us, ws, l1, l2 with | [_, _], [], _, _ => rfl) ents_nil) .nil (fun _ _ _ => rfl) (by wtm_at "dl len") rfl (fun ds S q e h => (same_0 h).elim)
    | succ n ih => exact fn_at (k := 1 + n) D__law_same (He.glo_ok X Gn c7) sc__law_same rfl rfl rfl (GL.bic (He.free_ok X Gn c13) (GL.bic (He.free_ok X Gn c21) (GL.bic (He.free_ok X Gn c15) (GL.bic (He.free_ok X Gn c14) (GL.bic (He.free_ok X Gn c16) (GL.bic (He.free_ok X Gn c25) (GL.bic (He.free_ok X Gn c19) (GL.bic (He.free_ok X Gn c37) (GL.fnc (ih) (Nat.le_refl _) (GL.bic (He.free_ok X Gn c20) GL.nil)))))))))) (ents_cons (ent_at D__law_same fun _ _ _ _ _ _ us ws l1 l2 => match us, ws, l1, l2 with | [_, _], [], _, _ => rfl) ents_nil) .nil (fun _ _ _ => rfl) (by wtm_at "dl len") (c__law_same n) (l__law_same n)
  have F__law_same := F__law_same 6
  have F__law_letters : FnAt P w K mg base 2 "_law_letters" sg__law_letters sp_letters := fn_at (k := 1) D__law_letters (He.glo_ok X Gn c8) sc__law_letters rfl rfl rfl (GL.bic (He.free_ok X Gn c38) (GL.fnc F__law_draw (by omega) (GL.bic (He.free_ok X Gn c20) GL.nil))) (ents_cons (ent_at D__law_letters fun _ _ _ _ _ _ us ws l1 l2 => match us, ws, l1, l2 with | [_, _, _], [], _, _ => rfl) ents_nil) .nil (fun _ _ _ => rfl) (by wtm_at "dl len") c__law_letters l__law_letters
  have F__law_some_faces : FnAt P w K mg base 3 "_law_some_faces" sg__law_some_faces sp__law_some_faces := fn_at (k := 2) D__law_some_faces (He.glo_ok X Gn c9) sc__law_some_faces rfl rfl rfl (GL.fnc F__law_letters (by omega) (GL.fnc F__law_draw (by omega) GL.nil)) (ents_cons (ent_at D__law_some_faces fun _ _ _ _ _ _ us ws l1 l2 => match us, ws, l1, l2 with | [_, _], [], _, _ => rfl) ents_nil) .nil (fun _ _ _ => rfl) (by wtm_at "dl len") c__law_some_faces l__law_some_faces
  have F__law_some_machine : FnAt P w K mg base 2 "_law_some_machine" sg__law_some_machine sp__law_some_machine := fn_at (k := 1) D__law_some_machine (He.glo_ok X Gn c10) sc__law_some_machine rfl rfl rfl (GL.bic (He.free_ok X Gn c38) (GL.fnc F__law_draw (by omega) (GL.bic (He.free_ok X Gn c25) GL.nil))) (ents_cons (ent_at D__law_some_machine fun _ _ _ _ _ _ us ws l1 l2 => match us, ws, l1, l2 with | [_, _, _], [], _, _ => rfl) ents_nil) .nil (fun _ _ _ => rfl) (by wtm_at "dl len") c__law_some_machine l__law_some_machine
  exact fn_ok (k := 7) D_law sc_law rfl rfl rfl ((GL.bic (He.free_ok X Gn c39) (GL.bic (He.free_ok X Gn c17) (GL.bic (He.free_ok X Gn c16) (GL.bic (He.free_ok X Gn c15) (GL.fnc F__law_draw (by omega) (GL.bic (He.free_ok X Gn c20) (GL.bic (He.free_ok X Gn c38) (GL.fnc F__law_same (by omega) (GL.bic (He.free_ok X Gn c25) (GL.bic (He.free_ok X Gn c40) (GL.bic (He.free_ok X Gn c13) (GL.bic (He.free_ok X Gn c21) (GL.fnc F__law_some_machine (by omega) (GL.fnc F__law_some_faces (by omega) (GL.fnc F__law_open (by omega) (GL.nilT ⟨(all_cons ⟨⟨(He.glo_ok X Gn c12), _, _, mk_ok c41, by omega, F_Machine___init__⟩⟩ all_nil), (all_cons ⟨⟨cls_ok c29, _, _, meth_ok c33, by omega, F_Machine_bad⟩⟩ (all_cons ⟨⟨cls_ok c29, _, _, meth_ok c34, by omega, F_Machine_table⟩⟩ all_nil)), (all_cons ⟨cls_ok c29, no_ok c32⟩ (all_cons ⟨(prop_ok' c42).1, ⟨_, _, _, (prop_ok' c42).2, by omega, F_Machine_size⟩⟩ all_nil)), all_nil, all_nil, (all_cons ⟨⟨_, (He.glo_ok X Gn c12), cc_ok c26 fun _ _ _ => rfl⟩⟩ all_nil), all_nil, (all_cons ⟨⟨_, _, (meth_ok c43).at_, (meth_ok c43).fn, fnin_of D_Machine___eq__, by omega, F_Machine___eq__⟩⟩ (all_cons ⟨⟨_, _, (meth_ok c44).at_, (meth_ok c44).fn, fnin_of D_Machine___repr__, by omega, F_Machine___repr__⟩⟩ all_nil)), (all_cons (p := fun C : Nat => NeK K (cA K C)) (a := 34) (ne_ok c45) all_nil)⟩))))))))))))))))) (by wtm_at "dl len") c_law l_law
end K11
open PySem PySem.W PySem.Calls PyProof.Rows
theorem PySem.Challenge.cw_fourwalls_k11_machines_told_holds : PySem.Challenge.rw_fourwalls_k11_machines_told.Holds := by
  w_on; o_law
  refine HandSHeadRun.head_any (r := OpenLaw.row PySem.Challenge.rw_fourwalls_k11_machines_told) (q := view (OpenLaw.row PySem.Challenge.rw_fourwalls_k11_machines_told).prog [29]) (H := K11.hk) (ob := K11.ob) (M := 20000) (loose := K11.loose) (d := HandSHeadRun.topDef (OpenLaw.row PySem.Challenge.rw_fourwalls_k11_machines_told).prog 29) (kwd := []) K11.ob_eq
    (by kernel_rfl) (fun s => by kernel_rfl) K11.run (by kernel_rfl) (by kernel_rfl) (by kernel_rfl) (by rfl) (by first | assumption | decide +kernel) (by decide +kernel) ⟨rfl, rfl, rfl, rfl, rfl, by decide +kernel⟩ ?hw ?hc
  case hw => w_witness2
  case hc =>
    refine DL.law_walk (l := PySem.Challenge.rw_fourwalls_k11_machines_told) (n := 63) (k := 8) (x := "_law_script") rfl (by decide) (by kernel_rfl) ⟨rfl, by decide, by decide⟩ ?F
    intro w mg fa h Y G hmg0
    obtain ⟨K, KX, c, cT⟩ := Y
    have hmg : mg ("law" : PySem.Str) = some (.ref fa) := by
      have e : (HandSHeadRun.topDef (OpenLaw.row PySem.Challenge.rw_fourwalls_k11_machines_told).prog 29).name = ("law" : PySem.Str) := by kernel_rfl
      rw [← e]
      exact hmg0
    obtain ⟨fd, L⟩ := K11.facts (P := (PySem.Challenge.rw_fourwalls_k11_machines_told).prog) (w := w) KX G hmg c cT rfl (by decide +kernel)
    exact ⟨K, fd, KX, L⟩

