import PyProof.Rows.All
import Wide.All
import OpenK.AllK
import Wide.FinOn
import HandS.ForMost
import HandS.ForExc
import HandS.Head0
import HandS.Head1
import HandS.Head2
import HandS.HeadEnd
import HandS.HeadHook1
import HandS.HeadHook2
import HandS.HeadHook3
import HandS.HeadNt
import HandS.HeadHook4
import HandS.ExcField
import HandS.ExcInit
import KE.KSuper
import HandS.WordsExc
import PySem.Challenge.RW_lookedrows_k01_errors_by_themselves
import KE.KDflt
import HandS.Lambda
import HandS.IsInst
import HandS.Deep
import HandS.Wide
import HandS.Codes
import HandS.TupAny
import HandS.Walk
import HandS.Zip
import HandS.RaiseMore
import HandS.CallSlots
import HandS.Defaults
import HandS.EndBits
import HandS.StrMore
import HandS.FStr
import HandS.TupLe
import HandS.Text
import HandS.Star
import HandS.Dict
import HandS.ListItems
import HandS.Property
import HandS.SetTxt0
import HandS.SetFor
import HandS.Strs
import HandS.SortInts
import PyProof.Rows.SortStr
import KE.KSortAsk
import KE.GoesNew
import HandS.Style
import KE.KExcSuper
import HandS.ExcSuper
import HandS.ClsMeth
import HandS.HotCalls
import KE.KTryMore
import HandS.EndTab
import PyProof.InstNe
import HandS.OwnEq
import HandS.TupMul
import PyProof.FactsLen
import PyProof.CallFns
import KE.KFmtOwn
import HandS.GenList
import HandS.SortKw
import HandS.MakeKwOnly
import KE.KSortKeyAny
import KE.KExcInit
import HandS.ExcIs
import KE.KExcIs
import KE.IntTextLaws
set_option Elab.async false
set_option linter.all false
set_option maxRecDepth 100000
set_option maxHeartbeats 4000000
namespace PD
open PySem PySem.Spec PyProof.Rows L2
/-- plain data -/
inductive D where
  | non | bl (b : Bool) | int (i : Int) | str (cs : List Nat)
  | tup (ds : List D) | lst (ds : List D)
  /-- a dict: keys of one sign or number (false), tuples of such (true) -/
  | dic (t : Bool) (kvs : List (List Key × D))
  | obj (C : Str) (fs : List (Str × D))
  | ref (n : Nat)
  /-- the law's script -/
  | scr (ds : List D)
  /-- a lambda of the text, with what it captured -/
  | fn (i : Nat) (caps : List D)
  /-- an exception -/
  | exc (C : Str) (fs : List (Str × D))
def clsBody : Stmt → List Stmt
  | .ClassDef _ _ _ body _ _ _ _ _ _ _ => body
  | _ => []
def toS (z : List Nat) : Str := ⟨z.toArray⟩
mutual
def dB (K : PySem.W.Frag) : D → Value → Bool
  | .non, .none => true
  | .bl b, .bool c => b == c
  | .int i, .int j _ => decide (i = j)
  | .str cs, .str y _ => decide (y.cps.toList = cs)
  | .tup ds, .ref a => (match K.lookup a with
    | some ⟨.type c, _, .seq its _, _⟩ => decide (c = "tuple") && (decide (its.size ≤ sizeLine) && dBs K ds its.toList)
    | _ => false)
  | .scr ds, .ref a => (match K.lookup a with
    | some ⟨.type c, none, .seq its _, _⟩ => decide (c = "list") && (decide (its.size ≤ sizeLine) && dBs K ds its.toList)
    | _ => false)
  | _, _ => false
def dBs (K : PySem.W.Frag) : List D → List Value → Bool
  | [], [] => true
  | d :: ds, u :: us => dB K d u && dBs K ds us
  | _, _ => false
end
def gloB (K : PySem.W.Frag) (x : Str) (d : D) : Bool := match PySem.W.nsIn K mainGlobals x with
  | some (some u) => dB K d u
  | _ => false
abbrev AlG : Type := He.AlD × Bool
def obsG (fa : List He.Fa) (fn : List He.DefD) (gs : List (Str × D)) (K : PySem.W.Frag) : AlG := (He.obsD fa fn K, gs.all fun p => gloB K p.1 p.2)
def valG (fn : List He.DefD) : AlG := (He.valD fn, true)
def SaysG (fa : List He.Fa) (fn : List He.DefD) (gs : List (Str × D)) (K : PySem.W.Frag) : Prop := obsG fa fn gs K = valG fn
def entB (K : PySem.W.Frag) : List (List Nat × D) → List DictEntry → Bool
  | [], [] => true
  | p :: r, e :: l => (match e.key with
    | .str y _ => decide (y.cps.toList = p.1)
    | _ => false) && (dB K p.2 e.val && entB K r l)
  | _, _ => false
def dicB (K : PySem.W.Frag) (x : Str) (kvs : List (List Nat × D)) : Bool := match PySem.W.nsIn K mainGlobals x with
  | some (some (.ref d)) => (match K.lookup d with
    | some ⟨_, _, .dict es _, _⟩ => entB K kvs es.toList
    | _ => false)
  | _ => false
abbrev DicD : Type := Str × List (List Nat × D)
abbrev AlG2 : Type := AlG × (Bool × List (Option (List (Option (Str × Int)))))
def obsG2 (fa : List He.Fa) (fn : List He.DefD) (gs : List (Str × D)) (ds : List DicD) (K : PySem.W.Frag) : AlG2 := (obsG fa fn gs K, ds.all (fun p => dicB K p.1 p.2), ds.map fun p => He.dicW K (He.ga K p.1))
def valG2 (fn : List He.DefD) (ds : List DicD) (w : World) : AlG2 := (valG fn, true, ds.map fun p => some (He.keysIn w.params (p.2.map fun q => toS q.1)))
def SaysG2 (fa : List He.Fa) (fn : List He.DefD) (gs : List (Str × D)) (ds : List DicD) (w : World) (K : PySem.W.Frag) : Prop := obsG2 fa fn gs ds K = valG2 fn ds w
abbrev AlG3 : Type := AlG2 × (Bool × List He.FnW)
abbrev FactB : Type := PySem.W.Frag → Bool
def obsG3 (fa : List He.Fa) (fn : List He.DefD) (gs : List (Str × D)) (ds : List DicD) (fx : List FactB) (xd : List He5.DefA) (K : PySem.W.Frag) : AlG3 := (obsG2 fa fn gs ds K, (fx.all (fun f => f K)) && xd.all (fun d => d.ok K), xd.map fun d => He5.fnA K (d.at_ K))
def valG3 (fn : List He.DefD) (ds : List DicD) (xd : List He5.DefA) (w : World) : AlG3 := (valG2 fn ds w, true, xd.map He5.DefA.val)
def SaysG3 (fa : List He.Fa) (fn : List He.DefD) (gs : List (Str × D)) (ds : List DicD) (fx : List FactB) (xd : List He5.DefA) (w : World) (K : PySem.W.Frag) : Prop := obsG3 fa fn gs ds fx xd K = valG3 fn ds xd w
def oexB (K : PySem.W.Frag) (C : Addr) : Bool := (match K.lookup C with
  | some ⟨.type t, _, .cls cd, sl⟩ => decide (t = "type") && (match cd.mro, sl.toList with
    | .ref C' :: bm, [_, _, _, _, some (.builtin n), _] => decide (C' = C) && (decide (n = "ValueError.__new__") && (!cd.hasDel && (cd.hasDict && PySem.HandSPX.refsVE bm)))
    | _, _ => false)
  | _ => false) && (decide (PySem.W.findIn K (.ref C) "__setattr__" = some (some (.builtin "object.__setattr__"))) && (decide (PySem.W.subIn K (.ref C) (.type "BaseException") = some true) && (decide (PySem.W.typeIn K (.ref C) = some (.type "type")) && PySem.W.keepIn K (.ref C))))
def overB (K : PySem.W.Frag) (T C : Addr) : Bool := oexB K C && (decide (PySem.W.ks_superIn K C T "__init__" = some (some (.builtin "ValueError.__init__"))) && (decide (PySem.W.mroIn K C (.ref T) = some true) && (decide (PySem.W.subIn K (.ref C) (.type "ValueError") = some true) && decide (PySem.W.findIn K (.ref C) "code" = some none))))
def initB (K : PySem.W.Frag) (C : Addr) : Bool := decide (PySem.W.findIn K (.ref C) "__init__" = some (some (.ref (He.ma K C "__init__")))) && decide (PySem.W.typeIn K (.ref (He.ma K C "__init__")) = some (.type "function"))
def noB (K : PySem.W.Frag) (C : Addr) (f : Str) : Bool := decide (PySem.W.findIn K (.ref C) f = some none)
/-- a def whose closure has names -/
abbrev FnC : Type := Option (Str × Str × Arguments × FuncBody × Scope × Addr × List Str × Addr)
def fnC (K : PySem.W.Frag) (a : Addr) : FnC := match K.lookup a with
  | some ⟨_, _, .func fd, _⟩ => some (fd.name, fd.qualname, fd.params, fd.body, fd.scope, fd.globals, fd.closure.map (·.1), fd.builtins)
  | _ => none
/-- an __init__ that says super(): its class, its text -/
structure SupD where
  C : Str
  qual : Str
  params : Arguments
  body : List Stmt
  scope : Scope
def SupD.at_ (K : PySem.W.Frag) (d : SupD) : Addr := He.ma K (He.ga K d.C) "__init__"
def SupD.val (d : SupD) : FnC := some ("__init__", d.qual, d.params, .stmts d.body, d.scope, mainGlobals, ["__class__"], builtinsNs)
def supB (K : PySem.W.Frag) (file0 : Str) (d : SupD) : Bool := (match K.lookup (d.at_ K) with
  | some ⟨_, _, .func fd, _⟩ => (match fd.code with
    | .ref cda => PySem.W.codeIn K (.ref cda) d.qual && (match K.lookup cda with
      | some ⟨_, _, .fields vs, _⟩ => (match (vs[2]? : Option Value) with
        | some (.str file _) => file0 == file
        | _ => false)
      | _ => false)
    | _ => false) && ((match fd.closure with
    | [(_, cc)] => (match K.lookup cc with
      | some ⟨_, _, .cell (some (.ref T)), _⟩ => decide (T = He.ga K d.C)
      | _ => false)
    | _ => false) && (match fd.defaults, fd.kwdefaults with
      | .none, .none => true
      | _, _ => false))
  | _ => false) && ((PySem.W.clsIn K (He.ga K d.C)).isSome && (decide (PySem.W.nsIn K mainGlobals "super" = some none) && decide (PySem.W.nsIn K cStatics "thirdparty.any" = some none)))
abbrev AlG4 : Type := AlG3 × (Bool × List FnC)
def obsG4 (fa : List He.Fa) (fn : List He.DefD) (gs : List (Str × D)) (ds : List DicD) (fx : List FactB) (xd : List He5.DefA) (sd : List SupD) (tf : List He.Defn) (file0 : Str) (g : Addr → Option Obj) (K : PySem.W.Frag) : AlG4 := (obsG3 fa fn gs ds fx xd K, (sd.all (fun d => supB K file0 d)) && He.tabsB g tf K, sd.map fun d => fnC K (d.at_ K))
def valG4 (fn : List He.DefD) (ds : List DicD) (xd : List He5.DefA) (sd : List SupD) (w : World) : AlG4 := (valG3 fn ds xd w, true, sd.map SupD.val)
structure SaysG4 (fa : List He.Fa) (fn : List He.DefD) (gs : List (Str × D)) (ds : List DicD) (fx : List FactB) (xd : List He5.DefA) (sd : List SupD) (tf : List He.Defn) (file0 : Str) (w : World) (h : Heap) (K : PySem.W.Frag) : Prop where
  g3 : SaysG3 fa fn gs ds fx xd w K
  sup : ∀ d ∈ sd, supB K file0 d = true ∧ fnC K (d.at_ K) = d.val
  hd : ∀ p ∈ tf, PySem.W.codeHdIn K (He.cT K p).1 (He.cT K p).2 = true
  out : ∀ p ∈ tf, K.lookup (He.cT K p).2 = none
  empty : ∀ p ∈ tf, h.get? (He.cT K p).2 = some { cls := .none, data := .fields #[] }
end PD
namespace PD
open PySem PySem.Spec PyProof.Rows L2
/-- T.__init__ as T's own -/
def clsvB (K : PySem.W.Frag) (T : Addr) : Bool := PySem.W.readsIn K T (.type "type") && (decide (PySem.W.specialIn K (.ref T) "__getattribute__" = some (some (.builtin "type.__getattribute__"))) &&
  ((match PySem.W.findCls K (.ref T) (.type "type") "__init__" with
    | some (.val (.ref f)) => decide (f = He.ma K T "__init__")
    | _ => false) && (decide (PySem.W.typeIn K (.ref (He.ma K T "__init__")) = some (.type "function")) && PySem.W.keepIn K (.ref (He.ma K T "__init__")))))
end PD
namespace PD
open PySem PySem.Spec PyProof.Rows L2
end PD
namespace PD
open PySem PySem.Spec PyProof.Rows L2
def noPos : Pos := ⟨0, 0, 0, 0⟩
theorem run_join3 {α β β' γ γ' δ : Type} {X : Option α} {p : α → β} {q : α → β'} {a : α → γ} {b : α → γ'} {c : α → δ} {z : β} {y : β'} {u : γ} {v : γ'} {t : δ} (h1 : X.map (fun s => (p s, q s, a s)) = some (z, y, u)) (h2 : X.map (fun s => (p s, q s, b s)) = some (z, y, v)) (hc : ∀ s, a s = u → b s = v → c s = t) :
    X.map (fun s => (p s, q s, c s)) = some (z, y, t) := by
  cases X with
  | none => cases h1
  | some s =>
    have e1 := Option.some.inj h1
    have e2 := Option.some.inj h2
    have g1 : p s = z := congrArg (fun r => r.1) e1
    have g2 : q s = y := congrArg (fun r => r.2.1) e1
    have g3 : a s = u := congrArg (fun r => r.2.2) e1
    have g4 : b s = v := congrArg (fun r => r.2.2) e2
    show some (p s, q s, c s) = _
    rw [g1, g2, hc s g3 g4]
end PD
namespace PD
open PySem PySem.Spec PyProof.Rows L2
def plainO (g : Addr → Option Obj) : Value → Bool
  | .ref a => (match g a with
    | some ⟨_, _, .func _, _⟩ => false
    | some ⟨_, _, .cls _, _⟩ => false
    | some ⟨_, _, .fields _, _⟩ => false
    | _ => true)
  | _ => false
def entS (ok : List Str) (g : Addr → Option Obj) (e : DictEntry) : List Addr := match e.key with
  | .str y _ => if ok.contains y || plainO g e.val then He.refV e.val else []
  | _ => He.refV e.val
def refsS (ok : List Str) (g : Addr → Option Obj) (o : Obj) : List Addr := match o.data with
  | .dict es _ => es.toList.flatMap (entS ok g)
  | _ => He.refsD o
def growS (ok : List Str) (g : Addr → Option Obj) (as : List Addr) : List Addr := (as ++ as.flatMap fun a => match g a with
  | some o => refsS ok g o
  | none => []).eraseDups
def asS_ (ok : List Str) (g : Addr → Option Obj) : Nat → List Addr
  | 0 => [mainGlobals]
  | n + 1 => growS ok g (asS_ ok g n)
def asX (ok : List Str) (n : Nat) (g : Addr → Option Obj) : List Addr := asS_ ok g n ++ [cStatics]
section
variable {L : (Addr → Option Obj) → List Addr} {fa : List He.Fa} {fn : List He.DefD} {gs : List (Str × D)} {ds : List DicD} {fx : List FactB} {xd : List He5.DefA} {sd : List SupD} {tf : List He.Defn} {file0 : Str} {w : World} {h : Heap}
def obsGG6 (L : (Addr → Option Obj) → List Addr) (fa : List He.Fa) (fn : List He.DefD) (gs : List (Str × D)) (ds : List DicD) (fx : List FactB) (xd : List He5.DefA) (sd : List SupD) (tf : List He.Defn) (file0 : Str) (g : Addr → Option Obj) : AlG4 := obsG4 fa fn gs ds fx xd sd tf file0 g (He.frT g (L g))
theorem saysG6_of (e : obsGG6 L fa fn gs ds fx xd sd tf file0 h.get? = valG4 fn ds xd sd w) : SaysG4 fa fn gs ds fx xd sd tf file0 w h (He.frT h.get? (L h.get?)) := by
  have e1 : obsG3 fa fn gs ds fx xd (He.frT h.get? (L h.get?)) = valG3 fn ds xd w := congrArg (fun z : AlG4 => z.1) e
  have e2 : ((sd.all (fun d => supB (He.frT h.get? (L h.get?)) file0 d)) && He.tabsB h.get? tf (He.frT h.get? (L h.get?))) = true := congrArg (fun z : AlG4 => z.2.1) e
  have e3 : (sd.map fun d => fnC (He.frT h.get? (L h.get?)) (d.at_ (He.frT h.get? (L h.get?)))) = sd.map SupD.val := congrArg (fun z : AlG4 => z.2.2) e
  obtain ⟨h1, h2⟩ := Bool.and_eq_true_iff.mp e2
  have key : ∀ p ∈ tf, PySem.W.codeHdIn (He.frT h.get? (L h.get?)) (He.cT (He.frT h.get? (L h.get?)) p).1 (He.cT (He.frT h.get? (L h.get?)) p).2 = true ∧ ∃ o, h.get? (He.cT (He.frT h.get? (L h.get?)) p).2 = some o ∧ He.emptyTab o = true := fun p hp => by
    obtain ⟨h3, h4⟩ := Bool.and_eq_true_iff.mp (List.all_eq_true.mp h2 p hp)
    refine ⟨h3, ?_⟩
    cases q : h.get? (He.cT (He.frT h.get? (L h.get?)) p).2 with
    | none => rw [q] at h4; cases h4
    | some o => rw [q] at h4; exact ⟨o, rfl, h4⟩
  exact ⟨e1, fun d hd => ⟨List.all_eq_true.mp h1 d hd, List.map_inj_left.mp e3 d hd⟩, fun p hp => (key p hp).1, fun p hp => by
    obtain ⟨_, o, q, z⟩ := key p hp
    exact He.frT_none q z, fun p hp => by
    obtain ⟨_, o, q, z⟩ := key p hp
    rw [q, He.emptyTab_eq z]⟩
def hookG6 (L : (Addr → Option Obj) → List Addr) (fa : List He.Fa) (fn : List He.DefD) (gs : List (Str × D)) (ds : List DicD) (fx : List FactB) (xd : List He5.DefA) (sd : List SupD) (tf : List He.Defn) (file0 : Str) : PySem.W.Hook where
  α := AlG4
  obs := fun s => obsGG6 L fa fn gs ds fx xd sd tf file0 s.heap.get?
  val := fun w => valG4 fn ds xd sd w
  says := fun w h => ∃ K : PySem.W.Frag, K.In h ∧ SaysG4 fa fn gs ds fx xd sd tf file0 w h K
  of := fun _ _ e => ⟨_, He.frT_in, saysG6_of e⟩
  keeps := fun _ _ _ ⟨K, hK, c⟩ k => ⟨K, PySem.W.Frag.In.keeps hK k, ⟨c.g3, c.sup, c.hd, c.out, fun p hp => k _ _ (c.empty p hp)⟩⟩
theorem obsGG6_eq {g : Addr → Option Obj} {s : Shared} (h : ∀ a, g a = s.heap.get? a) : obsGG6 L fa fn gs ds fx xd sd tf file0 g = (hookG6 L fa fn gs ds fx xd sd tf file0).obs s := by
  have e : g = s.heap.get? := funext h
  rw [e] <;> rfl
end
theorem obs_join6 {L : (Addr → Option Obj) → List Addr} {fa : List He.Fa} {fn : List He.DefD} {gs : List (Str × D)} {ds : List DicD} {fx : List FactB} {xd : List He5.DefA} {sd : List SupD} {tf : List He.Defn} {f : Str} {w : World} {g : Addr → Option Obj}
    (h1 : obsGG6 L fa fn gs ds [] [] [] [] f g = valG4 fn ds [] [] w) (h2 : obsGG6 L [] [] [] [] fx xd sd tf f g = valG4 [] [] xd sd w) : obsGG6 L fa fn gs ds fx xd sd tf f g = valG4 fn ds xd sd w := by
  have e1 := congrArg (fun z : AlG4 => z.1.1) h1
  have e2 := congrArg (fun z : AlG4 => z.1.2) h2
  have e3 := congrArg (fun z : AlG4 => z.2) h2
  exact Prod.ext (Prod.ext e1 e2) e3
end PD
namespace PX
open PySem PySem.Spec PyProof.Rows L2
structure XBase where
  nm : String
  nw : String
  ini : String
  tl : List Value
/-- own classes, then the base's own order -/
def refsT (tl : List Value) : List Value → Bool
  | .ref _ :: r => refsT tl r
  | l => l == tl
def veB : XBase := ⟨"ValueError", "ValueError.__new__", "ValueError.__init__", PySem.HandSPX.veTail⟩
def leB : XBase := ⟨"LookupError", "LookupError.__new__", "LookupError.__init__", [.type "LookupError", .type "Exception", .type "BaseException", .type "object"]⟩
def ieB : XBase := ⟨"IndexError", "IndexError.__new__", "IndexError.__init__", [.type "IndexError", .type "LookupError", .type "Exception", .type "BaseException", .type "object"]⟩
end PX
namespace PD
open PySem PySem.Spec PyProof.Rows L2 PX
def oexBB (b : XBase) (K : PySem.W.Frag) (C : Addr) : Bool := (match K.lookup C with
  | some ⟨.type t, _, .cls cd, sl⟩ => decide (t = "type") && (match cd.mro, sl.toList with
    | .ref C' :: bm, [_, _, _, _, some (.builtin n), _] => decide (C' = C) && (decide (n = b.nw) && (!cd.hasDel && (cd.hasDict && refsT b.tl bm)))
    | _, _ => false)
  | _ => false) && (decide (PySem.W.findIn K (.ref C) "__setattr__" = some (some (.builtin "object.__setattr__"))) && (decide (PySem.W.subIn K (.ref C) (.type "BaseException") = some true) && (decide (PySem.W.typeIn K (.ref C) = some (.type "type")) && PySem.W.keepIn K (.ref C))))
def overBB (b : XBase) (K : PySem.W.Frag) (T C : Addr) : Bool := oexBB b K C && (decide (PySem.W.ks_superIn K C T "__init__" = some (some (.builtin b.ini))) && (decide (PySem.W.mroIn K C (.ref T) = some true) && (decide (PySem.W.subIn K (.ref C) (.type b.nm) = some true) && decide (PySem.W.findIn K (.ref C) "code" = some none))))
/-- f is a field of the exceptions of C -/
def xvB (K : PySem.W.Frag) (f C : Str) : Bool := xfB K (He.ga K C) && noB K (He.ga K C) f
/-- isinstance may be asked of the exceptions of C -/
def excB (K : PySem.W.Frag) (C : Str) : Bool := decide (PySem.W.findIn K (.ref (He.ga K C)) "__getattribute__" = some (some (.builtin "BaseException.__getattribute__"))) && (decide (PySem.W.findIn K (.ref (He.ga K C)) "__getattr__" = some none) && (decide (PySem.W.subIn K (.ref (He.ga K C)) (.type "BaseException") = some true) &&
  (PySem.W.hasDictIn K (He.ga K C) && (decide (PySem.W.findIn K (.ref (He.ga K C)) "__class__" = some (some (.builtin "object.__class__"))) && (decide (PySem.W.specialIn K (.builtin "object.__class__") "__get__" = some (some (.builtin "getset_descriptor.__get__"))) &&
    (decide (PySem.W.takesIn K (.builtin "object.__class__") = some true) && decide (PySem.W.mroIn K (He.ga K C) (.type "object") = some true)))))))
/-- what isinstance answers for the exceptions of C -/
def kitXB (K : PySem.W.Frag) (t : Value) (q : Str × Bool) : Bool := decide (PySem.W.kitOne K (.ref (He.ga K q.1)) t = some q.2)
end PD
namespace K01
open PySem PySem.Spec PyProof.Rows L2 PD
def top (i : Nat) : Stmt := PySem.Challenge.pw_lookedrows_k01_errors_by_themselves.main.body.getD i (.Pass ⟨0, 0, 0, 0⟩)
abbrev s__law_draws : Stmt := top 30
abbrev s__law_given : Stmt := top 36
abbrev s__law_pull : Stmt := top 31
abbrev s__law_any : Stmt := top 32
abbrev s__law_like : Stmt := top 33
abbrev s__law_bases : Stmt := top 35
abbrev s__law_far : Stmt := top 34
abbrev s_law : Stmt := top 37
abbrev s_UnknownName_init : Stmt := (clsBody (top 27)).getD 0 (.Pass ⟨0, 0, 0, 0⟩)
abbrev s_WrongKind_init : Stmt := (clsBody (top 21)).getD 0 (.Pass ⟨0, 0, 0, 0⟩)
abbrev s_DuplicateName_init : Stmt := (clsBody (top 20)).getD 0 (.Pass ⟨0, 0, 0, 0⟩)
abbrev s_InvalidStatement_init : Stmt := (clsBody (top 9)).getD 0 (.Pass ⟨0, 0, 0, 0⟩)
abbrev s_InvalidCondition_init : Stmt := (clsBody (top 7)).getD 0 (.Pass ⟨0, 0, 0, 0⟩)
abbrev s_InvalidCommand_init : Stmt := (clsBody (top 24)).getD 0 (.Pass ⟨0, 0, 0, 0⟩)
abbrev s_InvalidLine_init : Stmt := (clsBody (top 19)).getD 0 (.Pass ⟨0, 0, 0, 0⟩)
abbrev s_FailsLate_init : Stmt := (clsBody (top 16)).getD 0 (.Pass ⟨0, 0, 0, 0⟩)
abbrev s_InvalidRule_init : Stmt := (clsBody (top 12)).getD 0 (.Pass ⟨0, 0, 0, 0⟩)
abbrev s_InvalidComparison_init : Stmt := (clsBody (top 10)).getD 0 (.Pass ⟨0, 0, 0, 0⟩)
abbrev s_InvalidRow_init : Stmt := (clsBody (top 5)).getD 0 (.Pass ⟨0, 0, 0, 0⟩)
abbrev s_InvalidLimit_init : Stmt := (clsBody (top 23)).getD 0 (.Pass ⟨0, 0, 0, 0⟩)
abbrev s_InvalidCount_init : Stmt := (clsBody (top 15)).getD 0 (.Pass ⟨0, 0, 0, 0⟩)
abbrev s_InvalidName_init : Stmt := (clsBody (top 3)).getD 0 (.Pass ⟨0, 0, 0, 0⟩)
abbrev s_UnknownKey_init : Stmt := (clsBody (top 26)).getD 0 (.Pass ⟨0, 0, 0, 0⟩)
abbrev s_Failed_init : Stmt := (clsBody (top 25)).getD 0 (.Pass ⟨0, 0, 0, 0⟩)
abbrev s_Full_init : Stmt := (clsBody (top 22)).getD 0 (.Pass ⟨0, 0, 0, 0⟩)
abbrev s_TooWide_init : Stmt := (clsBody (top 17)).getD 0 (.Pass ⟨0, 0, 0, 0⟩)
abbrev s_NotCarried_init : Stmt := (clsBody (top 13)).getD 0 (.Pass ⟨0, 0, 0, 0⟩)
abbrev s_InvalidText_init : Stmt := (clsBody (top 18)).getD 0 (.Pass ⟨0, 0, 0, 0⟩)
abbrev s_ColumnsDiffer_init : Stmt := (clsBody (top 14)).getD 0 (.Pass ⟨0, 0, 0, 0⟩)
abbrev s_NotOpen_init : Stmt := (clsBody (top 11)).getD 0 (.Pass ⟨0, 0, 0, 0⟩)
abbrev s_InvalidArguments_init : Stmt := (clsBody (top 8)).getD 0 (.Pass ⟨0, 0, 0, 0⟩)
abbrev s_InvalidValue_init : Stmt := (clsBody (top 6)).getD 0 (.Pass ⟨0, 0, 0, 0⟩)
abbrev s_InvalidColumns_init : Stmt := (clsBody (top 4)).getD 0 (.Pass ⟨0, 0, 0, 0⟩)
abbrev s_Missing_init : Stmt := (clsBody (top 2)).getD 0 (.Pass ⟨0, 0, 0, 0⟩)
abbrev s_TableError_init : Stmt := (clsBody (top 1)).getD 0 (.Pass ⟨0, 0, 0, 0⟩)
abbrev s_NothingLeft_init : Stmt := (clsBody (top 28)).getD 0 (.Pass ⟨0, 0, 0, 0⟩)
def dd__law_draws : He.DefD := ⟨("_law_draws", none), "_law_draws", "_law_draws", defArgs s__law_draws, defBody s__law_draws, defScope s__law_draws, [], []⟩
def dd__law_given : He.DefD := ⟨("_law_given", none), "_law_given", "_law_given", defArgs s__law_given, defBody s__law_given, defScope s__law_given, [], []⟩
def dd__law_pull : He.DefD := ⟨("_law_pull", none), "_law_pull", "_law_pull", defArgs s__law_pull, defBody s__law_pull, defScope s__law_pull, [], []⟩
def dd__law_any : He.DefD := ⟨("_law_any", none), "_law_any", "_law_any", defArgs s__law_any, defBody s__law_any, defScope s__law_any, [], []⟩
def dd__law_like : He.DefD := ⟨("_law_like", none), "_law_like", "_law_like", defArgs s__law_like, defBody s__law_like, defScope s__law_like, [], []⟩
def dd__law_bases : He.DefD := ⟨("_law_bases", none), "_law_bases", "_law_bases", defArgs s__law_bases, defBody s__law_bases, defScope s__law_bases, [], []⟩
def dd__law_far : He.DefD := ⟨("_law_far", none), "_law_far", "_law_far", defArgs s__law_far, defBody s__law_far, defScope s__law_far, [], []⟩
def dd_law : He.DefD := ⟨("law", none), "law", "law", defArgs s_law, defBody s_law, defScope s_law, [], []⟩
def xd_UnknownName_init : He5.DefA := { at_ := fun K => He.ma K (He.ga K "UnknownName") "__init__", name := "__init__", qual := "UnknownName.__init__", params := defArgs s_UnknownName_init, body := defBody s_UnknownName_init, scope := defScope s_UnknownName_init }
def fx_o_UnknownName : FactB := fun K => overBB PX.leB K (He.ga K "Missing") (He.ga K "UnknownName")
def fx_i_UnknownName : FactB := fun K => initB K (He.ga K "UnknownName")
def fx_na_UnknownName : FactB := fun K => noB K (He.ga K "UnknownName") "name"
def xd_WrongKind_init : He5.DefA := { at_ := fun K => He.ma K (He.ga K "WrongKind") "__init__", name := "__init__", qual := "WrongKind.__init__", params := defArgs s_WrongKind_init, body := defBody s_WrongKind_init, scope := defScope s_WrongKind_init }
def fx_o_WrongKind : FactB := fun K => overB K (He.ga K "TableError") (He.ga K "WrongKind")
def fx_i_WrongKind : FactB := fun K => initB K (He.ga K "WrongKind")
def fx_na_WrongKind : FactB := fun K => noB K (He.ga K "WrongKind") "name"
def xd_DuplicateName_init : He5.DefA := { at_ := fun K => He.ma K (He.ga K "DuplicateName") "__init__", name := "__init__", qual := "DuplicateName.__init__", params := defArgs s_DuplicateName_init, body := defBody s_DuplicateName_init, scope := defScope s_DuplicateName_init }
def fx_o_DuplicateName : FactB := fun K => overB K (He.ga K "TableError") (He.ga K "DuplicateName")
def fx_i_DuplicateName : FactB := fun K => initB K (He.ga K "DuplicateName")
def fx_na_DuplicateName : FactB := fun K => noB K (He.ga K "DuplicateName") "name"
def xd_InvalidStatement_init : He5.DefA := { at_ := fun K => He.ma K (He.ga K "InvalidStatement") "__init__", name := "__init__", qual := "InvalidStatement.__init__", params := defArgs s_InvalidStatement_init, body := defBody s_InvalidStatement_init, scope := defScope s_InvalidStatement_init }
def fx_o_InvalidStatement : FactB := fun K => overB K (He.ga K "TableError") (He.ga K "InvalidStatement")
def fx_i_InvalidStatement : FactB := fun K => initB K (He.ga K "InvalidStatement")
def fx_na_InvalidStatement : FactB := fun K => noB K (He.ga K "InvalidStatement") "path"
def xd_InvalidCondition_init : He5.DefA := { at_ := fun K => He.ma K (He.ga K "InvalidCondition") "__init__", name := "__init__", qual := "InvalidCondition.__init__", params := defArgs s_InvalidCondition_init, body := defBody s_InvalidCondition_init, scope := defScope s_InvalidCondition_init }
def fx_o_InvalidCondition : FactB := fun K => overB K (He.ga K "TableError") (He.ga K "InvalidCondition")
def fx_i_InvalidCondition : FactB := fun K => initB K (He.ga K "InvalidCondition")
def fx_na_InvalidCondition : FactB := fun K => noB K (He.ga K "InvalidCondition") "path"
def xd_InvalidCommand_init : He5.DefA := { at_ := fun K => He.ma K (He.ga K "InvalidCommand") "__init__", name := "__init__", qual := "InvalidCommand.__init__", params := defArgs s_InvalidCommand_init, body := defBody s_InvalidCommand_init, scope := defScope s_InvalidCommand_init }
def fx_o_InvalidCommand : FactB := fun K => overB K (He.ga K "TableError") (He.ga K "InvalidCommand")
def fx_i_InvalidCommand : FactB := fun K => initB K (He.ga K "InvalidCommand")
def fx_na_InvalidCommand : FactB := fun K => noB K (He.ga K "InvalidCommand") "index"
def xd_InvalidLine_init : He5.DefA := { at_ := fun K => He.ma K (He.ga K "InvalidLine") "__init__", name := "__init__", qual := "InvalidLine.__init__", params := defArgs s_InvalidLine_init, body := defBody s_InvalidLine_init, scope := defScope s_InvalidLine_init }
def fx_o_InvalidLine : FactB := fun K => overB K (He.ga K "TableError") (He.ga K "InvalidLine")
def fx_i_InvalidLine : FactB := fun K => initB K (He.ga K "InvalidLine")
def fx_na_InvalidLine : FactB := fun K => noB K (He.ga K "InvalidLine") "index"
def xd_FailsLate_init : He5.DefA := { at_ := fun K => He.ma K (He.ga K "FailsLate") "__init__", name := "__init__", qual := "FailsLate.__init__", params := defArgs s_FailsLate_init, body := defBody s_FailsLate_init, scope := defScope s_FailsLate_init }
def fx_o_FailsLate : FactB := fun K => overB K (He.ga K "TableError") (He.ga K "FailsLate")
def fx_i_FailsLate : FactB := fun K => initB K (He.ga K "FailsLate")
def fx_na_FailsLate : FactB := fun K => noB K (He.ga K "FailsLate") "index"
def xd_InvalidRule_init : He5.DefA := { at_ := fun K => He.ma K (He.ga K "InvalidRule") "__init__", name := "__init__", qual := "InvalidRule.__init__", params := defArgs s_InvalidRule_init, body := defBody s_InvalidRule_init, scope := defScope s_InvalidRule_init }
def fx_o_InvalidRule : FactB := fun K => overB K (He.ga K "TableError") (He.ga K "InvalidRule")
def fx_i_InvalidRule : FactB := fun K => initB K (He.ga K "InvalidRule")
def fx_na_InvalidRule : FactB := fun K => noB K (He.ga K "InvalidRule") "index"
def xd_InvalidComparison_init : He5.DefA := { at_ := fun K => He.ma K (He.ga K "InvalidComparison") "__init__", name := "__init__", qual := "InvalidComparison.__init__", params := defArgs s_InvalidComparison_init, body := defBody s_InvalidComparison_init, scope := defScope s_InvalidComparison_init }
def fx_o_InvalidComparison : FactB := fun K => overB K (He.ga K "TableError") (He.ga K "InvalidComparison")
def fx_i_InvalidComparison : FactB := fun K => initB K (He.ga K "InvalidComparison")
def fx_na_InvalidComparison : FactB := fun K => noB K (He.ga K "InvalidComparison") "index"
def xd_InvalidRow_init : He5.DefA := { at_ := fun K => He.ma K (He.ga K "InvalidRow") "__init__", name := "__init__", qual := "InvalidRow.__init__", params := defArgs s_InvalidRow_init, body := defBody s_InvalidRow_init, scope := defScope s_InvalidRow_init }
def fx_o_InvalidRow : FactB := fun K => overB K (He.ga K "TableError") (He.ga K "InvalidRow")
def fx_i_InvalidRow : FactB := fun K => initB K (He.ga K "InvalidRow")
def fx_na_InvalidRow : FactB := fun K => noB K (He.ga K "InvalidRow") "index"
def xd_InvalidLimit_init : He5.DefA := { at_ := fun K => He.ma K (He.ga K "InvalidLimit") "__init__", name := "__init__", qual := "InvalidLimit.__init__", params := defArgs s_InvalidLimit_init, body := defBody s_InvalidLimit_init, scope := defScope s_InvalidLimit_init }
def fx_o_InvalidLimit : FactB := fun K => overB K (He.ga K "TableError") (He.ga K "InvalidLimit")
def fx_i_InvalidLimit : FactB := fun K => initB K (He.ga K "InvalidLimit")
def fx_na_InvalidLimit : FactB := fun K => noB K (He.ga K "InvalidLimit") "given"
def xd_InvalidCount_init : He5.DefA := { at_ := fun K => He.ma K (He.ga K "InvalidCount") "__init__", name := "__init__", qual := "InvalidCount.__init__", params := defArgs s_InvalidCount_init, body := defBody s_InvalidCount_init, scope := defScope s_InvalidCount_init }
def fx_o_InvalidCount : FactB := fun K => overB K (He.ga K "TableError") (He.ga K "InvalidCount")
def fx_i_InvalidCount : FactB := fun K => initB K (He.ga K "InvalidCount")
def fx_na_InvalidCount : FactB := fun K => noB K (He.ga K "InvalidCount") "given"
def xd_InvalidName_init : He5.DefA := { at_ := fun K => He.ma K (He.ga K "InvalidName") "__init__", name := "__init__", qual := "InvalidName.__init__", params := defArgs s_InvalidName_init, body := defBody s_InvalidName_init, scope := defScope s_InvalidName_init }
def fx_o_InvalidName : FactB := fun K => overB K (He.ga K "TableError") (He.ga K "InvalidName")
def fx_i_InvalidName : FactB := fun K => initB K (He.ga K "InvalidName")
def fx_na_InvalidName : FactB := fun K => noB K (He.ga K "InvalidName") "given"
def xd_UnknownKey_init : He5.DefA := { at_ := fun K => He.ma K (He.ga K "UnknownKey") "__init__", name := "__init__", qual := "UnknownKey.__init__", params := defArgs s_UnknownKey_init, body := defBody s_UnknownKey_init, scope := defScope s_UnknownKey_init }
def fx_o_UnknownKey : FactB := fun K => overBB PX.leB K (He.ga K "Missing") (He.ga K "UnknownKey")
def fx_i_UnknownKey : FactB := fun K => initB K (He.ga K "UnknownKey")
def fx_na_UnknownKey : FactB := fun K => noB K (He.ga K "UnknownKey") "key"
def xd_Failed_init : He5.DefA := { at_ := fun K => He.ma K (He.ga K "Failed") "__init__", name := "__init__", qual := "Failed.__init__", params := defArgs s_Failed_init, body := defBody s_Failed_init, scope := defScope s_Failed_init }
def fx_o_Failed : FactB := fun K => overB K (He.ga K "TableError") (He.ga K "Failed")
def fx_i_Failed : FactB := fun K => initB K (He.ga K "Failed")
def fx_na_Failed : FactB := fun K => noB K (He.ga K "Failed") "word"
def xd_Full_init : He5.DefA := { at_ := fun K => He.ma K (He.ga K "Full") "__init__", name := "__init__", qual := "Full.__init__", params := defArgs s_Full_init, body := defBody s_Full_init, scope := defScope s_Full_init }
def fx_o_Full : FactB := fun K => overB K (He.ga K "TableError") (He.ga K "Full")
def fx_i_Full : FactB := fun K => initB K (He.ga K "Full")
def fx_na_Full : FactB := fun K => noB K (He.ga K "Full") "limit"
def xd_TooWide_init : He5.DefA := { at_ := fun K => He.ma K (He.ga K "TooWide") "__init__", name := "__init__", qual := "TooWide.__init__", params := defArgs s_TooWide_init, body := defBody s_TooWide_init, scope := defScope s_TooWide_init }
def fx_o_TooWide : FactB := fun K => overB K (He.ga K "TableError") (He.ga K "TooWide")
def fx_i_TooWide : FactB := fun K => initB K (He.ga K "TooWide")
def fx_na_TooWide : FactB := fun K => noB K (He.ga K "TooWide") "most"
def xd_NotCarried_init : He5.DefA := { at_ := fun K => He.ma K (He.ga K "NotCarried") "__init__", name := "__init__", qual := "NotCarried.__init__", params := defArgs s_NotCarried_init, body := defBody s_NotCarried_init, scope := defScope s_NotCarried_init }
def fx_o_NotCarried : FactB := fun K => overB K (He.ga K "TableError") (He.ga K "NotCarried")
def fx_i_NotCarried : FactB := fun K => initB K (He.ga K "NotCarried")
def fx_na_NotCarried : FactB := fun K => noB K (He.ga K "NotCarried") "witness"
def xd_InvalidText_init : He5.DefA := { at_ := fun K => He.ma K (He.ga K "InvalidText") "__init__", name := "__init__", qual := "InvalidText.__init__", params := defArgs s_InvalidText_init, body := defBody s_InvalidText_init, scope := defScope s_InvalidText_init }
def fx_o_InvalidText : FactB := fun K => overB K (He.ga K "TableError") (He.ga K "InvalidText")
def fx_i_InvalidText : FactB := fun K => initB K (He.ga K "InvalidText")
def xd_ColumnsDiffer_init : He5.DefA := { at_ := fun K => He.ma K (He.ga K "ColumnsDiffer") "__init__", name := "__init__", qual := "ColumnsDiffer.__init__", params := defArgs s_ColumnsDiffer_init, body := defBody s_ColumnsDiffer_init, scope := defScope s_ColumnsDiffer_init }
def fx_o_ColumnsDiffer : FactB := fun K => overB K (He.ga K "TableError") (He.ga K "ColumnsDiffer")
def fx_i_ColumnsDiffer : FactB := fun K => initB K (He.ga K "ColumnsDiffer")
def xd_NotOpen_init : He5.DefA := { at_ := fun K => He.ma K (He.ga K "NotOpen") "__init__", name := "__init__", qual := "NotOpen.__init__", params := defArgs s_NotOpen_init, body := defBody s_NotOpen_init, scope := defScope s_NotOpen_init }
def fx_o_NotOpen : FactB := fun K => overB K (He.ga K "TableError") (He.ga K "NotOpen")
def fx_i_NotOpen : FactB := fun K => initB K (He.ga K "NotOpen")
def xd_InvalidArguments_init : He5.DefA := { at_ := fun K => He.ma K (He.ga K "InvalidArguments") "__init__", name := "__init__", qual := "InvalidArguments.__init__", params := defArgs s_InvalidArguments_init, body := defBody s_InvalidArguments_init, scope := defScope s_InvalidArguments_init }
def fx_o_InvalidArguments : FactB := fun K => overB K (He.ga K "TableError") (He.ga K "InvalidArguments")
def fx_i_InvalidArguments : FactB := fun K => initB K (He.ga K "InvalidArguments")
def xd_InvalidValue_init : He5.DefA := { at_ := fun K => He.ma K (He.ga K "InvalidValue") "__init__", name := "__init__", qual := "InvalidValue.__init__", params := defArgs s_InvalidValue_init, body := defBody s_InvalidValue_init, scope := defScope s_InvalidValue_init }
def fx_o_InvalidValue : FactB := fun K => overB K (He.ga K "TableError") (He.ga K "InvalidValue")
def fx_i_InvalidValue : FactB := fun K => initB K (He.ga K "InvalidValue")
def xd_InvalidColumns_init : He5.DefA := { at_ := fun K => He.ma K (He.ga K "InvalidColumns") "__init__", name := "__init__", qual := "InvalidColumns.__init__", params := defArgs s_InvalidColumns_init, body := defBody s_InvalidColumns_init, scope := defScope s_InvalidColumns_init }
def fx_o_InvalidColumns : FactB := fun K => overB K (He.ga K "TableError") (He.ga K "InvalidColumns")
def fx_i_InvalidColumns : FactB := fun K => initB K (He.ga K "InvalidColumns")
def sd_Missing : SupD := ⟨"Missing", "Missing.__init__", defArgs s_Missing_init, defBody s_Missing_init, defScope s_Missing_init⟩
def fx_cf_Missing : FactB := fun K => clsvB K (He.ga K "Missing")
def sd_TableError : SupD := ⟨"TableError", "TableError.__init__", defArgs s_TableError_init, defBody s_TableError_init, defScope s_TableError_init⟩
def fx_cf_TableError : FactB := fun K => clsvB K (He.ga K "TableError")
def sd_NothingLeft : SupD := ⟨"NothingLeft", "NothingLeft.__init__", defArgs s_NothingLeft_init, defBody s_NothingLeft_init, defScope s_NothingLeft_init⟩
def fx_o_NothingLeft : FactB := fun K => overBB PX.ieB K (He.ga K "NothingLeft") (He.ga K "NothingLeft")
def fx_i_NothingLeft : FactB := fun K => initB K (He.ga K "NothingLeft")
def cl_key : List Str := ["UnknownKey"]
def fx_vf_key : FactB := fun K => cl_key.all (xvB K "key")
def cl_code : List Str := ["UnknownName", "WrongKind", "DuplicateName", "InvalidStatement", "InvalidCondition", "InvalidCommand", "InvalidLine", "FailsLate", "InvalidRule", "InvalidComparison", "InvalidRow", "InvalidLimit", "InvalidCount", "InvalidName", "UnknownKey", "Failed", "Full", "TooWide", "NotCarried", "NothingLeft", "InvalidText", "ColumnsDiffer", "NotOpen", "InvalidArguments", "InvalidValue", "InvalidColumns"]
def fx_vf_code : FactB := fun K => cl_code.all (xvB K "code")
def cl_word : List Str := ["Failed"]
def fx_vf_word : FactB := fun K => cl_word.all (xvB K "word")
def cl_limit : List Str := ["Full"]
def fx_vf_limit : FactB := fun K => cl_limit.all (xvB K "limit")
def cl_most : List Str := ["TooWide"]
def fx_vf_most : FactB := fun K => cl_most.all (xvB K "most")
def cl_witness : List Str := ["NotCarried"]
def fx_vf_witness : FactB := fun K => cl_witness.all (xvB K "witness")
def cl_path : List Str := ["InvalidStatement", "InvalidCondition"]
def fx_vf_path : FactB := fun K => cl_path.all (xvB K "path")
def cl_name : List Str := ["UnknownName", "WrongKind", "DuplicateName"]
def fx_vf_name : FactB := fun K => cl_name.all (xvB K "name")
def cl_given : List Str := ["InvalidLimit", "InvalidCount", "InvalidName"]
def fx_vf_given : FactB := fun K => cl_given.all (xvB K "given")
def cl_index : List Str := ["InvalidCommand", "InvalidLine", "FailsLate", "InvalidRule", "InvalidComparison", "InvalidRow"]
def fx_vf_index : FactB := fun K => cl_index.all (xvB K "index")
def cl_ : List Str := ["UnknownName", "WrongKind", "DuplicateName", "InvalidStatement", "InvalidCondition", "InvalidCommand", "InvalidLine", "FailsLate", "InvalidRule", "InvalidComparison", "InvalidRow", "InvalidLimit", "InvalidCount", "InvalidName", "UnknownKey", "Failed", "Full", "TooWide", "NotCarried", "NothingLeft", "InvalidText", "ColumnsDiffer", "NotOpen", "InvalidArguments", "InvalidValue", "InvalidColumns"]
def fx_exb_ : FactB := fun K => cl_.all (excB K)
def tb_LookupError : List (Str × Bool) := [("UnknownName", true), ("WrongKind", false), ("DuplicateName", false), ("InvalidStatement", false), ("InvalidCondition", false), ("InvalidCommand", false), ("InvalidLine", false), ("FailsLate", false), ("InvalidRule", false), ("InvalidComparison", false), ("InvalidRow", false), ("InvalidLimit", false), ("InvalidCount", false), ("InvalidName", false), ("UnknownKey", true), ("Failed", false), ("Full", false), ("TooWide", false), ("NotCarried", false), ("NothingLeft", true), ("InvalidText", false), ("ColumnsDiffer", false), ("NotOpen", false), ("InvalidArguments", false), ("InvalidValue", false), ("InvalidColumns", false)]
def fx_kt_LookupError : FactB := fun K => tb_LookupError.all (kitXB K (.type "LookupError"))
def tb_ValueError : List (Str × Bool) := [("UnknownName", false), ("WrongKind", true), ("DuplicateName", true), ("InvalidStatement", true), ("InvalidCondition", true), ("InvalidCommand", true), ("InvalidLine", true), ("FailsLate", true), ("InvalidRule", true), ("InvalidComparison", true), ("InvalidRow", true), ("InvalidLimit", true), ("InvalidCount", true), ("InvalidName", true), ("UnknownKey", false), ("Failed", true), ("Full", true), ("TooWide", true), ("NotCarried", true), ("NothingLeft", false), ("InvalidText", true), ("ColumnsDiffer", true), ("NotOpen", true), ("InvalidArguments", true), ("InvalidValue", true), ("InvalidColumns", true)]
def fx_kt_ValueError : FactB := fun K => tb_ValueError.all (kitXB K (.type "ValueError"))
def tb_NothingLeft : List (Str × Bool) := [("UnknownName", false), ("WrongKind", false), ("DuplicateName", false), ("InvalidStatement", false), ("InvalidCondition", false), ("InvalidCommand", false), ("InvalidLine", false), ("FailsLate", false), ("InvalidRule", false), ("InvalidComparison", false), ("InvalidRow", false), ("InvalidLimit", false), ("InvalidCount", false), ("InvalidName", false), ("UnknownKey", false), ("Failed", false), ("Full", false), ("TooWide", false), ("NotCarried", false), ("NothingLeft", true), ("InvalidText", false), ("ColumnsDiffer", false), ("NotOpen", false), ("InvalidArguments", false), ("InvalidValue", false), ("InvalidColumns", false)]
def fx_kt_NothingLeft : FactB := fun K => tb_NothingLeft.all (kitXB K (.ref (He.ga K "NothingLeft")))
def tb_Missing : List (Str × Bool) := [("UnknownName", true), ("WrongKind", false), ("DuplicateName", false), ("InvalidStatement", false), ("InvalidCondition", false), ("InvalidCommand", false), ("InvalidLine", false), ("FailsLate", false), ("InvalidRule", false), ("InvalidComparison", false), ("InvalidRow", false), ("InvalidLimit", false), ("InvalidCount", false), ("InvalidName", false), ("UnknownKey", true), ("Failed", false), ("Full", false), ("TooWide", false), ("NotCarried", false), ("NothingLeft", false), ("InvalidText", false), ("ColumnsDiffer", false), ("NotOpen", false), ("InvalidArguments", false), ("InvalidValue", false), ("InvalidColumns", false)]
def fx_kt_Missing : FactB := fun K => tb_Missing.all (kitXB K (.ref (He.ga K "Missing")))
def tb_TableError : List (Str × Bool) := [("UnknownName", false), ("WrongKind", true), ("DuplicateName", true), ("InvalidStatement", true), ("InvalidCondition", true), ("InvalidCommand", true), ("InvalidLine", true), ("FailsLate", true), ("InvalidRule", true), ("InvalidComparison", true), ("InvalidRow", true), ("InvalidLimit", true), ("InvalidCount", true), ("InvalidName", true), ("UnknownKey", false), ("Failed", true), ("Full", true), ("TooWide", true), ("NotCarried", true), ("NothingLeft", false), ("InvalidText", true), ("ColumnsDiffer", true), ("NotOpen", true), ("InvalidArguments", true), ("InvalidValue", true), ("InvalidColumns", true)]
def fx_kt_TableError : FactB := fun K => tb_TableError.all (kitXB K (.ref (He.ga K "TableError")))
def tb_InvalidName : List (Str × Bool) := [("UnknownName", false), ("WrongKind", false), ("DuplicateName", false), ("InvalidStatement", false), ("InvalidCondition", false), ("InvalidCommand", false), ("InvalidLine", false), ("FailsLate", false), ("InvalidRule", false), ("InvalidComparison", false), ("InvalidRow", false), ("InvalidLimit", false), ("InvalidCount", false), ("InvalidName", true), ("UnknownKey", false), ("Failed", false), ("Full", false), ("TooWide", false), ("NotCarried", false), ("NothingLeft", false), ("InvalidText", false), ("ColumnsDiffer", false), ("NotOpen", false), ("InvalidArguments", false), ("InvalidValue", false), ("InvalidColumns", false)]
def fx_kt_InvalidName : FactB := fun K => tb_InvalidName.all (kitXB K (.ref (He.ga K "InvalidName")))
def tb_InvalidCount : List (Str × Bool) := [("UnknownName", false), ("WrongKind", false), ("DuplicateName", false), ("InvalidStatement", false), ("InvalidCondition", false), ("InvalidCommand", false), ("InvalidLine", false), ("FailsLate", false), ("InvalidRule", false), ("InvalidComparison", false), ("InvalidRow", false), ("InvalidLimit", false), ("InvalidCount", true), ("InvalidName", false), ("UnknownKey", false), ("Failed", false), ("Full", false), ("TooWide", false), ("NotCarried", false), ("NothingLeft", false), ("InvalidText", false), ("ColumnsDiffer", false), ("NotOpen", false), ("InvalidArguments", false), ("InvalidValue", false), ("InvalidColumns", false)]
def fx_kt_InvalidCount : FactB := fun K => tb_InvalidCount.all (kitXB K (.ref (He.ga K "InvalidCount")))
def tb_IndexError : List (Str × Bool) := [("UnknownName", false), ("WrongKind", false), ("DuplicateName", false), ("InvalidStatement", false), ("InvalidCondition", false), ("InvalidCommand", false), ("InvalidLine", false), ("FailsLate", false), ("InvalidRule", false), ("InvalidComparison", false), ("InvalidRow", false), ("InvalidLimit", false), ("InvalidCount", false), ("InvalidName", false), ("UnknownKey", false), ("Failed", false), ("Full", false), ("TooWide", false), ("NotCarried", false), ("NothingLeft", true), ("InvalidText", false), ("ColumnsDiffer", false), ("NotOpen", false), ("InvalidArguments", false), ("InvalidValue", false), ("InvalidColumns", false)]
def fx_kt_IndexError : FactB := fun K => tb_IndexError.all (kitXB K (.type "IndexError"))
def fn : List He.DefD := [dd__law_draws, dd__law_given, dd__law_pull, dd__law_any, dd__law_like, dd__law_bases, dd__law_far, dd_law]
def fa : List He.Fa := [.glo "_law_draws", .glo "_law_given", .glo "_law_pull", .glo "_law_any", .glo "_law_like", .glo "_law_bases", .glo "_law_far", .glo "law", .glo "NothingLeft", .glo "Missing", .glo "TableError", .glo "InvalidName", .glo "InvalidCount", .glo "UnknownName", .glo "WrongKind", .glo "DuplicateName", .glo "InvalidStatement", .glo "InvalidCondition", .glo "InvalidCommand", .glo "InvalidLine", .glo "FailsLate", .glo "InvalidRule", .glo "InvalidComparison", .glo "InvalidRow", .glo "InvalidLimit", .glo "UnknownKey", .glo "Failed", .glo "Full", .glo "TooWide", .glo "NotCarried", .glo "InvalidText", .glo "ColumnsDiffer", .glo "NotOpen", .glo "InvalidArguments", .glo "InvalidValue", .glo "InvalidColumns", .free "list", .free "int", .free "len", .free "isinstance", .free "str", .free "bool", .free "tuple", .free "zip", .free "all", .free "LookupError", .free "ValueError", .free "IndexError"]
def gs : List (Str × D) := []
def dsL : List DicD := []
def fxL : List FactB := [fx_o_UnknownName, fx_i_UnknownName, fx_na_UnknownName, fx_o_WrongKind, fx_i_WrongKind, fx_na_WrongKind, fx_o_DuplicateName, fx_i_DuplicateName, fx_na_DuplicateName, fx_o_InvalidStatement, fx_i_InvalidStatement, fx_na_InvalidStatement, fx_o_InvalidCondition, fx_i_InvalidCondition, fx_na_InvalidCondition, fx_o_InvalidCommand, fx_i_InvalidCommand, fx_na_InvalidCommand, fx_o_InvalidLine, fx_i_InvalidLine, fx_na_InvalidLine, fx_o_FailsLate, fx_i_FailsLate, fx_na_FailsLate, fx_o_InvalidRule, fx_i_InvalidRule, fx_na_InvalidRule, fx_o_InvalidComparison, fx_i_InvalidComparison, fx_na_InvalidComparison, fx_o_InvalidRow, fx_i_InvalidRow, fx_na_InvalidRow, fx_o_InvalidLimit, fx_i_InvalidLimit, fx_na_InvalidLimit, fx_o_InvalidCount, fx_i_InvalidCount, fx_na_InvalidCount, fx_o_InvalidName, fx_i_InvalidName, fx_na_InvalidName, fx_o_UnknownKey, fx_i_UnknownKey, fx_na_UnknownKey, fx_o_Failed, fx_i_Failed, fx_na_Failed, fx_o_Full, fx_i_Full, fx_na_Full, fx_o_TooWide, fx_i_TooWide, fx_na_TooWide, fx_o_NotCarried, fx_i_NotCarried, fx_na_NotCarried, fx_o_InvalidText, fx_i_InvalidText, fx_o_ColumnsDiffer, fx_i_ColumnsDiffer, fx_o_NotOpen, fx_i_NotOpen, fx_o_InvalidArguments, fx_i_InvalidArguments, fx_o_InvalidValue, fx_i_InvalidValue, fx_o_InvalidColumns, fx_i_InvalidColumns, fx_cf_Missing, fx_cf_TableError, fx_o_NothingLeft, fx_i_NothingLeft, fx_vf_key, fx_vf_code, fx_vf_word, fx_vf_limit, fx_vf_most, fx_vf_witness, fx_vf_path, fx_vf_name, fx_vf_given, fx_vf_index, fx_exb_, fx_kt_LookupError, fx_kt_ValueError, fx_kt_NothingLeft, fx_kt_Missing, fx_kt_TableError, fx_kt_InvalidName, fx_kt_InvalidCount, fx_kt_IndexError]
def xdL : List He5.DefA := [xd_UnknownName_init, xd_WrongKind_init, xd_DuplicateName_init, xd_InvalidStatement_init, xd_InvalidCondition_init, xd_InvalidCommand_init, xd_InvalidLine_init, xd_FailsLate_init, xd_InvalidRule_init, xd_InvalidComparison_init, xd_InvalidRow_init, xd_InvalidLimit_init, xd_InvalidCount_init, xd_InvalidName_init, xd_UnknownKey_init, xd_Failed_init, xd_Full_init, xd_TooWide_init, xd_NotCarried_init, xd_InvalidText_init, xd_ColumnsDiffer_init, xd_NotOpen_init, xd_InvalidArguments_init, xd_InvalidValue_init, xd_InvalidColumns_init]
def sdL : List SupD := [sd_Missing, sd_TableError, sd_NothingLeft]
def tf : List He.Defn := []
abbrev R : PySem.W.OpenRow := PySem.W.OpenLaw.row PySem.Challenge.rw_lookedrows_k01_errors_by_themselves
def okn0 : List Str := ["_law_draws", "_law_given", "_law_pull", "_law_any", "_law_like", "_law_bases", "_law_far", "law", "NothingLeft", "Missing", "TableError", "InvalidName", "InvalidCount", "UnknownName", "WrongKind", "DuplicateName", "InvalidStatement", "InvalidCondition", "InvalidCommand", "InvalidLine", "FailsLate", "InvalidRule", "InvalidComparison", "InvalidRow", "InvalidLimit", "UnknownKey", "Failed", "Full", "TooWide", "NotCarried"]
def okn1 : List Str := ["InvalidText", "ColumnsDiffer", "NotOpen", "InvalidArguments", "InvalidValue", "InvalidColumns", "__init__", "__eq__", "__ne__", "super"]
def L6 : (Addr → Option Obj) → List Addr := asX (okn0 ++ okn1) 6
def hk : PySem.W.Hook := hookG6 L6 fa fn gs dsL fxL xdL sdL tf R.prog.main.file
def ob (s : PySem.W.SharedT) : AlG4 := obsGG6 L6 fa fn gs dsL fxL xdL sdL tf R.prog.main.file (HandSHeadRun.getT s)
theorem ob_eq (s : PySem.W.SharedT) : ob s = hk.obs s.abs := obsGG6_eq (HandSHeadRun.getT_eq s)
def loose0 : List Str := ["TableError", "Missing", "InvalidName", "InvalidColumns", "InvalidRow", "InvalidValue", "InvalidCondition", "InvalidArguments", "InvalidStatement", "InvalidComparison", "NotOpen", "InvalidRule", "NotCarried", "ColumnsDiffer", "InvalidCount", "FailsLate", "TooWide", "InvalidText", "InvalidLine", "DuplicateName", "WrongKind", "Full", "InvalidLimit", "InvalidCommand", "Failed", "UnknownKey", "UnknownName", "NothingLeft", "_law_draws", "_law_pull"]
def loose1 : List Str := ["_law_any", "_law_like", "_law_far", "_law_bases", "_law_given"]
abbrev loose : List Str := loose0 ++ loose1
def hkA : PySem.W.Hook := hookG6 L6 fa fn gs dsL [] [] [] [] R.prog.main.file
def obA (s : PySem.W.SharedT) : AlG4 := obsGG6 L6 fa fn gs dsL [] [] [] [] R.prog.main.file (HandSHeadRun.getT s)
def hkB : PySem.W.Hook := hookG6 L6 [] [] [] [] fxL xdL sdL tf R.prog.main.file
def obB (s : PySem.W.SharedT) : AlG4 := obsGG6 L6 [] [] [] [] fxL xdL sdL tf R.prog.main.file (HandSHeadRun.getT s)
end K01
namespace K01
open PySem PySem.Spec PyProof.Rows L2 PD
theorem run0A (w : World) : HandSHeadRun.RunEq R (PySem.W.view R.prog [37]) hkA obA 20000 loose (w.withFollow "special-get-raises" false) := fun os => by kernel_rfl
theorem run0B (w : World) : HandSHeadRun.RunEq R (PySem.W.view R.prog [37]) hkB obB 20000 loose (w.withFollow "special-get-raises" false) := fun os => by kernel_rfl
theorem run1A (w : World) : HandSHeadRun.RunEq R (PySem.W.view R.prog [37]) hkA obA 20000 loose (w.withFollow "special-get-raises" true) := fun os => by kernel_rfl
theorem run1B (w : World) : HandSHeadRun.RunEq R (PySem.W.view R.prog [37]) hkB obB 20000 loose (w.withFollow "special-get-raises" true) := fun os => by kernel_rfl
theorem runJ {w : World} (h1 : HandSHeadRun.RunEq R (PySem.W.view R.prog [37]) hkA obA 20000 loose w) (h2 : HandSHeadRun.RunEq R (PySem.W.view R.prog [37]) hkB obB 20000 loose w) : HandSHeadRun.RunEq R (PySem.W.view R.prog [37]) hk ob 20000 loose w := fun os => run_join3 (h1 os) (h2 os) fun s ha hb => obs_join6 ha hb
theorem run (w : World) : HandSHeadRun.RunEq R (PySem.W.view R.prog [37]) hk ob 20000 loose w := PySem.W.byRow2 "special-get-raises" (P := fun w => HandSHeadRun.RunEq R (PySem.W.view R.prog [37]) hk ob 20000 loose w) (fun w => runJ (run0A w) (run0B w)) (fun w => runJ (run1A w) (run1B w)) w
end K01
namespace PD
open PySem PySem.Spec PyProof.Rows L2
/-- the text of a lambda; caps: the names that it captures -/
structure LamD where
  qual : Str
  params : Arguments
  body : Expr
  scope : Scope
  caps : List Str
  /-- it has a parameter with the default 0 -/
  df : Bool
/-- the law's lambdas; the tables of code objects of the defs that make them, with the name of what they make -/
class LamTab where
  lam : Nat → LamD
  T : List (Addr × Str)
variable [LamTab]
/-- where one stands: the written part, the module's names, what is not to be touched, the cells' addresses, the heap -/
structure RC where
  K : PySem.W.Frag
  mg : Str → Option Value
  B : Addr → Prop
  ρ : List Addr
  H : Hp
def RC.fr (c : RC) (a : Addr) : Prop := ¬ c.B a ∧ a ∉ c.ρ
/-- the tables are right -/
def RC.tabs (c : RC) : Prop := ∀ p ∈ LamTab.T, LamX.TabS c.H p.1 p.2
structure MgX where
  mg : Str → Option Value
  tabs : Prop
structure MgX.Le (a b : MgX) : Prop where
  e : a.mg = b.mg
  t : b.tabs → a.tabs
theorem MgX.Le.trans {a b d : MgX} (x : MgX.Le a b) (y : MgX.Le b d) : MgX.Le a d := ⟨x.e.trans y.e, fun h => x.t (y.t h)⟩
def RC.mgx (c : RC) : MgX := ⟨c.mg, c.tabs⟩
/-- the module's names are mg, the tables are right -/
abbrev MgE (c : RC) (mg : Str → Option Value) : Prop := MgX.Le c.mgx ⟨mg, True⟩
theorem MgX.Le.e' {c c' : RC} (h : MgX.Le c'.mgx c.mgx) : c'.mg = c.mg := h.e
theorem MgX.Le.mge {c : RC} {mg : Str → Option Value} (h : MgE c mg) : c.mg = mg := h.e
abbrev RC.put (c : RC) (p : Addr) (o : HO) : RC := { c with H := upd c.H p o }
/-- a list that stands locked, or in the written part -/
def ScrL (K : PySem.W.Frag) (H : Hp) (a : Addr) (xs : List V) : Prop := (∃ o, H a = some (.frz o (.lst xs))) ∨
    ∃ (o : Obj) (its : Array Value) (n : Nat), K.lookup a = some o ∧ o.cls = .type "list" ∧ o.dict = none ∧ o.data = .seq its n ∧ its.size ≤ sizeLine ∧ Vals xs its.toList
theorem ScrL.sq {K : PySem.W.Frag} {H : Hp} {a : Addr} {xs : List V} (h : ScrL K H a xs) : SqL K H a xs := by
  rcases h with h | h
  · exact .inl (.inr h)
  · exact .inr h
/-- the dict's pairs -/
def isDic (t : Bool) (o : HO) (zs : List (List Key × V)) : Prop := (t = false ∧ ∃ ys : List (Key × V), o = .dK ys ∧ zs = ys.map fun p => ([p.1], p.2)) ∨ (t = true ∧ o = .dT zs)
theorem isDic.tbl {t : Bool} {o : HO} {zs : List (List Key × V)} (h : isDic t o zs) : ∀ ps, o ≠ .tbl ps := fun ps e => by
  subst e
  rcases h with ⟨_, _, e, _⟩ | ⟨_, e⟩ <;> cases e
theorem isDic.tup {t : Bool} {o : HO} {zs : List (List Key × V)} (h : isDic t o zs) : ∀ xs, o ≠ .tup xs := fun ps e => by
  subst e
  rcases h with ⟨_, _, e, _⟩ | ⟨_, e⟩ <;> cases e
theorem isDic.frz {t : Bool} {o : HO} {zs : List (List Key × V)} (h : isDic t o zs) : ∀ a b, o ≠ .frz a b := fun a b e => by
  subst e
  rcases h with ⟨_, _, e, _⟩ | ⟨_, e⟩ <;> cases e
theorem isDic.lst {t : Bool} {o : HO} {zs : List (List Key × V)} (h : isDic t o zs) : ∀ xs, o ≠ .lst xs := fun ps e => by
  subst e
  rcases h with ⟨_, _, e, _⟩ | ⟨_, e⟩ <;> cases e
/-- the closure has the captured names alone, each with a cell of its own -/
def ClOk (caps : List Str) (cl : List (Str × Addr)) : Prop := (∀ y b, cl.lookup y = some b → y ∈ caps) ∧ ∀ y y' b, cl.lookup y = some b → cl.lookup y' = some b → y = y'
def lamHO (l : LamD) (cl : List (Str × Addr)) (dV : Value) (c' f : Addr) : HO := .ext fun h => ClOk l.caps cl ∧ ∃ doc pm ctv, h.get? f = some (PySem.W.kdv_obj "<lambda>" l.qual l.params (.expr l.body) l.scope cl dV doc pm c' ctv)
def celHO (b : Addr) (o : Obj) : HO := .ext fun h => h.get? b = some o
/-- the tuple of the default -/
def DfR (H : Hp) (fr : Addr → Prop) (df : Bool) (dV : Value) : Prop := (df = false ∧ dV = .none) ∨ (df = true ∧ ∃ (dt : Addr) (t : Tok), dV = .ref dt ∧ H dt = some (celHO dt (PySem.W.kdv_tup [.int 0 t])) ∧ fr dt)
/-- the captured cells -/
inductive CapsR (H : Hp) (cl : List (Str × Addr)) (fr : Addr → Prop) (df : Bool) (dV : Value) : List Str → List V → Prop
  | nil : DfR H fr df dV → CapsR H cl fr df dV [] []
  | cons {y : Str} {ys : List Str} {b : Addr} {o : Obj} {u : Value} {v : V} {vs : List V} : cl.lookup y = some b → H b = some (celHO b o) → fr b → o.data = .cell (some u) → RelV v u → CapsR H cl fr df dV ys vs → CapsR H cl fr df dV (y :: ys) (v :: vs)
theorem CapsR.imp {H H' : Hp} {cl : List (Str × Addr)} {fr fr' : Addr → Prop} {df : Bool} {dV : Value} (k : ∀ b o, H b = some (celHO b o) → fr b → H' b = some (celHO b o) ∧ fr' b) : ∀ {ys : List Str} {vs : List V}, CapsR H cl fr df dV ys vs → CapsR H' cl fr' df dV ys vs
  | _, _, .nil (.inl h) => .nil (.inl h)
  | _, _, .nil (.inr ⟨h, dt, t, e, h1, h2⟩) => .nil (.inr ⟨h, dt, t, e, (k _ _ h1 h2).1, (k _ _ h1 h2).2⟩)
  | _, _, .cons h1 h2 h3 h4 h5 t => .cons h1 (k _ _ h2 h3).1 (k _ _ h2 h3).2 h4 h5 (t.imp k)
/-- an exception's object -/
def excHO (a Ca d : Addr) : HO := .ext fun h => ∃ o vs, h.get? a = some o ∧ o.cls = .ref Ca ∧ o.dict = some d ∧ o.data = .fields vs
theorem lamHO_tbl {l : LamD} {cl : List (Str × Addr)} {dV : Value} {c' f : Addr} (ps : Array Value) : lamHO l cl dV c' f ≠ .tbl ps := fun z => by
  unfold lamHO at z
  cases z
theorem celHO_tbl {b : Addr} {o : Obj} (ps : Array Value) : celHO b o ≠ .tbl ps := fun z => by
  unfold celHO at z
  cases z
theorem excHO_tbl {a Ca d : Addr} (ps : Array Value) : excHO a Ca d ≠ .tbl ps := fun z => by
  unfold excHO at z
  cases z
mutual
inductive Rep (c : RC) : D → V → Prop
  | non : Rep c .non .non
  | bl (b : Bool) : Rep c (.bl b) (.bl b)
  | int (i : Int) : Rep c (.int i) (.int i)
  | str (cs : List Nat) : Rep c (.str cs) (.str ⟨cs.toArray⟩)
  | tup {a : Addr} {ds : List D} {xs : List V} : SqT c.K c.H a xs → Reps c ds xs → Rep c (.tup ds) (.ref a)
  | lst {a : Addr} {ds : List D} {xs : List V} : c.H a = some (.lst xs) → c.fr a → Reps c ds xs → Rep c (.lst ds) (.ref a)
  | scr {a : Addr} {ds : List D} {xs : List V} : ScrL c.K c.H a xs → Reps c ds xs → Rep c (.scr ds) (.ref a)
  | obj {a Ca dx : Addr} {C : Str} {fs : List (Str × D)} {vs : List (Str × V)} : c.mg C = some (.ref Ca) → c.H a = some (.ins Ca dx vs) → c.fr a → RepF c fs vs → Rep c (.obj C fs) (.ref a)
  | ref {n : Nat} {a : Addr} : c.ρ[n]? = some a → Rep c (.ref n) (.ref a)
  | fn {f c' : Addr} {i : Nat} {cl : List (Str × Addr)} {dV : Value} {caps : List D} {vs : List V} : c.H f = some (lamHO (LamTab.lam i) cl dV c' f) → c.fr f → c.H c' = some (LamX.CodeO c' (LamTab.lam i).qual) → c.fr c' → CapsR c.H cl c.fr (LamTab.lam i).df dV (LamTab.lam i).caps vs → Reps c caps vs → Rep c (.fn i caps) (.ref f)
  | exc {a Ca dx : Addr} {C : Str} {fs : List (Str × D)} {vs : List (Str × V)} : c.mg C = some (.ref Ca) → c.H a = some (excHO a Ca dx) → c.fr a → c.H dx = some (.xd vs) → c.fr dx → RepF c fs vs → Rep c (.exc C fs) (.ref a)
  | dic {a : Addr} {t : Bool} {o : HO} {kvs : List (List Key × D)} {zs : List (List Key × V)} : c.H a = some o → isDic t o zs → c.fr a → RepP c kvs zs → Rep c (.dic t kvs) (.ref a)
inductive Reps (c : RC) : List D → List V → Prop
  | nil : Reps c [] []
  | cons {d : D} {ds : List D} {v : V} {vs : List V} : Rep c d v → Reps c ds vs → Reps c (d :: ds) (v :: vs)
inductive RepP (c : RC) : List (List Key × D) → List (List Key × V) → Prop
  | nil : RepP c [] []
  | cons {f : List Key} {d : D} {ds : List (List Key × D)} {v : V} {vs : List (List Key × V)} : Rep c d v → RepP c ds vs → RepP c ((f, d) :: ds) ((f, v) :: vs)
inductive RepF (c : RC) : List (Str × D) → List (Str × V) → Prop
  | nil : RepF c [] []
  | cons {f : Str} {d : D} {ds : List (Str × D)} {v : V} {vs : List (Str × V)} : Rep c d v → RepF c ds vs → RepF c ((f, d) :: ds) ((f, v) :: vs)
end
/-- later: what is not a cell stays -/
structure RC.Le (c c' : RC) : Prop where
  K : c'.K = c.K
  mg : MgX.Le c'.mgx c.mgx
  B : ∀ a, c.B a → c'.B a
  Bn : ∀ a, c'.B a → c.B a ∨ c.H a = none
  dom : ∀ a o, c.H a = some o → ∃ o', c'.H a = some o'
  pre : ∀ (n : Nat) (a : Addr), c.ρ[n]? = some a → c'.ρ[n]? = some a
  keep : ∀ a o, c.H a = some o → (∀ ps, o ≠ .tbl ps) → a ∉ c.ρ → c'.H a = some o ∧ a ∉ c'.ρ
  tup : ∀ a xs, Rd c.H a (.tup xs) → Rd c'.H a (.tup xs)
  frz : ∀ a o u, c.H a = some (.frz o u) → c'.H a = some (.frz o u)
theorem RC.Le.refl (c : RC) : c.Le c := ⟨rfl, ⟨rfl, fun h => h⟩, fun _ h => h, fun _ h => .inl h, fun _ o h => ⟨o, h⟩, fun _ _ h => h, fun _ _ h _ n => ⟨h, n⟩, fun _ _ h => h, fun _ _ _ h => h⟩
theorem RC.Le.trans {a b c : RC} (x : a.Le b) (y : b.Le c) : a.Le c :=
  ⟨y.K.trans x.K, y.mg.trans x.mg, fun p h => y.B p (x.B p h), fun p h => (by
    rcases y.Bn p h with h | h
    · exact x.Bn p h
    · cases q : a.H p with
      | none => exact .inr rfl
      | some o =>
        obtain ⟨o', e⟩ := x.dom p o q
        rw [h] at e
        cases e), fun p o h => let ⟨o', e⟩ := x.dom p o h; y.dom p o' e, fun n p h => y.pre n p (x.pre n p h), fun p o h t n => let ⟨h1, n1⟩ := x.keep p o h t n; y.keep p o h1 t n1, fun p xs h => y.tup p xs (x.tup p xs h), fun p o u h => y.frz p o u (x.frz p o u h)⟩
theorem RC.Le.fr {c c' : RC} (l : c.Le c') {a : Addr} {o : HO} (h : c.H a = some o) (ht : ∀ ps, o ≠ .tbl ps) (f : c.fr a) : c'.fr a :=
  ⟨fun z => (l.Bn a z).elim f.1 fun q => (by rw [h] at q; cases q), (l.keep a o h ht f.2).2⟩
theorem RC.Le.lstH {c c' : RC} (l : c.Le c') {a : Addr} {xs : List V} (h : c.H a = some (.lst xs)) (f : c.fr a) : c'.H a = some (.lst xs) ∧ c'.fr a :=
  ⟨(l.keep a _ h (fun _ z => by cases z) f.2).1, l.fr h (fun _ z => by cases z) f⟩
theorem RC.Le.scrL {c c' : RC} (l : c.Le c') {a : Addr} {xs : List V} (h : ScrL c.K c.H a xs) : ScrL c'.K c'.H a xs := by
  rcases h with ⟨o, h⟩ | h
  · exact .inl ⟨o, l.frz a o _ h⟩
  · rw [l.K]; exact .inr h
theorem RC.Le.sqT {c c' : RC} (l : c.Le c') {a : Addr} {xs : List V} (h : SqT c.K c.H a xs) : SqT c'.K c'.H a xs := by
  rcases h with h | h
  · exact .inl (l.tup a xs h)
  · rw [l.K]; exact .inr h
/-- later, but for what is not to be touched -/
structure RC.LeW (c c' : RC) : Prop where
  K : c'.K = c.K
  mg : c'.mg = c.mg
  Bn : ∀ a, c'.B a → c.B a ∨ c.H a = none
  pre : ∀ (n : Nat) (a : Addr), c.ρ[n]? = some a → c'.ρ[n]? = some a
  dom : ∀ a o, c.H a = some o → ∃ o', c'.H a = some o'
  keep : ∀ a o, c.H a = some o → (∀ ps, o ≠ .tbl ps) → ¬ c.B a → a ∉ c.ρ → c'.H a = some o ∧ a ∉ c'.ρ
  tup : ∀ a xs, Rd c.H a (.tup xs) → Rd c'.H a (.tup xs)
  frz : ∀ a o u, c.H a = some (.frz o u) → c'.H a = some (.frz o u)
theorem RC.Le.toW {c c' : RC} (l : c.Le c') : c.LeW c' := ⟨l.K, l.mg.e, l.Bn, l.pre, l.dom, fun a o h t _ n => l.keep a o h t n, l.tup, l.frz⟩
theorem RC.LeW.trans {a b c : RC} (x : a.LeW b) (y : b.LeW c) : a.LeW c :=
  ⟨y.K.trans x.K, y.mg.trans x.mg, fun p h => (by
    rcases y.Bn p h with h | h
    · exact x.Bn p h
    · cases q : a.H p with
      | none => exact .inr rfl
      | some o =>
        obtain ⟨o', e⟩ := x.dom p o q
        rw [h] at e
        cases e), fun n p h => y.pre n p (x.pre n p h), fun p o h => let ⟨o', e⟩ := x.dom p o h; y.dom p o' e, fun p o h t nb n => (by
    obtain ⟨h1, n1⟩ := x.keep p o h t nb n
    refine y.keep p o h1 t (fun z => ?_) n1
    rcases x.Bn p z with q | q
    · exact nb q
    · rw [h] at q; cases q), fun p xs h => y.tup p xs (x.tup p xs h), fun p o u h => y.frz p o u (x.frz p o u h)⟩
theorem RC.LeW.fr {c c' : RC} (l : c.LeW c') {a : Addr} {o : HO} (h : c.H a = some o) (ht : ∀ ps, o ≠ .tbl ps) (f : c.fr a) : c'.fr a :=
  ⟨fun z => (l.Bn a z).elim f.1 fun q => (by rw [h] at q; cases q), (l.keep a o h ht f.1 f.2).2⟩
theorem RC.LeW.lstH {c c' : RC} (l : c.LeW c') {a : Addr} {xs : List V} (h : c.H a = some (.lst xs)) (f : c.fr a) : c'.H a = some (.lst xs) ∧ c'.fr a :=
  ⟨(l.keep a _ h (fun _ z => by cases z) f.1 f.2).1, l.fr h (fun _ z => by cases z) f⟩
theorem RC.LeW.scrL {c c' : RC} (l : c.LeW c') {a : Addr} {xs : List V} (h : ScrL c.K c.H a xs) : ScrL c'.K c'.H a xs := by
  rcases h with ⟨o, h⟩ | h
  · exact .inl ⟨o, l.frz a o _ h⟩
  · rw [l.K]; exact .inr h
theorem RC.LeW.sqT {c c' : RC} (l : c.LeW c') {a : Addr} {xs : List V} (h : SqT c.K c.H a xs) : SqT c'.K c'.H a xs := by
  rcases h with h | h
  · exact .inl (l.tup a xs h)
  · rw [l.K]; exact .inr h
mutual
theorem Rep.leW {c c' : RC} (l : c.LeW c') : ∀ {d : D} {v : V}, Rep c d v → Rep c' d v
  | _, _, .non => .non
  | _, _, .bl b => .bl b
  | _, _, .int i => .int i
  | _, _, .str cs => .str cs
  | _, _, .tup h r => .tup (l.sqT h) (Reps.leW l r)
  | _, _, .lst h f r => .lst (l.lstH h f).1 (l.lstH h f).2 (Reps.leW l r)
  | _, _, .scr h r => .scr (l.scrL h) (Reps.leW l r)
  | _, _, .obj m h f r => .obj (by rw [l.mg]; exact m) (l.keep _ _ h (fun _ z => by cases z) f.1 f.2).1 (l.fr h (fun _ z => by cases z) f) (RepF.leW l r)
  | _, _, .ref h => .ref (l.pre _ _ h)
  | _, _, .dic h i f r => .dic (l.keep _ _ h i.tbl f.1 f.2).1 i (l.fr h i.tbl f) (RepP.leW l r)
  | _, _, .fn h f h2 f2 cr r => .fn (l.keep _ _ h lamHO_tbl f.1 f.2).1 (l.fr h lamHO_tbl f) (l.keep _ _ h2 LamX.codeO_ne f2.1 f2.2).1 (l.fr h2 LamX.codeO_ne f2) (cr.imp fun b o hb fb => ⟨(l.keep _ _ hb celHO_tbl fb.1 fb.2).1, l.fr hb celHO_tbl fb⟩) (Reps.leW l r)
  | _, _, .exc m h f h2 f2 r => .exc (by rw [l.mg]; exact m) (l.keep _ _ h excHO_tbl f.1 f.2).1 (l.fr h excHO_tbl f) (l.keep _ _ h2 (fun _ z => by cases z) f2.1 f2.2).1 (l.fr h2 (fun _ z => by cases z) f2) (RepF.leW l r)
theorem Reps.leW {c c' : RC} (l : c.LeW c') : ∀ {ds : List D} {vs : List V}, Reps c ds vs → Reps c' ds vs
  | _, _, .nil => .nil
  | _, _, .cons h t => .cons (Rep.leW l h) (Reps.leW l t)
theorem RepP.leW {c c' : RC} (l : c.LeW c') : ∀ {ds : List (List Key × D)} {vs : List (List Key × V)}, RepP c ds vs → RepP c' ds vs
  | _, _, .nil => .nil
  | _, _, .cons h t => .cons (Rep.leW l h) (RepP.leW l t)
theorem RepF.leW {c c' : RC} (l : c.LeW c') : ∀ {ds : List (Str × D)} {vs : List (Str × V)}, RepF c ds vs → RepF c' ds vs
  | _, _, .nil => .nil
  | _, _, .cons h t => .cons (Rep.leW l h) (RepF.leW l t)
end
mutual
theorem Rep.le {c c' : RC} (l : c.Le c') : ∀ {d : D} {v : V}, Rep c d v → Rep c' d v
  | _, _, .non => .non
  | _, _, .bl b => .bl b
  | _, _, .int i => .int i
  | _, _, .str cs => .str cs
  | _, _, .tup h r => .tup (l.sqT h) (Reps.le l r)
  | _, _, .lst h f r => .lst (l.lstH h f).1 (l.lstH h f).2 (Reps.le l r)
  | _, _, .scr h r => .scr (l.scrL h) (Reps.le l r)
  | _, _, .obj m h f r => .obj (by rw [l.mg.e']; exact m) (l.keep _ _ h (fun _ z => by cases z) f.2).1 (l.fr h (fun _ z => by cases z) f) (RepF.le l r)
  | _, _, .ref h => .ref (l.pre _ _ h)
  | _, _, .dic h i f r => .dic (l.keep _ _ h i.tbl f.2).1 i (l.fr h i.tbl f) (RepP.le l r)
  | _, _, .fn h f h2 f2 cr r => .fn (l.keep _ _ h lamHO_tbl f.2).1 (l.fr h lamHO_tbl f) (l.keep _ _ h2 LamX.codeO_ne f2.2).1 (l.fr h2 LamX.codeO_ne f2) (cr.imp fun b o hb fb => ⟨(l.keep _ _ hb celHO_tbl fb.2).1, l.fr hb celHO_tbl fb⟩) (Reps.le l r)
  | _, _, .exc m h f h2 f2 r => .exc (by rw [l.mg.e']; exact m) (l.keep _ _ h excHO_tbl f.2).1 (l.fr h excHO_tbl f) (l.keep _ _ h2 (fun _ z => by cases z) f2.2).1 (l.fr h2 (fun _ z => by cases z) f2) (RepF.le l r)
theorem Reps.le {c c' : RC} (l : c.Le c') : ∀ {ds : List D} {vs : List V}, Reps c ds vs → Reps c' ds vs
  | _, _, .nil => .nil
  | _, _, .cons h t => .cons (Rep.le l h) (Reps.le l t)
theorem RepP.le {c c' : RC} (l : c.Le c') : ∀ {ds : List (List Key × D)} {vs : List (List Key × V)}, RepP c ds vs → RepP c' ds vs
  | _, _, .nil => .nil
  | _, _, .cons h t => .cons (Rep.le l h) (RepP.le l t)
theorem RepF.le {c c' : RC} (l : c.Le c') : ∀ {ds : List (Str × D)} {vs : List (Str × V)}, RepF c ds vs → RepF c' ds vs
  | _, _, .nil => .nil
  | _, _, .cons h t => .cons (Rep.le l h) (RepF.le l t)
end
theorem Reps.length {c : RC} : ∀ {ds : List D} {vs : List V}, Reps c ds vs → ds.length = vs.length
  | _, _, .nil => rfl
  | _, _, .cons _ t => by rw [List.length_cons, List.length_cons, t.length]
theorem Reps.get {c : RC} : ∀ {ds : List D} {vs : List V} {i : Nat} {d : D}, Reps c ds vs → ds[i]? = some d → ∃ v, vs[i]? = some v ∧ Rep c d v
  | _, _, _, _, .nil, e => by simp at e
  | _, _, 0, d, .cons h _, e => by simp at e; subst e; exact ⟨_, rfl, h⟩
  | _, _, i + 1, d, .cons _ t, e => by
    obtain ⟨v, h1, h2⟩ := Reps.get (i := i) t (by simpa using e)
    exact ⟨v, by simpa using h1, h2⟩
theorem Reps.getV {c : RC} : ∀ {ds : List D} {vs : List V} {i : Nat} {v : V}, Reps c ds vs → vs[i]? = some v → ∃ d, ds[i]? = some d ∧ Rep c d v
  | _, _, _, _, .nil, e => by simp at e
  | _, _, 0, d, .cons h _, e => by simp at e; subst e; exact ⟨_, rfl, h⟩
  | _, _, i + 1, d, .cons _ t, e => by
    obtain ⟨v, h1, h2⟩ := Reps.getV (i := i) t (by simpa using e)
    exact ⟨v, by simpa using h1, h2⟩
theorem Reps.append {c : RC} : ∀ {ds es : List D} {vs us : List V}, Reps c ds vs → Reps c es us → Reps c (ds ++ es) (vs ++ us)
  | _, _, _, _, .nil, s => s
  | _, _, _, _, .cons h t, s => .cons h (t.append s)
theorem Reps.take {c : RC} : ∀ {ds : List D} {vs : List V} (n : Nat), Reps c ds vs → Reps c (ds.take n) (vs.take n)
  | _, _, 0, _ => .nil
  | _, _, _ + 1, .nil => .nil
  | _, _, n + 1, .cons h t => .cons h (t.take n)
theorem Reps.drop {c : RC} : ∀ {ds : List D} {vs : List V} (n : Nat), Reps c ds vs → Reps c (ds.drop n) (vs.drop n)
  | _, _, 0, r => r
  | _, _, _ + 1, .nil => .nil
  | _, _, n + 1, .cons _ t => t.drop n
theorem Reps.set {c : RC} {d : D} {v : V} (r : Rep c d v) : ∀ {ds : List D} {vs : List V} (n : Nat), Reps c ds vs → Reps c (ds.set n d) (vs.set n v)
  | _, _, _, .nil => .nil
  | _, _, 0, .cons _ t => .cons r t
  | _, _, n + 1, .cons h t => .cons h (t.set r n)
theorem RepF.look {c : RC} {f : Str} : ∀ {ds : List (Str × D)} {vs : List (Str × V)} {d : D}, RepF c ds vs → ds.lookup f = some d → ∃ v, vs.lookup f = some v ∧ Rep c d v
  | _, _, _, .nil, e => by simp at e
  | _, _, d, .cons (f := g) h t, e => by
    rw [List.lookup_cons] at e ⊢
    cases q : f == g with
    | true => rw [q] at e; cases e; exact ⟨_, rfl, h⟩
    | false => rw [q] at e; exact t.look e
theorem RepF.length {c : RC} : ∀ {ds : List (Str × D)} {vs : List (Str × V)}, RepF c ds vs → ds.length = vs.length
  | _, _, .nil => rfl
  | _, _, .cons _ t => by rw [List.length_cons, List.length_cons, t.length]
/-- a field is stored -/
def putD (f : Str) (d : D) : List (Str × D) → List (Str × D)
  | [] => [(f, d)]
  | (g, e) :: r => if g = f then (g, d) :: r else (g, e) :: putD f d r
inductive Cell where
  | lst (ds : List D)
  | dic (t : Bool) (kvs : List (List Key × D))
  | obj (C : Str) (fs : List (Str × D))
abbrev EH := List Cell
def CellR (c : RC) : Cell → Addr → Prop
  | .lst ds, a => ∃ xs, c.H a = some (.lst xs) ∧ Reps c ds xs
  | .dic t kvs, a => ∃ o zs, c.H a = some o ∧ isDic t o zs ∧ RepP c kvs zs
  | .obj C fs, a => ∃ Ca dx vs, c.mg C = some (.ref Ca) ∧ c.H a = some (.ins Ca dx vs) ∧ RepF c fs vs
structure SR (c : RC) (h : EH) : Prop where
  len : c.ρ.length = h.length
  nd : c.ρ.Nodup
  cells : ∀ (n : Nat) (a : Addr) (k : Cell), c.ρ[n]? = some a → h[n]? = some k → CellR c k a
  nb : ∀ a ∈ c.ρ, ¬ c.B a
  bt : ∀ a, c.B a → ∃ o, c.H a = some o
theorem CellR.le {c c' : RC} (l : c.Le c') {k : Cell} {a : Addr} (h : c'.H a = c.H a) (r : CellR c k a) : CellR c' k a := by
  cases k with
  | lst ds => obtain ⟨xs, e, q⟩ := r; exact ⟨xs, h.trans e, q.le l⟩
  | dic t kvs => obtain ⟨o, zs, e, i, q⟩ := r; exact ⟨o, zs, h.trans e, i, q.le l⟩
  | obj C fs => obtain ⟨Ca, dx, vs, m, e, q⟩ := r; exact ⟨Ca, dx, vs, by rw [l.mg.e']; exact m, h.trans e, q.le l⟩
theorem CellR.ex {c : RC} {k : Cell} {a : Addr} (r : CellR c k a) : ∃ o, c.H a = some o := by
  cases k with
  | lst ds => obtain ⟨xs, e, q⟩ := r; exact ⟨_, e⟩
  | dic t kvs => obtain ⟨o, zs, e, i, q⟩ := r; exact ⟨_, e⟩
  | obj C fs => obtain ⟨Ca, dx, vs, m, e, q⟩ := r; exact ⟨_, e⟩
theorem SR.ex {c : RC} {h : EH} (s : SR c h) {a : Addr} (ha : a ∈ c.ρ) : ∃ o, c.H a = some o := by
  obtain ⟨n, hn, e⟩ := List.mem_iff_getElem.mp ha
  have h1 : c.ρ[n]? = some a := by rw [List.getElem?_eq_getElem hn, e]
  have hn' : n < h.length := by rw [← s.len]; exact hn
  exact (s.cells n a _ h1 (List.getElem?_eq_getElem hn')).ex
theorem codeO_ext {H H' : Hp} {P : Addr} {q : Str} (t : LamX.TabS H P q) (h1 : H' P = H P) (h2 : ∀ a, H a = some (LamX.CodeO a q) → H' a = some (LamX.CodeO a q)) : LamX.TabS H' P q := by
  obtain ⟨ps, k1, k2, k3⟩ := t
  refine ⟨ps, h1.trans k1, k2, fun pos cv hc => ?_⟩
  obtain ⟨c, e1, e2⟩ := k3 pos cv hc
  exact ⟨c, e1, h2 c e2⟩
/-- at a stands no table, no code object -/
def NoTab (H : Hp) (a : Addr) : Prop := (∀ ps, H a ≠ some (.tbl ps)) ∧ ∀ q, H a ≠ some (LamX.CodeO a q)
theorem tabs_upd {c : RC} {p : Addr} {o : HO} {ρ : List Addr} {B : Addr → Prop} (h : NoTab c.H p) : c.tabs → ({ c with ρ := ρ, B := B, H := upd c.H p o } : RC).tabs := fun t q hq =>
  codeO_ext (t q hq) (by
    obtain ⟨ps, k1, _⟩ := t q hq
    exact upd_ne (fun z => h.1 ps (by rw [← z]; exact k1))) fun a e => (upd_ne (fun z => h.2 q.2 (by rw [← z]; exact e))).trans e
theorem noTab_none {H : Hp} {a : Addr} (h : H a = none) : NoTab H a := ⟨fun _ z => (by rw [h] at z; cases z), fun _ z => (by rw [h] at z; cases z)⟩
theorem noTab_of {H : Hp} {a : Addr} {o : HO} (h : H a = some o) (h1 : ∀ ps, o ≠ .tbl ps) (h2 : ∀ φ, o ≠ .ext φ) : NoTab H a := ⟨fun ps z => (by rw [h] at z; exact h1 ps (Option.some.inj z)), fun q z => (by rw [h] at z; exact h2 _ (Option.some.inj z))⟩
theorem CellR.noTab {c : RC} {k : Cell} {a : Addr} (r : CellR c k a) : NoTab c.H a := by
  cases k with
  | lst ds => obtain ⟨xs, e, q⟩ := r; exact noTab_of e (fun _ z => by cases z) (fun _ z => by cases z)
  | dic t kvs =>
    obtain ⟨o, zs, e, i, q⟩ := r
    refine noTab_of e i.tbl fun φ z => ?_
    subst z
    rcases i with ⟨_, _, z, _⟩ | ⟨_, z⟩ <;> cases z
  | obj C fs => obtain ⟨Ca, dx, vs, m, e, q⟩ := r; exact noTab_of e (fun _ z => by cases z) (fun _ z => by cases z)
theorem SR.noTab {c : RC} {h : EH} (s : SR c h) {n : Nat} {a : Addr} (hn : c.ρ[n]? = some a) : NoTab c.H a := by
  have hn' : n < h.length := by rw [← s.len]; exact (List.getElem?_eq_some_iff.mp hn).1
  exact (s.cells n a _ hn (List.getElem?_eq_getElem hn')).noTab
/-- a new object -/
theorem SR.new {c : RC} {h : EH} {p : Addr} {o : HO} (s : SR c h) (hp : c.H p = none) : c.Le (c.put p o) ∧ SR (c.put p o) h ∧ (c.put p o).fr p := by
  have np : p ∉ c.ρ := fun z => by
    obtain ⟨o, e⟩ := s.ex z
    rw [hp] at e; cases e
  have ne : ∀ a o, c.H a = some o → a ≠ p := fun a o e z => by rw [z, hp] at e; cases e
  have l : c.Le (c.put p o) := by
    refine ⟨rfl, ⟨rfl, tabs_upd (noTab_none hp)⟩, fun _ h => h, fun _ h => .inl h, fun a u e => ⟨u, (upd_ne (ne a u e)).trans e⟩, fun _ _ h => h, fun a u e _ n => ⟨(upd_ne (ne a u e)).trans e, n⟩, fun a xs e => ?_, fun a o u e => (upd_ne (ne a _ e)).trans e⟩
    rcases e with e | ⟨u, e⟩
    · exact .inl ((upd_ne (ne a _ e)).trans e)
    · exact .inr ⟨u, (upd_ne (ne a _ e)).trans e⟩
  refine ⟨l, ⟨s.len, s.nd, fun n a k e1 e2 => ?_, s.nb, fun a b => ?_⟩, fun b => ?_, np⟩
  · have r := s.cells n a k e1 e2
    obtain ⟨u, e⟩ := r.ex
    exact r.le l (upd_ne (ne a u e))
  · obtain ⟨u, e⟩ := s.bt a b
    exact ⟨u, (upd_ne (ne a u e)).trans e⟩
  · obtain ⟨u, e⟩ := s.bt p b
    rw [hp] at e; cases e
/-- the cell n is written -/
theorem SR.write {c : RC} {h : EH} {n : Nat} {a : Addr} {o : HO} {k : Cell} (s : SR c h) (hn : c.ρ[n]? = some a) (hnt : ∀ xs, ¬ Rd c.H a (.tup xs)) (hnf : ∀ o u, c.H a ≠ some (.frz o u)) (hk : ∀ c', c.Le c' → c'.H a = some o → CellR c' k a) :
    c.Le (c.put a o) ∧ SR (c.put a o) (h.set n k) := by
  have ha : a ∈ c.ρ := List.mem_of_getElem? hn
  have l : c.Le (c.put a o) := by
    refine ⟨rfl, ⟨rfl, tabs_upd (s.noTab hn)⟩, fun _ h => h, fun _ h => .inl h, fun b u e => ?_, fun _ _ h => h, fun b u e _ nb => ⟨?_, nb⟩, fun b xs e => ?_, fun b o u e => (upd_ne (show b ≠ a from fun z => hnf o u (by rw [← z]; exact e))).trans e⟩
    · by_cases z : b = a
      · exact ⟨o, by rw [z]; exact upd_same⟩
      · exact ⟨u, (upd_ne z).trans e⟩
    · exact (upd_ne (show b ≠ a from fun z => nb (by rw [z]; exact ha))).trans e
    · have nb : b ≠ a := fun z => hnt xs (z ▸ e)
      rcases e with e | ⟨u, e⟩
      · exact .inl ((upd_ne nb).trans e)
      · exact .inr ⟨u, (upd_ne nb).trans e⟩
  refine ⟨l, ⟨by rw [List.length_set]; exact s.len, s.nd, fun m b k' e1 e2 => ?_, s.nb, fun b hb => ?_⟩⟩
  · by_cases hm : m = n
    · subst hm
      have : b = a := by
        have e1' : c.ρ[m]? = some b := e1
        rw [hn] at e1'
        exact (Option.some.inj e1').symm
      subst this
      have hlt : m < h.length := by
        rw [← s.len]; exact (List.getElem?_eq_some_iff.mp hn).1
      rw [List.getElem?_set_self hlt] at e2
      cases e2
      exact hk _ l upd_same
    · rw [List.getElem?_set_ne (Ne.symm hm)] at e2
      have nb : b ≠ a := fun z => hm (by
        subst z
        obtain ⟨h1, e1'⟩ := List.getElem?_eq_some_iff.mp e1
        obtain ⟨h2, e2'⟩ := List.getElem?_eq_some_iff.mp hn
        exact (List.getElem_inj s.nd).mp (e1'.trans e2'.symm))
      exact (s.cells m b k' e1 e2).le l (upd_ne nb)
  · obtain ⟨u, e⟩ := s.bt b hb
    exact ⟨u, (upd_ne (show b ≠ a from fun z => s.nb a ha (by rw [← z]; exact hb))).trans e⟩
abbrev Ev := List (Option D)
structure EnvR (c : RC) (ε : Ev) (σ : L2.St) : Prop where
  len : ε.length = σ.length
  at_ : ∀ (i : Nat) (d : D), ε[i]? = some (some d) → ∃ v, σ[i]? = some (some v) ∧ Rep c d v
theorem EnvR.le {c c' : RC} (l : c.Le c') {ε : Ev} {σ : L2.St} (r : EnvR c ε σ) : EnvR c' ε σ :=
  ⟨r.len, fun i d e => let ⟨v, h1, h2⟩ := r.at_ i d e; ⟨v, h1, h2.le l⟩⟩
theorem EnvR.set {c : RC} {ε : Ev} {σ : L2.St} (r : EnvR c ε σ) {d : D} {v : V} (rv : Rep c d v) (i : Nat) : EnvR c (ε.set i (some d)) (σ.set i (some v)) := by
  refine ⟨by rw [List.length_set, List.length_set]; exact r.len, fun j e h => ?_⟩
  by_cases hj : i = j
  · subst hj
    have hi : i < ε.length := by
      have := (List.getElem?_eq_some_iff.mp h).1
      rwa [List.length_set] at this
    rw [List.getElem?_set_self hi] at h
    cases h
    exact ⟨v, by rw [List.getElem?_set_self (by rw [← r.len]; exact hi)], rv⟩
  · rw [List.getElem?_set_ne hj] at h
    obtain ⟨w, h1, h2⟩ := r.at_ j e h
    exact ⟨w, by rw [List.getElem?_set_ne hj]; exact h1, h2⟩
end PD
namespace PD
open PySem PySem.Spec PyProof.Rows L2
variable [LamTab]
structure Ex where
  cls : Str
  fs : List (Str × D)
inductive R (α : Type) where
  | ok (a : α)
  | ex (e : Ex)
abbrev O (α : Type) := Option (R α × EH)
def ExR (c : RC) (e : Ex) (cls : Value) (dx : Option Addr) : Prop := ∃ Ca d vs, cls = .ref Ca ∧ c.mg e.cls = some (.ref Ca) ∧ dx = some d ∧ c.H d = some (.xd vs) ∧ c.fr d ∧ RepF c e.fs vs
def bR {α β : Type} (x : O α) (f : α → EH → O β) : O β := match x with
  | some (.ok a, h) => f a h
  | some (.ex e, h) => some (.ex e, h)
  | none => none
theorem bR_ok {α β : Type} (a : α) (h : EH) (f : α → EH → O β) : bR (some (.ok a, h)) f = f a h := (rfl)
theorem bR_ex {α β : Type} (e : Ex) (h : EH) (f : α → EH → O β) : bR (some (.ex e, h)) f = some (.ex e, h) := (rfl)
/-- a value, the cells as they are -/
def rt {α : Type} (x : Option α) (h : EH) : O α := match x with
  | some a => some (.ok a, h)
  | none => none
theorem rt_some {α : Type} (a : α) (h : EH) : rt (some a) h = some (.ok a, h) := (rfl)
abbrev M (α : Type) := Ev → EH → O α
/-- what is wanted of an exception -/
def Px {α : Type} (W : WX) (c : RC) (σ : L2.St) (r : R α) (h' : EH) : Prop := ∀ x, r = .ex x → ∀ c' cls dx, c.Le c' → SR c' h' → ExR c' x cls dx → W cls dx σ c'.H
theorem Px.le {α : Type} {W : WX} {c c1 : RC} {σ : L2.St} {r : R α} {h' : EH} (p : Px W c σ r h') (l : c.Le c1) : Px W c1 σ r h' := fun x e c' cls dx l' s q => p x e c' cls dx (l.trans l') s q
theorem Px.ok {α : Type} {W : WX} {c : RC} {σ : L2.St} {a : α} {h' : EH} : Px W c σ (.ok a) h' := fun _ e => nomatch e
/-- the reading of a mirror -/
def tX {α β : Type} (Rl : RC → α → β → Prop) (K : PySem.W.Frag) (mg : Str → Option Value) (W : WX) (m : M α) : L2.St → Hp → (β → Hp → Prop) → Prop := fun σ H Q =>
  ∃ (c : RC) (ε : Ev) (h : EH) (r : R α) (h' : EH), c.K = K ∧ MgE c mg ∧ c.H = H ∧ SR c h ∧ EnvR c ε σ ∧ m ε h = some (r, h') ∧ Px W c σ r h' ∧
    ∀ a, r = .ok a → ∀ c' b, c.Le c' → SR c' h' → Rl c' a b → Q b c'.H
theorem tX.bind {α β γ : Type} {Rl : RC → α → β → Prop} {K : PySem.W.Frag} {mg : Str → Option Value} {W : WX} {m : M α} {k : α → EH → O γ} {c : RC} {ε : Ev} {h h' : EH} {r : R γ} {σ : L2.St} {Q : β → Hp → Prop}
    (hK : c.K = K) (hm : MgE c mg) (sr : SR c h) (er : EnvR c ε σ) (e : bR (m ε h) k = some (r, h')) (px : Px W c σ r h')
    (go : ∀ a h1 c1 b, k a h1 = some (r, h') → c.Le c1 → SR c1 h1 → Rl c1 a b → Q b c1.H) : tX Rl K mg W m σ c.H Q := by
  cases q : m ε h with
  | none => rw [q] at e; cases e
  | some z =>
    obtain ⟨r1, h1⟩ := z
    cases r1 with
    | ok a =>
      rw [q] at e
      exact ⟨c, ε, h, .ok a, h1, hK, hm, rfl, sr, er, q, Px.ok, fun a' ea c1 b l s rb => by cases ea; exact go a h1 c1 b e l s rb⟩
    | ex x =>
      rw [q] at e
      cases e
      exact ⟨c, ε, h, .ex x, _, hK, hm, rfl, sr, er, q, fun y ey => px y (by cases ey; rfl), fun a' ea => nomatch ea⟩
/-- the last step -/
theorem tX.last {α β : Type} {Rl : RC → α → β → Prop} {K : PySem.W.Frag} {mg : Str → Option Value} {W : WX} {m : M α} {c : RC} {ε : Ev} {h h' : EH} {r : R α} {σ : L2.St} {Q : β → Hp → Prop}
    (hK : c.K = K) (hm : MgE c mg) (sr : SR c h) (er : EnvR c ε σ) (e : m ε h = some (r, h')) (px : Px W c σ r h')
    (go : ∀ a, r = .ok a → ∀ c' b, c.Le c' → SR c' h' → Rl c' a b → Q b c'.H) : tX Rl K mg W m σ c.H Q := ⟨c, ε, h, r, h', hK, hm, rfl, sr, er, e, px, go⟩
abbrev tE := tX Rep
abbrev tT := tX (fun (_ : RC) (a b : Bool) => a = b)
abbrev tA := tX Reps
abbrev RE (X : Cx) (W : WX) (e : Expr) (m : M D) : Prop := PE X e (tE X.K X.mg W m)
abbrev RT (X : Cx) (W : WX) (e : Expr) (m : M Bool) : Prop := PT X e (tT X.K X.mg W m)
abbrev RW (X : Cx) (W : WX) (e : Expr) (m : M Bool) : Prop := PW X e (tT X.K X.mg W m)
abbrev RA (X : Cx) (W : WX) (es : List Expr) (m : M (List D)) : Prop := PA X es (tA X.K X.mg W m)
theorem pe_imp {X : Cx} {e : Expr} {t t' : TE} (h : PE X e t) (k : ∀ σ H Q, t' σ H Q → t σ H Q) : PE X e t' := ⟨fun pins s σ H Q I q => h.run pins s σ H Q I (k σ H Q q)⟩
theorem pt_imp {X : Cx} {e : Expr} {t t' : TT} (h : PT X e t) (k : ∀ σ H Q, t' σ H Q → t σ H Q) : PT X e t' := ⟨fun pins s σ H Q I q => h.run pins s σ H Q I (k σ H Q q)⟩
theorem pw_imp {X : Cx} {e : Expr} {t t' : TT} (h : PW X e t) (k : ∀ σ H Q, t' σ H Q → t σ H Q) : PW X e t' := ⟨fun wh pins s σ H Q I q => h.run wh pins s σ H Q I (k σ H Q q)⟩
theorem pa_imp {X : Cx} {es : List Expr} {t t' : TA} (h : PA X es t) (k : ∀ σ H Q, t' σ H Q → t σ H Q) : PA X es t' := ⟨fun pos pins s σ H Q I q => h.run pos pins s σ H Q I (k σ H Q q)⟩
def mVar (i : Nat) : M D := fun ε h => rt (ε.getD i none) h
def mC (d : D) : M D := fun _ h => some (.ok d, h)
section
variable {X : Cx} {W : WX}
theorem re_var (i : Nat) {x : Str} {pos : Pos} (hN : X.N[i]? = some x := by rfl) (hv : Vis X.env.scope x := by first | exact Or.inl rfl | exact Or.inr (Or.inl rfl) | exact Or.inr (Or.inr rfl)) (hd : (x == ("__debug__" : Str)) = false := by decide)
    (hcd : (x == ("__classdict__" : Str)) = false := by decide) : RE X W (.Name x pos) (mVar i) := by
  refine pe_imp (pe_var hN hv hd hcd) fun σ H Q h => ?_
  obtain ⟨c, ε, h, r, h', hK, hm, rfl, sr, er, e, px, go⟩ := h
  cases q : ε.getD i none with
  | none => rw [mVar, q] at e; cases e
  | some d =>
    rw [mVar, q] at e
    cases e
    have q2 : ε[i]? = some (some d) := by
      rw [List.getD_eq_getElem?_getD] at q
      cases z : ε[i]? with
      | none => rw [z] at q; cases q
      | some y => rw [z] at q; exact congrArg some q
    obtain ⟨v, h1, h2⟩ := er.at_ i d q2
    exact ⟨v, h1, go d rfl c v (.refl c) sr h2⟩
theorem re_c {e : Expr} {d : D} {v : V} (h : PE X e (tC v)) (r : ∀ c : RC, c.K = X.K → MgE c X.mg → Rep c d v) : RE X W e (mC d) := by
  refine pe_imp h fun σ H Q h => ?_
  obtain ⟨c, ε, h, r', h', hK, hm, rfl, sr, er, e, px, go⟩ := h
  cases e
  exact go d rfl c v (.refl c) sr (r c hK hm)
theorem re_int {i j pos} : RE X W (.Constant (.int i) j pos) (mC (.int i)) := re_c pe_int fun _ _ _ => .int i
theorem re_bl {b j pos} : RE X W (.Constant (.bool b) j pos) (mC (.bl b)) := re_c pe_bl fun _ _ _ => .bl b
theorem re_non {j pos} : RE X W (.Constant .none j pos) (mC .non) := re_c pe_non fun _ _ _ => .non
theorem re_str (cs : List Nat) {x j pos} (e : x.cps.toList = cs := by decide +kernel) : RE X W (.Constant (.str x) j pos) (mC (.str cs)) := re_c pe_str fun _ _ _ => by
  subst e
  exact .str x.cps.toList
def OpS (K : PySem.W.Frag) (mg : Str → Option Value) (r : R2) (f : EH → D → D → Option D) : Prop := ∀ (c : RC) (h : EH) (x y : V) (dx dy d : D) (Q : VK), c.K = K → MgE c mg → SR c h → Rep c dx x → Rep c dy y → f h dx dy = some d →
  (∀ c' v, c.Le c' → SR c' h → Rep c' d v → Q v c'.H) → r x y c.H Q
def mBin (f : EH → D → D → Option D) (a b : M D) : M D := fun ε h => bR (a ε h) fun x h1 => bR (b ε h1) fun y h2 => rt (f h2 x y) h2
theorem top_of {K : PySem.W.Frag} {mg : Str → Option Value} {r : R2} {f : EH → D → D → Option D} {a b : M D} (hs : OpS K mg r f) {σ : L2.St} {H : Hp} {Q : VK} (h : tE K mg W (mBin f a b) σ H Q) : tOp r (tE K mg W a) (tE K mg W b) σ H Q := by
  obtain ⟨c, ε, h, r', h', hK, hm, rfl, sr, er, e, px, go⟩ := h
  unfold tOp
  refine tX.bind hK hm sr er e px fun dx h1 c1 x e1 l1 s1 r1 => ?_
  refine tX.bind (l1.K.trans hK) (l1.mg.trans hm) s1 (er.le l1) e1 (px.le l1) fun dy h2 c2 y e2 l2 s2 r2 => ?_
  cases q : f h2 dx dy with
  | none => rw [q] at e2; cases e2
  | some d =>
    rw [q] at e2
    cases e2
    exact hs c2 _ x y dx dy d Q ((l2.K.trans l1.K).trans hK) ((l2.mg.trans l1.mg).trans hm) s2 (r1.le l2) r2 q fun c' v l3 s3 r3 => go d rfl c' v ((l1.trans l2).trans l3) s3 r3
theorem re_bin {op : Operator} {r : R2} {f : EH → D → D → Option D} {a b : Expr} {ma mb : M D} {pos : Pos} (ho : OpR X (binaryOp op) r) (hs : OpS X.K X.mg r f) (ha : RE X W a ma) (hb : RE X W b mb) : RE X W (.BinOp a op b pos) (mBin f ma mb) :=
  pe_imp (pe_op ho ha hb) fun _ _ _ h => top_of hs h
theorem re_cmp {op : CmpOp} {r : R2} {f : EH → D → D → Option D} {a b : Expr} {ma mb : M D} {pos : Pos} (ho : OpR X (compareOp op) r) (hs : OpS X.K X.mg r f) (ha : RE X W a ma) (hb : RE X W b mb) (hmk : behindInMarks op b = false) : RE X W (.Compare a [op] [b] pos) (mBin f ma mb) :=
  pe_imp (pe_cmpR ho ha hb hmk) fun _ _ _ h => top_of hs h
/-- a bool as a test -/
def asB (d : D) : Option Bool := match d with
  | .bl b => some b
  | _ => none
def mTst (m : M D) : M Bool := fun ε h => bR (m ε h) fun x h1 => rt (asB x) h1
theorem tB_of {K : PySem.W.Frag} {mg : Str → Option Value} {m : M D} {σ : L2.St} {H : Hp} {Q : Bool → Hp → Prop} (h : tT K mg W (mTst m) σ H Q) : tE K mg W m σ H fun x H1 => ∃ c, x = .bl c ∧ Q c H1 := by
  obtain ⟨c, ε, h, r', h', hK, hm, rfl, sr, er, e, px, go⟩ := h
  refine tX.bind hK hm sr er e px fun dx h1 c1 x e1 l1 s1 r1 => ?_
  cases r1 with
  | bl b => cases e1; exact ⟨b, rfl, go b rfl c1 b l1 s1 rfl⟩
  | _ => cases e1
theorem rt_cmp {op : CmpOp} {r : R2} {f : EH → D → D → Option D} {a b : Expr} {ma mb : M D} {pos : Pos} (ho : OpR X (compareOp op) r) (hs : OpS X.K X.mg r f) (ha : RE X W a ma) (hb : RE X W b mb) (hmk : behindInMarks op b = false) : RT X W (.Compare a [op] [b] pos) (mTst (mBin f ma mb)) :=
  pt_imp (pt_cmpR ho ha hb hmk) fun σ H Q h => top_of hs (tB_of h)
theorem rt_val {e : Expr} {m : M D} (h : RE X W e m) (he : ∀ whole, isTrue e X.env whole = (do let v ← whole; standAt e.pos; holding [v] (truthy v)) := by intro _; rfl) : RT X W e (mTst m) :=
  pt_imp (pt_val h he) fun σ H Q h => tB_of h
def mNot (a : M Bool) : M Bool := fun ε h => bR (a ε h) fun b h1 => some (.ok (!b), h1)
def mAnd (a b : M Bool) : M Bool := fun ε h => bR (a ε h) fun x h1 => if x = true then b ε h1 else some (.ok false, h1)
def mOr (a b : M Bool) : M Bool := fun ε h => bR (a ε h) fun x h1 => if x = true then some (.ok true, h1) else b ε h1
def mIf {α : Type} (t : M Bool) (a b : M α) : M α := fun ε h => bR (t ε h) fun x h1 => if x = true then a ε h1 else b ε h1
theorem rt_not {a : Expr} {ma : M Bool} {pos : Pos} (ha : RT X W a ma) : RT X W (.UnaryOp .Not a pos) (mNot ma) := by
  refine pt_imp (pt_not ha) fun σ H Q h => ?_
  obtain ⟨c, ε, h, r', h', hK, hm, rfl, sr, er, e, px, go⟩ := h
  unfold tNot
  refine tX.bind hK hm sr er e px fun x h1 c1 b e1 l1 s1 r1 => ?_
  cases e1
  subst r1
  exact go _ rfl c1 _ l1 s1 rfl
theorem rw_and1 {a : Expr} {ma : M Bool} {pos : Pos} (ha : RT X W a ma) : RW X W (.BoolOp .And [a] pos) ma := pw_and1 ha
theorem rw_or1 {a : Expr} {ma : M Bool} {pos : Pos} (ha : RT X W a ma) : RW X W (.BoolOp .Or [a] pos) ma := pw_or1 ha
theorem rw_and {a b : Expr} {rest : List Expr} {ma mb : M Bool} {pos : Pos} (ha : RT X W a ma) (hb : RW X W (.BoolOp .And (b :: rest) pos) mb) : RW X W (.BoolOp .And (a :: b :: rest) pos) (mAnd ma mb) := by
  refine pw_imp (pw_and ha hb) fun σ H Q h => ?_
  obtain ⟨c, ε, h, r', h', hK, hm, rfl, sr, er, e, px, go⟩ := h
  unfold tAnd
  refine tX.bind hK hm sr er e px fun x h1 c1 b e1 l1 s1 r1 => ?_
  subst r1
  cases x with
  | true => exact tX.last (l1.K.trans hK) (l1.mg.trans hm) s1 (er.le l1) e1 (px.le l1) fun a ea c' b l s r => go a ea c' b (l1.trans l) s r
  | false => cases e1; exact go _ rfl c1 _ l1 s1 rfl
theorem rw_or {a b : Expr} {rest : List Expr} {ma mb : M Bool} {pos : Pos} (ha : RT X W a ma) (hb : RW X W (.BoolOp .Or (b :: rest) pos) mb) : RW X W (.BoolOp .Or (a :: b :: rest) pos) (mOr ma mb) := by
  refine pw_imp (pw_or ha hb) fun σ H Q h => ?_
  obtain ⟨c, ε, h, r', h', hK, hm, rfl, sr, er, e, px, go⟩ := h
  unfold tOr
  refine tX.bind hK hm sr er e px fun x h1 c1 b e1 l1 s1 r1 => ?_
  subst r1
  cases x with
  | false => exact tX.last (l1.K.trans hK) (l1.mg.trans hm) s1 (er.le l1) e1 (px.le l1) fun a ea c' b l s r => go a ea c' b (l1.trans l) s r
  | true => cases e1; exact go _ rfl c1 _ l1 s1 rfl
theorem rt_bool {e : Expr} {m : M Bool} (h : RW X W e m) : RT X W e m := PW.pt h
/-- .. as values -/
def mAndV (a b : M D) : M D := fun ε h => bR (a ε h) fun x h1 => match x with
  | .bl true => b ε h1
  | .bl false => some (.ok (.bl false), h1)
  | _ => none
def mOrV (a b : M D) : M D := fun ε h => bR (a ε h) fun x h1 => match x with
  | .bl true => some (.ok (.bl true), h1)
  | .bl false => b ε h1
  | _ => none
def mNotV (a : M D) : M D := fun ε h => bR (a ε h) fun x h1 => match x with
  | .bl b => some (.ok (.bl (!b)), h1)
  | _ => none
theorem re_one {op} {a : Expr} {ma : M D} {pos : Pos} (ha : RE X W a ma) : RE X W (.BoolOp op [a] pos) ma := pe_one ha
theorem re_and {a b : Expr} {rest : List Expr} {ma mb : M D} {pos : Pos} (ha : RE X W a ma) (hb : RE X W (.BoolOp .And (b :: rest) pos) mb) : RE X W (.BoolOp .And (a :: b :: rest) pos) (mAndV ma mb) := by
  refine pe_imp (pe_and ha hb) fun σ H Q h => ?_
  obtain ⟨c, ε, h, r', h', hK, hm, rfl, sr, er, e, px, go⟩ := h
  unfold tAndV
  refine tX.bind hK hm sr er e px fun x h1 c1 b e1 l1 s1 r1 => ?_
  cases r1 with
  | bl k =>
    cases k with
    | true => exact ⟨true, rfl, tX.last (l1.K.trans hK) (l1.mg.trans hm) s1 (er.le l1) e1 (px.le l1) fun a ea c' b l s r => go a ea c' b (l1.trans l) s r⟩
    | false => cases e1; exact ⟨false, rfl, go _ rfl c1 _ l1 s1 (.bl false)⟩
  | _ => cases e1
theorem re_not {a : Expr} {ma : M D} {pos : Pos} (ha : RE X W a ma) : RE X W (.UnaryOp .Not a pos) (mNotV ma) := by
  refine pe_imp (pe_not ha) fun σ H Q h => ?_
  obtain ⟨c, ε, h, r', h', hK, hm, rfl, sr, er, e, px, go⟩ := h
  unfold tNotV
  refine tX.bind hK hm sr er e px fun x h1 c1 b e1 l1 s1 r1 => ?_
  cases r1 with
  | bl k => cases e1; exact ⟨k, rfl, go _ rfl c1 _ l1 s1 (.bl _)⟩
  | _ => cases e1
def mNil : M (List D) := fun _ h => some (.ok [], h)
def mCons (a : M D) (b : M (List D)) : M (List D) := fun ε h => bR (a ε h) fun x h1 => bR (b ε h1) fun xs h2 => some (.ok (x :: xs), h2)
theorem ra_nil : RA X W [] mNil := by
  refine pa_imp pa_nil fun σ H Q h => ?_
  obtain ⟨c, ε, h, r', h', hK, hm, rfl, sr, er, e, px, go⟩ := h
  cases e
  exact go _ rfl c _ (.refl c) sr .nil
theorem ra_cons {e : Expr} {es : List Expr} {me : M D} {m : M (List D)} (ha : RE X W e me) (hr : RA X W es m) (hs : starEach (e :: es) X.env = (false, eval e X.env) :: starEach es X.env := by rfl) : RA X W (e :: es) (mCons me m) := by
  refine pa_imp (pa_cons ha hr hs) fun σ H Q h => ?_
  obtain ⟨c, ε, h, r', h', hK, hm, rfl, sr, er, e, px, go⟩ := h
  unfold tCons
  refine tX.bind hK hm sr er e px fun x h1 c1 b e1 l1 s1 r1 => ?_
  refine tX.bind (l1.K.trans hK) (l1.mg.trans hm) s1 (er.le l1) e1 (px.le l1) fun xs h2 c2 ys e2 l2 s2 r2 => ?_
  cases e2
  exact go _ rfl c2 _ (l1.trans l2) s2 (.cons (r1.le l2) r2)
def szL {α : Type} (ds : List α) (d : D) : Option D := if ds.length ≤ sizeLine then some d else none
def mTup (m : M (List D)) : M D := fun ε h => bR (m ε h) fun ds h1 => rt (szL ds (.tup ds)) h1
def mLst (m : M (List D)) : M D := fun ε h => bR (m ε h) fun ds h1 => rt (szL ds (.lst ds)) h1
theorem szL_some {α : Type} {ds : List α} {d e : D} (h : szL ds d = some e) : ds.length ≤ sizeLine ∧ e = d := by
  unfold szL at h
  split at h
  · exact ⟨by assumption, (Option.some.inj h).symm⟩
  · cases h
theorem re_tup {es : List Expr} {m : M (List D)} {x1 pos} (h : RA X W es m) : RE X W (.Tuple es x1 pos) (mTup m) := by
  refine pe_imp (pe_tup h) fun σ H Q h => ?_
  obtain ⟨c, ε, h, r', h', hK, hm, rfl, sr, er, e, px, go⟩ := h
  unfold tTup
  refine tX.bind hK hm sr er e px fun ds h1 c1 xs e1 l1 s1 r1 => ?_
  cases q : szL ds (.tup ds) with
  | none => rw [q] at e1; cases e1
  | some d =>
    rw [q] at e1
    cases e1
    obtain ⟨hz, rfl⟩ := szL_some q
    refine ⟨by rw [← r1.length]; exact hz, fun p hp => ?_⟩
    obtain ⟨l2, s2, f2⟩ := s1.new (o := .tup xs) hp
    exact go _ rfl _ _ (l1.trans l2) s2 (.tup (.inl (.inl upd_same)) (r1.le l2))
theorem re_lst {es : List Expr} {m : M (List D)} {pos} (h : RA X W es m) : RE X W (.List es pos) (mLst m) := by
  refine pe_imp (pe_lst h) fun σ H Q h => ?_
  obtain ⟨c, ε, h, r', h', hK, hm, rfl, sr, er, e, px, go⟩ := h
  unfold tLst
  refine tX.bind hK hm sr er e px fun ds h1 c1 xs e1 l1 s1 r1 => ?_
  cases q : szL ds (.lst ds) with
  | none => rw [q] at e1; cases e1
  | some d =>
    rw [q] at e1
    cases e1
    obtain ⟨hz, rfl⟩ := szL_some q
    refine ⟨by rw [← r1.length]; exact hz, fun p hp => ?_⟩
    obtain ⟨l2, s2, f2⟩ := s1.new (o := .lst xs) hp
    exact go _ rfl _ _ (l1.trans l2) s2 (.lst upd_same f2 (r1.le l2))
end
end PD
namespace PD
open PySem PySem.Spec PyProof.Rows L2
variable [LamTab]
/-- one's own list -/
def asO (h : EH) (d : D) : Option (List D) := match d with
  | .lst ds => some ds
  | .ref n => match h[n]? with
    | some (.lst ds) => some ds
    | _ => none
  | _ => none
/-- a list -/
def asL (h : EH) (d : D) : Option (List D) := match d with
  | .scr ds => some ds
  | d => asO h d
/-- a list or a tuple -/
def asS (h : EH) (d : D) : Option (List D) := match d with
  | .tup ds => some ds
  | d => asL h d
theorem asO_ok {c : RC} {h : EH} {d : D} {ds : List D} {v : V} (s : SR c h) (r : Rep c d v) (e : asO h d = some ds) : ∃ a xs, v = .ref a ∧ c.H a = some (.lst xs) ∧ Reps c ds xs := by
  cases r with
  | lst h1 f r => cases e; exact ⟨_, _, rfl, h1, r⟩
  | @ref n a hn =>
    unfold asO at e
    cases q : h[n]? with
    | none => simp only [q] at e; cases e
    | some k =>
      have cr := s.cells n a k hn q
      cases k with
      | lst es =>
        simp only [q] at e
        cases e
        obtain ⟨xs, e1, e2⟩ := cr
        exact ⟨a, xs, rfl, e1, e2⟩
      | _ => simp only [q] at e; cases e
  | _ => cases e
theorem asL_ok {c : RC} {h : EH} {d : D} {ds : List D} {v : V} (s : SR c h) (r : Rep c d v) (e : asL h d = some ds) : ∃ a xs, v = .ref a ∧ SqL c.K c.H a xs ∧ Reps c ds xs := by
  cases r with
  | scr h1 r => cases e; exact ⟨_, _, rfl, h1.sq, r⟩
  | lst h1 f r => cases e; exact ⟨_, _, rfl, .inl (.inl h1), r⟩
  | ref hn => obtain ⟨a, xs, e1, e2, e3⟩ := asO_ok s (.ref hn) e; exact ⟨a, xs, e1, .inl (.inl e2), e3⟩
  | _ => cases e
theorem asS_ok {c : RC} {h : EH} {d : D} {ds : List D} {v : V} (s : SR c h) (r : Rep c d v) (e : asS h d = some ds) : ∃ a xs, v = .ref a ∧ (SqL c.K c.H a xs ∨ SqT c.K c.H a xs) ∧ Reps c ds xs := by
  cases r with
  | tup h1 r => cases e; exact ⟨_, _, rfl, .inr h1, r⟩
  | scr h1 r => cases e; exact ⟨_, _, rfl, .inl h1.sq, r⟩
  | lst h1 f r => obtain ⟨a, xs, e1, e2, e3⟩ := asL_ok s (.lst h1 f r) e; exact ⟨a, xs, e1, .inl e2, e3⟩
  | ref hn => obtain ⟨a, xs, e1, e2, e3⟩ := asL_ok s (.ref hn) e; exact ⟨a, xs, e1, .inl e2, e3⟩
  | _ => cases e
/-- a new object's place: what one may say behind it -/
theorem put_ok {c : RC} {h : EH} (s : SR c h) {Q : VK} {d : D} {o : HO} (go : ∀ c' v, c.Le c' → SR c' h → Rep c' d v → Q v c'.H) (r : ∀ p, c.H p = none → c.Le (c.put p o) → (c.put p o).fr p → Rep (c.put p o) d (.ref p)) : ∀ p, c.H p = none → Q (.ref p) (upd c.H p o) := fun p hp => by
  obtain ⟨l, s', f⟩ := s.new (o := o) hp
  exact go _ _ l s' (r p hp l f)
theorem put_lst {c : RC} {h : EH} (s : SR c h) {Q : VK} {ds : List D} {xs : List V} (go : ∀ c' v, c.Le c' → SR c' h → Rep c' (.lst ds) v → Q v c'.H) (r : Reps c ds xs) : ∀ p, c.H p = none → Q (.ref p) (upd c.H p (.lst xs)) :=
  put_ok s go fun _ _ l f => .lst upd_same f (r.le l)
theorem put_tup {c : RC} {h : EH} (s : SR c h) {Q : VK} {ds : List D} {xs : List V} (go : ∀ c' v, c.Le c' → SR c' h → Rep c' (.tup ds) v → Q v c'.H) (r : Reps c ds xs) : ∀ p, c.H p = none → Q (.ref p) (upd c.H p (.tup xs)) :=
  put_ok s go fun _ _ l f => .tup (.inl (.inl upd_same)) (r.le l)
section
variable {K : PySem.W.Frag} {mg : Str → Option Value}
theorem OpS.or {r r' : R2} {f g : EH → D → D → Option D} (h : OpS K mg r f) (h' : OpS K mg r' g) : OpS K mg (fun x y H Q => r x y H Q ∨ r' x y H Q) (fun h x y => (f h x y).or (g h x y)) := by
  intro c eh x y dx dy d Q hK hm sr rx ry e go
  dsimp only at e
  cases q : f eh dx dy with
  | some z => rw [q] at e; cases e; exact .inl (h c eh x y dx dy _ Q hK hm sr rx ry q go)
  | none => rw [q] at e; exact .inr (h' c eh x y dx dy d Q hK hm sr rx ry e go)
def dI2 (f : Int → Int → Option D) : EH → D → D → Option D := fun _ x y => match x, y with
  | .int i, .int j => f i j
  | _, _ => none
theorem ops_I0 (g : Int → Int → Int) : OpS K mg (rI0 fun i j => .int (g i j)) (dI2 fun i j => some (.int (g i j))) := by
  intro c eh x y dx dy d Q hK hm sr rx ry e go
  cases rx with
  | int i =>
    cases ry with
    | int j => cases e; exact ⟨i, j, rfl, rfl, go c _ (.refl c) sr (.int _)⟩
    | _ => cases e
  | _ => cases e
theorem ops_B0 (g : Int → Int → Bool) : OpS K mg (rI0 fun i j => .bl (g i j)) (dI2 fun i j => some (.bl (g i j))) := by
  intro c eh x y dx dy d Q hK hm sr rx ry e go
  cases rx with
  | int i =>
    cases ry with
    | int j => cases e; exact ⟨i, j, rfl, rfl, go c _ (.refl c) sr (.bl _)⟩
    | _ => cases e
  | _ => cases e
theorem ops_IC (C : Int → Int → Prop) [∀ i j, Decidable (C i j)] (g : Int → Int → Int) : OpS K mg (rI C fun i j => .int (g i j)) (dI2 fun i j => if C i j then some (.int (g i j)) else none) := by
  intro c eh x y dx dy d Q hK hm sr rx ry e go
  cases rx with
  | int i =>
    cases ry with
    | int j =>
      have e' : (if C i j then some (D.int (g i j)) else none) = some d := e
      by_cases hc : C i j
      · rw [if_pos hc] at e'; cases e'; exact ⟨i, j, rfl, rfl, hc, go c _ (.refl c) sr (.int _)⟩
      · rw [if_neg hc] at e'; cases e'
    | _ => cases e
  | _ => cases e
instance (i j : Int) : Decidable (CMul i j) := by unfold CMul; infer_instance
instance (i j : Int) : Decidable (CDiv i j) := by unfold CDiv; infer_instance
instance (i j : Int) : Decidable (CPow i j) := by unfold CPow; infer_instance
def dCatS (_ : EH) (x y : D) : Option D := match x, y with
  | .str a, .str b => if a.length + b.length ≤ sizeLine then some (.str (a ++ b)) else none
  | _, _ => none
theorem ops_catS : OpS K mg (fun x y H Q => ∃ i j, x = V.str i ∧ y = V.str j ∧ i.length + j.length ≤ sizeLine ∧ Q (.str (i ++ j)) H) dCatS := by
  intro c eh x y dx dy d Q hK hm sr rx ry e go
  cases rx with
  | str a =>
    cases ry with
    | str b =>
      have e' : (if a.length + b.length ≤ sizeLine then some (D.str (a ++ b)) else none) = some d := e
      by_cases hc : a.length + b.length ≤ sizeLine
      · rw [if_pos hc] at e'
        cases e'
        refine ⟨_, _, rfl, rfl, by simpa [Str.length] using hc, ?_⟩
        have ee : (⟨a.toArray⟩ : Str) ++ (⟨b.toArray⟩ : Str) = ⟨(a ++ b).toArray⟩ := by
          show (⟨a.toArray ++ b.toArray⟩ : Str) = _
          simp
        rw [ee]
        exact go c _ (.refl c) sr (.str _)
      · rw [if_neg hc] at e'; cases e'
    | _ => cases e
  | _ => cases e
def dCatL (h : EH) (x y : D) : Option D := match asO h x with
  | some a => (match asO h y with
    | some b => if a.length + b.length ≤ sizeLine then some (.lst (a ++ b)) else none
    | none => none)
  | none => none
theorem ops_catL : OpS K mg rCat dCatL := by
  intro c eh x y dx dy d Q hK hm sr rx ry e go
  unfold dCatL at e
  cases q : asO eh dx with
  | none => rw [q] at e; cases e
  | some a =>
    rw [q] at e
    dsimp only at e
    cases q2 : asO eh dy with
    | none => rw [q2] at e; cases e
    | some b =>
      rw [q2] at e
      dsimp only at e
      by_cases hc : a.length + b.length ≤ sizeLine
      · rw [if_pos hc] at e
        cases e
        obtain ⟨l, xs, rfl, h1, r1⟩ := asO_ok sr rx q
        obtain ⟨m, ys, rfl, h2, r2⟩ := asO_ok sr ry q2
        exact ⟨l, m, xs, ys, rfl, rfl, h1, h2, by rw [← r1.length, ← r2.length]; exact hc, put_lst sr go (r1.append r2)⟩
      · rw [if_neg hc] at e; cases e
def dCatT (_ : EH) (x y : D) : Option D := match x, y with
  | .tup a, .tup b => if a.length + b.length ≤ sizeLine then some (.tup (a ++ b)) else none
  | _, _ => none
theorem ops_catT : OpS K mg (rCatA K) dCatT := by
  intro c eh x y dx dy d Q hK hm sr rx ry e go
  subst hK
  cases rx with
  | @tup a1 ds1 xs1 h1 r1 =>
    cases ry with
    | @tup a2 ds2 xs2 h2 r2 =>
      have e' : (if ds1.length + ds2.length ≤ sizeLine then some (D.tup (ds1 ++ ds2)) else none) = some d := e
      by_cases hc : ds1.length + ds2.length ≤ sizeLine
      · rw [if_pos hc] at e'
        cases e'
        have q1 := r1.length
        have q2 := r2.length
        refine ⟨_, _, _, _, rfl, rfl, h1, h2, by omega, fun z => ?_, fun _ z => ?_, fun _ _ => put_tup sr go (r1.append r2)⟩
        · subst z
          cases r1
          exact go c _ (.refl c) sr (.tup h2 r2)
        · subst z
          cases r2
          rw [List.append_nil] at go
          exact go c _ (.refl c) sr (.tup h1 r1)
      · rw [if_neg hc] at e'; cases e'
    | _ => cases e
  | _ => cases e
end
def toPD : D → Option PyData
  | .non => some .none
  | .bl b => some (.bool b)
  | .int i => some (.int i)
  | .str cs => some (.str ⟨cs.toArray⟩)
  | .tup ds => (go ds).map .tuple
  | .lst ds => (go ds).map .list
  | _ => none
where go : List D → Option (List PyData)
  | [] => some []
  | d :: ds => match toPD d, go ds with
    | some x, some xs => some (x :: xs)
    | _, _ => none
mutual
theorem toPD_ok {c : RC} : ∀ {d : D} {v : V} {p : PyData}, Rep c d v → toPD d = some p → Dp c.K c.H v p
  | _, _, p, .non, e => by cases e; exact .non
  | _, _, p, .bl b, e => by cases e; exact .bl b
  | _, _, p, .int i, e => by cases e; exact .int i
  | _, _, p, .str cs, e => by cases e; exact .str _
  | .tup ds, _, p, .tup h r, e => by
    rw [toPD] at e
    cases q : toPD.go ds with
    | none => rw [q] at e; cases e
    | some ps => rw [q] at e; cases e; exact .tup h (toPDs_ok r q)
  | .lst ds, _, p, .lst h f r, e => by
    rw [toPD] at e
    cases q : toPD.go ds with
    | none => rw [q] at e; cases e
    | some ps => rw [q] at e; cases e; exact .lst (.inl (.inl h)) (toPDs_ok r q)
  | _, _, p, .obj _ _ _ _, e => by cases e
  | _, _, p, .dic _ _ _ _, e => by cases e
  | _, _, p, .ref _, e => by cases e
  | _, _, p, .scr _ _, e => by cases e
theorem toPDs_ok {c : RC} : ∀ {ds : List D} {vs : List V} {ps : List PyData}, Reps c ds vs → toPD.go ds = some ps → DpAll c.K c.H vs ps
  | _, _, ps, .nil, e => by cases e; exact .nil
  | d :: ds, _, ps, .cons h t, e => by
    rw [toPD.go] at e
    cases q1 : toPD d with
    | none => rw [q1] at e; cases e
    | some x =>
      cases q2 : toPD.go ds with
      | none => rw [q1, q2] at e; cases e
      | some xs => rw [q1, q2] at e; cases e; exact .cons (toPD_ok h q1) (toPDs_ok t q2)
end
/-- two data compared -/
def dEqv (x y : D) : Option Bool := match toPD x, toPD y with
  | some p, some q => if SeqAt.shaped p = true ∧ SeqAt.shaped q = true then some (PyData.eqv p q) else none
  | _, _ => none
def dEqD (neg : Bool) : EH → D → D → Option D := fun _ x y => (dEqv x y).map fun b => .bl (neg != b)
section
variable {K : PySem.W.Frag} {mg : Str → Option Value}
theorem dEqv_ok {c : RC} {x y : D} {v u : V} {b : Bool} (rx : Rep c x v) (ry : Rep c y u) (e : dEqv x y = some b) : ∃ d e, Dp c.K c.H v d ∧ Dp c.K c.H u e ∧ SeqAt.shaped d = true ∧ SeqAt.shaped e = true ∧ PyData.eqv d e = b := by
  unfold dEqv at e
  cases q1 : toPD x with
  | none => rw [q1] at e; cases e
  | some p =>
    cases q2 : toPD y with
    | none => rw [q1, q2] at e; cases e
    | some q =>
      rw [q1, q2] at e
      have e' : (if SeqAt.shaped p = true ∧ SeqAt.shaped q = true then some (PyData.eqv p q) else none) = some b := e
      by_cases hc : SeqAt.shaped p = true ∧ SeqAt.shaped q = true
      · rw [if_pos hc] at e'
        exact ⟨p, q, toPD_ok rx q1, toPD_ok ry q2, hc.1, hc.2, Option.some.inj e'⟩
      · rw [if_neg hc] at e'; cases e'
theorem ops_eqD : OpS K mg (rEqD K) (dEqD false) := by
  intro c eh x y dx dy d Q hK hm sr rx ry e go
  subst hK
  unfold dEqD at e
  cases q : dEqv dx dy with
  | none => rw [q] at e; cases e
  | some b =>
    rw [q] at e
    obtain ⟨p, r, h1, h2, h3, h4, h5⟩ := dEqv_ok rx ry q
    cases e
    exact ⟨p, r, h1, h2, h3, h4, by rw [h5]; exact go c _ (.refl c) sr (by cases b <;> exact .bl _)⟩
theorem ops_neD : OpS K mg (rNeD K) (dEqD true) := by
  intro c eh x y dx dy d Q hK hm sr rx ry e go
  subst hK
  unfold dEqD at e
  cases q : dEqv dx dy with
  | none => rw [q] at e; cases e
  | some b =>
    rw [q] at e
    obtain ⟨p, r, h1, h2, h3, h4, h5⟩ := dEqv_ok rx ry q
    cases e
    exact ⟨p, r, h1, h2, h3, h4, by rw [h5]; exact go c _ (.refl c) sr (by cases b <;> exact .bl _)⟩
/-- scalars, without a look at their signs -/
def scalD : D → D → Option Bool
  | .non, .non => some true | .non, .int _ => some false | .int _, .non => some false | .non, .bl _ => some false | .bl _, .non => some false | .non, .str _ => some false | .str _, .non => some false
  | .int a, .int b => some (decide (a = b)) | .bl a, .bl b => some (decide (a = b)) | .str a, .str b => some (decide (a = b))
  | .int _, .str _ => some false | .str _, .int _ => some false | .bl _, .str _ => some false | .str _, .bl _ => some false
  | _, _ => none
theorem scalD_ok {c : RC} {x y : D} {v u : V} {b : Bool} (rx : Rep c x v) (ry : Rep c y u) (e : scalD x y = some b) : scal v u = true ∧ decide (v = u) = b := by
  cases rx <;> cases ry <;> first
    | (cases e; done)
    | (cases e; exact ⟨rfl, by simp⟩)
theorem ops_eqS : OpS K mg rEq (fun _ x y => (scalD x y).map D.bl) := by
  intro c eh x y dx dy d Q hK hm sr rx ry e go
  dsimp only at e
  cases q : scalD dx dy with
  | none => rw [q] at e; cases e
  | some b =>
    rw [q] at e
    cases e
    obtain ⟨h1, h2⟩ := scalD_ok rx ry q
    exact ⟨h1, by rw [h2]; exact go c _ (.refl c) sr (.bl b)⟩
theorem ops_neS : OpS K mg rNe (fun _ x y => (scalD x y).map fun b => D.bl (!b)) := by
  intro c eh x y dx dy d Q hK hm sr rx ry e go
  dsimp only at e
  cases q : scalD dx dy with
  | none => rw [q] at e; cases e
  | some b =>
    rw [q] at e
    cases e
    obtain ⟨h1, h2⟩ := scalD_ok rx ry q
    exact ⟨h1, by rw [h2]; exact go c _ (.refl c) sr (.bl _)⟩
def dEq : EH → D → D → Option D := fun h x y => ((scalD x y).map D.bl).or (dEqD false h x y)
def dNe : EH → D → D → Option D := fun h x y => ((scalD x y).map fun b => D.bl (!b)).or (dEqD true h x y)
end
end PD
namespace PD
open PySem PySem.Spec PyProof.Rows L2
variable [LamTab]
section
variable {K : PySem.W.Frag} {mg : Str → Option Value}
/-- is None, is not None -/
def isNon : D → Bool
  | .non => true
  | _ => false
def dIsN (neg : Bool) (_ : EH) (x y : D) : Option D := match y with
  | .non => some (.bl (neg != isNon x))
  | _ => none
theorem isNon_ok {c : RC} {d : D} {v : V} (r : Rep c d v) : decide (v = .non) = isNon d := by cases r <;> simp [isNon]
theorem ops_isN : OpS K mg (fun x y H Q => y = .non ∧ Q (.bl (decide (x = .non))) H) (dIsN false) := by
  intro c eh x y dx dy d Q hK hm sr rx ry e go
  cases ry with
  | non => cases e; exact ⟨rfl, by rw [isNon_ok rx]; exact go c _ (.refl c) sr (by simpa using Rep.bl _)⟩
  | _ => cases e
theorem atI_map {c : RC} {ds : List D} {xs : List V} {i : Int} {d : D} (r : Reps c ds xs) (e : atI ds i = some d) : ∃ v, atI xs i = some v ∧ Rep c d v := by
  unfold atI at e ⊢
  rw [← r.length]
  cases q : ixN ds.length i with
  | none => rw [q] at e; cases e
  | some j => rw [q] at e; exact r.get e
def dIx (h : EH) (x y : D) : Option D := match y with
  | .int i => (match x with
    | .str z => if z.length ≤ sizeLine then (atI z i).map fun k => .str [k] else none
    | x => match asS h x with
      | some ds => atI ds i
      | none => none)
  | _ => none
theorem ops_ix : OpS K mg (rIx K) dIx := by
  intro c eh x y dx dy d Q hK hm sr rx ry e go
  subst hK
  cases ry with
  | int i =>
    have fin : ∀ ds, asS eh dx = some ds → atI ds i = some d → rIx c.K x (.int i) c.H Q := fun ds q e => by
      obtain ⟨a, xs, rfl, h1, r1⟩ := asS_ok sr rx q
      obtain ⟨v, h2, r2⟩ := atI_map r1 e
      rcases h1 with h1 | h1
      · exact .inl ⟨a, xs, i, v, rfl, rfl, h1, h2, go c v (.refl c) sr r2⟩
      · exact .inr (.inl ⟨a, xs, i, v, rfl, rfl, h1, h2, go c v (.refl c) sr r2⟩)
    cases rx with
    | str z =>
      have e' : (if z.length ≤ sizeLine then (atI z i).map fun k => D.str [k] else none) = some d := e
      by_cases hc : z.length ≤ sizeLine
      · rw [if_pos hc] at e'
        cases q : atI z i with
        | none => rw [q] at e'; cases e'
        | some k =>
          rw [q] at e'
          cases e'
          exact .inr (.inr ⟨_, i, k, rfl, rfl, by simpa [Str.length] using hc, by simpa using q, go c _ (.refl c) sr (.str [k])⟩)
      · rw [if_neg hc] at e'; cases e'
    | @tup a ds xs h1 r1 => exact fin ds rfl e
    | @lst a ds xs h1 f r1 => exact fin ds rfl e
    | @scr a ds xs h1 r1 => exact fin ds rfl e
    | @ref n a hn =>
      cases q : asS eh (.ref n) with
      | none => unfold dIx at e; simp only [q] at e; cases e
      | some ds => unfold dIx at e; simp only [q] at e; exact fin ds q e
    | _ => cases e
  | _ => cases e
end
def cutD {α : Type} (xs : List α) (lo hi : Option Int) : List α := (xs.drop (HT.sIx xs.length 0 lo)).take (HT.sIx xs.length xs.length hi - HT.sIx xs.length 0 lo)
def mNoP : M (Option Int) := fun _ h => some (.ok none, h)
def mSmP (m : M D) : M (Option Int) := fun ε h => bR (m ε h) fun x h1 => match x with
  | .int i => some (.ok (some i), h1)
  | _ => none
def tO (K : PySem.W.Frag) (mg : Str → Option Value) (W : WX) := tX (α := Option Int) (fun (_ : RC) a b => a = b) K mg W
abbrev RO (X : Cx) (W : WX) (e : Option Expr) (m : M (Option Int)) : Prop := PO X e (tO X.K X.mg W m)
theorem po_imp {X : Cx} {e : Option Expr} {t t' : TO} (h : PO X e t) (k : ∀ σ H Q, t' σ H Q → t σ H Q) : PO X e t' := ⟨fun pins s σ H Q I q => h.run pins s σ H Q I (k σ H Q q)⟩
def dSl (h : EH) (x : D) (lo hi : Option Int) : Option D := match x with
  | .str z => if z.length ≤ sizeLine then some (.str (cutD z lo hi)) else none
  | .tup ds => some (.tup (cutD ds lo hi))
  | x => match asL h x with
    | some ds => some (.lst (cutD ds lo hi))
    | none => none
def mSl (a : M D) (lo hi : M (Option Int)) : M D := fun ε h => bR (a ε h) fun x h1 => bR (lo ε h1) fun l h2 => bR (hi ε h2) fun u h3 => rt (dSl h3 x l u) h3
section
variable {X : Cx} {W : WX}
theorem ro_none : RO X W none mNoP := by
  refine po_imp po_none fun σ H Q h => ?_
  obtain ⟨c, ε, h, r', h', hK, hm, rfl, sr, er, e, px, go⟩ := h
  cases e
  exact go _ rfl c _ (.refl c) sr rfl
theorem ro_some {e : Expr} {m : M D} (h : RE X W e m) : RO X W (some e) (mSmP m) := by
  refine po_imp (po_some h) fun σ H Q h => ?_
  obtain ⟨c, ε, h, r', h', hK, hm, rfl, sr, er, e, px, go⟩ := h
  unfold tPart
  refine tX.bind hK hm sr er e px fun x h1 c1 b e1 l1 s1 r1 => ?_
  cases r1 with
  | int i => cases e1; exact ⟨i, rfl, go _ rfl c1 _ l1 s1 rfl⟩
  | _ => cases e1
end
end PD
namespace PD
open PySem PySem.Spec PyProof.Rows L2
variable [LamTab]
section
variable {X : Cx} {W : WX}
theorem cutV_reps {c : RC} {ds : List D} {xs : List V} (r : Reps c ds xs) (lo hi : Option Int) : Reps c (cutD ds lo hi) (cutV xs lo hi) := by
  unfold cutD cutV
  rw [← r.length]
  exact (r.drop _).take _
theorem cutS_cutD (z : List Nat) (lo hi : Option Int) : cutS ⟨z.toArray⟩ lo hi = ⟨(cutD z lo hi).toArray⟩ := by
  unfold cutS cutD
  simp [Str.length]
theorem re_slice {a : Expr} {lo hi : Option Expr} {ma : M D} {ml mh : M (Option Int)} {p2 pos : Pos} (ha : RE X W a ma) (hl : RO X W lo ml) (hh : RO X W hi mh) : RE X W (.Subscript a (.Slice lo hi none p2) pos) (mSl ma ml mh) := by
  refine pe_imp (pe_slice (sl_list.or (sl_tupA.or sl_str)) ha hl hh) fun σ H Q h => ?_
  obtain ⟨c, ε, h, r', h', hK, hm, rfl, sr, er, e, px, go⟩ := h
  unfold tSl
  refine tX.bind hK hm sr er e px fun x h1 c1 v e1 l1 s1 r1 => ?_
  refine tX.bind (l1.K.trans hK) (l1.mg.trans hm) s1 (er.le l1) e1 (px.le l1) fun lo' h2 c2 lo2 e2 l2 s2 r2 => ?_
  refine tX.bind ((l2.K.trans l1.K).trans hK) ((l2.mg.trans l1.mg).trans hm) s2 ((er.le l1).le l2) e2 ((px.le l1).le l2) fun hi' h3 c3 hi2 e3 l3 s3 r3 => ?_
  subst r2 r3
  have r1' := (r1.le l2).le l3
  have hK3 : c3.K = X.K := ((l3.K.trans l2.K).trans l1.K).trans hK
  cases q : dSl h3 x lo' hi' with
  | none => rw [q] at e3; cases e3
  | some d =>
    rw [q] at e3
    cases e3
    have go' : ∀ c' v, c3.Le c' → SR c' _ → Rep c' d v → Q v c'.H := fun c' v l s r => go d rfl c' v (((l1.trans l2).trans l3).trans l) s r
    have fin : ∀ ds, asL _ x = some ds → some (D.lst (cutD ds lo' hi')) = some d → rSlL X.K v lo' hi' c3.H Q := fun ds q e => by
      cases e
      obtain ⟨a, xs, rfl, h1, r1⟩ := asL_ok s3 r1' q
      exact ⟨a, xs, rfl, (by rw [← hK3]; exact h1), put_lst s3 go' (cutV_reps r1 lo' hi')⟩
    cases r1' with
    | str z =>
      have e' : (if z.length ≤ sizeLine then some (D.str (cutD z lo' hi')) else none) = some d := q
      by_cases hc : z.length ≤ sizeLine
      · rw [if_pos hc] at e'
        cases e'
        exact .inr (.inr ⟨_, rfl, by simpa [Str.length] using hc, by rw [cutS_cutD]; exact go' c3 _ (.refl c3) s3 (.str _)⟩)
      · rw [if_neg hc] at e'; cases e'
    | @tup a ds xs k1 k2 =>
      cases q
      refine .inr (.inl ⟨a, xs, rfl, by rw [← hK3]; exact k1, fun hw => ?_, fun _ => put_tup s3 go' (cutV_reps k2 lo' hi')⟩)
      have ez : cutD ds lo' hi' = ds := by
        unfold cutD
        rw [k2.length, hw.1, hw.2, List.drop_zero, Nat.sub_zero, List.take_of_length_le (by rw [k2.length]; exact Nat.le_refl _)]
      exact go' c3 _ (.refl c3) s3 (by rw [ez]; exact .tup k1 k2)
    | @lst a ds xs k1 k2 k3 => exact .inl (fin ds rfl q)
    | @scr a ds xs k1 k2 => exact .inl (fin ds rfl q)
    | @ref n a hn =>
      have q' : (match asL h' (D.ref n) with
        | some ds => some (D.lst (cutD ds lo' hi'))
        | none => none) = some d := q
      cases q2 : asL h' (D.ref n) with
      | none => rw [q2] at q'; cases q'
      | some ds => rw [q2] at q'; exact .inl (fin ds q2 q')
    | _ => cases q
def CallS (K : PySem.W.Frag) (mg : Str → Option Value) (r : List V → Hp → VK → Prop) (f : EH → List D → Option D) : Prop := ∀ (c : RC) (h : EH) (xs : List V) (ds : List D) (d : D) (Q : VK), c.K = K → MgE c mg → SR c h → Reps c ds xs → f h ds = some d →
  (∀ c' v, c.Le c' → SR c' h → Rep c' d v → Q v c'.H) → r xs c.H Q
def mCall (f : EH → List D → Option D) (a : M (List D)) : M D := fun ε h => bR (a ε h) fun xs h1 => rt (f h1 xs) h1
theorem tcb_of {K : PySem.W.Frag} {mg : Str → Option Value} {r : List V → Hp → VK → Prop} {f : EH → List D → Option D} {a : M (List D)} (hs : CallS K mg r f) {σ : L2.St} {H : Hp} {Q : VK} (h : tE K mg W (mCall f a) σ H Q) : tCB r (tA K mg W a) σ H Q := by
  obtain ⟨c, ε, h, r', h', hK, hm, rfl, sr, er, e, px, go⟩ := h
  unfold tCB
  refine tX.bind hK hm sr er e px fun ds h1 c1 xs e1 l1 s1 r1 => ?_
  cases q : f h1 ds with
  | none => rw [q] at e1; cases e1
  | some d =>
    rw [q] at e1
    cases e1
    exact hs c1 _ xs ds d Q (l1.K.trans hK) (l1.mg.trans hm) s1 r1 q fun c' v l s r => go d rfl c' v (l1.trans l) s r
variable {e : Expr} {es : List Expr} {x : Str} {p pos : Pos} {ma : M (List D)} {id : String} {T : String} {r : List V → Hp → VK → Prop} {f : EH → List D → Option D}
theorem re_callB (hc : CallR X (.builtin id) r) (hs : CallS X.K X.mg r f) (hm : X.mg x = none) (ha : RA X W (e :: es) ma) (hv : bootBuiltins x = some (.builtin id) := by decide +kernel) (hg : Gl X x := by rfl) (hn : x ≠ "__name__" := by decide) (hdb : (x == ("__debug__" : Str)) = false := by decide)
    (he : starEach (e :: es) X.env = (false, eval e X.env) :: starEach es X.env := by rfl) (hpl : (backTo pos (starEach es X.env)).any (·.1) = false := by rfl) : RE X W (.Call (.Name x p) (e :: es) [] pos) (mCall f ma) :=
  pe_imp (pe_callB hc hg hm hv ha hn hdb he hpl) fun _ _ _ h => tcb_of hs h
theorem re_callTy (hc : CallR X (.type T) r) (hs : CallS X.K X.mg r f) (hm : X.mg x = none) (ha : RA X W (e :: es) ma) (hv : bootBuiltins x = some (.type T) := by decide +kernel) (hg : Gl X x := by rfl) (hn : x ≠ "__name__" := by decide) (hdb : (x == ("__debug__" : Str)) = false := by decide)
    (he : starEach (e :: es) X.env = (false, eval e X.env) :: starEach es X.env := by rfl) (hpl : (backTo pos (starEach es X.env)).any (·.1) = false := by rfl) : RE X W (.Call (.Name x p) (e :: es) [] pos) (mCall f ma) :=
  pe_imp (pe_callTy hc hg hm hv ha hn hdb he hpl) fun _ _ _ h => tcb_of hs h
end
section
variable {K : PySem.W.Frag} {mg : Str → Option Value}
def dLen1 (h : EH) (d : D) : Option D := match d with
  | .str z => if z.length ≤ sizeLine then some (.int z.length) else none
  | d => (match asS h d with
    | some xs => some (.int xs.length)
    | none => none)
def dLen (h : EH) (ds : List D) : Option D := match ds with
  | [d] => dLen1 h d
  | _ => none
theorem cs_len : CallS K mg (fun xs H Q => ∃ x n, xs = [x] ∧ LenV K x H n ∧ Q (.int n) H) dLen := by
  intro c eh xs ds d Q hK hm sr rx e go
  subst hK
  match ds, rx, e with
  | [d0], .cons r0 .nil, e =>
    have fin : ∀ v xs, Rep c d0 v → asS eh d0 = some xs → d = .int xs.length → ∃ x n, [v] = [x] ∧ LenV c.K x c.H n ∧ Q (.int n) c.H := fun v xs r0 q eq => by
      subst eq
      obtain ⟨a, ys, rfl, h1, r1⟩ := asS_ok sr r0 q
      refine ⟨_, ys.length, rfl, ?_, ?_⟩
      · rcases h1 with h1 | h1
        · exact .inl ⟨ys, h1, rfl⟩
        · exact .inr ⟨ys, h1, rfl⟩
      · rw [← r1.length]; exact go c _ (.refl c) sr (.int _)
    cases r0 with
    | str z =>
      have e' : (if z.length ≤ sizeLine then some (D.int z.length) else none) = some d := e
      by_cases hc : z.length ≤ sizeLine
      · rw [if_pos hc] at e'
        cases e'
        exact ⟨_, z.length, rfl, ⟨by simpa [Str.length] using hc, by simp [Str.length]⟩, go c _ (.refl c) sr (.int _)⟩
      · rw [if_neg hc] at e'; cases e'
    | @tup a ds xs h1 r1 => exact fin _ ds (.tup h1 r1) rfl (by cases e; rfl)
    | @lst a ds xs h1 f r1 => exact fin _ ds (.lst h1 f r1) rfl (by cases e; rfl)
    | @scr a ds xs h1 r1 => exact fin _ ds (.scr h1 r1) rfl (by cases e; rfl)
    | @ref n a hn =>
      have e' : (match asS eh (D.ref n) with
        | some xs => some (D.int xs.length)
        | none => none) = some d := e
      cases q : asS eh (.ref n) with
      | none => rw [q] at e'; cases e'
      | some ds => rw [q] at e'; exact fin _ ds (.ref hn) q (by cases e'; rfl)
    | _ => cases e
  | [], _, e => cases e
  | _ :: _ :: _, _, e => cases e
def dInt1 (d : D) : Option D := match d with
  | .int i => some (.int i)
  | .bl k => some (.int (if k then 1 else 0))
  | .str z => if z.length ≤ 640 then (PySem.intText? ⟨z.toArray⟩).map .int else none
  | _ => none
def dInt (_ : EH) (ds : List D) : Option D := match ds with
  | [d] => dInt1 d
  | _ => none
theorem cs_int : CallS K mg (fun xs H Q => ((∃ i, xs = [.int i] ∧ Q (.int i) H) ∨ ∃ k, xs = [.bl k] ∧ Q (.int (if k then 1 else 0)) H) ∨ (∃ a n, xs = [.str a] ∧ PySem.intText? a = some n ∧ a.length ≤ 640 ∧ Q (.int n) H)) dInt := by
  intro c eh xs ds d Q hK hm sr rx e go
  match ds, rx, e with
  | [d0], .cons r0 .nil, e =>
    cases r0 with
    | int i => cases e; exact .inl (.inl ⟨i, rfl, go c _ (.refl c) sr (.int _)⟩)
    | bl k => cases e; exact .inl (.inr ⟨k, rfl, go c _ (.refl c) sr (.int _)⟩)
    | str z =>
      have e' : (if z.length ≤ 640 then (PySem.intText? ⟨z.toArray⟩).map D.int else none) = some d := e
      by_cases hc : z.length ≤ 640
      · rw [if_pos hc] at e'
        cases q : PySem.intText? ⟨z.toArray⟩ with
        | none => rw [q] at e'; cases e'
        | some n => rw [q] at e'; cases e'; exact .inr ⟨_, n, rfl, q, by simpa [Str.length] using hc, go c _ (.refl c) sr (.int _)⟩
      · rw [if_neg hc] at e'; cases e'
    | _ => cases e
  | [], _, e => cases e
  | _ :: _ :: _, _, e => cases e
def dList (h : EH) (ds : List D) : Option D := match ds with
  | [d] => (match asS h d with
    | some xs => some (.lst xs)
    | none => none)
  | _ => none
theorem cs_list : CallS K mg (fun xs H Q => ∃ p ys, xs = [.ref p] ∧ (SqL K H p ys ∨ SqT K H p ys) ∧ ∀ l, H l = none → Q (.ref l) (upd H l (.lst ys))) dList := by
  intro c eh xs ds d Q hK hm sr rx e go
  subst hK
  match ds, rx, e with
  | [d0], .cons r0 .nil, e =>
    cases q : asS eh d0 with
    | none => unfold dList at e; simp only [q] at e; cases e
    | some xs =>
      unfold dList at e
      simp only [q] at e
      cases e
      obtain ⟨a, ys, rfl, h1, r1⟩ := asS_ok sr r0 q
      exact ⟨a, ys, rfl, h1, put_lst sr go r1⟩
  | [], _, e => cases e
  | _ :: _ :: _, _, e => cases e
def dTuple (h : EH) (ds : List D) : Option D := match ds with
  | [d] => (match asS h d with
    | some xs => some (.tup xs)
    | none => none)
  | _ => none
def asBs : List D → Option (List Bool)
  | [] => some []
  | .bl b :: ds => (asBs ds).map (b :: ·)
  | _ :: _ => none
theorem asBs_ok {c : RC} : ∀ {ds : List D} {xs : List V} {bs : List Bool}, Reps c ds xs → asBs ds = some bs → xs = bs.map V.bl
  | _, _, bs, .nil, e => by cases e; rfl
  | _, _, bs, .cons h t, e => by
    cases h with
    | bl b =>
      unfold asBs at e
      rename_i ds vs
      cases q : asBs ds with
      | none => rw [q] at e; cases e
      | some cs => rw [q] at e; cases e; rw [asBs_ok t q]; rfl
    | _ => cases e
def dAll (h : EH) (ds : List D) : Option D := match ds with
  | [d] => (match asL h d with
    | some xs => (asBs xs).map fun bs => .bl (bs.all id)
    | none => none)
  | _ => none
theorem cs_all : CallS K mg (rAll K) dAll := by
  intro c eh xs ds d Q hK hm sr rx e go
  subst hK
  match ds, rx, e with
  | [d0], .cons r0 .nil, e =>
    cases q : asL eh d0 with
    | none => unfold dAll at e; simp only [q] at e; cases e
    | some xs =>
      unfold dAll at e
      simp only [q] at e
      obtain ⟨a, ys, rfl, h1, r1⟩ := asL_ok sr r0 q
      cases q2 : asBs xs with
      | none => rw [q2] at e; cases e
      | some bs => rw [q2] at e; cases e; exact ⟨a, bs, rfl, by rw [← asBs_ok r1 q2]; exact h1, go c _ (.refl c) sr (.bl _)⟩
  | [], _, e => cases e
  | _ :: _ :: _, _, e => cases e
end
end PD
namespace PD
open PySem PySem.Spec PyProof.Rows L2
variable [LamTab]
inductive RS where
  | nx (ε : Ev)
  | rt (d : D)
  | bk (ε : Ev)
  | ct (ε : Ev)
  | ex (e : Ex) (ε : Ev)
abbrev MS := Ev → EH → Option (RS × EH)
/-- what is wanted of a statement's end -/
def Fin (W : WX) (D : Ends) (c : RC) (r : RS) (h' : EH) : Prop := match r with
  | .nx ε' => ∀ c' σ', c.Le c' → SR c' h' → EnvR c' ε' σ' → D.nx σ' c'.H
  | .rt d => ∀ c' v, c.Le c' → SR c' h' → Rep c' d v → D.rt v c'.H
  | .bk ε' => ∀ c' σ', c.Le c' → SR c' h' → EnvR c' ε' σ' → D.bk σ' c'.H
  | .ct ε' => ∀ c' σ', c.Le c' → SR c' h' → EnvR c' ε' σ' → D.ct σ' c'.H
  | .ex e ε' => ∀ c' σ' cls dx, c.Le c' → SR c' h' → EnvR c' ε' σ' → ExR c' e cls dx → W cls dx σ' c'.H
theorem Fin.le {W : WX} {D : Ends} {c c1 : RC} {r : RS} {h' : EH} (f : Fin W D c r h') (l : c.Le c1) : Fin W D c1 r h' := by
  cases r with
  | nx ε' => exact fun c' σ' l' => f c' σ' (l.trans l')
  | rt d => exact fun c' v l' => f c' v (l.trans l')
  | bk ε' => exact fun c' σ' l' => f c' σ' (l.trans l')
  | ct ε' => exact fun c' σ' l' => f c' σ' (l.trans l')
  | ex e ε' => exact fun c' σ' cls dx l' => f c' σ' cls dx (l.trans l')
def tS (K : PySem.W.Frag) (mg : Str → Option Value) (W : WX) (m : MS) : TS := fun D σ H =>
  ∃ (c : RC) (ε : Ev) (h : EH) (r : RS) (h' : EH), c.K = K ∧ MgE c mg ∧ c.H = H ∧ SR c h ∧ EnvR c ε σ ∧ m ε h = some (r, h') ∧ Fin W D c r h'
abbrev RSt (X : Cx) (W : WX) (st : Stmt) (m : MS) : Prop := PS X st (tS X.K X.mg W m)
abbrev RSs (X : Cx) (W : WX) (sts : List Stmt) (m : MS) : Prop := PSs X sts (tS X.K X.mg W m)
theorem ps_imp {X : Cx} {st : Stmt} {t t' : TS} (h : PS X st t) (k : ∀ D σ H, t' D σ H → t D σ H) : PS X st t' := ⟨fun pins s σ H D I q => h.run pins s σ H D I (k D σ H q)⟩
theorem pss_imp {X : Cx} {st : List Stmt} {t t' : TS} (h : PSs X st t) (k : ∀ D σ H, t' D σ H → t D σ H) : PSs X st t' := ⟨fun pins s σ H D I q => h.run pins s σ H D I (k D σ H q)⟩
/-- an expression, then a statement's end -/
def bS {α : Type} (x : O α) (ε : Ev) (f : α → EH → Option (RS × EH)) : Option (RS × EH) := match x with
  | some (.ok a, h) => f a h
  | some (.ex e, h) => some (.ex e ε, h)
  | none => none
theorem tX.stm {α β : Type} {Rl : RC → α → β → Prop} {K : PySem.W.Frag} {mg : Str → Option Value} {W : WX} {m : M α} {k : α → EH → Option (RS × EH)} {c : RC} {ε : Ev} {h h' : EH} {r : RS} {σ : L2.St} {D : Ends} {Q : β → Hp → Prop}
    (hK : c.K = K) (hm : MgE c mg) (sr : SR c h) (er : EnvR c ε σ) (e : bS (m ε h) ε k = some (r, h')) (fin : Fin W D c r h')
    (go : ∀ a h1 c1 b, k a h1 = some (r, h') → c.Le c1 → SR c1 h1 → Rl c1 a b → Q b c1.H) : tX Rl K mg W m σ c.H Q := by
  cases q : m ε h with
  | none => rw [q] at e; cases e
  | some z =>
    obtain ⟨r1, h1⟩ := z
    cases r1 with
    | ok a =>
      rw [q] at e
      exact ⟨c, ε, h, .ok a, h1, hK, hm, rfl, sr, er, q, Px.ok, fun a' ea c1 b l s rb => by cases ea; exact go a h1 c1 b e l s rb⟩
    | ex x =>
      rw [q] at e
      cases e
      exact ⟨c, ε, h, .ex x, _, hK, hm, rfl, sr, er, q, fun y ey c' cls dx l s xr => by cases ey; exact fin c' σ cls dx l s (er.le l) xr, fun a' ea => nomatch ea⟩
section
variable {X : Cx} {W : WX}
def msNil : MS := fun ε h => some (.nx ε, h)
def msSeq (a b : MS) : MS := fun ε h => match a ε h with
  | some (.nx ε1, h1) => b ε1 h1
  | some (r, h1) => some (r, h1)
  | none => none
theorem rss_nil : RSs X W [] msNil := by
  refine pss_imp pss_nil fun D σ H h => ?_
  obtain ⟨c, ε, h, r, h', hK, hm, rfl, sr, er, e, fin⟩ := h
  cases e
  exact fin c σ (.refl c) sr er
theorem seq_of {K : PySem.W.Frag} {mg : Str → Option Value} {m1 m2 : MS} {D : Ends} {σ : L2.St} {H : Hp} (h : tS K mg W (msSeq m1 m2) D σ H) : tSeq (tS K mg W m1) (tS K mg W m2) D σ H := by
  obtain ⟨c, ε, h, r, h', hK, hm, rfl, sr, er, e, fin⟩ := h
  unfold msSeq at e
  cases q : m1 ε h with
  | none => rw [q] at e; cases e
  | some z =>
    obtain ⟨r1, h1⟩ := z
    rw [q] at e
    refine ⟨c, ε, h, r1, h1, hK, hm, rfl, sr, er, q, ?_⟩
    cases r1 with
    | nx ε1 => exact fun c' σ' l s en => ⟨c', ε1, h1, r, h', l.K.trans hK, l.mg.trans hm, rfl, s, en, e, fin.le l⟩
    | rt d => cases e; exact fin
    | bk ε' => cases e; exact fin
    | ct ε' => cases e; exact fin
    | ex x ε' => cases e; exact fin
theorem rss_cons {st : Stmt} {rest : List Stmt} {m1 m2 : MS} (h1 : RSt X W st m1) (h2 : RSs X W rest m2) : RSs X W (st :: rest) (msSeq m1 m2) :=
  pss_imp (pss_cons h1 h2) fun _ _ _ h => seq_of h
theorem rss_one {st : Stmt} {m : MS} (h : RSt X W st m) : RSs X W [st] m := pss_one h
def msRet (a : M D) : MS := fun ε h => bS (a ε h) ε fun d h1 => some (.rt d, h1)
theorem rs_ret {e : Expr} {m : M D} {pos : Pos} (he : RE X W e m) : RSt X W (.Return (some e) pos) (msRet m) := by
  refine ps_imp (ps_ret he) fun D σ H h => ?_
  obtain ⟨c, ε, h, r, h', hK, hm, rfl, sr, er, e, fin⟩ := h
  unfold tRet
  refine tX.stm hK hm sr er e fin fun d h1 c1 v e1 l1 s1 r1 => ?_
  cases e1
  exact fin c1 v l1 s1 r1
def msIf (t : M Bool) (a b : MS) : MS := fun ε h => bS (t ε h) ε fun k h1 => if k = true then a ε h1 else b ε h1
theorem rs_if {t : Expr} {a b : List Stmt} {mt : M Bool} {ma mb : MS} {pos : Pos} (ht : RT X W t mt) (ha : RSs X W a ma) (hb : RSs X W b mb) : RSt X W (.If t a b pos) (msIf mt ma mb) := by
  refine ps_imp (ps_if ht ha hb) fun D σ H h => ?_
  obtain ⟨c, ε, h, r, h', hK, hm, rfl, sr, er, e, fin⟩ := h
  unfold tIfS
  refine tX.stm hK hm sr er e fin fun k h1 c1 v e1 l1 s1 r1 => ?_
  subst r1
  cases k with
  | true => exact ⟨c1, ε, h1, r, h', l1.K.trans hK, l1.mg.trans hm, rfl, s1, er.le l1, e1, fin.le l1⟩
  | false => exact ⟨c1, ε, h1, r, h', l1.K.trans hK, l1.mg.trans hm, rfl, s1, er.le l1, e1, fin.le l1⟩
def msExpr (a : M D) : MS := fun ε h => bS (a ε h) ε fun _ h1 => some (.nx ε, h1)
def msBk : MS := fun ε h => some (.bk ε, h)
def msCt : MS := fun ε h => some (.ct ε, h)
abbrev MG := D → Ev → EH → Option (Ev × EH)
abbrev MGs := List D → Ev → EH → Option (Ev × EH)
/-- the slots but S are as they were -/
structure Save (S : List Nat) (σ σ' : L2.St) : Prop where
  len : σ'.length = σ.length
  at_ : ∀ i, i ∉ S → σ'[i]? = σ[i]?
theorem Save.refl {S : List Nat} {σ : L2.St} : Save S σ σ := ⟨rfl, fun _ _ => rfl⟩
def tG (K : PySem.W.Frag) (mg : Str → Option Value) (S : List Nat) (m : MG) : TG := fun v σ H Q => ∃ (c : RC) (d : D) (ε : Ev) (h : EH) (ε' : Ev) (h' : EH), c.K = K ∧ MgE c mg ∧ c.H = H ∧ SR c h ∧ Rep c d v ∧ EnvR c ε σ ∧ m d ε h = some (ε', h') ∧ ∀ c' σ', c.Le c' → SR c' h' → EnvR c' ε' σ' → Save S σ σ' → Q σ' c'.H
def tGs (K : PySem.W.Frag) (mg : Str → Option Value) (S : List Nat) (m : MGs) : TGs := fun vs σ H Q => ∃ (c : RC) (ds : List D) (ε : Ev) (h : EH) (ε' : Ev) (h' : EH), c.K = K ∧ MgE c mg ∧ c.H = H ∧ SR c h ∧ Reps c ds vs ∧ EnvR c ε σ ∧ m ds ε h = some (ε', h') ∧ ∀ c' σ', c.Le c' → SR c' h' → EnvR c' ε' σ' → Save S σ σ' → Q σ' c'.H
abbrev RG (X : Cx) (tg : Expr) (S : List Nat) (m : MG) : Prop := PG X tg (tG X.K X.mg S m)
abbrev RGs (X : Cx) (tgs : List Expr) (S : List Nat) (m : MGs) : Prop := PGs X tgs (tGs X.K X.mg S m)
theorem pg_imp {X : Cx} {tg : Expr} {t t' : TG} (h : PG X tg t) (k : ∀ v σ H Q, t' v σ H Q → t v σ H Q) : PG X tg t' := ⟨fun pins s σ H v u Q I r q => h.run pins s σ H v u Q I r (k v σ H Q q)⟩
theorem pgs_imp {X : Cx} {tg : List Expr} {t t' : TGs} (h : PGs X tg t) (k : ∀ v σ H Q, t' v σ H Q → t v σ H Q) : PGs X tg t' := ⟨fun pins s σ H v u Q I r q => h.run pins s σ H v u Q I r (k v σ H Q q)⟩
def mgName (i : Nat) : MG := fun d ε h => some (ε.set i (some d), h)
theorem rg_name (i : Nat) {x : Str} {pos : Pos} (hN : X.N.Nodup) (hi : X.N[i]? = some x := by rfl) (hx : Loc X.env.scope x := by first | exact Or.inl rfl | exact Or.inr rfl) (hf : X.fn x = true ∨ X.env.scope.names.lookup x = some .local := by first | exact .inl rfl | exact .inr rfl | assumption) : RG X (.Name x pos) [i] (mgName i) := by
  refine pg_imp (pg_name hN hi hx hf) fun v σ H Q h => ?_
  obtain ⟨c, d, ε, h, ε', h', hK, hm, rfl, sr, rv, er, e, go⟩ := h
  cases e
  exact go c _ (.refl c) sr (er.set rv i) ⟨List.length_set, fun j hj => List.getElem?_set_ne (fun z => hj (by simp [z]))⟩
def mgNil : MGs := fun ds ε h => match ds with
  | [] => some (ε, h)
  | _ :: _ => none
def mgCons (a : MG) (b : MGs) : MGs := fun ds ε h => match ds with
  | [] => none
  | d :: r => match a d ε h with
    | some (ε1, h1) => b r ε1 h1
    | none => none
theorem rgs_nil : RGs X [] [] mgNil := by
  refine pgs_imp pgs_nil fun vs σ H Q h => ?_
  obtain ⟨c, ds, ε, h, ε', h', hK, hm, rfl, sr, rv, er, e, go⟩ := h
  cases rv with
  | nil => cases e; exact ⟨rfl, go c σ (.refl c) sr er .refl⟩
  | cons _ _ => cases e
theorem rgs_cons {e : Expr} {es : List Expr} {S T : List Nat} {a : MG} {b : MGs} (h1 : RG X e S a) (h2 : RGs X es T b) (hs : (assignEach (e :: es) X.env).map (·.2) = assign e X.env :: (assignEach es X.env).map (·.2) := by rfl) : RGs X (e :: es) (S ++ T) (mgCons a b) := by
  refine pgs_imp (pgs_cons h1 h2 hs) fun vs σ H Q h => ?_
  obtain ⟨c, ds, ε, h, ε', h', hK, hm, rfl, sr, rv, er, e, go⟩ := h
  cases rv with
  | nil => cases e
  | @cons d ds v vs r t =>
    have e' : (match a d ε h with
      | some (ε1, h1) => b ds ε1 h1
      | none => none) = some (ε', h') := e
    cases q : a d ε h with
    | none => rw [q] at e'; cases e'
    | some z =>
      obtain ⟨ε1, h1⟩ := z
      rw [q] at e'
      exact ⟨v, vs, rfl, c, d, ε, h, ε1, h1, hK, hm, rfl, sr, r, er, q, fun c' σ' l s en sv => ⟨c', ds, ε1, h1, ε', h', l.K.trans hK, l.mg.trans hm, rfl, s, t.le l, en, e', fun c2 σ2 l2 s2 en2 sv2 => go c2 σ2 (l.trans l2) s2 en2
        ⟨sv2.len.trans sv.len, fun i hi => (sv2.at_ i fun z => hi (List.mem_append_right _ z)).trans (sv.at_ i fun z => hi (List.mem_append_left _ z))⟩⟩⟩
/-- (a, b, ..) = a tuple of that length -/
def mgTup (n : Nat) (ms : MGs) : MG := fun d ε h => match d with
  | .tup ds => if ds.length = n then ms ds ε h else none
  | _ => none
theorem rg_tup {es : List Expr} {k : Nat} {S : List Nat} {ms : MGs} {pos : Pos} {n : Nat} (hc : X.calm = true) (h : RGs X es S ms) (hn : (assignEach es X.env).length = n := by rfl) (hst : (assignEach es X.env).findIdx? (·.1) = none := by rfl) : RG X (.Tuple es k pos) S (mgTup n ms) := by
  refine pg_imp (pg_tup hc h hn hst) fun v σ H Q h => ?_
  obtain ⟨c, d, ε, h, ε', h', hK, hm, rfl, sr, rv, er, e, go⟩ := h
  cases rv with
  | @tup a ds xs k1 k2 =>
    have e' : (if ds.length = n then ms ds ε h else none) = some (ε', h') := e
    by_cases hl : ds.length = n
    · rw [if_pos hl] at e'
      exact ⟨a, xs, rfl, by rw [← hK]; exact k1, by rw [← k2.length]; exact hl, c, ds, ε, h, ε', h', hK, hm, rfl, sr, k2, er, e', go⟩
    · rw [if_neg hl] at e'; cases e'
  | _ => cases e
/-- o[i] = v, o a list cell -/
def putL (h : EH) (o i v : D) : Option EH := match o, i with
  | .ref n, .int k => (match h[n]? with
    | some (.lst ds) => (match ixN ds.length k with
      | some j => some (h.set n (.lst (ds.set j v)))
      | none => none)
    | _ => none)
  | _, _ => none
def mgSub (o i : M D) : MG := fun v ε h => match o ε h with
  | some (.ok x, h1) => (match i ε h1 with
    | some (.ok y, h2) => (putL h2 x y v).map fun h3 => (ε, h3)
    | _ => none)
  | _ => none
theorem rg_sub {o i : Expr} {mo mi : M D} {pos : Pos} {W : WX} (ho : RE X W o mo) (hi : RE X W i mi)
    (ha : ∀ v, assign (.Subscript o i pos) X.env v = (do
      let ov ← holding [v] (eval o X.env)
      let iv ← holding [v, ov] (eval i X.env)
      standAt pos
      holding [v, ov, iv] (setItem ov iv v)
      release [v, ov, iv] []) := by intro _; rfl) : RG X (.Subscript o i pos) [] (mgSub mo mi) := by
  refine pg_imp (pg_sub ho hi set_list ha) fun v σ H Q h => ?_
  obtain ⟨c, d, ε, h, ε', h', hK, hm, rfl, sr, rv, er, e, go⟩ := h
  unfold mgSub at e
  cases q : mo ε h with
  | none => rw [q] at e; cases e
  | some z =>
    obtain ⟨r1, h1⟩ := z
    cases r1 with
    | ex x => rw [q] at e; cases e
    | ok x =>
      rw [q] at e
      dsimp only at e
      refine ⟨c, ε, h, .ok x, h1, hK, hm, rfl, sr, er, q, Px.ok, fun x' ex c1 ov l1 s1 r1 => ?_⟩
      cases ex
      cases q2 : mi ε h1 with
      | none => rw [q2] at e; cases e
      | some z =>
        obtain ⟨r2, h2⟩ := z
        cases r2 with
        | ex x => rw [q2] at e; cases e
        | ok y =>
          rw [q2] at e
          dsimp only at e
          refine ⟨c1, ε, h1, .ok y, h2, l1.K.trans hK, l1.mg.trans hm, rfl, s1, er.le l1, q2, Px.ok, fun y' ey c2 iv l2 s2 r2 => ?_⟩
          cases ey
          cases q3 : putL h2 x y d with
          | none => rw [q3] at e; cases e
          | some h3 =>
            rw [q3] at e
            cases e
            cases r2 with
            | int k =>
              have r1' := r1.le l2
              cases r1' with
              | @ref n a hn =>
                unfold putL at q3
                dsimp only at q3
                cases q4 : h2[n]? with
                | none => rw [q4] at q3; cases q3
                | some cl =>
                  rw [q4] at q3
                  cases cl with
                  | lst ds =>
                    dsimp only at q3
                    obtain ⟨xs, e1, e2⟩ := s2.cells n a _ hn q4
                    cases q5 : ixN ds.length k with
                    | none => rw [q5] at q3; cases q3
                    | some j =>
                      rw [q5] at q3
                      cases q3
                      refine ⟨a, xs, k, j, rfl, rfl, e1, by rw [← e2.length]; exact q5, ?_⟩
                      have rv2 : Rep c2 d v := (rv.le l1).le l2
                      obtain ⟨l3, s3⟩ := s2.write (o := .lst (xs.set j v)) (k := .lst (ds.set j d)) hn (fun ys z => by
                        rcases z with z | ⟨u, z⟩ <;> rw [e1] at z <;> cases z) (fun o u z => by rw [e1] at z; cases z) fun c' l' eh => ⟨_, eh, (e2.le l').set (rv2.le l') j⟩
                      exact go _ σ ((l1.trans l2).trans l3) s3 (((er.le l1).le l2).le l3) .refl
                  | _ => cases q3
              | _ => cases q3
            | _ => cases x <;> cases q3
def bG (x : Option (Ev × EH)) : Option (RS × EH) := x.map fun z => (.nx z.1, z.2)
def msAsg (a : M D) (g : MG) : MS := fun ε h => bS (a ε h) ε fun d h1 => bG (g d ε h1)
theorem asg_of {K : PySem.W.Frag} {mg : Str → Option Value} {a : M D} {g : MG} {S : List Nat} {D : Ends} {σ : L2.St} {H : Hp} (h : tS K mg W (msAsg a g) D σ H) : tAsg (tE K mg W a) (tG K mg S g) D σ H := by
  obtain ⟨c, ε, h, r, h', hK, hm, rfl, sr, er, e, fin⟩ := h
  unfold tAsg
  refine tX.stm hK hm sr er e fin fun d h1 c1 v e1 l1 s1 r1 => ?_
  cases q : g d ε h1 with
  | none => rw [q] at e1; cases e1
  | some z =>
    obtain ⟨ε2, h2⟩ := z
    rw [q] at e1
    cases e1
    exact ⟨c1, d, ε, h1, ε2, _, l1.K.trans hK, l1.mg.trans hm, rfl, s1, r1, er.le l1, q, fun c' σ' l s en _ => fin c' σ' (l1.trans l) s en⟩
theorem rs_asg {tg e : Expr} {m : M D} {g : MG} {S : List Nat} {pos : Pos} (he : RE X W e m) (hg : RG X tg S g) (hs : swapsWithSole [tg] e pos.line X.env = pure false := by rfl) (hw : swappedStores [tg] e X.env = pure none := by rfl)
    (h1 : (assignEach [tg] X.env).map (·.2) = [assign tg X.env] := by rfl) : RSt X W (.Assign [tg] e pos) (msAsg m g) := ps_imp (ps_asg he hg hs hw h1) fun _ _ _ h => asg_of h
theorem rs_set (i : Nat) {x : Str} {e : Expr} {m : M D} {pos pos' : Pos} (hN : X.N.Nodup) (he : RE X W e m) (hi : X.N[i]? = some x := by rfl) (hx : Loc X.env.scope x := by first | exact Or.inl rfl | exact Or.inr rfl) (hs : swapsWith e (some (.Name x pos')) pos.line X.env = pure false := by rfl)
    (hf : X.fn x = true ∨ X.env.scope.names.lookup x = some .local := by first | exact .inl rfl | exact .inr rfl | assumption) : RSt X W (.Assign [.Name x pos'] e pos) (msAsg m (mgName i)) := by
  refine ps_imp (ps_set hN hi hx he hs hf) fun D σ H h => ?_
  obtain ⟨c, ε, h, r, h', hK, hm, rfl, sr, er, e, fin⟩ := h
  unfold tAsg
  refine tX.stm hK hm sr er e fin fun d h1 c1 v e1 l1 s1 r1 => ?_
  cases e1
  exact fin c1 _ l1 s1 ((er.le l1).set r1 i)
/-- a, b = x, y with plain local names -/
def msPar (i j : Nat) (m : M (List D)) : MS := fun ε h => bS (m ε h) ε fun ds h1 => match ds with
  | [d, e] => some (.nx ((ε.set i (some d)).set j (some e)), h1)
  | _ => none
end
end PD
namespace PD
open PySem PySem.Spec PyProof.Rows L2
variable [LamTab]
/-- the walk J gives ds -/
def WalkR (c : RC) (ds : List D) (J : It) : Prop := ∃ (G : Hp → Prop) (Y : Nat → Hp → V → Hp → Prop), Walk J ds.length G Y ∧ (∀ c', c.LeW c' → G c'.H) ∧
  ∀ (i : Nat) (x : V) (c' : RC) (h : EH) (H' : Hp), c.LeW c' → SR c' h → Y i c'.H x H' → ∃ c'', c''.H = H' ∧ c'.Le c'' ∧ SR c'' h ∧ ∃ d, ds[i]? = some d ∧ Rep c'' d x
theorem WalkR.le {c c1 : RC} {ds : List D} {J : It} (w : WalkR c ds J) (l : c.Le c1) : WalkR c1 ds J := by
  obtain ⟨G, Y, hw, hG, hY⟩ := w
  exact ⟨G, Y, hw, fun c' l' => hG c' (l.toW.trans l'), fun i x c' h H' l' => hY i x c' h H' (l.toW.trans l')⟩
def tI (K : PySem.W.Frag) (mg : Str → Option Value) (W : WX) (m : M (List D)) : TI := tX WalkR K mg W m
abbrev RI (X : Cx) (W : WX) (tg it : Expr) (m : M (List D)) : Prop := PI X tg it (tI X.K X.mg W m)
theorem pi_imp {X : Cx} {tg it : Expr} {t t' : TI} (h : PI X tg it t) (k : ∀ σ H Q, t' σ H Q → t σ H Q) : PI X tg it t' := ⟨fun pins s σ H R I q => h.run pins s σ H R I (k σ H R q)⟩
theorem walkR_list {c : RC} {a : Addr} {ds : List D} {xs : List V} (h : ∀ c', c.LeW c' → SqL c.K c'.H a xs) (r : Reps c ds xs) : WalkR c ds (Itl c.K a) := by
  refine ⟨fun H => SqL c.K H a xs, YAt xs, ?_, h, fun i x c' h H' l s y => ?_⟩
  · rw [r.length]; exact walk_list
  · obtain ⟨rfl, e⟩ := y
    obtain ⟨d, h1, h2⟩ := (r.leW l).getV e
    exact ⟨c', rfl, .refl c', s, d, h1, h2⟩
theorem walkR_tup {c : RC} {a : Addr} {ds : List D} {xs : List V} (h : SqT c.K c.H a xs) (r : Reps c ds xs) : WalkR c ds (Itt c.K a) := by
  refine ⟨fun H => SqT c.K H a xs, YAt xs, ?_, fun c' l => by rw [← l.K]; exact l.sqT h, fun i x c' h H' l s y => ?_⟩
  · rw [r.length]; exact walk_tup
  · obtain ⟨rfl, e⟩ := y
    obtain ⟨d, h1, h2⟩ := (r.leW l).getV e
    exact ⟨c', rfl, .refl c', s, d, h1, h2⟩
def miL (a : M D) : M (List D) := fun ε h => bR (a ε h) fun x h1 => match x with
  | .lst ds => some (.ok ds, h1)
  | .scr ds => some (.ok ds, h1)
  | _ => none
def miT (a : M D) : M (List D) := fun ε h => bR (a ε h) fun x h1 => match x with
  | .tup ds => some (.ok ds, h1)
  | _ => none
def miS (a : M D) : M (List D) := fun ε h => bR (a ε h) fun x h1 => match x with
  | .str z => some (.ok (z.map fun c => .str [c]), h1)
  | _ => none
section
variable {X : Cx} {W : WX} {tg : Expr}
theorem ri_list {e : Expr} {m : M D} (he : RE X W e m) : RI X W tg e (miL m) := by
  refine pi_imp (pi_list he) fun σ H R h => ?_
  obtain ⟨c, ε, h, r, h', hK, hm, rfl, sr, er, e, px, go⟩ := h
  unfold iList
  refine tX.bind hK hm sr er e px fun d h1 c1 v e1 l1 s1 r1 => ?_
  cases r1 with
  | @lst a ds xs k1 k2 k3 =>
    cases e1
    refine ⟨a, rfl, ⟨xs, .inl (.inl k1)⟩, go _ rfl c1 _ l1 s1 ?_⟩
    rw [← hK, ← l1.K]
    exact walkR_list (fun c' l => .inl (.inl (l.lstH k1 k2).1)) k3
  | @scr a ds xs k1 k2 =>
    cases e1
    refine ⟨a, rfl, ⟨xs, by rw [← hK, ← l1.K]; exact k1.sq⟩, go _ rfl c1 _ l1 s1 ?_⟩
    rw [← hK, ← l1.K]
    exact walkR_list (fun c' l => by rw [← l.K]; exact (l.scrL k1).sq) k2
  | _ => cases e1
theorem ri_tup {e : Expr} {m : M D} (he : RE X W e m) : RI X W tg e (miT m) := by
  refine pi_imp (pi_tup he) fun σ H R h => ?_
  obtain ⟨c, ε, h, r, h', hK, hm, rfl, sr, er, e, px, go⟩ := h
  unfold iTup
  refine tX.bind hK hm sr er e px fun d h1 c1 v e1 l1 s1 r1 => ?_
  cases r1 with
  | @tup a ds xs k1 k2 =>
    cases e1
    refine ⟨a, rfl, ⟨xs, by rw [← hK, ← l1.K]; exact k1⟩, go _ rfl c1 _ l1 s1 ?_⟩
    rw [← hK, ← l1.K]
    exact walkR_tup k1 k2
  | _ => cases e1
/-- range(n) -/
def rngD (lo : Int) (n : Nat) : List D := (List.range n).map fun i => .int (lo + (i : Nat))
def miR1 (a : M (List D)) : M (List D) := fun ε h => bR (a ε h) fun xs h1 => match xs with
  | [.int j] => if -(2 ^ 62) ≤ j ∧ j < 2 ^ 62 then some (.ok (rngD 0 j.toNat), h1) else none
  | _ => none
def miR2 (a : M (List D)) : M (List D) := fun ε h => bR (a ε h) fun xs h1 => match xs with
  | [.int i, .int j] => if -(2 ^ 62) ≤ i ∧ i < 2 ^ 62 ∧ -(2 ^ 62) ≤ j ∧ j < 2 ^ 62 then some (.ok (rngD i (j - i).toNat), h1) else none
  | _ => none
/-- pairs, each a new tuple -/
theorem walkR_pair {c : RC} {J : It} {G : Hp → Prop} {f g : Nat → Option V} {ds : List D} (w : Walk J ds.length G (YPair f g)) (hG : ∀ c', c.LeW c' → G c'.H)
    (hd : ∀ (i : Nat) (x y : V) (c' : RC), c.LeW c' → f i = some x → g i = some y → ∃ d e, ds[i]? = some (.tup [d, e]) ∧ Rep c' d x ∧ Rep c' e y) : WalkR c ds J := by
  refine ⟨G, _, w, hG, fun i v c' h H' l s y => ?_⟩
  obtain ⟨T, x, z, rfl, hT, rfl, h1, h2⟩ := y
  obtain ⟨d, e, e1, r1, r2⟩ := hd i x z c' l h1 h2
  obtain ⟨l', s', f'⟩ := s.new (o := .tup [x, z]) hT
  exact ⟨c'.put T (.tup [x, z]), rfl, l', s', _, e1, .tup (.inl (.inl upd_same)) (.cons (r1.le l') (.cons (r2.le l') .nil))⟩
def zipD (as bs : List D) : List D := (as.zip bs).map fun p => .tup [p.1, p.2]
def miZip (a : M (List D)) : M (List D) := fun ε h => bR (a ε h) fun xs h1 => match xs with
  | [x, y] => (match x, y with
    | .lst as, .lst bs => some (.ok (zipD as bs), h1)
    | .tup as, .tup bs => some (.ok (zipD as bs), h1)
    | _, _ => none)
  | _ => none
theorem zip_at {c : RC} {as bs : List D} {xs ys : List V} (ra : Reps c as xs) (rb : Reps c bs ys) (i : Nat) (x y : V) (c' : RC) (l : c.LeW c') (e1 : xs[i]? = some x) (e2 : ys[i]? = some y) : ∃ d e, (zipD as bs)[i]? = some (.tup [d, e]) ∧ Rep c' d x ∧ Rep c' e y := by
  obtain ⟨d, h1, r1⟩ := ra.getV e1
  obtain ⟨e, h2, r2⟩ := rb.getV e2
  refine ⟨d, e, ?_, r1.leW l, r2.leW l⟩
  unfold zipD
  rw [List.getElem?_map, List.getElem?_zip_eq_some.mpr (show as[i]? = some (d, e).1 ∧ bs[i]? = some (d, e).2 from ⟨h1, h2⟩)]
  rfl
theorem ri_zip {e e2 : Expr} {ma : M (List D)} {p pos tpos : Pos} {elts : List Expr} {kk : Nat} (hm : X.mg "zip" = none) (ha : RA X W [e, e2] ma) (hg : Gl X "zip" := by rfl)
    (hs : starEach [e, e2] X.env = (false, eval e X.env) :: starEach [e2] X.env := by rfl) (hpl : (backTo pos (starEach [e2] X.env)).any (·.1) = false := by rfl) : RI X W (.Tuple elts kk tpos) (.Call (.Name "zip" p) [e, e2] [] pos) (miZip ma) := by
  refine pi_imp (RZ.pi_zipA hg hm ha hs hpl) fun σ H R h => ?_
  obtain ⟨c, ε, h, r, h', hK, hm, rfl, sr, er, e, px, go⟩ := h
  unfold RZ.iZipA
  refine tX.bind hK hm sr er e px fun ds h1 c1 vs e1 l1 s1 r1 => ?_
  have hK1 : c1.K = X.K := l1.K.trans hK
  match ds, r1, e1 with
  | [d1, d2], .cons q1 (.cons q2 .nil), e1 =>
    cases q1 with
    | @lst a as xs k1 k2 k3 =>
      cases q2 with
      | @lst b bs ys j1 j2 j3 =>
        cases e1
        refine ⟨a, b, xs, ys, rfl, .inl ⟨.inl (.inl k1), .inl (.inl j1), go _ rfl c1 _ l1 s1 (walkR_pair (G := fun H => SqL X.K H a xs ∧ SqL X.K H b ys) (walk_zip ?_) (fun c' l => ⟨.inl (.inl (l.lstH k1 k2).1), .inl (.inl (l.lstH j1 j2).1)⟩) (zip_at k3 j3))⟩⟩
        simp [zipD, k3.length, j3.length]
      | _ => cases e1
    | @tup a as xs k1 k2 =>
      cases q2 with
      | @tup b bs ys j1 j2 =>
        cases e1
        have w : Walk (RZ.ItzT X.K a b) (zipD as bs).length (fun H => SqT X.K H a xs ∧ SqT X.K H b ys) (YPair (fun i => xs[i]?) (fun i => ys[i]?)) := by
          have en : (zipD as bs).length = min xs.length ys.length := by simp [zipD, k2.length, j2.length]
          rw [en]
          refine ⟨fun i _ hi q => ?_, fun _ q => ⟨xs, ys, q.1, q.2, by omega⟩, fun i H v H' _ q y => ?_⟩
          · have h1 : i < xs.length := by omega
            have h2 : i < ys.length := by omega
            exact ⟨xs, ys, xs[i], ys[i], q.1, q.2, by simp [h1], by simp [h2]⟩
          · obtain ⟨T, x, z, h1, h2, h3, h4, h5⟩ := y
            exact ⟨T, x, z, h1, h2, h3, h4 xs q.1, h5 ys q.2⟩
        refine ⟨a, b, xs, ys, rfl, .inr ⟨by rw [← hK1]; exact k1, by rw [← hK1]; exact j1, go _ rfl c1 _ l1 s1 (walkR_pair w (fun c' l => ?_) (zip_at k2 j2))⟩⟩
        rw [← hK1, ← l.K]
        exact ⟨l.sqT k1, l.sqT j1⟩
      | _ => cases e1
    | _ => cases e1
  | [], _, e1 => cases e1
  | [_], _, e1 => cases e1
  | _ :: _ :: _ :: _, _, e1 => cases e1
def enumD (as : List D) : List D := as.zipIdx.map fun p => .tup [.int (p.2 : Nat), p.1]
def forL (g : MG) (b : MS) : List D → Ev → EH → Option (RS × EH)
  | [], ε, h => some (.nx ε, h)
  | d :: ds, ε, h => match g d ε h with
    | none => none
    | some (ε1, h1) => match b ε1 h1 with
      | some (.nx ε2, h2) => forL g b ds ε2 h2
      | some (.ct ε2, h2) => forL g b ds ε2 h2
      | some (.bk ε2, h2) => some (.nx ε2, h2)
      | some (.rt d, h2) => some (.rt d, h2)
      | some (.ex e ε2, h2) => some (.ex e ε2, h2)
      | none => none
def msFor (it : M (List D)) (g : MG) (b : MS) : MS := fun ε h => bS (it ε h) ε fun ds h1 => forL g b ds ε h1
theorem rs_for {iter : Expr} {body : List Stmt} {mi : M (List D)} {g : MG} {S : List Nat} {b : MS} {pos : Pos} (hp : PassesOwn (model X.prog X.w) X.A X.env X.xe) (hc : X.calm = true) (hi : RI X W tg iter mi) (hg : RG X tg S g) (hb : RSs X W body b)
    (hs : ∀ x, foldedSetIterable iter X.env x = pure x := by intro _; rfl) : RSt X W (.For tg iter body [] pos) (msFor mi g b) := by
  refine ps_imp (ps_for hp hc hi hg hb hs) fun D σ H h => ?_
  obtain ⟨c, ε, h, r, h', hK, hm, rfl, sr, er, e, fin⟩ := h
  unfold tFor
  refine tX.stm hK hm sr er e fin fun ds h1 c1 J e1 l1 s1 r1 => ?_
  obtain ⟨G, Y, hw, hG, hY⟩ := r1
  have hK1 := l1.K.trans hK
  have hm1 := l1.mg.trans hm
  refine for_it hw (fun i σ H => ∃ c2 ε2 h2, c1.Le c2 ∧ c2.H = H ∧ SR c2 h2 ∧ EnvR c2 ε2 σ ∧ forL g b (ds.drop i) ε2 h2 = some (r, h')) ⟨c1, ε, h1, .refl c1, rfl, s1, er.le l1, by simpa using e1⟩ ?_ ?_ ?_
  · rintro i σ H hi ⟨c2, ε2, h2, l2, rfl, _⟩
    exact hG c2 l2.toW
  · rintro i x σ H H' hi ⟨c2, ε2, h2, l2, rfl, s2, en2, e2⟩ y
    obtain ⟨c3, rfl, l3, s3, d, hd, rd⟩ := hY i x c2 h2 H' l2.toW s2 y
    have hdr : ds.drop i = d :: ds.drop (i + 1) := by
      rw [List.drop_eq_getElem_cons hi]
      have : ds[i] = d := by
        have := List.getElem?_eq_getElem hi
        rw [this] at hd
        exact Option.some.inj hd
      rw [this]
    rw [hdr] at e2
    unfold forL at e2
    cases q : g d ε2 h2 with
    | none => rw [q] at e2; cases e2
    | some z =>
      obtain ⟨ε3, h3⟩ := z
      rw [q] at e2
      dsimp only at e2
      refine ⟨c3, d, ε2, h2, ε3, h3, ((l3.K.trans l2.K).trans hK1), ((l3.mg.trans l2.mg).trans hm1), rfl, s3, rd, en2.le l3, q, fun c4 σ4 l4 s4 en4 _ => ?_⟩
      have L4 := (l2.trans l3).trans l4
      cases q2 : b ε3 h3 with
      | none => rw [q2] at e2; cases e2
      | some z =>
        obtain ⟨rb, h5⟩ := z
        rw [q2] at e2
        refine ⟨c4, ε3, h3, rb, h5, L4.K.trans hK1, L4.mg.trans hm1, rfl, s4, en4, q2, ?_⟩
        cases rb with
        | nx ε5 => exact fun c5 σ5 l5 s5 en5 => ⟨c5, ε5, h5, L4.trans l5, rfl, s5, en5, e2⟩
        | ct ε5 => exact fun c5 σ5 l5 s5 en5 => ⟨c5, ε5, h5, L4.trans l5, rfl, s5, en5, e2⟩
        | bk ε5 => cases e2; exact (fin.le (l1.trans L4))
        | rt d5 => cases e2; exact (fin.le (l1.trans L4))
        | ex x5 ε5 => cases e2; exact (fin.le (l1.trans L4))
  · rintro σ H ⟨c2, ε2, h2, l2, rfl, s2, en2, e2⟩
    rw [List.drop_length] at e2
    cases e2
    exact fin c2 σ (l1.trans l2) s2 en2
end
end PD
namespace PD
open PySem PySem.Spec PyProof.Rows L2
variable [LamTab]
/-- nothing is let out -/
abbrev W0 : WX := fun _ _ _ _ => False
def wipeE (ε : Ev) : List Nat → Ev
  | [] => ε
  | i :: r => (wipeE ε r).set i none
theorem wipe_envR {c : RC} : ∀ (vs : List Nat) {ε : Ev} {σ : L2.St}, EnvR c ε σ → EnvR c (wipeE ε vs) (wipe σ vs)
  | [], _, _, r => r
  | i :: vs, ε, σ, r => by
    have ih := wipe_envR vs r
    unfold wipeE wipe
    refine ⟨by rw [List.length_set, List.length_set]; exact ih.len, fun j d h => ?_⟩
    by_cases hj : i = j
    · subst hj
      have hi : i < (wipeE ε vs).length := by
        have := (List.getElem?_eq_some_iff.mp h).1
        rwa [List.length_set] at this
      rw [List.getElem?_set_self hi] at h
      cases h
    · rw [List.getElem?_set_ne hj] at h
      rw [List.getElem?_set_ne hj]
      exact ih.at_ j d h
theorem wipe_in {i : Nat} : ∀ {vs : List Nat} {σ : L2.St}, i ∈ vs → i < σ.length → (wipe σ vs)[i]? = some none
  | v :: vs, σ, hi, hl => by
    unfold wipe
    by_cases e : v = i
    · subst e
      rw [List.getElem?_set_self (by rw [wipe_length]; exact hl)]
    · rw [List.getElem?_set_ne e]
      exact wipe_in ((List.mem_cons.mp hi).resolve_left fun z => e z.symm) hl
theorem wipe_save {S vs : List Nat} {σ σ' : L2.St} (s : Save S (wipe σ vs) σ') (h : ∀ i ∈ S, i ∈ vs) : wipe σ' vs = wipe σ vs := by
  have hl : σ'.length = σ.length := by rw [s.len, wipe_length]
  refine List.ext_getElem? fun i => ?_
  by_cases hi : i ∈ vs
  · by_cases hb : i < σ.length
    · rw [wipe_in hi (by rw [hl]; exact hb), wipe_in hi hb]
    · rw [List.getElem?_eq_none (by rw [wipe_length, hl]; omega), List.getElem?_eq_none (by rw [wipe_length]; omega)]
  · rw [wipe_out hi, s.at_ i fun z => hi (h i z)]
/-- the tests of a clause -/
abbrev RTs (X : Cx) (W : WX) (ifs : List Expr) (m : M Bool) : Prop := PTs X ifs (tT X.K X.mg W m)
def mYes : M Bool := fun _ h => some (.ok true, h)
theorem pts_imp {X : Cx} {ifs : List Expr} {t t' : TT} (h : PTs X ifs t) (k : ∀ σ H Q, t' σ H Q → t σ H Q) : PTs X ifs t' := ⟨fun pins s σ H Q I q => h.run pins s σ H Q I (k σ H Q q)⟩
theorem rts_nil {X : Cx} {W : WX} : RTs X W [] mYes := by
  refine pts_imp pts_nil fun σ H Q h => ?_
  obtain ⟨c, ε, h, r, h', hK, hm, rfl, sr, er, e, px, go⟩ := h
  cases e
  exact go _ rfl c _ (.refl c) sr rfl
/-- the items of a comprehension; nothing is raised within -/
def lcL (g : MG) (t : M Bool) (e : M D) : List D → Ev → EH → Option (List D × EH)
  | [], _, h => some ([], h)
  | d :: ds, ε, h => match g d ε h with
    | none => none
    | some (ε1, h1) => match t ε1 h1 with
      | some (.ok true, h2) => (match e ε1 h2 with
        | some (.ok y, h3) => (match lcL g t e ds ε h3 with
          | some (ys, h4) => some (y :: ys, h4)
          | none => none)
        | _ => none)
      | some (.ok false, h2) => lcL g t e ds ε h2
      | _ => none
def okL (x : Option (List D × EH)) : O D := match x with
  | some (ds, h) => if ds.length ≤ sizeLine then some (.ok (.lst ds), h) else none
  | none => none
def mLc (vs : List Nat) (it : M (List D)) (g : MG) (t : M Bool) (e : M D) : M D := fun ε h => bR (it ε h) fun ds h1 => okL (lcL g t e ds (wipeE ε vs) h1)
/-- other things not to be touched -/
abbrev RC.av (c : RC) (B : Addr → Prop) : RC := { c with B := B }
mutual
theorem Rep.fewer {c : RC} {B : Addr → Prop} (hB : ∀ a, B a → c.B a) : ∀ {d : D} {v : V}, Rep c d v → Rep (c.av B) d v
  | _, _, .non => .non
  | _, _, .bl b => .bl b
  | _, _, .int i => .int i
  | _, _, .str cs => .str cs
  | _, _, .tup h r => .tup h (Reps.fewer hB r)
  | _, _, .lst h f r => .lst h ⟨fun z => f.1 (hB _ z), f.2⟩ (Reps.fewer hB r)
  | _, _, .scr h r => .scr h (Reps.fewer hB r)
  | _, _, .obj m h f r => .obj m h ⟨fun z => f.1 (hB _ z), f.2⟩ (RepF.fewer hB r)
  | _, _, .dic h i f r => .dic h i ⟨fun z => f.1 (hB _ z), f.2⟩ (RepP.fewer hB r)
  | _, _, .fn h f h2 f2 cr r => .fn h ⟨fun z => f.1 (hB _ z), f.2⟩ h2 ⟨fun z => f2.1 (hB _ z), f2.2⟩ (cr.imp fun b o hb fb => ⟨hb, fun z => fb.1 (hB _ z), fb.2⟩) (Reps.fewer hB r)
  | _, _, .exc m h f h2 f2 r => .exc m h ⟨fun z => f.1 (hB _ z), f.2⟩ h2 ⟨fun z => f2.1 (hB _ z), f2.2⟩ (RepF.fewer hB r)
  | _, _, .ref h => .ref h
theorem Reps.fewer {c : RC} {B : Addr → Prop} (hB : ∀ a, B a → c.B a) : ∀ {ds : List D} {vs : List V}, Reps c ds vs → Reps (c.av B) ds vs
  | _, _, .nil => .nil
  | _, _, .cons h t => .cons (Rep.fewer hB h) (Reps.fewer hB t)
theorem RepP.fewer {c : RC} {B : Addr → Prop} (hB : ∀ a, B a → c.B a) : ∀ {ds : List (List Key × D)} {vs : List (List Key × V)}, RepP c ds vs → RepP (c.av B) ds vs
  | _, _, .nil => .nil
  | _, _, .cons h t => .cons (Rep.fewer hB h) (RepP.fewer hB t)
theorem RepF.fewer {c : RC} {B : Addr → Prop} (hB : ∀ a, B a → c.B a) : ∀ {ds : List (Str × D)} {vs : List (Str × V)}, RepF c ds vs → RepF (c.av B) ds vs
  | _, _, .nil => .nil
  | _, _, .cons h t => .cons (Rep.fewer hB h) (RepF.fewer hB t)
end
/-- c before the list at p was laid, c' with the list not to be touched -/
structure Over (c c' : RC) (p : Addr) : Prop where
  le : c.Le c'
  Bp : c'.B p
  new : c.H p = none
  bt : ∀ a, c.B a → ∃ o, c.H a = some o
theorem Over.step {c c' c'' : RC} {p : Addr} (o : Over c c' p) (l : c'.Le c'') : Over c c'' p := ⟨o.le.trans l, l.B p o.Bp, o.new, o.bt⟩
/-- back: the list is one's own -/
theorem Over.back {c c' : RC} {p : Addr} (o : Over c c' p) : c.Le (c'.av c.B) := ⟨o.le.K, o.le.mg, fun _ h => h, fun _ h => .inl h, o.le.dom, o.le.pre, o.le.keep, o.le.tup, o.le.frz⟩
theorem Over.ne {c c' : RC} {p : Addr} (o : Over c c' p) {a : Addr} {u : HO} (h : c.H a = some u) : a ≠ p := fun z => by
  rw [z, o.new] at h; cases h
theorem Over.sr {c c' : RC} {p : Addr} {h : EH} (o : Over c c' p) (s : SR c' h) : SR (c'.av c.B) h :=
  ⟨s.len, s.nd, fun n a k e1 e2 => (by
    have r := s.cells n a k e1 e2
    cases k with
    | lst ds => obtain ⟨xs, h1, h2⟩ := r; exact ⟨xs, h1, h2.fewer o.le.B⟩
    | dic t kvs => obtain ⟨ob, zs, h1, h3, h2⟩ := r; exact ⟨ob, zs, h1, h3, h2.fewer o.le.B⟩
    | obj C fs => obtain ⟨Ca, dx, vs, h0, h1, h2⟩ := r; exact ⟨Ca, dx, vs, h0, h1, h2.fewer o.le.B⟩), fun a ha hb => s.nb a ha (o.le.B a hb), fun a hb => s.bt a (o.le.B a hb)⟩
mutual
theorem Rep.more {c : RC} {p : Addr} {xs : List V} (hp : c.H p = none) : ∀ {d : D} {v : V}, Rep c d v → Rep { c with B := fun a => c.B a ∨ a = p, H := upd c.H p (.lst xs) } d v
  | _, _, .non => .non
  | _, _, .bl b => .bl b
  | _, _, .int i => .int i
  | _, _, .str cs => .str cs
  | _, _, .tup (a := a) (xs := ys) h r => .tup (by
      rcases h with (h | ⟨u, h⟩) | h
      · exact .inl (.inl ((upd_ne (show a ≠ p from fun z => by rw [z, hp] at h; cases h)).trans h))
      · exact .inl (.inr ⟨u, (upd_ne (show a ≠ p from fun z => by rw [z, hp] at h; cases h)).trans h⟩)
      · exact .inr h) (Reps.more hp r)
  | _, _, .lst (a := a) h f r => by
      have ne : a ≠ p := fun z => by rw [z, hp] at h; cases h
      exact .lst ((upd_ne ne).trans h) ⟨fun z => z.elim f.1 ne, f.2⟩ (Reps.more hp r)
  | _, _, .scr (a := a) h r => .scr (by
      rcases h with ⟨u, h⟩ | h
      · exact .inl ⟨u, (upd_ne (show a ≠ p from fun z => by rw [z, hp] at h; cases h)).trans h⟩
      · exact .inr h) (Reps.more hp r)
  | _, _, .obj (a := a) m h f r => by
      have ne : a ≠ p := fun z => by rw [z, hp] at h; cases h
      exact .obj m ((upd_ne ne).trans h) ⟨fun z => z.elim f.1 ne, f.2⟩ (RepF.more hp r)
  | _, _, .dic (a := a) h i f r => by
      have ne : a ≠ p := fun z => by rw [z, hp] at h; cases h
      exact .dic ((upd_ne ne).trans h) i ⟨fun z => z.elim f.1 ne, f.2⟩ (RepP.more hp r)
  | _, _, .fn h f h2 f2 cr r => by
      have ne : ∀ {a : Addr} {o : HO}, c.H a = some o → a ≠ p := fun e z => by rw [z, hp] at e; cases e
      exact .fn ((upd_ne (ne h)).trans h) ⟨fun z => z.elim f.1 (ne h), f.2⟩ ((upd_ne (ne h2)).trans h2) ⟨fun z => z.elim f2.1 (ne h2), f2.2⟩ (cr.imp fun b o hb fb => ⟨(upd_ne (ne hb)).trans hb, fun z => z.elim fb.1 (ne hb), fb.2⟩) (Reps.more hp r)
  | _, _, .exc m h f h2 f2 r => by
      have ne : ∀ {a : Addr} {o : HO}, c.H a = some o → a ≠ p := fun e z => by rw [z, hp] at e; cases e
      exact .exc m ((upd_ne (ne h)).trans h) ⟨fun z => z.elim f.1 (ne h), f.2⟩ ((upd_ne (ne h2)).trans h2) ⟨fun z => z.elim f2.1 (ne h2), f2.2⟩ (RepF.more hp r)
  | _, _, .ref h => .ref h
theorem Reps.more {c : RC} {p : Addr} {xs : List V} (hp : c.H p = none) : ∀ {ds : List D} {vs : List V}, Reps c ds vs → Reps { c with B := fun a => c.B a ∨ a = p, H := upd c.H p (.lst xs) } ds vs
  | _, _, .nil => .nil
  | _, _, .cons h t => .cons (Rep.more hp h) (Reps.more hp t)
theorem RepP.more {c : RC} {p : Addr} {xs : List V} (hp : c.H p = none) : ∀ {ds : List (List Key × D)} {vs : List (List Key × V)}, RepP c ds vs → RepP { c with B := fun a => c.B a ∨ a = p, H := upd c.H p (.lst xs) } ds vs
  | _, _, .nil => .nil
  | _, _, .cons h t => .cons (Rep.more hp h) (RepP.more hp t)
theorem RepF.more {c : RC} {p : Addr} {xs : List V} (hp : c.H p = none) : ∀ {ds : List (Str × D)} {vs : List (Str × V)}, RepF c ds vs → RepF { c with B := fun a => c.B a ∨ a = p, H := upd c.H p (.lst xs) } ds vs
  | _, _, .nil => .nil
  | _, _, .cons h t => .cons (Rep.more hp h) (RepF.more hp t)
end
/-- the start -/
theorem Over.start {c : RC} {h : EH} {p : Addr} {xs : List V} (s : SR c h) (hp : c.H p = none) : Over c { c with B := fun a => c.B a ∨ a = p, H := upd c.H p (.lst xs) } p ∧ SR { c with B := fun a => c.B a ∨ a = p, H := upd c.H p (.lst xs) } h := by
  have np : p ∉ c.ρ := fun z => by
    obtain ⟨o, e⟩ := s.ex z
    rw [hp] at e; cases e
  have ne : ∀ a o, c.H a = some o → a ≠ p := fun a o e z => by rw [z, hp] at e; cases e
  refine ⟨⟨⟨rfl, ⟨rfl, tabs_upd (noTab_none hp)⟩, fun _ h => .inl h, fun a h => h.imp id fun z => by rw [z]; exact hp, fun a u e => ⟨u, (upd_ne (ne a u e)).trans e⟩, fun _ _ h => h, fun a u e _ n => ⟨(upd_ne (ne a u e)).trans e, n⟩, fun a ys e => ?_, fun a o u e => (upd_ne (ne a _ e)).trans e⟩, .inr rfl, hp, s.bt⟩, ⟨s.len, s.nd, fun n a k e1 e2 => ?_, fun a ha z => z.elim (s.nb a ha) fun z => np (z ▸ ha), fun a hb => ?_⟩⟩
  · rcases e with e | ⟨u, e⟩
    · exact .inl ((upd_ne (ne a _ e)).trans e)
    · exact .inr ⟨u, (upd_ne (ne a _ e)).trans e⟩
  · have r := s.cells n a k e1 e2
    cases k with
    | lst ds => obtain ⟨ys, h1, h2⟩ := r; exact ⟨ys, (upd_ne (ne a _ h1)).trans h1, h2.more hp⟩
    | dic t kvs => obtain ⟨ob, zs, h1, h3, h2⟩ := r; exact ⟨ob, zs, (upd_ne (ne a _ h1)).trans h1, h3, h2.more hp⟩
    | obj C fs => obtain ⟨Ca, dx, vs, h0, h1, h2⟩ := r; exact ⟨Ca, dx, vs, h0, (upd_ne (ne a _ h1)).trans h1, h2.more hp⟩
  · rcases hb with hb | rfl
    · obtain ⟨u, e⟩ := s.bt a hb
      exact ⟨u, (upd_ne (ne a u e)).trans e⟩
    · exact ⟨_, upd_same⟩
mutual
theorem Rep.putB {c : RC} {p : Addr} {xs ys : List V} (hB : c.B p) (hp : c.H p = some (.lst xs)) : ∀ {d : D} {v : V}, Rep c d v → Rep (c.put p (.lst ys)) d v
  | _, _, .non => .non
  | _, _, .bl b => .bl b
  | _, _, .int i => .int i
  | _, _, .str cs => .str cs
  | _, _, .tup (a := a) h r => .tup (by
      rcases h with (h | ⟨u, h⟩) | h
      · exact .inl (.inl ((upd_ne (show a ≠ p from fun z => by rw [z, hp] at h; cases h)).trans h))
      · exact .inl (.inr ⟨u, (upd_ne (show a ≠ p from fun z => by rw [z, hp] at h; cases h)).trans h⟩)
      · exact .inr h) (Reps.putB hB hp r)
  | _, _, .lst (a := a) h f r => by
      have ne : a ≠ p := fun z => f.1 (z ▸ hB)
      exact .lst ((upd_ne ne).trans h) f (Reps.putB hB hp r)
  | _, _, .scr (a := a) h r => .scr (by
      rcases h with ⟨u, h⟩ | h
      · exact .inl ⟨u, (upd_ne (show a ≠ p from fun z => by rw [z, hp] at h; cases h)).trans h⟩
      · exact .inr h) (Reps.putB hB hp r)
  | _, _, .obj (a := a) m h f r => by
      have ne : a ≠ p := fun z => f.1 (z ▸ hB)
      exact .obj m ((upd_ne ne).trans h) f (RepF.putB hB hp r)
  | _, _, .dic (a := a) h i f r => by
      have ne : a ≠ p := fun z => f.1 (z ▸ hB)
      exact .dic ((upd_ne ne).trans h) i f (RepP.putB hB hp r)
  | _, _, .fn h f h2 f2 cr r => by
      have ne : ∀ {a : Addr}, c.fr a → a ≠ p := fun f z => f.1 (z ▸ hB)
      exact .fn ((upd_ne (ne f)).trans h) f ((upd_ne (ne f2)).trans h2) f2 (cr.imp fun b o hb fb => ⟨(upd_ne (ne fb)).trans hb, fb⟩) (Reps.putB hB hp r)
  | _, _, .exc m h f h2 f2 r => by
      have ne : ∀ {a : Addr}, c.fr a → a ≠ p := fun f z => f.1 (z ▸ hB)
      exact .exc m ((upd_ne (ne f)).trans h) f ((upd_ne (ne f2)).trans h2) f2 (RepF.putB hB hp r)
  | _, _, .ref h => .ref h
theorem Reps.putB {c : RC} {p : Addr} {xs ys : List V} (hB : c.B p) (hp : c.H p = some (.lst xs)) : ∀ {ds : List D} {vs : List V}, Reps c ds vs → Reps (c.put p (.lst ys)) ds vs
  | _, _, .nil => .nil
  | _, _, .cons h t => .cons (Rep.putB hB hp h) (Reps.putB hB hp t)
theorem RepP.putB {c : RC} {p : Addr} {xs ys : List V} (hB : c.B p) (hp : c.H p = some (.lst xs)) : ∀ {ds : List (List Key × D)} {vs : List (List Key × V)}, RepP c ds vs → RepP (c.put p (.lst ys)) ds vs
  | _, _, .nil => .nil
  | _, _, .cons h t => .cons (Rep.putB hB hp h) (RepP.putB hB hp t)
theorem RepF.putB {c : RC} {p : Addr} {xs ys : List V} (hB : c.B p) (hp : c.H p = some (.lst xs)) : ∀ {ds : List (Str × D)} {vs : List (Str × V)}, RepF c ds vs → RepF (c.put p (.lst ys)) ds vs
  | _, _, .nil => .nil
  | _, _, .cons h t => .cons (Rep.putB hB hp h) (RepF.putB hB hp t)
end
theorem Over.putB {c c' : RC} {h : EH} {p : Addr} {xs ys : List V} (o : Over c c' p) (s : SR c' h) (hp : c'.H p = some (.lst xs)) : Over c (c'.put p (.lst ys)) p ∧ SR (c'.put p (.lst ys)) h := by
  have hB : c'.B p := o.Bp
  refine ⟨⟨⟨o.le.K, ⟨o.le.mg.e, fun t => tabs_upd (ρ := c'.ρ) (B := c'.B) (noTab_of hp (fun _ z => by cases z) fun _ z => by cases z) (o.le.mg.t t)⟩, o.le.B, o.le.Bn, fun a u e => ?_, o.le.pre, fun a u e t n => ?_, fun a zs e => ?_, fun a u w e => (upd_ne (show a ≠ p from o.ne e)).trans (o.le.frz a u w e)⟩, o.Bp, o.new, o.bt⟩, ⟨s.len, s.nd, fun n a k e1 e2 => ?_, s.nb, fun a hb => ?_⟩⟩
  · obtain ⟨u', h1⟩ := o.le.dom a u e
    exact ⟨u', (upd_ne (o.ne e)).trans h1⟩
  · obtain ⟨h1, n1⟩ := o.le.keep a u e t n
    exact ⟨(upd_ne (o.ne e)).trans h1, n1⟩
  · rcases o.le.tup a zs e with e' | ⟨u, e'⟩
    · exact .inl ((upd_ne (show a ≠ p from fun z => by rw [z, hp] at e'; cases e')).trans e')
    · exact .inr ⟨u, (upd_ne (show a ≠ p from fun z => by rw [z, hp] at e'; cases e')).trans e'⟩
  · have r := s.cells n a k e1 e2
    have ne : a ≠ p := fun z => s.nb a (List.mem_of_getElem? e1) (z ▸ hB)
    cases k with
    | lst ds => obtain ⟨zs, h1, h2⟩ := r; exact ⟨zs, (upd_ne ne).trans h1, h2.putB hB hp⟩
    | dic t kvs => obtain ⟨ob, zs, h1, h3, h2⟩ := r; exact ⟨ob, zs, (upd_ne ne).trans h1, h3, h2.putB hB hp⟩
    | obj C fs => obtain ⟨Ca, dx, vs, h0, h1, h2⟩ := r; exact ⟨Ca, dx, vs, h0, (upd_ne ne).trans h1, h2.putB hB hp⟩
  · by_cases e : a = p
    · exact ⟨_, by rw [e]; exact upd_same⟩
    · obtain ⟨u, q⟩ := s.bt a hb
      exact ⟨u, (upd_ne e).trans q⟩
theorem EnvR.putB {c : RC} {p : Addr} {xs ys : List V} (hB : c.B p) (hp : c.H p = some (.lst xs)) {ε : Ev} {σ : L2.St} (r : EnvR c ε σ) : EnvR (c.put p (.lst ys)) ε σ := ⟨r.len, fun i d e => let ⟨v, h1, h2⟩ := r.at_ i d e; ⟨v, h1, h2.putB hB hp⟩⟩
theorem EnvR.more {c : RC} {p : Addr} {xs : List V} (hp : c.H p = none) {ε : Ev} {σ : L2.St} (r : EnvR c ε σ) : EnvR { c with B := fun a => c.B a ∨ a = p, H := upd c.H p (.lst xs) } ε σ := ⟨r.len, fun i d e => let ⟨v, h1, h2⟩ := r.at_ i d e; ⟨v, h1, h2.more hp⟩⟩
theorem lc_of {K : PySem.W.Frag} {mg : Str → Option Value} {W : WX} {mi : M (List D)} {g : MG} {S vs : List Nat} {t : M Bool} {el : M D} {σ : L2.St} {H : Hp} {Q : VK} (hS : ∀ i ∈ S, i ∈ vs) (h : tE K mg W (mLc vs mi g t el) σ H Q) :
    tLc (tI K mg W mi) (tG K mg S g) (tT K mg W0 t) (tE K mg W0 el) vs σ H Q := by
  obtain ⟨c, ε, h, r, h', hK, hm, rfl, sr, er, e, px, go⟩ := h
  unfold tLc
  refine tX.bind hK hm sr er e px fun ds h1 c1 J e1 l1 s1 r1 => ?_
  intro p hp
  obtain ⟨G, Y, hw, hG, hY⟩ := r1
  have hK1 := l1.K.trans hK
  have hm1 := l1.mg.trans hm
  cases q : lcL g t el ds (wipeE ε vs) h1 with
  | none => rw [q] at e1; cases e1
  | some z =>
    obtain ⟨all, hE⟩ := z
    rw [q] at e1
    have e1' : (if all.length ≤ sizeLine then some (PD.R.ok (D.lst all), hE) else none) = some (r, h') := e1
    by_cases hz : all.length ≤ sizeLine
    · rw [if_pos hz] at e1'
      cases e1'
      obtain ⟨o2, s2⟩ := Over.start (xs := []) s1 hp
      refine lc_it hw (fun i H => ∃ c2 h2 acc xs rest, Over c1 c2 p ∧ c2.H = H ∧ SR c2 h2 ∧ H p = some (.lst xs) ∧ Reps c2 acc xs ∧ EnvR c2 (wipeE ε vs) (wipe σ vs) ∧ lcL g t el (ds.drop i) (wipeE ε vs) h2 = some (rest, h') ∧ acc ++ rest = all) ?_ ?_ ?_ ?_
      · exact ⟨_, h1, [], [], all, o2, rfl, s2, upd_same, .nil, EnvR.more hp (wipe_envR vs (er.le l1)), q, rfl⟩
      · rintro i H hi ⟨c2, h2, acc, xs, rest, o, rfl, _⟩
        exact hG c2 o.le.toW
      · rintro i x H H' hi ⟨c2, h2, acc, xs, rest, o, rfl, s, hxs, racc, en, e2, ea⟩ y
        obtain ⟨c3, rfl, l3, s3, d, hd, rd⟩ := hY i x c2 h2 H' o.le.toW s y
        have hdr : ds.drop i = d :: ds.drop (i + 1) := by
          rw [List.drop_eq_getElem_cons hi]
          have : ds[i] = d := by
            have := List.getElem?_eq_getElem hi
            rw [this] at hd
            exact Option.some.inj hd
          rw [this]
        rw [hdr] at e2
        unfold lcL at e2
        have o3 := o.step l3
        have p3 := (l3.keep p _ hxs (fun _ z => by cases z) fun z => s.nb p z o.Bp).1
        have hK3 : c3.K = K := o3.le.K.trans hK1
        have hm3 : MgE c3 mg := o3.le.mg.trans hm1
        cases q2 : g d (wipeE ε vs) h2 with
        | none => rw [q2] at e2; cases e2
        | some z =>
          obtain ⟨ε3, h3⟩ := z
          rw [q2] at e2
          dsimp only at e2
          refine ⟨c3, d, wipeE ε vs, h2, ε3, h3, hK3, hm3, rfl, s3, rd, en.le l3, q2, fun c4 σ4 l4 s4 en4 sv => ⟨wipe_save sv hS, ?_⟩⟩
          have o4 := o3.step l4
          have p4 := (l4.keep p _ p3 (fun _ z => by cases z) fun z => s3.nb p z o3.Bp).1
          have hK4 : c4.K = K := o4.le.K.trans hK1
          have hm4 : MgE c4 mg := o4.le.mg.trans hm1
          cases q3 : t ε3 h3 with
          | none => rw [q3] at e2; cases e2
          | some z =>
            obtain ⟨rb, h5⟩ := z
            rw [q3] at e2
            cases rb with
            | ex x5 => cases e2
            | ok b =>
              refine ⟨c4, ε3, h3, .ok b, h5, hK4, hm4, rfl, s4, en4, q3, Px.ok, fun b' eb c5 b'' l5 s5 rb => ?_⟩
              cases eb
              subst rb
              have o5 := o4.step l5
              have p5 := (l5.keep p _ p4 (fun _ z => by cases z) fun z => s4.nb p z o4.Bp).1
              have en5 : EnvR c5 (wipeE ε vs) (wipe σ vs) := ((en.le l3).le l4).le l5
              have racc5 := ((racc.le l3).le l4).le l5
              cases b with
              | false =>
                rw [if_neg Bool.false_ne_true]
                exact ⟨c5, h5, acc, xs, rest, o5, rfl, s5, p5, racc5, en5, e2, ea⟩
              | true =>
                rw [if_pos rfl]
                dsimp only at e2
                cases q4 : el ε3 h5 with
                | none => rw [q4] at e2; cases e2
                | some z =>
                  obtain ⟨ry, h6⟩ := z
                  rw [q4] at e2
                  cases ry with
                  | ex x6 => cases e2
                  | ok y0 =>
                    dsimp only at e2
                    refine ⟨c5, ε3, h5, .ok y0, h6, o5.le.K.trans hK1, o5.le.mg.trans hm1, rfl, s5, en4.le l5, q4, Px.ok, fun y' ey c6 yv l6 s6 ry => ?_⟩
                    cases ey
                    have o6 := o5.step l6
                    have p6 := (l6.keep p _ p5 (fun _ z => by cases z) fun z => s5.nb p z o5.Bp).1
                    cases q5 : lcL g t el (ds.drop (i + 1)) (wipeE ε vs) h6 with
                    | none => rw [q5] at e2; cases e2
                    | some z =>
                      obtain ⟨ys, h7⟩ := z
                      rw [q5] at e2
                      cases e2
                      have hlen : xs.length < sizeLine := by
                        rw [← racc.length]
                        have := congrArg List.length ea
                        simp only [List.length_append, List.length_cons] at this
                        omega
                      refine ⟨xs, p6, hlen, ?_⟩
                      obtain ⟨o7, s7⟩ := o6.putB (ys := xs ++ [yv]) s6 p6
                      exact ⟨_, h6, acc ++ [y0], xs ++ [yv], ys, o7, rfl, s7, upd_same, ((racc5.le l6).append (.cons ry .nil)).putB o6.Bp p6, (en5.le l6).putB o6.Bp p6, q5, by rw [List.append_assoc]; exact ea⟩
      · rintro H ⟨c2, h2, acc, xs, rest, o, rfl, s, hxs, racc, en, e2, ea⟩
        rw [List.drop_length] at e2
        cases e2
        rw [List.append_nil] at ea
        subst ea
        refine go _ rfl (c2.av c1.B) _ (l1.trans o.back) (o.sr s) (.lst hxs ⟨fun z => ?_, fun z => s.nb p z o.Bp⟩ (racc.fewer o.le.B))
        obtain ⟨u, eu⟩ := o.bt p z
        rw [o.new] at eu; cases eu
    · rw [if_neg hz] at e1'; cases e1'
section
variable {X : Cx} {W : WX}
theorem re_lc {elt tg iter : Expr} {ifs : List Expr} {scope : Scope} {own : List (Str × Nat)} {pos : Pos} {mi : M (List D)} {g : MG} {S : List Nat} {t : M Bool} {e : M D} (hc : X.calm = true) (hN : X.N.Nodup) (hi : RI X W tg iter mi) (ok : BlkOk X.N X.env.scope scope own) (hS : ∀ i ∈ S, i ∈ own.map (·.2))
    (hg : ∀ (s : Shared) (H : Hp) (C : Addr) (cl : List (Str × Addr)) (fp : List Addr), RG (X.blk s H scope (compEnvC scope cl C X.env) fp) tg S g) (ht : ∀ (s : Shared) (H : Hp) (C : Addr) (cl : List (Str × Addr)) (fp : List Addr), RTs (X.blk s H scope (compEnvC scope cl C X.env) fp) W0 ifs t)
    (he : ∀ (s : Shared) (H : Hp) (C : Addr) (cl : List (Str × Addr)) (fp : List Addr), RE (X.blk s H scope (compEnvC scope cl C X.env) fp) W0 elt e) (hs : ∀ x, foldedSetIterable iter X.env x = pure x := by intro _; rfl) :
    RE X W (.ListComp elt [⟨tg, iter, ifs, 0⟩] scope pos) (mLc (own.map (·.2)) mi g t e) := by
  refine pe_imp (pe_lc (g := tG X.K X.mg S g) (tt := tT X.K X.mg W0 t) (te := tE X.K X.mg W0 e) hc hN hi ok hg ht he hs) fun σ H Q h => ?_
  exact lc_of hS h
end
end PD
namespace PD
open PySem PySem.Spec PyProof.Rows L2
variable [LamTab]
def noRef : D → Bool
  | .ref _ => false
  | .tup ds => go ds
  | .lst ds => go ds
  | .scr ds => go ds
  | .obj _ fs => gf fs
  | .dic _ kvs => gp kvs
  | .fn _ ds => go ds
  | .exc _ fs => gf fs
  | _ => true
where
  go : List D → Bool
  | [] => true
  | d :: ds => noRef d && go ds
  gf : List (Str × D) → Bool
  | [] => true
  | (_, d) :: ds => noRef d && gf ds
  gp : List (List Key × D) → Bool
  | [] => true
  | (_, d) :: ds => noRef d && gp ds
/-- the cells forgotten, other things not to be touched -/
abbrev RC.bare (c : RC) (B : Addr → Prop) : RC := { c with ρ := [], B := B }
mutual
theorem Rep.bare {c : RC} {B : Addr → Prop} (hB : ∀ a, B a → c.B a ∨ a ∈ c.ρ) : ∀ {d : D} {v : V}, Rep c d v → noRef d = true → Rep (c.bare B) d v
  | _, _, .non, _ => .non
  | _, _, .bl b, _ => .bl b
  | _, _, .int i, _ => .int i
  | _, _, .str cs, _ => .str cs
  | .tup ds, _, .tup h r, e => .tup h (Reps.bare hB r (by rw [noRef] at e; exact e))
  | .lst ds, _, .lst h f r, e => .lst h ⟨fun z => (hB _ z).elim f.1 f.2, List.not_mem_nil⟩ (Reps.bare hB r (by rw [noRef] at e; exact e))
  | .scr ds, _, .scr h r, e => .scr h (Reps.bare hB r (by rw [noRef] at e; exact e))
  | .obj C fs, _, .obj m h f r, e => .obj m h ⟨fun z => (hB _ z).elim f.1 f.2, List.not_mem_nil⟩ (RepF.bare hB r (by rw [noRef] at e; exact e))
  | .dic t kvs, _, .dic h i f r, e => .dic h i ⟨fun z => (hB _ z).elim f.1 f.2, List.not_mem_nil⟩ (RepP.bare hB r (by rw [noRef] at e; exact e))
  | .fn i ds, _, .fn h f k f2 cr r, e => .fn h ⟨fun z => (hB _ z).elim f.1 f.2, List.not_mem_nil⟩ k ⟨fun z => (hB _ z).elim f2.1 f2.2, List.not_mem_nil⟩ (cr.imp fun b o hb fb => ⟨hb, fun z => (hB _ z).elim fb.1 fb.2, List.not_mem_nil⟩) (Reps.bare hB r (by rw [noRef] at e; exact e))
  | .exc C fs, _, .exc m h f h2 f2 r, e => .exc m h ⟨fun z => (hB _ z).elim f.1 f.2, List.not_mem_nil⟩ h2 ⟨fun z => (hB _ z).elim f2.1 f2.2, List.not_mem_nil⟩ (RepF.bare hB r (by rw [noRef] at e; exact e))
  | _, _, .ref h, e => by cases e
theorem Reps.bare {c : RC} {B : Addr → Prop} (hB : ∀ a, B a → c.B a ∨ a ∈ c.ρ) : ∀ {ds : List D} {vs : List V}, Reps c ds vs → noRef.go ds = true → Reps (c.bare B) ds vs
  | _, _, .nil, _ => .nil
  | _, _, .cons h t, e => by
    rw [noRef.go, Bool.and_eq_true] at e
    exact .cons (Rep.bare hB h e.1) (Reps.bare hB t e.2)
theorem RepP.bare {c : RC} {B : Addr → Prop} (hB : ∀ a, B a → c.B a ∨ a ∈ c.ρ) : ∀ {ds : List (List Key × D)} {vs : List (List Key × V)}, RepP c ds vs → noRef.gp ds = true → RepP (c.bare B) ds vs
  | _, _, .nil, _ => .nil
  | _, _, .cons h t, e => by
    rw [noRef.gp, Bool.and_eq_true] at e
    exact .cons (Rep.bare hB h e.1) (RepP.bare hB t e.2)
theorem RepF.bare {c : RC} {B : Addr → Prop} (hB : ∀ a, B a → c.B a ∨ a ∈ c.ρ) : ∀ {ds : List (Str × D)} {vs : List (Str × V)}, RepF c ds vs → noRef.gf ds = true → RepF (c.bare B) ds vs
  | _, _, .nil, _ => .nil
  | _, _, .cons h t, e => by
    rw [noRef.gf, Bool.and_eq_true] at e
    exact .cons (Rep.bare hB h e.1) (RepF.bare hB t e.2)
end
mutual
theorem Rep.unbare {c : RC} {ρ : List Addr} {B : Addr → Prop} (h1 : ∀ a ∈ ρ, c.B a) (h2 : ∀ a, B a → c.B a) (h0 : c.ρ = []) : ∀ {d : D} {v : V}, Rep c d v → Rep { c with ρ := ρ, B := B } d v
  | _, _, .non => .non
  | _, _, .bl b => .bl b
  | _, _, .int i => .int i
  | _, _, .str cs => .str cs
  | _, _, .tup h r => .tup h (Reps.unbare h1 h2 h0 r)
  | _, _, .lst h f r => .lst h ⟨fun z => f.1 (h2 _ z), fun z => f.1 (h1 _ z)⟩ (Reps.unbare h1 h2 h0 r)
  | _, _, .scr h r => .scr h (Reps.unbare h1 h2 h0 r)
  | _, _, .obj m h f r => .obj m h ⟨fun z => f.1 (h2 _ z), fun z => f.1 (h1 _ z)⟩ (RepF.unbare h1 h2 h0 r)
  | _, _, .dic h i f r => .dic h i ⟨fun z => f.1 (h2 _ z), fun z => f.1 (h1 _ z)⟩ (RepP.unbare h1 h2 h0 r)
  | _, _, .fn h f k f2 cr r => .fn h ⟨fun z => f.1 (h2 _ z), fun z => f.1 (h1 _ z)⟩ k ⟨fun z => f2.1 (h2 _ z), fun z => f2.1 (h1 _ z)⟩ (cr.imp fun b o hb fb => ⟨hb, fun z => fb.1 (h2 _ z), fun z => fb.1 (h1 _ z)⟩) (Reps.unbare h1 h2 h0 r)
  | _, _, .exc m h f k f2 r => .exc m h ⟨fun z => f.1 (h2 _ z), fun z => f.1 (h1 _ z)⟩ k ⟨fun z => f2.1 (h2 _ z), fun z => f2.1 (h1 _ z)⟩ (RepF.unbare h1 h2 h0 r)
  | _, _, .ref h => by rw [h0] at h; simp at h
theorem Reps.unbare {c : RC} {ρ : List Addr} {B : Addr → Prop} (h1 : ∀ a ∈ ρ, c.B a) (h2 : ∀ a, B a → c.B a) (h0 : c.ρ = []) : ∀ {ds : List D} {vs : List V}, Reps c ds vs → Reps { c with ρ := ρ, B := B } ds vs
  | _, _, .nil => .nil
  | _, _, .cons h t => .cons (Rep.unbare h1 h2 h0 h) (Reps.unbare h1 h2 h0 t)
theorem RepP.unbare {c : RC} {ρ : List Addr} {B : Addr → Prop} (h1 : ∀ a ∈ ρ, c.B a) (h2 : ∀ a, B a → c.B a) (h0 : c.ρ = []) : ∀ {ds : List (List Key × D)} {vs : List (List Key × V)}, RepP c ds vs → RepP { c with ρ := ρ, B := B } ds vs
  | _, _, .nil => .nil
  | _, _, .cons h t => .cons (Rep.unbare h1 h2 h0 h) (RepP.unbare h1 h2 h0 t)
theorem RepF.unbare {c : RC} {ρ : List Addr} {B : Addr → Prop} (h1 : ∀ a ∈ ρ, c.B a) (h2 : ∀ a, B a → c.B a) (h0 : c.ρ = []) : ∀ {ds : List (Str × D)} {vs : List (Str × V)}, RepF c ds vs → RepF { c with ρ := ρ, B := B } ds vs
  | _, _, .nil => .nil
  | _, _, .cons h t => .cons (Rep.unbare h1 h2 h0 h) (RepF.unbare h1 h2 h0 t)
end
/-- freeze -/
def frz1 (h : EH) (d : D) : Option D := match d with
  | .ref n => (match h[n]? with
    | some (.lst ds) => if noRef.go ds = true then some (.lst ds) else none
    | some (.obj C fs) => if noRef.gf fs = true then some (.obj C fs) else none
    | some (.dic t kvs) => if noRef.gp kvs = true then some (.dic t kvs) else none
    | _ => none)
  | d => if noRef d = true then some d else none
def frzL (h : EH) : List D → Option (List D)
  | [] => some []
  | d :: ds => match frz1 h d, frzL h ds with
    | some x, some xs => some (x :: xs)
    | _, _ => none
def frz (h : EH) (d : D) : Option D := match d with
  | .tup ds => (frzL h ds).map .tup
  | .lst ds => (frzL h ds).map .lst
  | d => frz1 h d
theorem frz1_ok {c : RC} {h : EH} {B : Addr → Prop} {d e : D} {v : V} (s : SR c h) (hB : ∀ a, B a → c.B a) (r : Rep c d v) (q : frz1 h d = some e) : Rep (c.bare B) e v := by
  have hB' : ∀ a, B a → c.B a ∨ a ∈ c.ρ := fun a z => .inl (hB a z)
  have fin : (if noRef d = true then some d else none) = some e → Rep (c.bare B) e v := fun q => by
    by_cases hc : noRef d = true
    · rw [if_pos hc] at q; cases q; exact r.bare hB' hc
    · rw [if_neg hc] at q; cases q
  cases r with
  | @ref n a hn =>
    unfold frz1 at q
    dsimp only at q
    cases q2 : h[n]? with
    | none => rw [q2] at q; cases q
    | some k =>
      rw [q2] at q
      have cr := s.cells n a k hn q2
      have nb : ¬ B a := fun z => s.nb a (List.mem_of_getElem? hn) (hB a z)
      cases k with
      | lst ds =>
        dsimp only at q
        by_cases hc : noRef.go ds = true
        · rw [if_pos hc] at q
          cases q
          obtain ⟨xs, e1, e2⟩ := cr
          exact .lst e1 ⟨nb, List.not_mem_nil⟩ (e2.bare hB' hc)
        · rw [if_neg hc] at q; cases q
      | dic t kvs =>
        dsimp only at q
        by_cases hc : noRef.gp kvs = true
        · rw [if_pos hc] at q
          cases q
          obtain ⟨o, zs, e1, e3, e2⟩ := cr
          exact .dic e1 e3 ⟨nb, List.not_mem_nil⟩ (e2.bare hB' hc)
        · rw [if_neg hc] at q; cases q
      | obj C fs =>
        dsimp only at q
        by_cases hc : noRef.gf fs = true
        · rw [if_pos hc] at q
          cases q
          obtain ⟨Ca, dx, vs, e0, e1, e2⟩ := cr
          exact .obj e0 e1 ⟨nb, List.not_mem_nil⟩ (e2.bare hB' hc)
        · rw [if_neg hc] at q; cases q
  | _ => exact fin q
theorem frzL_ok {c : RC} {h : EH} {B : Addr → Prop} (s : SR c h) (hB : ∀ a, B a → c.B a) : ∀ {ds es : List D} {vs : List V}, Reps c ds vs → frzL h ds = some es → Reps (c.bare B) es vs
  | _, _, _, .nil, q => by cases q; exact .nil
  | d :: ds, es, _, .cons r t, q => by
    unfold frzL at q
    cases q1 : frz1 h d with
    | none => rw [q1] at q; cases q
    | some x =>
      cases q2 : frzL h ds with
      | none => rw [q1, q2] at q; cases q
      | some xs => rw [q1, q2] at q; cases q; exact .cons (frz1_ok s hB r q1) (frzL_ok s hB t q2)
theorem frz_ok {c : RC} {h : EH} {B : Addr → Prop} {d e : D} {v : V} (s : SR c h) (hB : ∀ a, B a → c.B a) (r : Rep c d v) (q : frz h d = some e) : Rep (c.bare B) e v := by
  cases r with
  | @tup a ds xs k1 k2 =>
    have q' : (frzL h ds).map D.tup = some e := q
    cases q1 : frzL h ds with
    | none => rw [q1] at q'; cases q'
    | some es => rw [q1] at q'; cases q'; exact .tup k1 (frzL_ok s hB k2 q1)
  | @lst a ds xs k1 k2 k3 =>
    have q' : (frzL h ds).map D.lst = some e := q
    cases q1 : frzL h ds with
    | none => rw [q1] at q'; cases q'
    | some es => rw [q1] at q'; cases q'; exact .lst k1 ⟨fun z => k2.1 (hB _ z), List.not_mem_nil⟩ (frzL_ok s hB k3 q1)
  | non => exact frz1_ok s hB .non q
  | bl b => exact frz1_ok s hB (.bl b) q
  | int i => exact frz1_ok s hB (.int i) q
  | str cs => exact frz1_ok s hB (.str cs) q
  | obj m k1 k2 k3 => exact frz1_ok s hB (.obj m k1 k2 k3) q
  | dic k1 k2 k3 k4 => exact frz1_ok s hB (.dic k1 k2 k3 k4) q
  | fn k1 k2 k3 k4 k5 k6 => exact frz1_ok s hB (.fn k1 k2 k3 k4 k5 k6) q
  | exc k1 k2 k3 k4 k5 k6 => exact frz1_ok s hB (.exc k1 k2 k3 k4 k5 k6) q
  | ref hn => exact frz1_ok s hB (.ref hn) q
  | scr k1 k2 => exact frz1_ok s hB (.scr k1 k2) q
abbrev PF := List D → Option (R D)
/-- a body run over no cells -/
def startE (n : Nat) (ds : List D) : Ev := ds.map some ++ List.replicate (n - ds.length) none
def endP (x : Option (RS × EH)) : Option (R D) := match x with
  | some (.rt d, h) => (frz h d).map .ok
  | some (.nx _, _) => some (.ok .non)
  | some (.ex e _, _) => if noRef.gf e.fs = true then some (.ex e) else none
  | _ => none
def runP (n : Nat) (m : MS) : PF := fun ds => endP (m (startE n ds) [])
def SpP (K : PySem.W.Frag) (mg : Str → Option Value) (n : Nat) (F : PF) : Sp := fun vs H Q E => ∃ (c : RC) (ds : List D) (r : R D), c.K = K ∧ MgE c mg ∧ c.H = H ∧ c.ρ = [] ∧ (∀ a, c.B a → ∃ o, H a = some o) ∧ Reps c ds vs ∧ ds.length = n ∧ F ds = some r ∧
  (∀ d, r = .ok d → ∀ c' v, c.Le c' → c'.ρ = [] → Rep c' d v → Q v c'.H) ∧ (∀ e, r = .ex e → ∀ c' cls dx, c.Le c' → c'.ρ = [] → ExR c' e cls dx → E cls dx c'.H)
theorem SR.nil {c : RC} (h : c.ρ = []) (bt : ∀ a, c.B a → ∃ o, c.H a = some o) : SR c [] :=
  ⟨by rw [h]; rfl, by rw [h]; exact List.nodup_nil, fun n a k e => by rw [h] at e; simp at e, fun a e => by rw [h] at e; simp at e, bt⟩
theorem start_envR {c : RC} {ds : List D} {vs : List V} {N : List Str} (r : Reps c ds vs) : EnvR c (startE N.length ds) (L2.start N vs) := by
  refine ⟨by simp [startE, L2.start, r.length], fun i d e => ?_⟩
  unfold startE at e
  unfold L2.start
  by_cases hi : i < ds.length
  · rw [List.getElem?_append_left (by simpa using hi), List.getElem?_map] at e
    rw [List.getElem?_append_left (by rw [List.length_map, ← r.length]; exact hi), List.getElem?_map]
    cases q : ds[i]? with
    | none => rw [q] at e; cases e
    | some d' =>
      rw [q] at e
      cases e
      obtain ⟨v, h1, h2⟩ := r.get q
      exact ⟨v, by rw [h1]; rfl, h2⟩
  · rw [List.getElem?_append_right (by simp; omega)] at e
    exfalso
    rw [List.getElem?_replicate] at e
    split at e <;> cases e
/-- what one has of a pure def -/
structure FnP (P : Program) (w : World) (K : PySem.W.Frag) (mg : Str → Option Value) (base : Heap) (x : Str) (k n : Nat) (F : PF) : Prop where
  ex : ∃ (f : Addr) (fd : FuncData) (ps : List Str), mg x = some (.ref f) ∧ PySem.W.keepIn K (.ref f) = true ∧ Binds K fd ps [] ∧ ps.length = n ∧ FnOk P w K mg base (L2.CX P w) k f fd ps (SpP K mg n F)
section
variable {P : Program} {w : World} {K : PySem.W.Frag} {mg : Str → Option Value} {base : Heap}
theorem body_of {N : List Str} {m : MS} {vs : List V} {H : Hp} {Q : VK} {E : XK} {n : Nat} (h : SpP K mg n (runP N.length m) vs H Q E) : tS K mg (fun cls d _ H' => E cls d H') m { nx := fun _ H' => Q .non H', rt := Q } (L2.start N vs) H := by
  obtain ⟨c, ds, r, hK, hm, rfl, hρ, bt, rv, hn, e, go, gx⟩ := h
  have sr := SR.nil hρ bt
  unfold runP at e
  cases q : m (startE N.length ds) [] with
  | none => rw [q] at e; cases e
  | some z =>
    obtain ⟨rs, h'⟩ := z
    rw [q] at e
    have back : ∀ c', c.Le c' → c.Le (c'.bare c.B) := fun c' l => ⟨l.K, l.mg, fun _ h => h, fun _ h => .inl h, l.dom, fun n a e => by rw [hρ] at e; simp at e, fun a o e t n => ⟨(l.keep a o e t n).1, List.not_mem_nil⟩, l.tup, l.frz⟩
    refine ⟨c, startE N.length ds, [], rs, h', hK, hm, rfl, sr, start_envR rv, q, ?_⟩
    cases rs with
    | nx ε' =>
      cases e
      exact fun c' σ' l s en => go _ rfl (c'.bare c.B) _ (back c' l) rfl .non
    | rt d =>
      have e' : (frz h' d).map R.ok = some r := e
      cases q2 : frz h' d with
      | none => rw [q2] at e'; cases e'
      | some d' =>
        rw [q2] at e'
        cases e'
        exact fun c' v l s rd => go _ rfl (c'.bare c.B) v (back c' l) rfl (frz_ok s l.B rd q2)
    | bk ε' => cases e
    | ct ε' => cases e
    | ex x ε' =>
      have e' : (if noRef.gf x.fs = true then some (R.ex x) else none) = some r := e
      by_cases hc : noRef.gf x.fs = true
      · rw [if_pos hc] at e'
        cases e'
        refine fun c' σ' cls dx l s en xr => gx _ rfl (c'.bare c.B) cls dx (back c' l) rfl ?_
        obtain ⟨Ca, d, vs, h1, h2, h3, h4, h5, h6⟩ := xr
        exact ⟨Ca, d, vs, h1, h2, h3, h4, ⟨fun z => h5.1 (l.B _ z), List.not_mem_nil⟩, h6.bare (fun a z => .inl (l.B a z)) hc⟩
      · rw [if_neg hc] at e'; cases e'
theorem fnP {x qual : Str} {params : Arguments} {body : List Stmt} {scope : Scope} {f : Addr} {fd : FuncData} {N ps : List Str} {k : Nat} {m : MS} {dvs : List V} {kws : List (Str × V)} (F : FunD K x qual params body scope dvs kws f fd) (S : FnScope N ps scope)
    (hb : ∀ (cdv : Value) (A : Around) (outer : List Env) (s : Shared) (H : Hp) (E : XK), Room k (A.deeper (envOfC qual scope s.heap.objs.size f cdv)) → RSs (cxOf (L2.CX P w) P w K mg base N qual scope f cdv A outer s H E) (fun cls d _ H' => E cls d H') body m) :
    FnOk P w K mg base (L2.CX P w) (k + 1) f fd ps (SpP K mg ps.length (runP N.length m)) := by
  refine F.ok S (fun vs H Q E h => ?_) (fun cdv A outer s H vs Q E hr h => ⟨_, hb cdv A outer s H E hr, body_of h⟩)
  obtain ⟨c, ds, r, _, _, _, _, _, rv, hn, _⟩ := h
  rw [← rv.length, hn]
end
/-- a gives lists of n -/
def ArN (n : Nat) (a : M (List D)) : Prop := ∀ ε h ds h', a ε h = some (.ok ds, h') → ds.length = n
theorem ar_nil : ArN 0 mNil := fun ε h ds h' e => by cases e; rfl
theorem ar_cons {n : Nat} {a : M D} {b : M (List D)} (hb : ArN n b) : ArN (n + 1) (mCons a b) := fun ε h ds h' e => by
  unfold mCons at e
  cases q : a ε h with
  | none => rw [q] at e; cases e
  | some z =>
    obtain ⟨r1, h1⟩ := z
    rw [q] at e
    cases r1 with
    | ex x => cases e
    | ok x =>
      rw [bR_ok] at e
      cases q2 : b ε h1 with
      | none => rw [q2] at e; cases e
      | some z =>
        obtain ⟨r2, h2⟩ := z
        rw [q2] at e
        cases r2 with
        | ex x => cases e
        | ok xs => cases e; exact congrArg Nat.succ (hb _ _ _ _ q2)
def mCallP (F : PF) (a : M (List D)) : M D := fun ε h => bR (a ε h) fun ds h1 => if noRef.go ds = true then (F ds).map fun r => (r, h1) else none
section
variable {X : Cx} {W : WX}
theorem callP_of {K : PySem.W.Frag} {mg : Str → Option Value} {n : Nat} {F : PF} {a : M (List D)} {σ : L2.St} {H : Hp} {Q : VK} (hn : ArN n a) (h : tE K mg W (mCallP F a) σ H Q) :
    tCallSD (SpP K mg n F) [] (fun σ cls d H' => W cls d σ H') (tA K mg W a) σ H Q := by
  obtain ⟨c, ε, h, r, h', hK, hm, rfl, sr, er, e, px, go⟩ := h
  unfold tCallSD
  cases q : a ε h with
  | none => rw [mCallP, q] at e; cases e
  | some z =>
    obtain ⟨ra, h1⟩ := z
    rw [mCallP, q] at e
    cases ra with
    | ex x =>
      cases e
      exact ⟨c, ε, h, .ex x, _, hK, hm, rfl, sr, er, q, fun y ey => px y (by cases ey; rfl), fun a' ea => nomatch ea⟩
    | ok ds =>
      refine ⟨c, ε, h, .ok ds, h1, hK, hm, rfl, sr, er, q, Px.ok, fun ds' eds c1 vs l1 s1 r1 => ?_⟩
      cases eds
      have e' : (if noRef.go ds = true then (F ds).map fun r => (r, h1) else none) = some (r, h') := e
      by_cases hc : noRef.go ds = true
      · rw [if_pos hc] at e'
        cases q2 : F ds with
        | none => rw [q2] at e'; cases e'
        | some r2 =>
          rw [q2] at e'
          cases e'
          rw [List.append_nil]
          have hK1 := l1.K.trans hK
          have hm1 := l1.mg.trans hm
          -- the callee's view: our cells are not to be touched
          have r1' : Reps (c1.bare fun a => c1.B a ∨ a ∈ c1.ρ) ds vs := r1.bare (fun _ z => z) hc
          have back : ∀ c', (c1.bare fun a => c1.B a ∨ a ∈ c1.ρ).Le c' → c1.Le { c' with ρ := c1.ρ, B := c1.B } ∧ SR { c' with ρ := c1.ρ, B := c1.B } h' := fun c' l => by
            have l2 : c1.Le { c' with ρ := c1.ρ, B := c1.B } := ⟨l.K, l.mg, fun _ h => h, fun _ h => .inl h, l.dom, fun _ _ h => h, fun a o e t n => ⟨(l.keep a o e t List.not_mem_nil).1, n⟩, l.tup, l.frz⟩
            refine ⟨l2, s1.len, s1.nd, fun n a k e1 e2 => ?_, s1.nb, fun a hb => ?_⟩
            · have cr := s1.cells n a k e1 e2
              obtain ⟨o, eo⟩ := cr.ex
              refine cr.le l2 ?_
              have nt : ∀ ps, o ≠ .tbl ps := fun ps z => by
                subst z
                cases k with
                | lst ds => obtain ⟨xs, h1, _⟩ := cr; rw [eo] at h1; cases h1
                | dic t kvs => obtain ⟨o', zs, h1, h3, _⟩ := cr; rw [eo] at h1; cases h1; exact h3.tbl _ rfl
                | obj C fs => obtain ⟨_, _, _, _, h1, _⟩ := cr; rw [eo] at h1; cases h1
              exact (l.keep a o eo nt List.not_mem_nil).1.trans eo.symm
            · obtain ⟨o, eo⟩ := s1.bt a hb
              exact l.dom a o eo
          refine ⟨c1.bare fun a => c1.B a ∨ a ∈ c1.ρ, ds, r, hK1, hm1, rfl, rfl, fun a z => ?_, r1', hn _ _ _ _ q, q2, fun d ed c' v l hρ rd => ?_, fun x ex c' cls dx l hρ xr => ?_⟩
          · rcases z with z | z
            · exact s1.bt a z
            · exact s1.ex z
          · obtain ⟨l2, s2⟩ := back c' l
            refine go d ed { c' with ρ := c1.ρ, B := c1.B } v (l1.trans l2) s2 ?_
            exact Rep.unbare (fun a ha => l.B a (.inr ha)) (fun a ha => l.B a (.inl ha)) hρ rd
          · obtain ⟨l2, s2⟩ := back c' l
            refine px x ex { c' with ρ := c1.ρ, B := c1.B } cls dx (l1.trans l2) s2 ?_
            obtain ⟨Ca, d, us, h1, h2, h3, h4, h5, h6⟩ := xr
            exact ⟨Ca, d, us, h1, h2, h3, h4, ⟨fun z => h5.1 (l.B _ (.inl z)), fun z => h5.1 (l.B _ (.inr z))⟩, RepF.unbare (fun a ha => l.B a (.inr ha)) (fun a ha => l.B a (.inl ha)) hρ h6⟩
      · rw [if_neg hc] at e'; cases e'
theorem re_callP {x : Str} {p pos : Pos} {e : Expr} {es : List Expr} {k j n : Nat} {F : PF} {ma : M (List D)} (G : FnP X.prog X.w X.K X.mg X.base x k n F) (hr : Room j X.A) (tk : Takes X W) (ha : RA X W (e :: es) ma) (hk : k ≤ j := by decide)
    (hn : ArN n ma := by repeat (first | exact ar_nil | refine ar_cons ?_)) (hg : Gl X x := by rfl)
    (hdb : (x == ("__debug__" : Str)) = false := by decide) (he : starEach (e :: es) X.env = (false, eval e X.env) :: starEach es X.env := by rfl) (hpl : (backTo pos (starEach es X.env)).any (·.1) = false := by rfl) :
    RE X W (.Call (.Name x p) (e :: es) [] pos) (mCallP F ma) := by
  obtain ⟨f, fd, ps, hm, hkp, hb, hl, F⟩ := G.ex
  exact pe_imp (pe_callSD F (hr.mono hk) hg hm hkp hb .nil (fun σ => passAt tk σ) ha hdb he hpl) fun σ H Q h => callP_of hn h
end
end PD
namespace PD
open PySem PySem.Spec PyProof.Rows L2
variable [LamTab]
mutual
theorem Rep.re {c : RC} {ρ : List Addr} {B : Addr → Prop} (hB : ∀ a, B a ∨ a ∈ ρ → c.B a ∨ a ∈ c.ρ) : ∀ {d : D} {v : V}, Rep c d v → noRef d = true → Rep { c with ρ := ρ, B := B } d v
  | _, _, .non, _ => .non
  | _, _, .bl b, _ => .bl b
  | _, _, .int i, _ => .int i
  | _, _, .str cs, _ => .str cs
  | .tup ds, _, .tup h r, e => .tup h (Reps.re hB r (by rw [noRef] at e; exact e))
  | .lst ds, _, .lst h f r, e => .lst h ⟨fun z => (hB _ (.inl z)).elim f.1 f.2, fun z => (hB _ (.inr z)).elim f.1 f.2⟩ (Reps.re hB r (by rw [noRef] at e; exact e))
  | .scr ds, _, .scr h r, e => .scr h (Reps.re hB r (by rw [noRef] at e; exact e))
  | .obj C fs, _, .obj m h f r, e => .obj m h ⟨fun z => (hB _ (.inl z)).elim f.1 f.2, fun z => (hB _ (.inr z)).elim f.1 f.2⟩ (RepF.re hB r (by rw [noRef] at e; exact e))
  | .dic t kvs, _, .dic h i f r, e => .dic h i ⟨fun z => (hB _ (.inl z)).elim f.1 f.2, fun z => (hB _ (.inr z)).elim f.1 f.2⟩ (RepP.re hB r (by rw [noRef] at e; exact e))
  | .fn i ds, _, .fn h f k f2 cr r, e => .fn h ⟨fun z => (hB _ (.inl z)).elim f.1 f.2, fun z => (hB _ (.inr z)).elim f.1 f.2⟩ k ⟨fun z => (hB _ (.inl z)).elim f2.1 f2.2, fun z => (hB _ (.inr z)).elim f2.1 f2.2⟩ (cr.imp fun b o hb fb => ⟨hb, fun z => (hB _ (.inl z)).elim fb.1 fb.2, fun z => (hB _ (.inr z)).elim fb.1 fb.2⟩) (Reps.re hB r (by rw [noRef] at e; exact e))
  | .exc C fs, _, .exc m h f h2 f2 r, e => .exc m h ⟨fun z => (hB _ (.inl z)).elim f.1 f.2, fun z => (hB _ (.inr z)).elim f.1 f.2⟩ h2 ⟨fun z => (hB _ (.inl z)).elim f2.1 f2.2, fun z => (hB _ (.inr z)).elim f2.1 f2.2⟩ (RepF.re hB r (by rw [noRef] at e; exact e))
  | _, _, .ref h, e => by cases e
theorem Reps.re {c : RC} {ρ : List Addr} {B : Addr → Prop} (hB : ∀ a, B a ∨ a ∈ ρ → c.B a ∨ a ∈ c.ρ) : ∀ {ds : List D} {vs : List V}, Reps c ds vs → noRef.go ds = true → Reps { c with ρ := ρ, B := B } ds vs
  | _, _, .nil, _ => .nil
  | _, _, .cons h t, e => by
    rw [noRef.go, Bool.and_eq_true] at e
    exact .cons (Rep.re hB h e.1) (Reps.re hB t e.2)
theorem RepP.re {c : RC} {ρ : List Addr} {B : Addr → Prop} (hB : ∀ a, B a ∨ a ∈ ρ → c.B a ∨ a ∈ c.ρ) : ∀ {ds : List (List Key × D)} {vs : List (List Key × V)}, RepP c ds vs → noRef.gp ds = true → RepP { c with ρ := ρ, B := B } ds vs
  | _, _, .nil, _ => .nil
  | _, _, .cons h t, e => by
    rw [noRef.gp, Bool.and_eq_true] at e
    exact .cons (Rep.re hB h e.1) (RepP.re hB t e.2)
theorem RepF.re {c : RC} {ρ : List Addr} {B : Addr → Prop} (hB : ∀ a, B a ∨ a ∈ ρ → c.B a ∨ a ∈ c.ρ) : ∀ {ds : List (Str × D)} {vs : List (Str × V)}, RepF c ds vs → noRef.gf ds = true → RepF { c with ρ := ρ, B := B } ds vs
  | _, _, .nil, _ => .nil
  | _, _, .cons h t, e => by
    rw [noRef.gf, Bool.and_eq_true] at e
    exact .cons (Rep.re hB h e.1) (RepF.re hB t e.2)
end
def pureC : Cell → Bool
  | .lst ds => noRef.go ds
  | .dic _ kvs => noRef.gp kvs
  | .obj _ fs => noRef.gf fs
/-- the first n cells alone -/
def trim (n : Nat) (h : EH) : Option EH := if h.length = n then some h else if (h.take n).all pureC = true then some (h.take n) else none
def frz1I (n : Nat) (h : EH) (d : D) : Option D := match d with
  | .ref m => if m < n then some (.ref m) else (match h[m]? with
    | some (.lst ds) => if noRef.go ds = true then some (.lst ds) else none
    | some (.obj C fs) => if noRef.gf fs = true then some (.obj C fs) else none
    | some (.dic t kvs) => if noRef.gp kvs = true then some (.dic t kvs) else none
    | _ => none)
  | d => if noRef d = true then some d else none
def frzLI (n : Nat) (h : EH) : List D → Option (List D)
  | [] => some []
  | d :: ds => match frz1I n h d, frzLI n h ds with
    | some x, some xs => some (x :: xs)
    | _, _ => none
def frzI (n : Nat) (h : EH) (d : D) : Option D := match d with
  | .tup ds => (frzLI n h ds).map .tup
  | .lst ds => (frzLI n h ds).map .lst
  | d => frz1I n h d
abbrev RC.cut (c : RC) (n : Nat) : RC := { c with ρ := c.ρ.take n }
theorem cut_sub {c : RC} {n : Nat} : ∀ a, c.B a ∨ a ∈ c.ρ.take n → c.B a ∨ a ∈ c.ρ := fun a z => z.imp id List.mem_of_mem_take
theorem cut_not {c : RC} {h : EH} {n m : Nat} {a : Addr} (s : SR c h) (hm : c.ρ[m]? = some a) (hn : n ≤ m) : a ∉ c.ρ.take n := fun z => by
  obtain ⟨j, hj, e⟩ := List.mem_iff_getElem.mp z
  rw [List.getElem_take] at e
  obtain ⟨h2, e2⟩ := List.getElem?_eq_some_iff.mp hm
  have hj' : j < c.ρ.length := by rw [List.length_take] at hj; omega
  have := (List.getElem_inj s.nd).mp (e.trans e2.symm)
  rw [List.length_take] at hj
  omega
theorem frz1I_ok {c : RC} {h : EH} {n : Nat} {d e : D} {v : V} (s : SR c h) (r : Rep c d v) (q : frz1I n h d = some e) : Rep (c.cut n) e v := by
  have fin : (if noRef d = true then some d else none) = some e → Rep (c.cut n) e v := fun q => by
    by_cases hc : noRef d = true
    · rw [if_pos hc] at q; cases q; exact r.re cut_sub hc
    · rw [if_neg hc] at q; cases q
  cases r with
  | @ref m a hn =>
    unfold frz1I at q
    dsimp only at q
    by_cases hmn : m < n
    · rw [if_pos hmn] at q
      cases q
      exact .ref (by rw [List.getElem?_take_of_lt hmn]; exact hn)
    · rw [if_neg hmn] at q
      cases q2 : h[m]? with
      | none => rw [q2] at q; cases q
      | some k =>
        rw [q2] at q
        have cr := s.cells m a k hn q2
        have nb : ¬ c.B a := fun z => s.nb a (List.mem_of_getElem? hn) z
        have nm := cut_not (n := n) s hn (by omega)
        cases k with
        | lst ds =>
          dsimp only at q
          by_cases hc : noRef.go ds = true
          · rw [if_pos hc] at q
            cases q
            obtain ⟨xs, e1, e2⟩ := cr
            exact .lst e1 ⟨nb, nm⟩ (e2.re cut_sub hc)
          · rw [if_neg hc] at q; cases q
        | dic t kvs =>
          dsimp only at q
          by_cases hc : noRef.gp kvs = true
          · rw [if_pos hc] at q
            cases q
            obtain ⟨o, zs, e1, e3, e2⟩ := cr
            exact .dic e1 e3 ⟨nb, nm⟩ (e2.re cut_sub hc)
          · rw [if_neg hc] at q; cases q
        | obj C fs =>
          dsimp only at q
          by_cases hc : noRef.gf fs = true
          · rw [if_pos hc] at q
            cases q
            obtain ⟨Ca, dx, vs, e0, e1, e2⟩ := cr
            exact .obj e0 e1 ⟨nb, nm⟩ (e2.re cut_sub hc)
          · rw [if_neg hc] at q; cases q
  | _ => exact fin q
theorem frzLI_ok {c : RC} {h : EH} {n : Nat} (s : SR c h) : ∀ {ds es : List D} {vs : List V}, Reps c ds vs → frzLI n h ds = some es → Reps (c.cut n) es vs
  | _, _, _, .nil, q => by cases q; exact .nil
  | d :: ds, es, _, .cons r t, q => by
    unfold frzLI at q
    cases q1 : frz1I n h d with
    | none => rw [q1] at q; cases q
    | some x =>
      cases q2 : frzLI n h ds with
      | none => rw [q1, q2] at q; cases q
      | some xs => rw [q1, q2] at q; cases q; exact .cons (frz1I_ok s r q1) (frzLI_ok s t q2)
theorem frzI_ok {c : RC} {h : EH} {n : Nat} {d e : D} {v : V} (s : SR c h) (r : Rep c d v) (q : frzI n h d = some e) : Rep (c.cut n) e v := by
  cases r with
  | @tup a ds xs k1 k2 =>
    have q' : (frzLI n h ds).map D.tup = some e := q
    cases q1 : frzLI n h ds with
    | none => rw [q1] at q'; cases q'
    | some es => rw [q1] at q'; cases q'; exact .tup k1 (frzLI_ok s k2 q1)
  | @lst a ds xs k1 k2 k3 =>
    have q' : (frzLI n h ds).map D.lst = some e := q
    cases q1 : frzLI n h ds with
    | none => rw [q1] at q'; cases q'
    | some es => rw [q1] at q'; cases q'; exact .lst k1 ⟨k2.1, fun z => k2.2 (List.mem_of_mem_take z)⟩ (frzLI_ok s k3 q1)
  | non => exact frz1I_ok s .non q
  | bl b => exact frz1I_ok s (.bl b) q
  | int i => exact frz1I_ok s (.int i) q
  | str cs => exact frz1I_ok s (.str cs) q
  | obj m k1 k2 k3 => exact frz1I_ok s (.obj m k1 k2 k3) q
  | dic k1 k2 k3 k4 => exact frz1I_ok s (.dic k1 k2 k3 k4) q
  | fn k1 k2 k3 k4 k5 k6 => exact frz1I_ok s (.fn k1 k2 k3 k4 k5 k6) q
  | exc k1 k2 k3 k4 k5 k6 => exact frz1I_ok s (.exc k1 k2 k3 k4 k5 k6) q
  | ref hn => exact frz1I_ok s (.ref hn) q
  | scr k1 k2 => exact frz1I_ok s (.scr k1 k2) q
theorem trim_ok {c : RC} {h h1 : EH} {n : Nat} (s : SR c h) (q : trim n h = some h1) : SR (c.cut n) h1 := by
  unfold trim at q
  by_cases e : h.length = n
  · rw [if_pos e] at q
    cases q
    have e2 : c.ρ.take n = c.ρ := List.take_of_length_le (by rw [s.len, e]; exact Nat.le_refl _)
    have e3 : c.cut n = c := by
      show ({ c with ρ := c.ρ.take n } : RC) = c
      rw [e2]
    rw [e3]; exact s
  · rw [if_neg e] at q
    by_cases hp : (h.take n).all pureC = true
    · rw [if_pos hp] at q
      cases q
      refine ⟨by rw [List.length_take, List.length_take, s.len], s.nd.sublist (List.take_sublist _ _), fun m a k e1 e2 => ?_, fun a ha => s.nb a (List.mem_of_mem_take ha), s.bt⟩
      have hm : m < n := by
        have := (List.getElem?_eq_some_iff.mp e2).1
        rw [List.length_take] at this
        omega
      have e1' : c.ρ[m]? = some a := by
        have z : (c.ρ.take n)[m]? = some a := e1
        rwa [List.getElem?_take_of_lt hm] at z
      have e2' : h[m]? = some k := by rwa [List.getElem?_take_of_lt hm] at e2
      have hk : pureC k = true := List.all_eq_true.mp hp k (List.mem_of_getElem? e2)
      have r := s.cells m a k e1' e2'
      cases k with
      | lst ds => obtain ⟨xs, h1, h2⟩ := r; exact ⟨xs, h1, h2.re cut_sub hk⟩
      | dic t kvs => obtain ⟨o, zs, h1, h3, h2⟩ := r; exact ⟨o, zs, h1, h3, h2.re cut_sub hk⟩
      | obj C fs => obtain ⟨Ca, dx, vs, h0, h1, h2⟩ := r; exact ⟨Ca, dx, vs, h0, h1, h2.re cut_sub hk⟩
    · rw [if_neg hp] at q; cases q
theorem le_cut {c c' : RC} (l : c.Le c') : c.Le (c'.cut c.ρ.length) := by
  refine ⟨l.K, l.mg, l.B, l.Bn, l.dom, fun n a e => ?_, fun a o e t n => ⟨(l.keep a o e t n).1, fun z => (l.keep a o e t n).2 (List.mem_of_mem_take z)⟩, l.tup, l.frz⟩
  have hn := (List.getElem?_eq_some_iff.mp e).1
  show (c'.ρ.take c.ρ.length)[n]? = some a
  rw [List.getElem?_take_of_lt hn]
  exact l.pre n a e
abbrev IF := List D → EH → Option (R D × EH)
def endI (n : Nat) (x : Option (RS × EH)) : Option (R D × EH) := match x with
  | some (.rt d, h) => (match frzI n h d, trim n h with
    | some d', some h1 => some (.ok d', h1)
    | _, _ => none)
  | some (.nx _, h) => (trim n h).map fun h1 => (.ok .non, h1)
  | some (.ex e _, h) => if noRef.gf e.fs = true then (trim n h).map fun h1 => (.ex e, h1) else none
  | _ => none
def runI (n : Nat) (m : MS) : IF := fun ds h => endI h.length (m (startE n ds) h)
/-- the def gives a new cell -/
def endA (n : Nat) (x : Option (RS × EH)) : Option (R D × EH) := match x with
  | some (.rt (.ref m), h) => if n = m ∧ h.length = n + 1 then some (.ok (.ref n), h) else none
  | _ => none
def runA (n : Nat) (m : MS) : IF := fun ds h => endA h.length (m (startE n ds) h)
def SpI (K : PySem.W.Frag) (mg : Str → Option Value) (n : Nat) (F : IF) : Sp := fun vs H Q E => ∃ (c : RC) (h : EH) (ds : List D) (r : R D) (h' : EH), c.K = K ∧ MgE c mg ∧ c.H = H ∧ SR c h ∧ Reps c ds vs ∧ ds.length = n ∧ F ds h = some (r, h') ∧
  (∀ d, r = .ok d → ∀ c' v, c.Le c' → SR c' h' → Rep c' d v → Q v c'.H) ∧ (∀ e, r = .ex e → ∀ c' cls dx, c.Le c' → SR c' h' → ExR c' e cls dx → E cls dx c'.H)
structure FnI (P : Program) (w : World) (K : PySem.W.Frag) (mg : Str → Option Value) (base : Heap) (x : Str) (k n : Nat) (F : IF) : Prop where
  ex : ∃ (f : Addr) (fd : FuncData) (ps : List Str), mg x = some (.ref f) ∧ PySem.W.keepIn K (.ref f) = true ∧ Binds K fd ps [] ∧ ps.length = n ∧ FnOk P w K mg base (L2.CX P w) k f fd ps (SpI K mg n F)
section
variable {P : Program} {w : World} {K : PySem.W.Frag} {mg : Str → Option Value} {base : Heap}
theorem bodyI_of {N : List Str} {m : MS} {vs : List V} {H : Hp} {Q : VK} {E : XK} {n : Nat} (h : SpI K mg n (runI N.length m) vs H Q E) : tS K mg (fun cls d _ H' => E cls d H') m { nx := fun _ H' => Q .non H', rt := Q } (L2.start N vs) H := by
  obtain ⟨c, h, ds, r, h', hK, hm, rfl, sr, rv, hn, e, go, gx⟩ := h
  unfold runI at e
  cases q : m (startE N.length ds) h with
  | none => rw [q] at e; cases e
  | some z =>
    obtain ⟨rs, h2⟩ := z
    rw [q] at e
    refine ⟨c, startE N.length ds, h, rs, h2, hK, hm, rfl, sr, start_envR rv, q, ?_⟩
    rw [← sr.len] at e
    cases rs with
    | nx ε' =>
      have e' : (trim c.ρ.length h2).map (fun h1 => (R.ok D.non, h1)) = some (r, h') := e
      cases q1 : trim c.ρ.length h2 with
      | none => rw [q1] at e'; cases e'
      | some h1 =>
        rw [q1] at e'
        cases e'
        exact fun c' σ' l s en => go _ rfl (c'.cut c.ρ.length) _ (le_cut l) (trim_ok s q1) .non
    | rt d =>
      have e' : (match frzI c.ρ.length h2 d, trim c.ρ.length h2 with
        | some d', some h1 => some (R.ok d', h1)
        | _, _ => none) = some (r, h') := e
      cases q1 : frzI c.ρ.length h2 d with
      | none => rw [q1] at e'; cases e'
      | some d' =>
        cases q2 : trim c.ρ.length h2 with
        | none => rw [q1, q2] at e'; cases e'
        | some h1 =>
          rw [q1, q2] at e'
          cases e'
          exact fun c' v l s rd => go _ rfl (c'.cut c.ρ.length) v (le_cut l) (trim_ok s q2) (frzI_ok s rd q1)
    | bk ε' => cases e
    | ct ε' => cases e
    | ex x ε' =>
      have e' : (if noRef.gf x.fs = true then (trim c.ρ.length h2).map (fun h1 => (R.ex x, h1)) else none) = some (r, h') := e
      by_cases hc : noRef.gf x.fs = true
      · rw [if_pos hc] at e'
        cases q1 : trim c.ρ.length h2 with
        | none => rw [q1] at e'; cases e'
        | some h1 =>
          rw [q1] at e'
          cases e'
          refine fun c' σ' cls dx l s en xr => gx _ rfl (c'.cut c.ρ.length) cls dx (le_cut l) (trim_ok s q1) ?_
          obtain ⟨Ca, d, vs, h1, h2, h3, h4, h5, h6⟩ := xr
          exact ⟨Ca, d, vs, h1, h2, h3, h4, ⟨h5.1, fun z => h5.2 (List.mem_of_mem_take z)⟩, h6.re cut_sub hc⟩
      · rw [if_neg hc] at e'; cases e'
theorem bodyA_of {N : List Str} {m : MS} {vs : List V} {H : Hp} {Q : VK} {E : XK} {n : Nat} (h : SpI K mg n (runA N.length m) vs H Q E) : tS K mg (fun cls d _ H' => E cls d H') m { nx := fun _ H' => Q .non H', rt := Q } (L2.start N vs) H := by
  obtain ⟨c, h, ds, r, h', hK, hm, rfl, sr, rv, hn, e, go, gx⟩ := h
  unfold runA at e
  cases q : m (startE N.length ds) h with
  | none => rw [q] at e; cases e
  | some z =>
    obtain ⟨rs, h2⟩ := z
    rw [q] at e
    refine ⟨c, startE N.length ds, h, rs, h2, hK, hm, rfl, sr, start_envR rv, q, ?_⟩
    cases rs with
    | rt d =>
      cases d with
      | ref m' =>
        have e' : (if h.length = m' ∧ h2.length = h.length + 1 then some (R.ok (D.ref h.length), h2) else none) = some (r, h') := e
        by_cases hc : h.length = m' ∧ h2.length = h.length + 1
        · rw [if_pos hc] at e'
          cases e'
          rw [← hc.1]
          exact fun c' v l s rd => go _ rfl c' v l s rd
        · rw [if_neg hc] at e'; cases e'
      | _ => cases e
    | _ => cases e
theorem fnI {x qual : Str} {params : Arguments} {body : List Stmt} {scope : Scope} {f : Addr} {fd : FuncData} {N ps : List Str} {k : Nat} {m : MS} {dvs : List V} {kws : List (Str × V)} (F : FunD K x qual params body scope dvs kws f fd) (S : FnScope N ps scope)
    (hb : ∀ (cdv : Value) (A : Around) (outer : List Env) (s : Shared) (H : Hp) (E : XK), Room k (A.deeper (envOfC qual scope s.heap.objs.size f cdv)) → RSs (cxOf (L2.CX P w) P w K mg base N qual scope f cdv A outer s H E) (fun cls d _ H' => E cls d H') body m) :
    FnOk P w K mg base (L2.CX P w) (k + 1) f fd ps (SpI K mg ps.length (runI N.length m)) := by
  refine F.ok S (fun vs H Q E h => ?_) (fun cdv A outer s H vs Q E hr h => ⟨_, hb cdv A outer s H E hr, bodyI_of h⟩)
  obtain ⟨c, h, ds, r, h', _, _, _, _, rv, hn, _⟩ := h
  rw [← rv.length, hn]
theorem fnA {x qual : Str} {params : Arguments} {body : List Stmt} {scope : Scope} {f : Addr} {fd : FuncData} {N ps : List Str} {k : Nat} {m : MS} {dvs : List V} {kws : List (Str × V)} (F : FunD K x qual params body scope dvs kws f fd) (S : FnScope N ps scope)
    (hb : ∀ (cdv : Value) (A : Around) (outer : List Env) (s : Shared) (H : Hp) (E : XK), Room k (A.deeper (envOfC qual scope s.heap.objs.size f cdv)) → RSs (cxOf (L2.CX P w) P w K mg base N qual scope f cdv A outer s H E) (fun cls d _ H' => E cls d H') body m) :
    FnOk P w K mg base (L2.CX P w) (k + 1) f fd ps (SpI K mg ps.length (runA N.length m)) := by
  refine F.ok S (fun vs H Q E h => ?_) (fun cdv A outer s H vs Q E hr h => ⟨_, hb cdv A outer s H E hr, bodyA_of h⟩)
  obtain ⟨c, h, ds, r, h', _, _, _, _, rv, hn, _⟩ := h
  rw [← rv.length, hn]
end
def mCallI (F : IF) (a : M (List D)) : M D := fun ε h => bR (a ε h) fun ds h1 => F ds h1
section
variable {X : Cx} {W : WX}
theorem callI_of {K : PySem.W.Frag} {mg : Str → Option Value} {n : Nat} {F : IF} {a : M (List D)} {σ : L2.St} {H : Hp} {Q : VK} (hn : ArN n a) (h : tE K mg W (mCallI F a) σ H Q) :
    tCallSD (SpI K mg n F) [] (fun σ cls d H' => W cls d σ H') (tA K mg W a) σ H Q := by
  obtain ⟨c, ε, h, r, h', hK, hm, rfl, sr, er, e, px, go⟩ := h
  unfold tCallSD
  cases q : a ε h with
  | none => rw [mCallI, q] at e; cases e
  | some z =>
    obtain ⟨ra, h1⟩ := z
    rw [mCallI, q] at e
    cases ra with
    | ex x =>
      cases e
      exact ⟨c, ε, h, .ex x, _, hK, hm, rfl, sr, er, q, fun y ey => px y (by cases ey; rfl), fun a' ea => nomatch ea⟩
    | ok ds =>
      refine ⟨c, ε, h, .ok ds, h1, hK, hm, rfl, sr, er, q, Px.ok, fun ds' eds c1 vs l1 s1 r1 => ?_⟩
      cases eds
      rw [List.append_nil]
      exact ⟨c1, h1, ds, r, h', l1.K.trans hK, l1.mg.trans hm, rfl, s1, r1, hn _ _ _ _ q, e, fun d ed c' v l s rd => go d ed c' v (l1.trans l) s rd, fun x ex c' cls dx l s xr => px x ex c' cls dx (l1.trans l) s xr⟩
theorem re_callI {x : Str} {p pos : Pos} {e : Expr} {es : List Expr} {k j n : Nat} {F : IF} {ma : M (List D)} (G : FnI X.prog X.w X.K X.mg X.base x k n F) (hr : Room j X.A) (tk : Takes X W) (ha : RA X W (e :: es) ma) (hk : k ≤ j := by decide)
    (hn : ArN n ma := by repeat (first | exact ar_nil | refine ar_cons ?_)) (hg : Gl X x := by rfl)
    (hdb : (x == ("__debug__" : Str)) = false := by decide) (he : starEach (e :: es) X.env = (false, eval e X.env) :: starEach es X.env := by rfl) (hpl : (backTo pos (starEach es X.env)).any (·.1) = false := by rfl) :
    RE X W (.Call (.Name x p) (e :: es) [] pos) (mCallI F ma) := by
  obtain ⟨f, fd, ps, hm, hkp, hb, hl, F⟩ := G.ex
  exact pe_imp (pe_callSD F (hr.mono hk) hg hm hkp hb .nil (fun σ => passAt tk σ) ha hdb he hpl) fun σ H Q h => callI_of hn h
end
/-- [..] as a cell -/
def mLstC (m : M (List D)) : M D := fun ε h => bR (m ε h) fun ds h1 => if ds.length ≤ sizeLine then some (.ok (.ref h1.length), h1 ++ [.lst ds]) else none
theorem SR.cell {c : RC} {h : EH} {p : Addr} {ds : List D} {xs : List V} (s : SR c h) (hp : c.H p = none) (r : Reps c ds xs) : c.Le { c with ρ := c.ρ ++ [p], H := upd c.H p (.lst xs) } ∧ SR { c with ρ := c.ρ ++ [p], H := upd c.H p (.lst xs) } (h ++ [.lst ds]) := by
  have np : p ∉ c.ρ := fun z => by
    obtain ⟨o, e⟩ := s.ex z
    rw [hp] at e; cases e
  have ne : ∀ a o, c.H a = some o → a ≠ p := fun a o e z => by rw [z, hp] at e; cases e
  have l : c.Le { c with ρ := c.ρ ++ [p], H := upd c.H p (.lst xs) } := by
    refine ⟨rfl, ⟨rfl, tabs_upd (noTab_none hp)⟩, fun _ h => h, fun _ h => .inl h, fun a u e => ⟨u, (upd_ne (ne a u e)).trans e⟩, fun n a e => ?_, fun a u e _ n => ⟨(upd_ne (ne a u e)).trans e, fun z => ?_⟩, fun a ys e => ?_, fun a o u e => (upd_ne (ne a _ e)).trans e⟩
    · show (c.ρ ++ [p])[n]? = some a
      rw [List.getElem?_append_left (List.getElem?_eq_some_iff.mp e).1]
      exact e
    · rcases List.mem_append.mp z with z | z
      · exact n z
      · exact ne a u e (List.mem_singleton.mp z)
    · rcases e with e | ⟨u, e⟩
      · exact .inl ((upd_ne (ne a _ e)).trans e)
      · exact .inr ⟨u, (upd_ne (ne a _ e)).trans e⟩
  refine ⟨l, ⟨by rw [List.length_append, List.length_append, s.len]; rfl, ?_, fun n a k e1 e2 => ?_, fun a ha z => ?_, fun a hb => ?_⟩⟩
  · rw [List.nodup_append]
    refine ⟨s.nd, by simp, fun a ha b hb => ?_⟩
    rw [List.mem_singleton.mp hb]
    exact fun z => np (z ▸ ha)
  · have e1' : (c.ρ ++ [p])[n]? = some a := e1
    by_cases hn : n < c.ρ.length
    · rw [List.getElem?_append_left hn] at e1'
      rw [List.getElem?_append_left (by rw [← s.len]; exact hn)] at e2
      have cr := s.cells n a k e1' e2
      obtain ⟨o, eo⟩ := cr.ex
      exact cr.le l (upd_ne (ne a o eo))
    · rw [List.getElem?_append_right (by omega)] at e1'
      rw [List.getElem?_append_right (by rw [← s.len]; omega), ← s.len] at e2
      cases q : n - c.ρ.length with
      | zero =>
        rw [q] at e1' e2
        cases e1'
        cases e2
        exact ⟨xs, upd_same, r.le l⟩
      | succ m =>
        rw [q] at e1'
        simp at e1'
  · rcases List.mem_append.mp ha with ha | ha
    · exact s.nb a ha z
    · rw [List.mem_singleton.mp ha] at z
      obtain ⟨o, e⟩ := s.bt p z
      rw [hp] at e; cases e
  · obtain ⟨o, e⟩ := s.bt a hb
    exact ⟨o, (upd_ne (ne a o e)).trans e⟩
theorem re_lstC {X : Cx} {W : WX} {es : List Expr} {m : M (List D)} {pos} (h : RA X W es m) : RE X W (.List es pos) (mLstC m) := by
  refine pe_imp (pe_lst h) fun σ H Q h => ?_
  obtain ⟨c, ε, h, r', h', hK, hm, rfl, sr, er, e, px, go⟩ := h
  unfold tLst
  refine tX.bind hK hm sr er e px fun ds h1 c1 xs e1 l1 s1 r1 => ?_
  by_cases hz : ds.length ≤ sizeLine
  · rw [if_pos hz] at e1
    cases e1
    refine ⟨by rw [← r1.length]; exact hz, fun p hp => ?_⟩
    obtain ⟨l2, s2⟩ := s1.cell hp r1
    refine go _ rfl _ _ (l1.trans l2) s2 (.ref ?_)
    show (c1.ρ ++ [p])[h1.length]? = some p
    rw [← s1.len, List.getElem?_append_right (Nat.le_refl _), Nat.sub_self]
    rfl
  · rw [if_neg hz] at e1; cases e1
end PD
namespace PD
open PySem PySem.Spec PyProof.Rows L2
variable [LamTab]
inductive Ty where
  | non | bool | int | str | tup | lst | dic
  deriving DecidableEq
def Ty.nm : Ty → String
  | .non => "NoneType" | .bool => "bool" | .int => "int" | .str => "str" | .tup => "tuple" | .lst => "list" | .dic => "dict"
def isa : Ty → Ty → Bool
  | .non, .non => true | .bool, .bool => true | .bool, .int => true | .int, .int => true | .str, .str => true | .tup, .tup => true | .lst, .lst => true | .dic, .dic => true
  | _, _ => false
theorem kit_isa : ∀ a b : Ty, kitB a.nm b.nm = some (isa a b) := by
  intro a b
  cases a <;> cases b <;> decide +kernel
def tyD (h : EH) (d : D) : Option Ty := match d with
  | .non => some .non
  | .bl _ => some .bool
  | .int _ => some .int
  | .str _ => some .str
  | .tup _ => some .tup
  | .lst _ => some .lst
  | .ref n => (match h[n]? with
    | some (.lst _) => some .lst
    | _ => none)
  | _ => none
theorem tyD_ok {c : RC} {h : EH} {d : D} {v : V} {t : Ty} (s : SR c h) (r : Rep c d v) (e : tyD h d = some t) : TyX c.K c.H v (.type t.nm) := by
  cases r with
  | non => cases e; exact .base .non
  | bl b => cases e; exact .base (.bl b)
  | int i => cases e; exact .base (.int i)
  | str cs => cases e; exact .base (.str _)
  | @tup a ds xs k1 k2 =>
    cases e
    rcases k1 with (k1 | ⟨o, k1⟩) | ⟨o, its, n, k1, k3, _⟩
    · exact .base (.tup k1)
    · exact .fTuple k1
    · exact .kTuple k1 k3
  | @lst a ds xs k1 k2 k3 =>
    cases e
    exact .base (.lst k1)
  | scr _ _ => cases e
  | obj _ _ _ _ => cases e
  | dic _ _ _ _ => cases e
  | fn _ _ _ _ _ _ => cases e
  | exc _ _ _ _ _ _ => cases e
  | @ref n a hn =>
    unfold tyD at e
    dsimp only at e
    cases q : h[n]? with
    | none => rw [q] at e; cases e
    | some k =>
      rw [q] at e
      cases k with
      | lst ds =>
        cases e
        obtain ⟨xs, e1, _⟩ := s.cells n a _ hn q
        exact .base (.lst e1)
      | _ => cases e
def mIsi (ts : List Ty) (a : M D) : M D := fun ε h => bR (a ε h) fun d h1 => match tyD h1 d with
  | some t => some (.ok (.bl (ts.any (isa t))), h1)
  | none => none
section
variable {X : Cx} {W : WX}
theorem re_isi (T : Ty) {e : Expr} {x : Str} {p p2 pos : Pos} {m : M D} (hm : X.mg "isinstance" = none) (hmx : X.mg x = none) (he : RE X W e m) (hv : bootBuiltins x = some (.type T.nm) := by decide +kernel)
    (hg : Gl X "isinstance" := by rfl) (hgx : Gl X x := by rfl) (hnx : x ≠ "__name__" := by decide) (hdx : (x == ("__debug__" : Str)) = false := by decide)
    (hs1 : starEach [e, .Name x p2] X.env = (false, eval e X.env) :: starEach [.Name x p2] X.env := by rfl) (hs2 : starEach [.Name x p2] X.env = (false, eval (.Name x p2) X.env) :: starEach [] X.env := by rfl)
    (hpl : (backTo pos (starEach [.Name x p2] X.env)).any (·.1) = false := by rfl) : RE X W (.Call (.Name "isinstance" p) [e, .Name x p2] [] pos) (mIsi [T] m) := by
  refine pe_imp (pe_callB (x := "isinstance") call_isi hg hm (by decide +kernel) (pa_cons he (pa_cons (pe_bltn (v := .ty T.nm) (u := .type T.nm) hgx hmx hv rfl hnx hdx) pa_nil hs2) hs1) (by decide) (by decide) hs1 hpl) fun σ H Q h => ?_
  obtain ⟨c, ε, h, r, h', hK, hm, rfl, sr, er, e, px, go⟩ := h
  unfold tCB tCons tC tNil
  refine tX.bind hK hm sr er e px fun d h1 c1 v e1 l1 s1 r1 => ?_
  cases q : tyD h1 d with
  | none => rw [q] at e1; cases e1
  | some t =>
    rw [q] at e1
    cases e1
    have ty := tyD_ok s1 r1 q
    rw [l1.K.trans hK] at ty
    refine ⟨v, .ty T.nm, _, _, isa t T, rfl, .ty _, ty, kit_ty (kit_isa t T), go _ rfl c1 _ l1 s1 ?_⟩
    simpa using Rep.bl (isa t T)
theorem re_isi2 (T U : Ty) {e : Expr} {x y : Str} {p p2 p3 p4 pos : Pos} {k : Nat} {m : M D} (hm : X.mg "isinstance" = none) (hmx : X.mg x = none) (hmy : X.mg y = none) (he : RE X W e m) (hv : bootBuiltins x = some (.type T.nm) := by decide +kernel) (hvy : bootBuiltins y = some (.type U.nm) := by decide +kernel)
    (hg : Gl X "isinstance" := by rfl) (hgx : Gl X x := by rfl) (hgy : Gl X y := by rfl) (hnx : x ≠ "__name__" := by decide) (hdx : (x == ("__debug__" : Str)) = false := by decide) (hny : y ≠ "__name__" := by decide) (hdy : (y == ("__debug__" : Str)) = false := by decide)
    (hs1 : starEach [e, .Tuple [.Name x p2, .Name y p3] k p4] X.env = (false, eval e X.env) :: starEach [.Tuple [.Name x p2, .Name y p3] k p4] X.env := by rfl) (hs2 : starEach [.Tuple [.Name x p2, .Name y p3] k p4] X.env = (false, eval (.Tuple [.Name x p2, .Name y p3] k p4) X.env) :: starEach [] X.env := by rfl)
    (hs3 : starEach [.Name x p2, .Name y p3] X.env = (false, eval (.Name x p2) X.env) :: starEach [.Name y p3] X.env := by rfl) (hs4 : starEach [.Name y p3] X.env = (false, eval (.Name y p3) X.env) :: starEach [] X.env := by rfl)
    (hpl : (backTo pos (starEach [.Tuple [.Name x p2, .Name y p3] k p4] X.env)).any (·.1) = false := by rfl) : RE X W (.Call (.Name "isinstance" p) [e, .Tuple [.Name x p2, .Name y p3] k p4] [] pos) (mIsi [T, U] m) := by
  refine pe_imp (pe_callB (x := "isinstance") call_isiT hg hm (by decide +kernel) (pa_cons he (pa_cons (pe_tup (pa_cons (pe_bltn (v := .ty T.nm) (u := .type T.nm) hgx hmx hv rfl hnx hdx) (pa_cons (pe_bltn (v := .ty U.nm) (u := .type U.nm) hgy hmy hvy rfl hny hdy) pa_nil hs4) hs3)) pa_nil hs2) hs1) (by decide) (by decide) hs1 hpl) fun σ H Q h => ?_
  obtain ⟨c, ε, h, r, h', hK, hm, rfl, sr, er, e, px, go⟩ := h
  unfold tCB tCons tTup tC tNil
  refine tX.bind hK hm sr er e px fun d h1 c1 v e1 l1 s1 r1 => ?_
  refine ⟨by show 2 ≤ sizeLine; decide, fun tp htp => ?_⟩
  cases q : tyD h1 d with
  | none => rw [q] at e1; cases e1
  | some t =>
    rw [q] at e1
    cases e1
    obtain ⟨l2, s2, f2⟩ := s1.new (o := .tup [.ty T.nm, .ty U.nm]) htp
    have ty := tyD_ok s2 (r1.le l2) q
    have hK2 : (c1.put tp (.tup [.ty T.nm, .ty U.nm])).K = X.K := l1.K.trans hK
    rw [hK2] at ty
    refine ⟨v, tp, [.ty T.nm, .ty U.nm], _, [.type T.nm, .type U.nm], [T, U].any (isa t), rfl, upd_same, .cons (.ty _) (.cons (.ty _) .nil), ty, ?_, go _ rfl _ _ (l1.trans l2) s2 (.bl _)⟩
    refine kitAny_cons (b := isa t T) (kit_ty (kit_isa t T)) (fun hb => ?_) fun hb => by simp [hb]
    refine kitAny_cons (b := isa t U) (kit_ty (kit_isa t U)) (fun hb2 => ?_) fun hb2 => by simp [hb2]
    rw [kitAny_nil]
    simp [hb, hb2]
def mMtS (f : EH → List Nat → List D → Option D) (o : M D) (a : M (List D)) : M D := fun ε h => bR (o ε h) fun x h1 => match x with
  | .str z => bR (a ε h1) fun ds h2 => rt (f h2 z ds) h2
  | _ => none
end
/-- lists of texts -/
def asTs : List D → Option (List (List Nat))
  | [] => some []
  | .str z :: ds => (asTs ds).map (z :: ·)
  | _ :: _ => none
def permL {α : Type} (p : List Nat) (xs : List α) : List α := p.filterMap (xs[·]?)
def mPerm (p : List Nat) (a : M (List D)) : M (List D) := fun ε h => bR (a ε h) fun ds h1 => some (.ok (permL p ds), h1)
end PD
namespace PD
open PySem PySem.Spec PyProof.Rows L2
variable [LamTab]
section
variable {X : Cx} {W : WX}
def dAdd : EH → D → D → Option D := fun h x y => (dI2 (fun i j => some (.int (i + j))) h x y).or ((dCatS h x y).or ((dCatT h x y).or (dCatL h x y)))
def dSub : EH → D → D → Option D := dI2 fun i j => some (.int (i - j))
def dMul : EH → D → D → Option D := dI2 fun i j => if CMul i j then some (.int (i * j)) else none
def dDiv : EH → D → D → Option D := dI2 fun i j => if CDiv i j then some (.int (i / j)) else none
def dMod : EH → D → D → Option D := dI2 fun i j => if 0 < j then some (.int (i % j)) else none
def dPow : EH → D → D → Option D := dI2 fun i j => if CPow i j then some (.int (i ^ j.toNat)) else none
def dLt : EH → D → D → Option D := dI2 fun i j => some (.bl (decide (i < j)))
def dLe : EH → D → D → Option D := dI2 fun i j => some (.bl (decide (i ≤ j)))
def dGt : EH → D → D → Option D := dI2 fun i j => some (.bl (decide (j < i)))
def dGe : EH → D → D → Option D := dI2 fun i j => some (.bl (decide (j ≤ i)))
variable {a b : Expr} {ma mb : M D} {pos : Pos}
theorem re_add (ha : RE X W a ma) (hb : RE X W b mb) : RE X W (.BinOp a .Add b pos) (mBin dAdd ma mb) :=
  re_bin (op_add.or (op_add_str.or (op_catA.or op_cat))) ((ops_I0 _).or (ops_catS.or (ops_catT.or ops_catL))) ha hb
theorem re_sub (ha : RE X W a ma) (hb : RE X W b mb) : RE X W (.BinOp a .Sub b pos) (mBin dSub ma mb) := re_bin op_sub (ops_I0 _) ha hb
theorem re_mul (ha : RE X W a ma) (hb : RE X W b mb) : RE X W (.BinOp a .Mult b pos) (mBin dMul ma mb) := re_bin op_mul (ops_IC CMul _) ha hb
theorem re_div (ha : RE X W a ma) (hb : RE X W b mb) : RE X W (.BinOp a .FloorDiv b pos) (mBin dDiv ma mb) := re_bin op_fdiv (ops_IC CDiv _) ha hb
theorem re_mod (ha : RE X W a ma) (hb : RE X W b mb) : RE X W (.BinOp a .Mod b pos) (mBin dMod ma mb) := re_bin op_mod (ops_IC (fun _ j => 0 < j) _) ha hb
theorem re_pow (ha : RE X W a ma) (hb : RE X W b mb) : RE X W (.BinOp a .Pow b pos) (mBin dPow ma mb) := re_bin op_pow (ops_IC CPow _) ha hb
theorem re_eq {k : Nat} (hr : Room k X.A) (ha : RE X W a ma) (hb : RE X W b mb) : RE X W (.Compare a [.Eq] [b] pos) (mBin dEq ma mb) := re_cmp (op_eq.or (op_eqD hr.units)) (ops_eqS.or ops_eqD) ha hb (nomark _)
theorem re_is (ha : RE X W a ma) (hb : RE X W b mb) : RE X W (.Compare a [.Is] [b] pos) (mBin (dIsN false) ma mb) := re_cmp op_isN ops_isN ha hb (nomark _)
theorem rt_lt (ha : RE X W a ma) (hb : RE X W b mb) : RT X W (.Compare a [.Lt] [b] pos) (mTst (mBin dLt ma mb)) := rt_cmp op_lt (ops_B0 _) ha hb (nomark _)
theorem rt_gt (ha : RE X W a ma) (hb : RE X W b mb) : RT X W (.Compare a [.Gt] [b] pos) (mTst (mBin dGt ma mb)) := rt_cmp op_gt (ops_B0 fun i j => decide (j < i)) ha hb (nomark _)
theorem rt_ge (ha : RE X W a ma) (hb : RE X W b mb) : RT X W (.Compare a [.GtE] [b] pos) (mTst (mBin dGe ma mb)) := rt_cmp op_ge (ops_B0 fun i j => decide (j ≤ i)) ha hb (nomark _)
theorem rt_eq {k : Nat} (hr : Room k X.A) (ha : RE X W a ma) (hb : RE X W b mb) : RT X W (.Compare a [.Eq] [b] pos) (mTst (mBin dEq ma mb)) := rt_cmp (op_eq.or (op_eqD hr.units)) (ops_eqS.or ops_eqD) ha hb (nomark _)
theorem rt_ne {k : Nat} (hr : Room k X.A) (ha : RE X W a ma) (hb : RE X W b mb) : RT X W (.Compare a [.NotEq] [b] pos) (mTst (mBin dNe ma mb)) := rt_cmp (op_ne.or (op_neD hr.units)) (ops_neS.or ops_neD) ha hb (nomark _)
theorem rt_is (ha : RE X W a ma) (hb : RE X W b mb) : RT X W (.Compare a [.Is] [b] pos) (mTst (mBin (dIsN false) ma mb)) := rt_cmp op_isN ops_isN ha hb (nomark _)
def mChain (f g : EH → D → D → Option D) (a b c : M D) : M D := fun ε h => bR (a ε h) fun x h1 => bR (b ε h1) fun y h2 => bR (rt ((f h2 x y).bind asB) h2) fun k h3 => if k = true then bR (c ε h3) fun z h4 => rt (g h4 y z) h4 else some (.ok (.bl false), h3)
variable {c : Expr} {mc : M D}
def mNeg (a : M D) : M D := fun ε h => bR (a ε h) fun x h1 => match x with
  | .int i => some (.ok (.int (-i)), h1)
  | _ => none
theorem re_ix (ha : RE X W a ma) (hb : RE X W b mb) (hs : PlainIx b := by exact fun _ _ => rfl) : RE X W (.Subscript a b pos) (mBin dIx ma mb) := pe_imp (pe_ix ix_seq ha hb hs) fun _ _ _ h => top_of ops_ix h
variable {e : Expr} {p : Pos} {m : M (List D)}
theorem re_len (hm : X.mg "len" = none) (ha : RA X W [e] m) (hg : Gl X "len" := by rfl) (he : starEach [e] X.env = (false, eval e X.env) :: starEach [] X.env := by rfl) : RE X W (.Call (.Name "len" p) [e] [] pos) (mCall dLen m) := re_callB call_len cs_len hm ha (by decide +kernel) hg (by decide) (by decide) he rfl
theorem re_intc (hm : X.mg "int" = none) (ha : RA X W [e] m) (hg : Gl X "int" := by rfl) (he : starEach [e] X.env = (false, eval e X.env) :: starEach [] X.env := by rfl) : RE X W (.Call (.Name "int" p) [e] [] pos) (mCall dInt m) := re_callTy (call_int1.or call_int_str) cs_int hm ha (by decide +kernel) hg (by decide) (by decide) he rfl
theorem re_listc (hm : X.mg "list" = none) (ha : RA X W [e] m) (hg : Gl X "list" := by rfl) (he : starEach [e] X.env = (false, eval e X.env) :: starEach [] X.env := by rfl) : RE X W (.Call (.Name "list" p) [e] [] pos) (mCall dList m) := re_callTy call_list_of cs_list hm ha (by decide +kernel) hg (by decide) (by decide) he rfl
theorem re_all (hc : X.calm = true) (hm : X.mg "all" = none) (ha : RA X W [e] m) (hg : Gl X "all" := by rfl) (he : starEach [e] X.env = (false, eval e X.env) :: starEach [] X.env := by rfl) : RE X W (.Call (.Name "all" p) [e] [] pos) (mCall dAll m) := re_callB (cr_all hc) cs_all hm ha (by decide +kernel) hg (by decide) (by decide) he rfl
end
section
variable {P : Program} {w : World} {K : PySem.W.Frag} {mg : Str → Option Value} {base : Heap} {N : List Str} {qual : Str} {scope : Scope} {f : Addr} {cdv : Value} {A : Around} {outer : List Env} {s : Shared} {H : Hp} {E : XK}
theorem tkOf : Takes (cxOf (L2.CX P w) P w K mg base N qual scope f cdv A outer s H E) (fun cls d _ H' => E cls d H') := takes_of rfl rfl rfl rfl
theorem poOf : PassesOwn (model P w) (A.deeper (envOfC qual scope s.heap.objs.size f cdv)) (envOfC qual scope s.heap.objs.size f cdv) (cxOf (L2.CX P w) P w K mg base N qual scope f cdv A outer s H E).xe := PassesOwn.leaving
end
end PD
namespace PD
open PySem PySem.Spec PyProof.Rows L2
variable [LamTab]
theorem ba2 {a b : Bool} (h : (a && b) = true) : a = true ∧ b = true := by simpa using h
mutual
theorem dB_ok {K : PySem.W.Frag} : ∀ {d : D} {u : Value}, dB K d u = true → ∃ v, RelV v u ∧ ∀ c : RC, c.K = K → Rep c d v
  | .non, u, h => by
    cases u <;> first | (rw [dB] at h <;> first | cases h | (intros; simp at *)) | skip
    exact ⟨.non, rfl, fun c _ => .non⟩
  | .bl b, u, h => by
    cases u with
    | bool c =>
      rw [dB] at h
      have e : b = c := by simpa using h
      subst e
      exact ⟨.bl b, rfl, fun c _ => .bl b⟩
    | _ => simp [dB] at h
  | .int i, u, h => by
    cases u with
    | int j t =>
      rw [dB] at h
      have e : i = j := of_decide_eq_true h
      subst e
      exact ⟨.int i, ⟨t, rfl⟩, fun c _ => .int i⟩
    | _ => simp [dB] at h
  | .str cs, u, h => by
    cases u with
    | str y t =>
      rw [dB] at h
      have e : y.cps.toList = cs := of_decide_eq_true h
      subst e
      exact ⟨.str y, ⟨t, rfl⟩, fun c _ => .str _⟩
    | _ => simp [dB] at h
  | .tup ds, u, h => by
    cases u with
    | ref a =>
      rw [dB] at h
      cases q : K.lookup a with
      | none => rw [q] at h; cases h
      | some o =>
        obtain ⟨oc, od, dt, osl⟩ := o
        rw [q] at h
        cases oc with
        | type c =>
          cases dt with
          | seq its n =>
            obtain ⟨h1, h2⟩ := ba2 (show (decide (c = "tuple") && (decide (its.size ≤ sizeLine) && dBs K ds its.toList)) = true from h)
            obtain ⟨h3, h4⟩ := ba2 h2
            obtain ⟨vs, r, rp⟩ := dBs_ok h4
            refine ⟨.ref a, rfl, fun c0 hK => .tup (.inr ⟨_, its, n, by rw [hK]; exact q, congrArg Value.type (of_decide_eq_true h1), rfl, of_decide_eq_true h3, r⟩) (rp c0 hK)⟩
          | _ => cases h
        | _ => cases dt <;> cases h
    | _ => simp [dB] at h
  | .scr ds, u, h => by
    cases u with
    | ref a =>
      rw [dB] at h
      cases q : K.lookup a with
      | none => rw [q] at h; cases h
      | some o =>
        obtain ⟨oc, od, dt, osl⟩ := o
        rw [q] at h
        cases oc with
        | type c =>
          cases od with
          | none =>
            cases dt with
            | seq its n =>
              obtain ⟨h1, h2⟩ := ba2 (show (decide (c = "list") && (decide (its.size ≤ sizeLine) && dBs K ds its.toList)) = true from h)
              obtain ⟨h3, h4⟩ := ba2 h2
              obtain ⟨vs, r, rp⟩ := dBs_ok h4
              refine ⟨.ref a, rfl, fun c0 hK => .scr (.inr ⟨_, its, n, by rw [hK]; exact q, congrArg Value.type (of_decide_eq_true h1), rfl, rfl, of_decide_eq_true h3, r⟩) (rp c0 hK)⟩
            | _ => cases h
          | some x => cases dt <;> cases h
        | _ => cases od <;> cases dt <;> cases h
    | _ => simp [dB] at h
  | .lst _, u, h => by simp [dB] at h
  | .dic _ _, u, h => by simp [dB] at h
  | .obj _ _, u, h => by simp [dB] at h
  | .ref _, u, h => by simp [dB] at h
theorem dBs_ok {K : PySem.W.Frag} : ∀ {ds : List D} {us : List Value}, dBs K ds us = true → ∃ vs, Vals vs us ∧ ∀ c : RC, c.K = K → Reps c ds vs
  | [], us, h => by
    cases us with
    | nil => exact ⟨[], .nil, fun _ _ => .nil⟩
    | cons _ _ => simp [dBs] at h
  | d :: ds, us, h => by
    cases us with
    | nil => simp [dBs] at h
    | cons u us =>
      rw [dBs] at h
      obtain ⟨h1, h2⟩ := ba2 h
      obtain ⟨v, r, rp⟩ := dB_ok h1
      obtain ⟨vs, rs, rps⟩ := dBs_ok h2
      exact ⟨v :: vs, .cons r rs, fun c hK => .cons (rp c hK) (rps c hK)⟩
end
theorem SaysG.d {fa : List He.Fa} {fn : List He.DefD} {gs : List (Str × D)} {K : PySem.W.Frag} (c : SaysG fa fn gs K) : He.SaysD fa fn K := congrArg (fun z : AlG => z.1) c
theorem SaysG.glob {fa : List He.Fa} {fn : List He.DefD} {gs : List (Str × D)} {K : PySem.W.Frag} (c : SaysG fa fn gs K) {p : Str × D} (hp : p ∈ gs) : gloB K p.1 p.2 = true :=
  List.all_eq_true.mp (congrArg (fun z : AlG => z.2) c : (gs.all fun p => gloB K p.1 p.2) = true) p hp
theorem SaysD.facts' {fa : List He.Fa} {fn : List He.DefD} {K : PySem.W.Frag} (c : He.SaysD fa fn K) {f : He.Fa} (h : f ∈ fa) : f.ok K = true := by
  obtain ⟨i, hi, e⟩ := List.mem_iff_getElem.mp h
  exact c.fact i (f := f) (by rw [List.getElem?_eq_getElem hi, e])
theorem SaysD.def' {fa : List He.Fa} {fn : List He.DefD} {K : PySem.W.Frag} (c : He.SaysD fa fn K) {d : He.DefD} (h : d ∈ fn) : ∃ fd, FunD K d.name d.qual d.params d.body d.scope (d.dvs K) (d.kws K) (He.fAd K d.at_) fd := by
  obtain ⟨i, hi, e⟩ := List.mem_iff_getElem.mp h
  exact c.def_ i (d := d) (by rw [List.getElem?_eq_getElem hi, e])
section
variable {P : Program} {w : World} {K : PySem.W.Frag} {mg : Str → Option Value} {base : Heap}
theorem fnOk0 {k n : Nat} {f : Addr} {fd : FuncData} {ps : List Str} : FnOk P w K mg base (L2.CX P w) k f fd ps (SpP K mg n fun _ => none) :=
  ⟨fun vs H Q E h => (by obtain ⟨_, _, _, _, _, _, _, _, _, _, e, _⟩ := h; cases e), fun A outer s H args us vs Q E _ _ _ _ h => (by obtain ⟨_, _, _, _, _, _, _, _, _, _, e, _⟩ := h; cases e)⟩
theorem FnP.mono {x : Str} {j k n : Nat} {F : PF} (h : FnP P w K mg base x j n F) (l : j ≤ k) : FnP P w K mg base x k n F := by
  obtain ⟨f, fd, ps, a, b, c, d, e⟩ := h.ex
  exact ⟨⟨f, fd, ps, a, b, c, d, e.mono l⟩⟩
end
end PD
namespace PD
open PySem PySem.Spec PyProof.Rows L2
variable [LamTab]
theorem reps_ints {c : RC} : ∀ ns : List Int, Reps c (ns.map D.int) (ns.map V.int)
  | [] => .nil
  | n :: ns => .cons (.int n) (reps_ints ns)
end PD
namespace PD
open PySem PySem.Spec PyProof.Rows L2
variable [LamTab]
def s1 (f : List Nat → Option D) (ds : List D) : Option D := match ds with
  | [.str s] => f s
  | _ => none
end PD
namespace PD
open PySem PySem.Spec PyProof.Rows L2
variable [LamTab]
def insD (h : EH) (d : D) : Option (Str × List (Str × D)) := match d with
  | .obj C fs => some (C, fs)
  | .ref n => (match h[n]? with
    | some (.obj C fs) => some (C, fs)
    | _ => none)
  | _ => none
/-- what one has of a class whose fields fs are read or written -/
def ClsF (K : PySem.W.Frag) (mg : Str → Option Value) (C f : Str) : Prop := ∃ Ca, mg C = some (.ref Ca) ∧ Cls K Ca ∧ NoAttr K Ca f
def ClsFs (K : PySem.W.Frag) (mg : Str → Option Value) (Cs : List Str) (f : Str) : Prop := ∀ C ∈ Cs, ClsF K mg C f
theorem ClsFs.nil {K : PySem.W.Frag} {mg : Str → Option Value} {f : Str} : ClsFs K mg [] f := fun _ h => nomatch h
theorem ClsFs.cons {K : PySem.W.Frag} {mg : Str → Option Value} {C f : Str} {Cs : List Str} (h : ClsF K mg C f) (t : ClsFs K mg Cs f) : ClsFs K mg (C :: Cs) f := fun D hD => by
  rcases List.mem_cons.mp hD with e | e
  · rw [e]; exact h
  · exact t D e
theorem ClsFs.at {K : PySem.W.Frag} {mg : Str → Option Value} {C f : Str} {Cs : List Str} {Ca : Addr} (h : ClsFs K mg Cs f) (hC : C ∈ Cs) (hm : mg C = some (.ref Ca)) : Cls K Ca ∧ NoAttr K Ca f := by
  obtain ⟨Cb, h1, h2, h3⟩ := h C hC
  rw [hm] at h1
  cases h1
  exact ⟨h2, h3⟩
/-- o.f -/
def dFld (Cs : List Str) (f : Str) (h : EH) (d : D) : Option D := match insD h d with
  | some (C, fs) => if C ∈ Cs then fs.lookup f else none
  | none => none
def mFld (Cs : List Str) (f : Str) (a : M D) : M D := fun ε h => bR (a ε h) fun x h1 => rt (dFld Cs f h1 x) h1
section
variable {X : Cx} {W : WX}
def putO (Cs : List Str) (f : Str) (h : EH) (x y : D) : Option EH := match x with
  | .ref n => (match h[n]? with
    | some (.obj C fs) => if C ∈ Cs ∧ fs.length < 1000 then some (h.set n (.obj C (putD f y fs))) else none
    | _ => none)
  | _ => none
def msFld (Cs : List Str) (f : Str) (o v : M D) : MS := fun ε h => bS (v ε h) ε fun y h1 => bS (o ε h1) ε fun x h2 => (putO Cs f h2 x y).map fun h3 => (.nx ε, h3)
end
structure MetI (P : Program) (w : World) (K : PySem.W.Frag) (mg : Str → Option Value) (base : Heap) (C m : Str) (k n : Nat) (F : IF) : Prop where
  ex : ∃ (Ca f : Addr) (fd : FuncData) (ps : List Str), mg C = some (.ref Ca) ∧ Cls K Ca ∧ Meth K Ca m f ∧ Binds K fd ps [] ∧ ps.length = n ∧ FnOk P w K mg base (L2.CX P w) k f fd ps (SpI K mg n F)
structure MetP (P : Program) (w : World) (K : PySem.W.Frag) (mg : Str → Option Value) (base : Heap) (C m : Str) (k n : Nat) (F : PF) : Prop where
  ex : ∃ (Ca f : Addr) (fd : FuncData) (ps : List Str), mg C = some (.ref Ca) ∧ Cls K Ca ∧ Meth K Ca m f ∧ Binds K fd ps [] ∧ ps.length = n ∧ FnOk P w K mg base (L2.CX P w) k f fd ps (SpP K mg n F)
def mMeI (C m : Str) (F : IF) (o : M D) (a : M (List D)) : M D := fun ε h => bR (o ε h) fun x h1 => match insD h1 x with
  | some (C', fs) => if C' = C ∧ fs.lookup m = none then bR (a ε h1) fun ds h2 => F (x :: ds) h2 else none
  | none => none
def mMeP (C m : Str) (F : PF) (o : M D) (a : M (List D)) : M D := fun ε h => bR (o ε h) fun x h1 => match insD h1 x with
  | some (C', fs) => if C' = C ∧ fs.lookup m = none then bR (a ε h1) fun ds h2 => if noRef.go (x :: ds) = true then (F (x :: ds)).map fun r => (r, h2) else none else none
  | none => none
end PD
namespace PD
open PySem PySem.Spec PyProof.Rows L2
variable [LamTab]
/-- .. the object as a value, never written again -/
def mMkP (C : Str) (dd : List D) (F : IF) (a : M (List D)) : M D := fun ε h => bR (a ε h) fun ds h1 => match F (.ref h1.length :: (ds ++ dd)) (h1 ++ [.obj C []]) with
  | some (.ok .non, h2) => (match frzI h1.length h2 (.ref h1.length), trim h1.length h2 with
    | some d, some h3 => some (.ok d, h3)
    | _, _ => none)
  | some (.ex e, h2) => if noRef.gf e.fs = true then (trim h1.length h2).map fun h3 => (.ex e, h3) else none
  | _ => none
end PD
namespace PD
open PySem PySem.Spec PyProof.Rows L2
variable [LamTab]
section
variable {X : Cx} {W : WX}
def addI (x y : D) : Option D := match x, y with
  | .int i, .int j => some (.int (i + j))
  | _, _ => none
def msFAug (Cs : List Str) (f : Str) (o v : M D) : MS := fun ε h => bS (o ε h) ε fun x h1 => match dFld Cs f h1 x with
  | some z => bS (v ε h1) ε fun y h2 => (match addI z y with
    | some w => if (insD h1 x).map (·.1) = (insD h2 x).map (·.1) then (putO Cs f h2 x w).map fun h3 => (.nx ε, h3) else none
    | none => none)
  | none => none
end
end PD
namespace PD
open PySem PySem.Spec PyProof.Rows L2
end PD
namespace PD
open PySem PySem.Spec PyProof.Rows L2
end PD
namespace PD
open PySem PySem.Spec PyProof.Rows L2
variable [LamTab]
inductive RepPr (c : RC) : List (D × D) → List (V × V) → Prop
  | nil : RepPr c [] []
  | cons {k d : D} {ds : List (D × D)} {x v : V} {vs : List (V × V)} : Rep c k x → Rep c d v → RepPr c ds vs → RepPr c ((k, d) :: ds) ((x, v) :: vs)
theorem RepPr.le {c c' : RC} (l : c.Le c') : ∀ {ds : List (D × D)} {vs : List (V × V)}, RepPr c ds vs → RepPr c' ds vs
  | _, _, .nil => .nil
  | _, _, .cons h1 h2 t => .cons (h1.le l) (h2.le l) (t.le l)
theorem RepPr.len {c : RC} : ∀ {ds : List (D × D)} {vs : List (V × V)}, RepPr c ds vs → ds.length = vs.length
  | _, _, .nil => rfl
  | _, _, .cons _ _ t => by rw [List.length_cons, List.length_cons, t.len]
end PD
namespace PD
open PySem PySem.Spec PyProof.Rows L2
variable [LamTab]
section
variable {X : Cx} {W : WX}
theorem RepP.len {c : RC} : ∀ {ds : List (List Key × D)} {vs : List (List Key × V)}, RepP c ds vs → ds.length = vs.length
  | _, _, .nil => rfl
  | _, _, .cons _ t => by rw [List.length_cons, List.length_cons, RepP.len t]
end
def lkS (z : List Nat) : List (List Nat × D) → Option D
  | [] => none
  | p :: r => if p.1 = z then some p.2 else lkS z r
inductive Ent (K : PySem.W.Frag) : List (List Nat × D) → List DictEntry → Prop
  | nil : Ent K [] []
  | cons {z : List Nat} {d : D} {r : List (List Nat × D)} {e : DictEntry} {l : List DictEntry} {t : Tok} {v : V} : e.key = .str (toS z) t → RelV v e.val → (∀ c : RC, c.K = K → Rep c d v) → Ent K r l → Ent K ((z, d) :: r) (e :: l)
theorem entB_ok {K : PySem.W.Frag} : ∀ {r : List (List Nat × D)} {l : List DictEntry}, entB K r l = true → Ent K r l
  | [], [], _ => .nil
  | [], _ :: _, h => by cases h
  | _ :: _, [], h => by cases h
  | p :: r, e :: l, h => by
    unfold entB at h
    obtain ⟨h1, h2⟩ := ba2 h
    obtain ⟨h3, h4⟩ := ba2 h2
    obtain ⟨v, rv, rp⟩ := dB_ok h3
    cases q : e.key with
    | str y t =>
      rw [q] at h1
      have ey : y.cps.toList = p.1 := of_decide_eq_true h1
      exact .cons (t := t) (by rw [q, ← ey]; rfl) rv rp (entB_ok h4)
    | _ => rw [q] at h1; cases h1
end PD
namespace PD
open PySem PySem.Spec PyProof.Rows L2
variable [LamTab]
/-- the module's name x is a dict of these -/
structure DicC (K : PySem.W.Frag) (w : World) (mg : Str → Option Value) (x : Str) (kvs : List (List Nat × D)) : Prop where
  ex : ∃ (d : Addr) (es : Array DictEntry) (n : Nat), mg x = some (.ref d) ∧ KDict K w d es n ∧ Ent K kvs es.toList
def mC1 (f : D → Option D) (a : M D) : M D := fun ε h => bR (a ε h) fun x h1 => rt (f x) h1
theorem SaysG2.g {fa : List He.Fa} {fn : List He.DefD} {gs : List (Str × D)} {ds : List DicD} {w : World} {K : PySem.W.Frag} (c : SaysG2 fa fn gs ds w K) : SaysG fa fn gs K := congrArg (fun z : AlG2 => z.1) c
theorem SaysG2.dic {fa : List He.Fa} {fn : List He.DefD} {gs : List (Str × D)} {ds : List DicD} {w : World} {K : PySem.W.Frag} {h : Heap} {mg : Str → Option Value} (X : K.In h) (G : h.Ns mainGlobals mg) (c : SaysG2 fa fn gs ds w K) {p : DicD} (hp : p ∈ ds) : DicC K w mg p.1 p.2 := by
  have c1 : (ds.all fun p => dicB K p.1 p.2) = true := congrArg (fun z : AlG2 => z.2.1) c
  have c2 : (ds.map fun p => He.dicW K (He.ga K p.1)) = ds.map fun p => some (He.keysIn w.params (p.2.map fun q => toS q.1)) := congrArg (fun z : AlG2 => z.2.2) c
  have b := List.all_eq_true.mp c1 p hp
  have t : He.dicW K (He.ga K p.1) = some (He.keysIn w.params (p.2.map fun q => toS q.1)) := List.map_inj_left.mp c2 p hp
  obtain ⟨es, n, kd⟩ := He.dicW_ok t
  unfold dicB at b
  cases q : PySem.W.nsIn K mainGlobals p.1 with
  | none => rw [q] at b; cases b
  | some u =>
    cases u with
    | none => rw [q] at b; cases b
    | some u =>
      cases u with
      | ref d =>
        rw [q] at b
        have eg : He.ga K p.1 = d := by
          unfold He.ga
          rw [q]
        rw [eg] at kd
        dsimp only at b
        rw [kd.at_] at b
        exact ⟨d, es, n, PySem.W.mg_of X G q, kd, entB_ok b⟩
      | _ => rw [q] at b; cases b
end PD
namespace PD
open PySem PySem.Spec PyProof.Rows L2
end PD
namespace PD
open PySem PySem.Spec PyProof.Rows L2
variable [LamTab]
section
variable {P : Program} {w : World} {K : PySem.W.Frag} {mg : Str → Option Value} {base : Heap}
theorem FnI.mono {x : Str} {j k n : Nat} {F : IF} (h : FnI P w K mg base x j n F) (l : j ≤ k) : FnI P w K mg base x k n F := by
  obtain ⟨f, fd, ps, a, b, c, d, e⟩ := h.ex
  exact ⟨⟨f, fd, ps, a, b, c, d, e.mono l⟩⟩
theorem MetI.mono {C x : Str} {j k n : Nat} {F : IF} (h : MetI P w K mg base C x j n F) (l : j ≤ k) : MetI P w K mg base C x k n F := by
  obtain ⟨Ca, f, fd, ps, a, a2, b, c, d, e⟩ := h.ex
  exact ⟨⟨Ca, f, fd, ps, a, a2, b, c, d, e.mono l⟩⟩
theorem MetP.mono {C x : Str} {j k n : Nat} {F : PF} (h : MetP P w K mg base C x j n F) (l : j ≤ k) : MetP P w K mg base C x k n F := by
  obtain ⟨Ca, f, fd, ps, a, a2, b, c, d, e⟩ := h.ex
  exact ⟨⟨Ca, f, fd, ps, a, a2, b, c, d, e.mono l⟩⟩
end
end PD
namespace PD
open PySem PySem.Spec PyProof.Rows L2
variable [LamTab]
def lcL2 (g : MG) (t : M Bool) (mi : M (List D)) (g1 : MG) (t1 : M Bool) (e : M D) (vs1 : List Nat) : List D → Ev → EH → Option (List D × EH)
  | [], _, h => some ([], h)
  | d :: ds, ε, h => match g d ε h with
    | none => none
    | some (ε1, h1) => match t ε1 h1 with
      | some (.ok true, h2) => (match mi ε1 h2 with
        | some (.ok ds1, h3) => (match lcL g1 t1 e ds1 (wipeE ε1 vs1) h3 with
          | some (ys, h4) => (match lcL2 g t mi g1 t1 e vs1 ds ε h4 with
            | some (zs, h5) => some (ys ++ zs, h5)
            | none => none)
          | none => none)
        | _ => none)
      | some (.ok false, h2) => lcL2 g t mi g1 t1 e vs1 ds ε h2
      | _ => none
def mLc2 (vs : List Nat) (mi : M (List D)) (g : MG) (t : M Bool) (mi1 : M (List D)) (g1 : MG) (t1 : M Bool) (e : M D) (vs1 : List Nat) : M D := fun ε h => bR (mi ε h) fun ds h1 => okL (lcL2 g t mi1 g1 t1 e vs1 ds (wipeE ε vs) h1)
theorem MgE.put {c : RC} {mg : Str → Option Value} {p : Addr} {o : HO} (h : NoTab c.H p) (m : MgE c mg) : MgE (c.put p o) mg := ⟨m.e, fun _ => tabs_upd (ρ := c.ρ) (B := c.B) h (m.t trivial)⟩
end PD
namespace PD
open PySem PySem.Spec PyProof.Rows L2
variable [LamTab]
def isLc (h : EH) (x : D) : Bool := match x with
  | .ref n => (match h[n]? with
    | some (.lst _) => true
    | _ => false)
  | _ => false
def apD (h : EH) (x y : D) : Option EH := match x with
  | .ref n => (match h[n]? with
    | some (.lst ds) => if ds.length < sizeLine then some (h.set n (.lst (ds ++ [y]))) else none
    | _ => none)
  | _ => none
def mAppend (o e : M D) : M D := fun ε h => bR (o ε h) fun x h1 => if isLc h1 x = true then bR (e ε h1) fun y h2 => (apD h2 x y).map fun h3 => (.ok .non, h3) else none
section
variable {X : Cx} {W : WX}
def dMax2 (_ : EH) (ds : List D) : Option D := match ds with
  | [.int i, .int j] => some (.int (if j > i then j else i))
  | _ => none
end
def mApp2 (a b : M (List D)) : M (List D) := fun ε h => bR (a ε h) fun xs h1 => bR (b ε h1) fun ys h2 => some (.ok (xs ++ ys), h2)
end PD
namespace PD
open PySem PySem.Spec PyProof.Rows L2
open PySem.Froz (SD sObj TxOk addTx tailTx)
end PD
namespace PD
open PySem PySem.Spec PyProof.Rows L2
variable [LamTab]
def insU (x : List Nat) : List (List Nat) → List (List Nat)
  | [] => [x]
  | y :: r => if x < y then x :: y :: r else if y < x then y :: insU x r else y :: r
def srtU (l : List (List Nat)) : List (List Nat) := l.foldr insU []
def txD (h : EH) (d : D) : Option (List (List Nat)) := match asS h d with
  | some xs => (match asTs xs with
    | some zs => if zs.length + 1 < scanBound then some zs else none
    | none => none)
  | none => none
def mSortT (a : M D) : M D := fun ε h => bR (a ε h) fun x h1 => rt ((txD h1 x).map fun zs => .lst ((srtU zs).map .str)) h1
def mLenT (a : M D) : M D := fun ε h => bR (a ε h) fun x h1 => rt ((txD h1 x).map fun zs => .int (srtU zs).length) h1
end PD
namespace PD
open PySem PySem.Spec PyProof.Rows L2
variable [LamTab]
def miEn (a : M (List D)) : M (List D) := fun ε h => bR (a ε h) fun xs h1 => match xs with
  | [x] => (match x with
    | .lst as => some (.ok (enumD as), h1)
    | .tup as => some (.ok (enumD as), h1)
    | _ => none)
  | _ => none
def mPrp (C : Str) (F : PF) (o : M D) : M D := fun ε h => bR (o ε h) fun x h1 => match insD h1 x with
  | some (C', _) => if C' = C ∧ noRef.go [x] = true then (match F [x] with
    | some (.ok d) => some (.ok d, h1)
    | _ => none) else none
  | none => none
def mCGet (kvs : List (List Nat × D)) (a b : M D) : M D := fun ε h => bR (a ε h) fun y h1 => match y with
  | .str k => bR (b ε h1) fun z h2 => some (.ok ((lkS k kvs).getD z), h2)
  | _ => none
end PD
namespace PD
open PySem PySem.Spec PyProof.Rows L2
variable [LamTab]
section
variable {n : Nat} {fa : List He.Fa} {fn : List He.DefD} {gs : List (Str × D)} {ds : List DicD} {fx : List FactB} {xd : List He5.DefA} {w : World} {K : PySem.W.Frag}
theorem SaysG3.two (c : SaysG3 fa fn gs ds fx xd w K) : SaysG2 fa fn gs ds w K := congrArg (fun z : AlG3 => z.1) c
theorem SaysG3.fact (c : SaysG3 fa fn gs ds fx xd w K) {f : FactB} (h : f ∈ fx) : f K = true :=
  List.all_eq_true.mp (ba2 (congrArg (fun z : AlG3 => z.2.1) c : ((fx.all (fun f => f K)) && xd.all (fun d => d.ok K)) = true)).1 f h
theorem SaysG3.defA (c : SaysG3 fa fn gs ds fx xd w K) {d : He5.DefA} (h : d ∈ xd) : ∃ fd, FunD K d.name d.qual d.params d.body d.scope (d.dvs K) (d.kws K) (d.at_ K) fd := by
  have c1 := List.all_eq_true.mp (ba2 (congrArg (fun z : AlG3 => z.2.1) c : ((fx.all (fun f => f K)) && xd.all (fun d => d.ok K)) = true)).2 d h
  have c2 : (xd.map fun d => He5.fnA K (d.at_ K)) = xd.map He5.DefA.val := congrArg (fun z : AlG3 => z.2.2) c
  exact He5.DefA.funD (List.map_inj_left.mp c2 d h) c1
end
def miA (a : M D) : M (List D) := fun ε h => match miL a ε h with
  | some z => some z
  | none => miT a ε h
end PD
namespace PD
open PySem PySem.Spec PyProof.Rows L2
variable [LamTab]
def msPar3 (i j l : Nat) (m : M (List D)) : MS := fun ε h => bS (m ε h) ε fun ds h1 => match ds with
  | [d, e, f] => some (.nx (((ε.set i (some d)).set j (some e)).set l (some f)), h1)
  | _ => none
end PD
namespace PX
open PySem PySem.Spec PyProof.Rows L2 PySem.Calls
section
variable {X : Cx} {pins : List (Addr × Obj)} {σ : L2.St} {H : Hp} {s : Shared} {a C u : Addr} {E : Value → Shared → Prop}
/-- ValueError.__init__ bound to the object, called -/
theorem mw_init {us : List Value} {Q : Value → Shared → Prop} (T : OexC X.K C) (I : Inv X pins σ H s) (e : H a = some (exo a C none)) (hu : s.heap.get? u = some (PySem.W.kxs_mw "ValueError.__init__" a)) (hl : us.length ≤ sizeLine) (h : ∀ s', Inv X pins σ H s' → Q .none s') :
    wpAny (model X.prog X.w) X.A (call (.ref u) us) Q E s := by
  obtain ⟨nm, q, N, bs, bm, sn, sub, ab, col, dd, k0, k1, k2, k3, k5, hC, hbm⟩ := T.cls
  obtain ⟨t1, ho⟩ := exo_at I.hok e
  obtain ⟨hp, g, d, t, os⟩ := s
  have KC := I.kIn _ _ hC
  refine wpAny_call (codeAny_of_tree ?_)
  show wpAny _ X.A.in1 (callAny (.ref u) ⟨us, []⟩) _ _ _
  simp only [callAny]
  refine wpAny_bind (wpAny_load hu ?_)
  simp only [PySem.W.kxs_mw, show (Value.type "method-wrapper" == Value.type "method" || Value.type "method-wrapper" == Value.type "builtin_function_or_method" || Value.type "method-wrapper" == Value.type "method-wrapper") = true by decide, if_true]
  refine PySem.W.KFB.if_so (by decide) ?_
  refine wpAny_bind (PySem.W.check_bound_init F.excBase_ValueError.toExcCallFacts KC ho rfl ?_)
  refine wpAny_bind (wpAny_pure (wpAny_pure ?_))
  refine ⟨plainId_quiet F.excBase_ValueError.init.plain _, codeAny_builtin F.excBase_ValueError.initEntry ?_⟩
  refine PySem.W.exc_init_tree (cls := .ref C) (t0 := t1) (dv := none) (c2 := .none) (c3 := .none) (b4 := .bool false) ho hl fun h' k hx _ => ?_
  have J := I.write (t' := t) (x := a) (e := a) (o := exo a C none) (by rw [e]; exact True.intro) (.inl rfl) k ⟨_, hx⟩ (exo_ok hx)
  have eu : upd H a (exo a C none) = H := by
    funext b
    by_cases hb : b = a
    · rw [hb, upd_same, e]
    · rw [upd_ne hb]
  rw [eu] at J
  exact h _ J
end
/-- a class whose __init__ says super().__init__(code); self.code = code -/
def supBody (b : List Stmt) : Prop := ∃ p0 p1 p2 p3 p4 p5 p6 p7 p8 p9, (∀ env : Env, ∃ pl : Sem Bool, eval (.Call (.Attribute (.Call (.Name "super" p0) [] [] p1) "__init__" p2) [.Name "code" p3] [] p4) env = (do
      let ov ← attributeBase (.Call (.Name "super" p0) [] [] p1) "__init__" env (eval (.Call (.Name "super" p0) [] [] p1) env)
      standAt p2.atName
      let (f, first) ← holding [ov] (getMethod ov "__init__" pl)
      callWith p4 f first (backTo p4 (starEach [.Name "code" p3] env)) [])) ∧ b = [.Expr (.Call (.Attribute (.Call (.Name "super" p0) [] [] p1) "__init__" p2) [.Name "code" p3] [] p4) p5, .Assign [.Attribute (.Name "self" p6) "code" p7] (.Name "code" p8) p9]
structure SupI (P : Program) (K : PySem.W.Frag) (T f : Addr) (fd : FuncData) : Prop where
  ex : ∃ (qual : Str) (params : Arguments) (ar : Arg) (body : List Stmt) (scope : Scope) (oc : Value) (od : Option Addr) (dV kV doc pm : Value) (an : Option Addr) (cda cc : Addr) (ct : Value) (osl : Array (Option Value)),
    fd = PySem.W.ksFn "__init__" qual params body scope dV kV doc pm an (.ref cda) ct cc ∧ supBody body ∧ K.lookup f = some ⟨oc, od, .func fd, osl⟩ ∧ PySem.W.codeIn K (.ref cda) qual = true ∧ (params.posonlyargs ++ params.args).head? = some ar ∧ ar.arg = "self" ∧
    (∃ (oc2 : Value) (od2 : Option Addr) (vs : Array Value) (sl2 : Array (Option Value)) (file : Str) (tf : Tok), K.lookup cda = some ⟨oc2, od2, .fields vs, sl2⟩ ∧ vs[2]? = some (.str file tf) ∧ ((P.main.file : Str) == file) = true) ∧
    (∃ (oc3 : Value) (od3 : Option Addr) (sl3 : Array (Option Value)), K.lookup cc = some ⟨oc3, od3, .cell (some (.ref T)), sl3⟩) ∧
    (∀ x ∈ scope.names, x.2 ≠ .cell) ∧ (∀ x ∈ scope.names, x.2 = .free → x.1 = "__class__") ∧ scope.names.lookup ("super" : Str) = some .globalImplicit ∧ scope.names.lookup ("__class__" : Str) = some .free ∧ scope.names.lookup ("self" : Str) = some .local ∧ scope.names.lookup ("code" : Str) = some .local ∧
    scope.kind = .function ∧ scope.isCoroutine = false ∧ scope.isGenerator = false
  cls : ∃ cd, PySem.W.clsIn K T = some cd
  sup : PySem.W.nsIn K mainGlobals "super" = some none
  top : (P.main.scope.names.lookup ("super" : Str)).isSome = false
  opq : PySem.W.nsIn K cStatics "thirdparty.any" = some none
/-- the class C of the object lies over T -/
structure OverT (K : PySem.W.Frag) (T C : Addr) : Prop where
  oex : OexC K C
  sup : PySem.W.ks_superIn K C T "__init__" = some (some (.builtin "ValueError.__init__"))
  mro : PySem.W.mroIn K C (.ref T) = some true
  sub : PySem.W.subIn K (.ref C) (.type "ValueError") = some true
  no : PySem.W.findIn K (.ref C) "code" = some none
def spT (K : PySem.W.Frag) (T : Addr) : Sp := fun vs H Q _ => ∃ (a C : Addr) (y : V), vs = [.ref a, y] ∧ OverT K T C ∧ H a = some (exo a C none) ∧ ∀ dx, H dx = none → dx ≠ a → Q .non (upd (upd H dx (exd dx [("code", y)])) a (exo a C (some dx)))
def supCx (CX : CXT) (P : Program) (w : World) (K : PySem.W.Frag) (mg : Str → Option Value) (base : Heap) (qual : Str) (scope : Scope) (f cc : Addr) (cd : Value) (A : Around) (outer : List Env) (s : Shared) (H : Hp) (E : XK) : Cx where
  prog := P
  w := w
  K := K
  mg := mg
  base := base
  A := A.deeper (PySem.W.ksEnv qual scope s.heap.objs.size f cd cc)
  N := ["self", "code"]
  s_0 := s
  H_0 := H
  env := PySem.W.ksEnv qual scope s.heap.objs.size f cd cc
  outer := outer
  stack := PySem.W.ksEnv qual scope s.heap.objs.size f cd cc :: outer
  ex := []
  fn := fun _ => false
  calm := true
  pn := []
  xe := fun e s' => wpAny (model P w) (A.deeper (PySem.W.ksEnv qual scope s.heap.objs.size f cd cc)) (leaving (PySem.W.ksEnv qual scope s.heap.objs.size f cd cc) e) (fun _ s'' => CX outer H s E e s'') (fun e' s'' => CX outer H s E e' s'') s'
section
variable {P : Program} {w : World} {K : PySem.W.Frag} {mg : Str → Option Value} {base : Heap} {CX : CXT} {k : Nat} {T f : Addr} {fd : FuncData}
theorem sup_start {qual : Str} {scope : Scope} {cc : Addr} {cd u0 u1 : Value} {v0 v1 : V} {A : Around} {outer : List Env} {s : Shared} {H : Hp} {E : XK} {h₁ : Heap} {tk : Nat} (hd : A.handled = none) (e0 : Env0 P w K mg base A outer s H)
    (hcell : ∃ (oc3 : Value) (od3 : Option Addr) (sl3 : Array (Option Value)), K.lookup cc = some ⟨oc3, od3, .cell (some (.ref T)), sl3⟩) (hc : ∀ x ∈ scope.names, x.2 ≠ .cell) (hf : ∀ x ∈ scope.names, x.2 = .free → x.1 = "__class__") (hks : scope.names.lookup ("self" : Str) = some .local) (hkc : scope.names.lookup ("code" : Str) = some .local) (hkind : scope.kind = .function)
    (r0 : RelV v0 u0) (r1 : RelV v1 u1) (hns : h₁.Ns s.heap.objs.size (fun x => [(("self" : Str), u0), (("code" : Str), u1)].reverse.lookup x)) (hk : ∀ b o, s.heap.get? b = some o → h₁.get? b = some o) :
    Inv (supCx CX P w K mg base qual scope f cc cd A outer s H E) [] [some v0, some v1] H { s with heap := h₁, toks := tk } := by
  obtain ⟨oc3, od3, sl3, hcell⟩ := hcell
  have noA : ∀ b : Addr, b ∉ (supCx CX P w K mg base qual scope f cc cd A outer s H E).ex := fun b z => absurd (show b ∈ ([] : List Addr) from z) (by simp)
  have cells : ∀ {y : Str} {c : Addr}, (supCx CX P w K mg base qual scope f cc cd A outer s H E).env.cells.lookup y = some c → y = "__class__" ∧ c = cc := fun {y c} e => by
    have e' : ([(("__class__" : Str), cc)] : List (Str × Addr)).lookup y = some c := e
    rw [List.lookup_cons] at e'
    cases q : y == ("__class__" : Str) with
    | true => rw [q] at e'; cases e'; exact ⟨beq_iff_eq.mp q, rfl⟩
    | false => rw [q] at e'; cases e'
  have kc := e0.mod.kin _ _ hcell
  refine ⟨⟨e0.mod, hkind, rfl, rfl, Nat.le_refl _, fun y z c h1 h2 => (cells h1).1.trans (cells h2).1.symm, fun y hy => ?_, fun y c z _ => ?_, fun _ => hd, Around.frames_deeper e0.frames, .inr ⟨rfl, rfl⟩, fun b z => absurd z (noA b), e0.bs, e0.bsz, fun b _ _ => noA b, fun b z => absurd z (noA b), e0.funs, e0.frf⟩,
    rfl, e0.bare, Un.kept hk, ⟨_, hns, fun i y v h1 h2 h3 => ?_⟩, fun y c h => ?_, e0.hok.fresh (Nat.le_refl _), fun y c h => ?_, fun p hp => absurd (show p ∈ ([] : List (Addr × Obj)) from hp) (by simp), e0.hok.kept hk, rfl⟩
  · have hy : scope.names.lookup y = some .cell ∨ scope.names.lookup y = some .free := hy
    rcases hy with hy | hy
    · exact absurd rfl (hc _ (PySem.mem_of_lookup hy))
    · have e := hf _ (PySem.mem_of_lookup hy) rfl
      have e' : y = "__class__" := e
      subst e'
      exact ⟨cc, rfl⟩
  · have z : false = true := z
    cases z
  · match i, h1, h2 with
    | 0, h1, h2 =>
      cases h1
      cases h2
      exact ⟨u0, r0, .inl ⟨hks, rfl⟩⟩
    | 1, h1, h2 =>
      cases h1
      cases h2
      exact ⟨u1, r1, .inl ⟨hkc, rfl⟩⟩
    | n + 2, h1, h2 => simp at h2
  · rw [(cells h).2]
    exact ⟨_, _, hk _ _ (e0.bs _ _ kc).1, rfl⟩
  · rw [(cells h).2]
    exact (e0.bs _ _ kc).2
/-- its promise -/
theorem sup_init (S : SupI P K T f fd) : FnOk P w K mg base CX (k + 1) f fd ["self", "code"] (spT K T) := by
  refine ⟨fun vs H Q E h => ?_, fun A outer s H args us vs Q E hr e0 hb r hsp => ?_⟩
  · obtain ⟨a, C, y, rfl, _⟩ := h
    rfl
  obtain ⟨a, C, y, rfl, O, ea, go⟩ := hsp
  obtain ⟨qual, params, ar, body, scope, oc, od, dV, kV, doc, pm, an, cda, cc, ct, osl, rfl, ⟨p0, p1, p2, p3, p4, p5, p6, p7, p8, p9, hev, rfl⟩, lk, hcd, hp, har, ⟨oc2, od2, cvs, sl2, file, tf, hcda, hvs, hfile⟩, hcl, hnc, hnf, hsup, hcls, hself, hcode, hkind, hco, hgen⟩ := S.ex
  obtain ⟨u0, u1, rfl, r0, r1⟩ := r.two
  obtain rfl : u0 = Value.ref a := r0
  have KX : K.In s.heap := e0.mod.kin.keeps fun b o e => (e0.bs b o e).1
  have lim : s.heap.NoLimit := e0.mod.nolimit.keeps fun b o e => (e0.bs b o e).1
  refine PySem.ks_codeAny_call_defAt (fd := PySem.W.ksFn "__init__" qual params _ scope dV kV doc pm an (.ref cda) ct cc) (binds := [("self", .ref a), ("code", u1)]) hr.depth (KX _ _ lk) rfl lim (PySem.W.codeRec_of KX hcd) rfl hb hnc ?_ (fun h₁ hns hk => ?_) hco hgen hkind
  · intro x hx
    rcases List.mem_cons.mp hx with e | hx
    · rw [e]; exact hself
    · rw [List.mem_singleton.mp hx]; exact hcode
  have I := sup_start (CX := CX) (f := f) (qual := qual) (cd := .ref cda) (E := E) (tk := s.toks + 2) hr.hd e0 hcl hnc hnf hself hcode hkind (v0 := .ref a) (v1 := y) rfl r1 hns hk
  obtain ⟨nm, q, N, bs, bm, sn, sub, ab, col, dd, k0, k1, k2, k3, k5, hC, hbm⟩ := O.oex.cls
  obtain ⟨cdT, hT⟩ := S.cls
  let s1 : Shared := { s with heap := h₁, toks := s.toks + 2 }
  have I : Inv (supCx CX P w K mg base qual scope f cc (.ref cda) A outer s H E) [] [some (.ref a), some y] H s1 := I
  have KX1 : K.In h₁ := I.kIn
  obtain ⟨oD, hD1, hD2⟩ : ∃ oD, h₁.get? T = some oD ∧ oD.data = .cls cdT := by
    unfold PySem.W.clsIn at hT
    split at hT
    · rename_i c d cd' sl ho
      cases hT
      exact ⟨_, KX1 _ _ ho, rfl⟩
    · cases hT
  obtain ⟨t1, hx⟩ := exo_at I.hok ea
  have hxC : a ≠ C := fun z => by
    have e1 := KX1 _ _ hC
    rw [← z, hx] at e1
    cases e1
  have hsub : PySem.W.Looks (model P w) h₁ (isSubtype (.ref C) (.ref T)) true := PySem.W.looks_mroIn KX1 O.mro
  let env : Env := PySem.W.ksEnv qual scope s.heap.objs.size f (.ref cda) cc
  have hnsE : h₁.Ns env.locals (fun x => [(("self" : Str), Value.ref a), (("code" : Str), u1)].reverse.lookup x) := hns
  refine PySem.ks_wpAt_execs_cons (PySem.ks_wpAt_Expr_any (PySem.ks_wpAt_MethodCall (env := env) ?_ (hev env).choose_spec) (by show interactive env = false; unfold interactive; rw [show env.scope.kind = _ from hkind] <;> rfl) (by rfl))
  refine PySem.ks_wpAt_super_base (env := env) hsup hcls rfl rfl (KX1 _ _ lk) rfl hp rfl (KX1 _ _ hcda) rfl hvs hfile S.top ?_
  obtain ⟨mb, b1, b2⟩ := e0.mod.blt
  refine PySem.W.ks_loadName_global hkind hsup (loadGlobal_builtin (env := env) (e0.mod.glob.keeps I.bk) (PySem.W.mg_none_of e0.mod.kin e0.mod.glob S.sup) (b1.keeps I.bk) ((b2 "super" (by decide)).trans (by decide +kernel)) ⟨rfl, ?_⟩)
  obtain ⟨oc3, od3, sl3, hcc⟩ := hcl
  refine wpAny_loadName_free hkind hcls rfl ⟨_, KX1 _ _ hcc, rfl⟩ ?_
  rw [har]
  refine wpAny_loadName_local hkind hself hnsE rfl ?_
  refine PySem.ks_wpAny_isType_cls hD1 hD2 ⟨rfl, ?_⟩
  refine PySem.ks_wpAny_call_super hD1 hD2 hx rfl (fun c e => by cases e) hsub (fun h' e k => ?_)
  -- the method
  have I2 : Inv (supCx CX P w K mg base qual scope f cc (.ref cda) A outer s H E) [] [some (.ref a), some y] H { s with heap := h', toks := s.toks + 2 } := I.kept k
  have hcdC : ∃ cd, PySem.W.clsIn K C = some cd := by
    have z := O.sup
    unfold PySem.W.ks_superIn at z
    cases q : PySem.W.clsIn K C with
    | none => rw [q] at z; cases z
    | some cd => exact ⟨cd, rfl⟩
  obtain ⟨cdC, hcdC⟩ := hcdC
  have hal : PySem.W.alongIn K "__init__" ((cdC.mro.dropWhile (· != .ref T)).drop 1) = some (some (.builtin "ValueError.__init__")) := by
    have z := O.sup
    unfold PySem.W.ks_superIn at z
    rw [hcdC] at z
    exact z
  have hmro : PySem.W.Looks (model P w) h' (mroOf (.ref C)) cdC.mro := fun A Q E s k q => wpAny_bind ((PySem.W.looks_clsIn I2.kIn hcdC) A _ E s k (wpAny_pure q))
  have LTy : PySem.W.Looks (model P w) h' (typeOf (.ref a)) (.ref C) := fun A Q E s k2 q => wpAny_typeOf_ref (k2 _ _ (k _ _ hx)) q
  have hI : PySem.W.Looks (model P w) h' (isInstance (.ref a) (.type "ValueError")) true := LTy.andThen (PySem.W.looks_subIn I2.kIn O.sub)
  refine PySem.W.kxs_getMethod PySem.W.kxs_ValueError (by exact e) (PySem.W.looks_opaque I2.kIn S.opq) hmro rfl I2.kIn hal hI hxC (by decide) ?_
  have kp : ∀ b o, h'.get? b = some o → (h'.push (PySem.W.kxs_mw "ValueError.__init__" a)).get? b = some o := fun b o e => Heap.get?_push_of_some _ e
  have I3 : Inv (supCx CX P w K mg base qual scope f cc (.ref cda) A outer s H E) [] [some (.ref a), some y] H { s with heap := h'.push (PySem.W.kxs_mw "ValueError.__init__" a), toks := s.toks + 2 + 1 } := I2.kept kp
  have hu : (h'.push (PySem.W.kxs_mw "ValueError.__init__" a)).get? h'.objs.size = some (PySem.W.kxs_mw "ValueError.__init__" a) := Heap.get?_push_size _ rfl
  refine PySem.W.kxs_callWith (i := "ValueError.__init__") (x := a) rfl (evalArgs_plain ?_)
  obtain ⟨m3, hm3⟩ : ∃ m, (h'.push (PySem.W.kxs_mw "ValueError.__init__" a)).Ns env.locals m ∧ m "code" = some u1 := by
    obtain ⟨o, es, ep, ho, r⟩ := hnsE
    exact ⟨_, ⟨o, es, ep, kp _ _ (k _ _ ho), r⟩, rfl⟩
  show wpAny _ _ (spliced ((false, eval (.Name "code" p3) env) :: backTo p4 (starEach [] env))) _ _ _
  refine PySem.Calls.spliced_cons (ESX.ldL (env := env) hm3.1 hm3.2 (PySem.Calls.spliced_nil ⟨hu, ?_⟩) hkind hcode)
  refine mw_init (X := supCx CX P w K mg base qual scope f cc (.ref cda) A outer s H E) (us := [u1]) O.oex I3 ea hu (by show 1 ≤ sizeLine; rw [sizeLine_eq]; omega) fun s4 I4 => ?_
  refine wpAt_of_wpAny ?_
  have hps : PSs (supCx CX P w K mg base qual scope f cc (.ref cda) A outer s H E) [.Assign [.Attribute (.Name "self" p6) "code" p7] (.Name "code" p8) p9] _ := pss_one (ps_ost (o := .Name "self" p6) (e := .Name "code" p8) (pe_var (i := 0) rfl (.inl hself)) (pe_var (i := 1) rfl (.inl hcode)))
  refine wpAny_mono (hps.run [] s4 [some (.ref a), some y] H { nx := fun _ H' => Q .non H', rt := Q } I4 ?_) (fun fl s' hs => ?_) fun e s' hs => hs
  · exact ⟨y, rfl, .ref a, rfl, a, C, rfl, O.oex, O.no, .inl ⟨ea, go⟩⟩
  · have fin : ∀ {σ' : L2.St} {H' : Hp} {v : V} {u : Value}, Inv (supCx CX P w K mg base qual scope f cc (.ref cda) A outer s H E) [] σ' H' s' → RelV v u → Q v H' → CE outer P w H s Q u s' :=
      fun {σ' H' v u} J rv q => ⟨v, H', J.os, J.bare, J.base, J.hok, rv, q⟩
    cases fl with
    | ret u =>
      obtain ⟨v, σ', H', J, rv, q⟩ := hs
      exact fin J rv q
    | next =>
      obtain ⟨σ', H', J, q⟩ := hs
      exact fin (v := V.non) (u := Value.none) J rfl q
    | brk =>
      obtain ⟨_, _, _, q⟩ := hs
      exact False.elim q
    | cont =>
      obtain ⟨_, _, _, q⟩ := hs
      exact False.elim q
end
end PX
namespace PX
open PySem PySem.Spec PyProof.Rows L2 PySem.Calls
structure ClsFn (K : PySem.W.Frag) (T : Addr) (m : Str) (f : Addr) : Prop where
  rd : PySem.W.readsIn K T (.type "type") = true
  ga : PySem.W.specialIn K (.ref T) "__getattribute__" = some (some (.builtin "type.__getattribute__"))
  at_ : PySem.W.findCls K (.ref T) (.type "type") m = some (.val (.ref f))
  ty : PySem.W.typeIn K (.ref f) = some (.type "function")
  kp : PySem.W.keepIn K (.ref f) = true
theorem clsfn_get {K : PySem.W.Frag} {T f : Addr} {m : Str} {prog : Program} {w : World} {A : Around} {E : Value → Shared → Prop} {s : Shared} {pl : Sem Bool} {Q : Value × List Value → Shared → Prop} (c : ClsFn K T m f) (X : K.In s.heap) (h : Q (.ref f, []) { s with toks := s.toks + 1 }) :
    wpAny (model prog w) A (getMethod (.ref T) m pl) Q E s := by
  exact PySem.W.method_cls X c.ga (PySem.W.cls_value X c.rd c.at_ rfl h)
section
variable {X : Cx} {CX : CXT} {k : Nat} {f T : Addr} {fd : FuncData} {ps : List Str} {sp : Sp} {E : XK} {x m : Str} {p pos apos : Pos} {e : Expr} {es : List Expr} {t : TA}
theorem pe_clsfn {pl : Sem Bool} (hg : Gl X x) (hm : X.mg x = some (.ref T)) (c : ClsFn X.K T m f) (F : FnOk X.prog X.w X.K X.mg X.base CX k f fd ps sp) (hr : Room k X.A) (hb : Binds X.K fd ps []) (hx : Passes CX X E) (ha : PA X (e :: es) t)
    (ht : eval (.Call (.Attribute (.Name x p) m apos) (e :: es) [] pos) X.env = (do
      let ov ← eval (.Name x p) X.env
      standAt apos.atName
      let (f, first) ← holding [ov] (getMethod ov m pl)
      callWith pos f first (backTo pos (starEach (e :: es) X.env)) (backToKw pos (keywordEach [] X.env))) := by rfl)
    (hdb : (x == ("__debug__" : Str)) = false := by decide) (hst : starEach (e :: es) X.env = (false, eval e X.env) :: starEach es X.env := by rfl) (hpl : (backTo pos (starEach es X.env)).any (·.1) = false := by rfl) :
    PE X (.Call (.Attribute (.Name x p) m apos) (e :: es) [] pos) (tCall sp [] E t) := by
  refine ⟨fun pins s σ H Q I h => ?_⟩
  refine PySem.W.methodCall_KW (pl := pl) (ld_glob I hg hm ?_ hdb) ht
  refine clsfn_get c I.kIn ?_
  have I1 := I.tok (s.toks + 1)
  refine PySem.W.callWith_K (first := []) (h₀ := X.base) I.ok.mod.kin c.kp (thn (ha.run pos pins _ σ H _ I1 h) fun us s1 ⟨vs, H1, I2, r, q⟩ => ⟨I2.kIn, ?_⟩) hst hpl
  exact run_fn F hr hb .nil hx I2 r q
end
theorem heap_two {H : Hp} {a dx : Addr} {o u u' : HO} (ne : dx ≠ a) : upd (upd (upd H dx u) a o) dx u' = upd (upd H dx u') a o := by
  funext b
  by_cases h1 : b = dx
  · subst h1
    rw [upd_same, upd_ne ne, upd_same]
  · rw [upd_ne h1]
    by_cases h2 : b = a
    · subst h2
      rw [upd_same, upd_same]
    · rw [upd_ne h2, upd_ne h2, upd_ne h1, upd_ne h1]
def spX0 (K : PySem.W.Frag) (T : Addr) (code : Str) : Sp := fun vs H Q _ => ∃ (a C : Addr), vs = [.ref a] ∧ OverT K T C ∧ H a = some (exo a C none) ∧ ∀ dx, H dx = none → dx ≠ a → Q .non (upd (upd H dx (exd dx [("code", .str code)])) a (exo a C (some dx)))
def spX1 (K : PySem.W.Frag) (T : Addr) (f code : Str) : Sp := fun vs H Q _ => ∃ (a C : Addr) (y : V), vs = [.ref a, y] ∧ OverT K T C ∧ PySem.W.findIn K (.ref C) f = some none ∧ H a = some (exo a C none) ∧ ∀ dx, H dx = none → dx ≠ a → Q .non (upd (upd H dx (exd dx [(f, y), ("code", .str code)])) a (exo a C (some dx)))
section
variable {P : Program} {w : World} {K : PySem.W.Frag} {mg : Str → Option Value} {base : Heap} {CX : CXT} {k : Nat} {T fT : Addr} {fdT : FuncData} {X : Cx}
/-- what one has of T's own __init__ -/
structure TopI (P : Program) (w : World) (K : PySem.W.Frag) (mgl : Str → Option Value) (base : Heap) (CX : CXT) (x : Str) (T : Addr) : Prop where
  ex : ∃ (fT : Addr) (fdT : FuncData), mgl x = some (.ref T) ∧ ClsFn K T "__init__" fT ∧ FnOk P w K mgl base CX 1 fT fdT ["self", "code"] (spT K T) ∧ Binds K fdT ["self", "code"] []
theorem cx_never {P : Program} {w : World} {outer : List Env} {H : Hp} {s s' : Shared} {e : Value} (h : L2.CX P w outer H s (fun _ _ _ => False) e s') : False := by
  obtain ⟨_, _, _, _, _, _, _, _, _, _, _, _, z⟩ := h
  exact z
/-- x.__init__(self, code) of the text -/
def callT (x code : Str) (j : Nat) (e : Expr) : Prop := ∃ p1 p2 p3 p4 p5, (∀ env : Env, ∃ pl : Sem Bool, eval (.Call (.Attribute (.Name x p1) "__init__" p2) [.Name "self" p3, .Constant (.str code) j p4] [] p5) env = (do
      let ov ← eval (.Name x p1) env
      standAt p2.atName
      let (f, first) ← holding [ov] (getMethod ov "__init__" pl)
      callWith p5 f first (backTo p5 (starEach [.Name "self" p3, .Constant (.str code) j p4] env)) (backToKw p5 (keywordEach [] env)))) ∧ e = .Call (.Attribute (.Name x p1) "__init__" p2) [.Name "self" p3, .Constant (.str code) j p4] [] p5
theorem pe_callT {x code : Str} {j : Nat} {e : Expr} {T : Addr} (h : callT x code j e) (G : TopI X.prog X.w X.K X.mg X.base (L2.CX X.prog X.w) x T) (hr : Room k X.A) (hk : 1 ≤ k) (hg : Gl X x) (hN : X.N[0]? = some ("self" : Str)) (hs : X.env.scope.names.lookup ("self" : Str) = some .local) (hdb : (x == ("__debug__" : Str)) = false) :
    PE X e (tCall (spT X.K T) [] (fun _ _ _ => False) (tCons (tVar 0) (tCons (tC (.str code)) tNil))) := by
  obtain ⟨p1, p2, p3, p4, p5, ht, rfl⟩ := h
  obtain ⟨fT, fdT, hm, c, F, hb⟩ := G.ex
  exact pe_clsfn hg hm c F (hr.mono hk) hb (fun pins σ H s e s' I c => (cx_never c).elim) (pa_cons (pe_var (i := 0) hN (.inl hs)) (pa_cons pe_str pa_nil)) (ht X.env).choose_spec hdb
def xBody0 (x code : Str) (b : List Stmt) : Prop := ∃ j e p, callT x code j e ∧ b = [.Expr e p]
def xBody1 (x code f prm : Str) (b : List Stmt) : Prop := ∃ j e p p7 p8 p9 p10, callT x code j e ∧ b = [.Expr e p, .Assign [.Attribute (.Name "self" p7) f p8] (.Name prm p9) p10]
theorem exc_init0 {x code : Str} {qual : Str} {params : Arguments} {body : List Stmt} {scope : Scope} {f T : Addr} {fd : FuncData} (F : FunD K "__init__" qual params body scope [] [] f fd) (S : FnScope ["self"] ["self"] scope) (hb : xBody0 x code body) (hg : scope.names.lookup x = some .globalImplicit) (hdb : (x == ("__debug__" : Str)) = false)
    (hs : scope.names.lookup ("self" : Str) = some .local) (G : TopI P w K mg base (L2.CX P w) x T) : FnOk P w K mg base (L2.CX P w) 2 f fd ["self"] (spX0 K T code) := by
  refine F.ok S (fun vs H Q E h => ?_) (fun cdv A outer s H vs Q E hr h => ?_)
  · obtain ⟨a, C, rfl, _⟩ := h
    rfl
  · obtain ⟨a, C, rfl, O, ea, go⟩ := h
    obtain ⟨j, e, p, hc, rfl⟩ := hb
    have hcall := pe_callT (X := cxOf (L2.CX P w) P w K mg base ["self"] qual scope f cdv A outer s H E) hc G hr (by decide) hg rfl hs hdb
    obtain ⟨p1, p2, p3, p4, p5, ht, rfl⟩ := hc
    refine ⟨_, pss_one (ps_expr hcall), ?_⟩
    exact ⟨.ref a, rfl, a, C, .str code, rfl, O, ea, go⟩
theorem exc_init1 {x code fl prm : Str} {qual : Str} {params : Arguments} {body : List Stmt} {scope : Scope} {f T : Addr} {fd : FuncData} (F : FunD K "__init__" qual params body scope [] [] f fd) (S : FnScope ["self", prm] ["self", prm] scope) (hb : xBody1 x code fl prm body) (hg : scope.names.lookup x = some .globalImplicit) (hdb : (x == ("__debug__" : Str)) = false)
    (hs : scope.names.lookup ("self" : Str) = some .local) (hp : scope.names.lookup prm = some .local) (hpd : (prm == ("__debug__" : Str)) = false) (hpc : (prm == ("__classdict__" : Str)) = false) (G : TopI P w K mg base (L2.CX P w) x T) : FnOk P w K mg base (L2.CX P w) 2 f fd ["self", prm] (spX1 K T fl code) := by
  refine F.ok S (fun vs H Q E h => ?_) (fun cdv A outer s H vs Q E hr h => ?_)
  · obtain ⟨a, C, y, rfl, _⟩ := h
    rfl
  · obtain ⟨a, C, y, rfl, O, hfl, ea, go⟩ := h
    obtain ⟨j, e, p, p7, p8, p9, p10, hc, rfl⟩ := hb
    have hcall := pe_callT (X := cxOf (L2.CX P w) P w K mg base ["self", prm] qual scope f cdv A outer s H E) hc G hr (by decide) hg rfl hs hdb
    obtain ⟨p1, p2, p3, p4, p5, ht, rfl⟩ := hc
    refine ⟨_, pss_cons (ps_expr hcall) (pss_one (ps_ost (pe_var (i := 0) rfl (.inl hs)) (pe_var (i := 1) rfl (.inl hp) hpd hpc))), ?_⟩
    refine ⟨.ref a, rfl, a, C, .str code, rfl, O, ea, fun dx n ne => ?_⟩
    refine ⟨y, rfl, .ref a, rfl, a, C, rfl, O.oex, hfl, .inr ⟨dx, [("code", .str code)], upd_same, (upd_ne ne).trans upd_same, by simp, ?_⟩⟩
    rw [heap_two ne]
    exact go dx n ne
end
end PX
namespace PX
open PySem PySem.Spec PyProof.Rows L2 PySem.Calls
end PX
namespace PD
open PySem PySem.Spec PyProof.Rows L2 PX
variable [LamTab]
/-- C's __init__ stores these fields: n = 0: the code alone -/
structure ExcC (P : Program) (w : World) (K : PySem.W.Frag) (mg : Str → Option Value) (base : Heap) (C : Str) (fl : Option Str) (code : Str) : Prop where
  ex : ∃ (Ca fI T : Addr) (fd : FuncData) (prm : Str), mg C = some (.ref Ca) ∧ OverT K T Ca ∧ PySem.W.findIn K (.ref Ca) "__init__" = some (some (.ref fI)) ∧ PySem.W.typeIn K (.ref fI) = some (.type "function") ∧
    (match fl with
    | none => FnOk P w K mg base (L2.CX P w) 2 fI fd ["self"] (spX0 K T code) ∧ Binds K fd ["self"] []
    | some f => PySem.W.findIn K (.ref Ca) f = some none ∧ FnOk P w K mg base (L2.CX P w) 2 fI fd ["self", prm] (spX1 K T f code) ∧ Binds K fd ["self", prm] [])
def excFs (fl : Option Str) (code : List Nat) (ds : List D) : Option (List (Str × D)) := match fl, ds with
  | none, [] => some [("code", .str code)]
  | some f, [d] => some [(f, d), ("code", .str code)]
  | _, _ => none
end PD
namespace PX
open PySem PySem.Spec PyProof.Rows L2 PySem.Calls
end PX
namespace PX
open PySem PySem.Spec PyProof.Rows L2 PySem.Calls PD
variable [LamTab]
def hide (z : Addr → Option Obj) (H : Hp) : Hp := fun b => if (z b).isSome then none else H b
theorem hide_out {z : Addr → Option Obj} {H : Hp} {b : Addr} (h : z b = none) : hide z H b = H b := by
  unfold hide
  rw [h]
  rfl
theorem cel_ne {b : Addr} {o : Obj} : (∀ xs, celHO b o ≠ .tup xs) ∧ (∀ x u, celHO b o ≠ .frz x u) ∧ (∀ ps, celHO b o ≠ .tbl ps) ∧ ∀ x, celHO b o ≠ .own x :=
  ⟨fun _ z => (by unfold celHO at z; cases z), fun _ _ z => (by unfold celHO at z; cases z), celHO_tbl, fun _ z => (by unfold celHO at z; cases z)⟩
/-- z's objects are tracked in H -/
def InH (z : Addr → Option Obj) (H : Hp) : Prop := ∀ b o, z b = some o → H b = some (celHO b o)
end PX
namespace PD
open PySem PySem.Spec PyProof.Rows L2 PX
variable [LamTab]
def noFn : D → Bool
  | .fn _ _ => false
  | .tup ds => go ds
  | .lst ds => go ds
  | .scr ds => go ds
  | .obj _ fs => gf fs
  | .exc _ fs => gf fs
  | .dic _ kvs => gp kvs
  | _ => true
where
  go : List D → Bool
  | [] => true
  | d :: ds => noFn d && go ds
  gf : List (Str × D) → Bool
  | [] => true
  | (_, d) :: ds => noFn d && gf ds
  gp : List (List Key × D) → Bool
  | [] => true
  | (_, d) :: ds => noFn d && gp ds
def noFnC : Cell → Bool
  | .lst ds => noFn.go ds
  | .dic _ kvs => noFn.gp kvs
  | .obj _ fs => noFn.gf fs
abbrev RC.hide (c : RC) (z : Addr → Option Obj) : RC := { c with H := PX.hide z c.H }
/-- z's objects are captured cells, in c -/
structure Zs (c : RC) (z : Addr → Option Obj) : Prop where
  inH : InH z c.H
  fr : ∀ b o, z b = some o → c.fr b
  exc : ∀ a Ca dx, c.H a = some (excHO a Ca dx) → z a = none
  code : ∀ a q, c.H a = some (LamX.CodeO a q) → z a = none
theorem Zs.out {c : RC} {z : Addr → Option Obj} (h : Zs c z) {a : Addr} {u : HO} (e : c.H a = some u) (n : ∀ b o, u ≠ celHO b o) : PX.hide z c.H a = some u := by
  cases y : z a with
  | none => rw [hide_out y]; exact e
  | some o => rw [h.inH a o y] at e; exact (n a o (Option.some.inj e).symm).elim
theorem Zs.rd {c : RC} {z : Addr → Option Obj} (h : Zs c z) {a : Addr} {xs : List V} (e : Rd c.H a (.tup xs)) : Rd (PX.hide z c.H) a (.tup xs) := by
  rcases e with e | ⟨o, e⟩
  · exact .inl (h.out e fun b o q => cel_ne.1 _ q.symm)
  · exact .inr ⟨o, h.out e fun b o q => cel_ne.2.1 _ _ q.symm⟩
mutual
theorem Rep.hide {c : RC} {z : Addr → Option Obj} (hz : Zs c z) : ∀ {d : D} {v : V}, Rep c d v → noFn d = true → Rep (c.hide z) d v
  | _, _, .non, _ => .non
  | _, _, .bl b, _ => .bl b
  | _, _, .int i, _ => .int i
  | _, _, .str cs, _ => .str cs
  | .tup ds, _, .tup h r, e => .tup (h.imp hz.rd id) (Reps.hide hz r (by rw [noFn] at e; exact e))
  | .lst ds, _, .lst h f r, e => .lst (hz.out h fun b o q => by unfold celHO at q; cases q) f (Reps.hide hz r (by rw [noFn] at e; exact e))
  | .scr ds, _, .scr h r, e => .scr (h.imp (fun ⟨o, h⟩ => ⟨o, hz.out h fun b o q => cel_ne.2.1 _ _ q.symm⟩) id) (Reps.hide hz r (by rw [noFn] at e; exact e))
  | .obj C fs, _, .obj m h f r, e => .obj m (hz.out h fun b o q => by unfold celHO at q; cases q) f (RepF.hide hz r (by rw [noFn] at e; exact e))
  | .dic t kvs, _, .dic h i f r, e => .dic (hz.out h fun b o q => by
      subst q
      rcases i with ⟨_, _, q, _⟩ | ⟨_, q⟩ <;> (unfold celHO at q; cases q)) i f (RepP.hide hz r (by rw [noFn] at e; exact e))
  | .fn i ds, _, .fn _ _ _ _ _ _, e => by cases e
  | .exc C fs, _, .exc m h f h2 f2 r, e => .exc m ((hide_out (hz.exc _ _ _ h)).trans h) f (hz.out h2 fun b o q => by unfold celHO at q; cases q) f2 (RepF.hide hz r (by rw [noFn] at e; exact e))
  | _, _, .ref h, _ => .ref h
theorem Reps.hide {c : RC} {z : Addr → Option Obj} (hz : Zs c z) : ∀ {ds : List D} {vs : List V}, Reps c ds vs → noFn.go ds = true → Reps (c.hide z) ds vs
  | _, _, .nil, _ => .nil
  | _, _, .cons h t, e => by
    rw [noFn.go, Bool.and_eq_true] at e
    exact .cons (Rep.hide hz h e.1) (Reps.hide hz t e.2)
theorem RepP.hide {c : RC} {z : Addr → Option Obj} (hz : Zs c z) : ∀ {ds : List (List Key × D)} {vs : List (List Key × V)}, RepP c ds vs → noFn.gp ds = true → RepP (c.hide z) ds vs
  | _, _, .nil, _ => .nil
  | _, _, .cons h t, e => by
    rw [noFn.gp, Bool.and_eq_true] at e
    exact .cons (Rep.hide hz h e.1) (RepP.hide hz t e.2)
theorem RepF.hide {c : RC} {z : Addr → Option Obj} (hz : Zs c z) : ∀ {ds : List (Str × D)} {vs : List (Str × V)}, RepF c ds vs → noFn.gf ds = true → RepF (c.hide z) ds vs
  | _, _, .nil, _ => .nil
  | _, _, .cons h t, e => by
    rw [noFn.gf, Bool.and_eq_true] at e
    exact .cons (Rep.hide hz h e.1) (RepF.hide hz t e.2)
end
theorem Zs.tabs {c : RC} {z : Addr → Option Obj} (hz : Zs c z) (t : c.tabs) : (c.hide z).tabs := fun p hp => codeO_ext (t p hp) (by
  obtain ⟨ps, k1, _⟩ := t p hp
  exact (hz.out k1 fun b o q => cel_ne.2.2.1 _ q.symm).trans k1.symm) fun a e => (hide_out (hz.code a _ e)).trans e
theorem MgE.hide {c : RC} {z : Addr → Option Obj} {mg : Str → Option Value} (hz : Zs c z) (m : MgE c mg) : MgE (c.hide z) mg := ⟨m.e, fun t => hz.tabs (m.t t)⟩
theorem SR.hide {c : RC} {h : EH} {z : Addr → Option Obj} (hz : Zs c z) (s : SR c h) (hc : h.all noFnC = true) : SR (c.hide z) h := by
  refine ⟨s.len, s.nd, fun n a k e1 e2 => ?_, s.nb, fun a b => ?_⟩
  · have r := s.cells n a k e1 e2
    have hk : noFnC k = true := List.all_eq_true.mp hc k (List.mem_of_getElem? e2)
    have y : z a = none := by
      cases y : z a with
      | none => rfl
      | some o => exact ((hz.fr a o y).2 (List.mem_of_getElem? e1)).elim
    cases k with
    | lst ds => obtain ⟨xs, h1, h2⟩ := r; exact ⟨xs, (hide_out y).trans h1, h2.hide hz hk⟩
    | dic t kvs => obtain ⟨o, zs, h1, h3, h2⟩ := r; exact ⟨o, zs, (hide_out y).trans h1, h3, h2.hide hz hk⟩
    | obj C fs => obtain ⟨Ca, dx, vs, h0, h1, h2⟩ := r; exact ⟨Ca, dx, vs, h0, (hide_out y).trans h1, h2.hide hz hk⟩
  · obtain ⟨o, e⟩ := s.bt a b
    have y : z a = none := by
      cases y : z a with
      | none => rfl
      | some o => exact ((hz.fr a o y).1 b).elim
    exact ⟨o, (hide_out y).trans e⟩
/-- what is asked of its text -/
structure LamOk (l : LamD) : Prop where
  kind : l.scope.kind = .function
  co : l.scope.isCoroutine = false
  gen : l.scope.isGenerator = false
  cell : ∀ y ∈ l.scope.names, y.2 ≠ .cell
  free : ∀ y ∈ l.scope.names, y.2 = .free → y.1 ∈ l.caps
  caps : ∀ y ∈ l.caps, l.scope.names.lookup y = some .free
  bind : l.df = false → ∀ (cl : List (Str × Addr)) (doc pm cv ctv : Value), bindArgs (PySem.W.kdv_fn "<lambda>" l.qual l.params (.expr l.body) l.scope cl .none doc pm cv ctv) ⟨[], []⟩ = pure []
  bindD : l.df = true → ∃ pn, l.scope.names.lookup pn = some .local ∧ ∀ (cl : List (Str × Addr)) (dV doc pm cv ctv : Value), ∃ k : Option (Array Value) → Sem (List (Str × Value)),
    bindArgs (PySem.W.kdv_fn "<lambda>" l.qual l.params (.expr l.body) l.scope cl dV doc pm cv ctv) ⟨[], []⟩ = (seqItems? dV >>= k) ∧ ∀ t : Tok, k (some #[.int 0 t]) = pure [(pn, .int 0 t)]
def lamCx (P : Program) (w : World) (K : PySem.W.Frag) (mg : Str → Option Value) (base : Heap) (l : LamD) (cl : List (Str × Addr)) (f c' : Addr) (A : Around) (outer : List Env) (s : Shared) (H : Hp) (E : XK) : Cx where
  prog := P
  w := w
  K := K
  mg := mg
  base := base
  A := A.deeper (PySem.W.envX l.qual l.scope s.heap.objs.size f (.ref c') cl)
  N := l.caps
  s_0 := s
  H_0 := H
  env := PySem.W.envX l.qual l.scope s.heap.objs.size f (.ref c') cl
  outer := outer
  stack := PySem.W.envX l.qual l.scope s.heap.objs.size f (.ref c') cl :: outer
  ex := []
  fn := fun _ => false
  calm := true
  pn := []
  xe := fun e s' => wpAny (model P w) (A.deeper (PySem.W.envX l.qual l.scope s.heap.objs.size f (.ref c') cl)) (leaving (PySem.W.envX l.qual l.scope s.heap.objs.size f (.ref c') cl) e) (fun _ s'' => L2.CX P w outer H s E e s'') (fun e' s'' => L2.CX P w outer H s E e' s'') s'
/-- what a lambda gives: its body over no cells -/
def endL (x : O D) : Option (R D) := match x with
  | some (.ok d, h) => (frz h d).map .ok
  | some (.ex e, _) => if noRef.gf e.fs = true then some (.ex e) else none
  | none => none
def runL (m : M D) : PF := fun ds => endL (m (ds.map some) [])
/-- the lambda i is right: called it gives LF i -/
structure LamS (P : Program) (w : World) (K : PySem.W.Frag) (mg : Str → Option Value) (base : Heap) (k i : Nat) (F : PF) : Prop where
  ok : LamOk (LamTab.lam i)
  run : ∃ m, F = runL m ∧ ∀ (cl : List (Str × Addr)) (f c' : Addr) (A : Around) (outer : List Env) (s : Shared) (H : Hp) (E : XK), Room k (A.deeper (PySem.W.envX (LamTab.lam i).qual (LamTab.lam i).scope s.heap.objs.size f (.ref c') cl)) →
    RE (lamCx P w K mg base (LamTab.lam i) cl f c' A outer s H E) (fun cls d _ H' => E cls d H') (LamTab.lam i).body m
end PD
namespace PD
open PySem PySem.Spec PyProof.Rows L2 PX
end PD
namespace PD
open PySem PySem.Spec PyProof.Rows L2 PX LamX
variable [LamTab]
/-- the lambda i of this frame stands at f -/
def LamAt (X : Cx) (H : Hp) (i : Nat) (f : Addr) : Prop := ∃ (dV : Value) (c' : Addr), H f = some (lamHO (LamTab.lam i) (cloFrom X.env.cells (LamTab.lam i).scope.names []) dV c' f) ∧ H c' = some (CodeO c' (LamTab.lam i).qual) ∧
  (((LamTab.lam i).df = false ∧ dV = .none) ∨ ((LamTab.lam i).df = true ∧ ∃ (dt : Addr) (t : Tok), dV = .ref dt ∧ H dt = some (celHO dt (PySem.W.kdv_tup [.int 0 t]))))
theorem LamAt.ext {X : Cx} {H H' : Hp} {i : Nat} {f : Addr} (e : ExtN H H') (h : LamAt X H i f) : LamAt X H' i f := by
  obtain ⟨dV, c', h1, h2, h3⟩ := h
  refine ⟨dV, c', e _ _ h1 lamHO_tbl, e _ _ h2 codeO_ne, ?_⟩
  rcases h3 with h3 | ⟨q, dt, t, e1, e2⟩
  · exact .inl h3
  · exact .inr ⟨q, dt, t, e1, e _ _ e2 celHO_tbl⟩
/-- its text, its def's tables -/
structure LamW (X : Cx) (i : Nat) (c P : Addr) : Prop where
  TB : TabB X.base X.mg c P
  code : X.env.code = .ref c
  qual : X.env.qual ++ "<lambda>" = (LamTab.lam i).qual
  mem : (P, (LamTab.lam i).qual) ∈ LamTab.T
  uniq : ∀ p ∈ LamTab.T, p.1 = P → p.2 = (LamTab.lam i).qual
  free : ∀ y ∈ (LamTab.lam i).scope.names, y.2 = .free → ∃ c, X.env.cells.lookup y.1 = some c
  ck : ClOk (LamTab.lam i).caps (cloFrom X.env.cells (LamTab.lam i).scope.names [])
  df : ((LamTab.lam i).df = false ∧ (LamTab.lam i).params.defaults = [] ∧ (LamTab.lam i).params.kw_defaults = []) ∨ ((LamTab.lam i).df = true ∧ (∃ k p, (LamTab.lam i).params.defaults = [.Constant (.int 0) k p]) ∧ (LamTab.lam i).params.kw_defaults = [])
/-- what the making of it leaves -/
structure Made (H H1 : Hp) : Prop where
  ext : ExtN H H1
  tabs : Tabs LamTab.T H → Tabs LamTab.T H1
  dom : ∀ b o, H b = some o → ∃ o', H1 b = some o'
theorem Made.refl (H : Hp) : Made H H := ⟨ExtN.refl H, fun h => h, fun b o e => ⟨o, e⟩⟩
theorem Made.trans {H H1 H2 : Hp} (a : Made H H1) (b : Made H1 H2) : Made H H2 := ⟨a.ext.trans b.ext, fun h => b.tabs (a.tabs h), fun p o e => let ⟨o', q⟩ := a.dom p o e; b.dom p o' q⟩
end PD
namespace PD
open PySem PySem.Spec PyProof.Rows L2 PX LamX
variable [LamTab]
/-- data without lambdas, without exceptions -/
def plain : D → Bool
  | .fn _ _ => false
  | .exc _ _ => false
  | .tup ds => go ds
  | .lst ds => go ds
  | .scr ds => go ds
  | .obj _ fs => gf fs
  | .dic _ kvs => gp kvs
  | _ => true
where
  go : List D → Bool
  | [] => true
  | d :: ds => plain d && go ds
  gf : List (Str × D) → Bool
  | [] => true
  | (_, d) :: ds => plain d && gf ds
  gp : List (List Key × D) → Bool
  | [] => true
  | (_, d) :: ds => plain d && gp ds
end PD
namespace PD
open PySem PySem.Spec PyProof.Rows L2 PX LamX
variable [LamTab]
def capsE (ε : Ev) : List Nat → Option (List D)
  | [] => some []
  | k :: ks => match ε.getD k none, capsE ε ks with
    | some d, some ds => some (d :: ds)
    | _, _ => none
/-- the names that the lambda i captures: X's variables at ks -/
structure CapN (X : Cx) (i : Nat) (ks : List Nat) : Prop where
  names : ks.map (fun k => X.N[k]?) = (LamTab.lam i).caps.map some
  kind : ∀ y ∈ (LamTab.lam i).caps, X.env.scope.names.lookup y = some .cell ∨ X.env.scope.names.lookup y = some .free
  free : ∀ y ∈ (LamTab.lam i).caps, (LamTab.lam i).scope.names.lookup y = some .free
def OneR (X : Cx) (H : Hp) (ε : Ev) (p : Nat × List Nat) (d : D) (v : V) : Prop := ∃ ds f, d = .fn p.1 ds ∧ capsE ε p.2 = some ds ∧ v = .ref f ∧ LamAt X H p.1 f ∧ CapN X p.1 p.2
inductive OnesR (X : Cx) (H : Hp) (ε : Ev) : List (Nat × List Nat) → List D → List V → Prop
  | nil : OnesR X H ε [] [] []
  | cons {p : Nat × List Nat} {ps : List (Nat × List Nat)} {d : D} {ds : List D} {v : V} {vs : List V} : OneR X H ε p d v → OnesR X H ε ps ds vs → OnesR X H ε (p :: ps) (d :: ds) (v :: vs)
theorem OneR.ext {X : Cx} {H H1 : Hp} {ε : Ev} {p : Nat × List Nat} {d : D} {v : V} (e : ExtN H H1) (h : OneR X H ε p d v) : OneR X H1 ε p d v := by
  obtain ⟨ds, f, h1, h2, h3, h4, h5⟩ := h
  exact ⟨ds, f, h1, h2, h3, h4.ext e, h5⟩
theorem OnesR.ext {X : Cx} {H H1 : Hp} {ε : Ev} (e : ExtN H H1) : ∀ {ps : List (Nat × List Nat)} {ds : List D} {vs : List V}, OnesR X H ε ps ds vs → OnesR X H1 ε ps ds vs
  | _, _, _, .nil => .nil
  | _, _, _, .cons h t => .cons (h.ext e) (t.ext e)
end PD
namespace PD
open PySem PySem.Spec PyProof.Rows L2 PX LamX
variable [LamTab]
inductive LamsX (X : Cx) : List Expr → List (Nat × List Nat) → Prop
  | nil : LamsX X [] []
  | cons {i : Nat} {ks : List Nat} {c P : Addr} {pos : Pos} {es : List Expr} {ps : List (Nat × List Nat)} : LamW X i c P → CapN X i ks → LamsX X es ps → LamsX X (.Lambda (LamTab.lam i).params (LamTab.lam i).body (LamTab.lam i).scope pos :: es) ((i, ks) :: ps)
inductive LamAts (X : Cx) (H : Hp) : List (Nat × List Nat) → List V → Prop
  | nil : LamAts X H [] []
  | cons {p : Nat × List Nat} {ps : List (Nat × List Nat)} {f : Addr} {vs : List V} : LamAt X H p.1 f → LamAts X H ps vs → LamAts X H (p :: ps) (.ref f :: vs)
theorem LamAts.ext {X : Cx} {H H1 : Hp} (e : ExtN H H1) : ∀ {ps : List (Nat × List Nat)} {vs : List V}, LamAts X H ps vs → LamAts X H1 ps vs
  | _, _, .nil => .nil
  | _, _, .cons h t => .cons (h.ext e) (t.ext e)
theorem LamsX.names {X : Cx} : ∀ {es : List Expr} {ps : List (Nat × List Nat)}, LamsX X es ps → ∀ p ∈ ps, CapN X p.1 p.2
  | _, _, .nil, _, h => by cases h
  | _, _, .cons W N t, p, h => by
    rcases List.mem_cons.mp h with h | h
    · rw [h]; exact N
    · exact t.names p h
theorem LamAts.length {X : Cx} {H : Hp} : ∀ {ps : List (Nat × List Nat)} {vs : List V}, LamAts X H ps vs → vs.length = ps.length
  | _, _, .nil => rfl
  | _, _, .cons _ t => by rw [List.length_cons, List.length_cons, t.length]
end PD
namespace PD
open PySem PySem.Spec PyProof.Rows L2 PX LamX
variable [LamTab]
abbrev LA := RC → L2.St → Prop
/-- x (at ix) holds the list of the lambdas -/
def LAt (X : Cx) (ix : Nat) (ps : List (Nat × List Nat)) : LA := fun c σ => ∃ (a : Addr) (vs : List V), σ[ix]? = some (some (.ref a)) ∧ c.H a = some (.lst vs) ∧ c.fr a ∧ LamAts X c.H ps vs
def tXc (Φ : LA) {α β : Type} (Rl : RC → α → β → Prop) (K : PySem.W.Frag) (mg : Str → Option Value) (W : WX) (m : M α) : L2.St → Hp → (β → Hp → Prop) → Prop := fun σ H Q =>
  ∃ (c : RC) (ε : Ev) (h : EH) (r : R α) (h' : EH), c.K = K ∧ MgE c mg ∧ c.H = H ∧ SR c h ∧ EnvR c ε σ ∧ m ε h = some (r, h') ∧ Px W c σ r h' ∧
    (∀ a, r = .ok a → ∀ c' b, c.Le c' → SR c' h' → Rl c' a b → Q b c'.H) ∧ Φ c σ
theorem tXc.bind {Φ : LA} {α β γ : Type} {Rl : RC → α → β → Prop} {K : PySem.W.Frag} {mg : Str → Option Value} {W : WX} {m : M α} {k : α → EH → O γ} {c : RC} {ε : Ev} {h h' : EH} {r : R γ} {σ : L2.St} {Q : β → Hp → Prop}
    (hK : c.K = K) (hm : MgE c mg) (sr : SR c h) (er : EnvR c ε σ) (e : bR (m ε h) k = some (r, h')) (px : Px W c σ r h') (la : Φ c σ)
    (go : ∀ a h1 c1 b, k a h1 = some (r, h') → c.Le c1 → SR c1 h1 → Rl c1 a b → Q b c1.H) : tXc Φ Rl K mg W m σ c.H Q := by
  cases q : m ε h with
  | none => rw [q] at e; cases e
  | some z =>
    obtain ⟨r1, h1⟩ := z
    cases r1 with
    | ok a =>
      rw [q] at e
      exact ⟨c, ε, h, .ok a, h1, hK, hm, rfl, sr, er, q, Px.ok, fun a' ea c1 b l s rb => by cases ea; exact go a h1 c1 b e l s rb, la⟩
    | ex x =>
      rw [q] at e
      cases e
      exact ⟨c, ε, h, .ex x, _, hK, hm, rfl, sr, er, q, fun y ey => px y (by cases ey; rfl), fun a' ea => (nomatch ea), la⟩
end PD
namespace PD
open PySem PySem.Spec PyProof.Rows L2 PX
end PD
namespace PD
open PySem PySem.Spec PyProof.Rows L2 PX
theorem oexB_ok {K : PySem.W.Frag} {C : Addr} (h : oexB K C = true) : OexC K C := by
  unfold oexB at h
  obtain ⟨h1, h⟩ := Bool.and_eq_true_iff.mp h
  obtain ⟨h2, h⟩ := Bool.and_eq_true_iff.mp h
  obtain ⟨h3, h⟩ := Bool.and_eq_true_iff.mp h
  obtain ⟨h4, h5⟩ := Bool.and_eq_true_iff.mp h
  refine ⟨?_, of_decide_eq_true h2, of_decide_eq_true h3, of_decide_eq_true h4, h5⟩
  cases q : K.lookup C with
  | none => rw [q] at h1; cases h1
  | some o =>
    obtain ⟨oc, od, dt, sl⟩ := o
    rw [q] at h1
    cases oc with
    | type t =>
      cases dt with
      | cls cd =>
        obtain ⟨g1, g⟩ := Bool.and_eq_true_iff.mp h1
        have g1 := of_decide_eq_true g1
        subst g1
        obtain ⟨nm, bs, mro, ns, qn, hdct, sn, sub, ab, col, hdel⟩ := cd
        obtain ⟨sl⟩ := sl
        match mro, sl, g with
        | .ref C' :: bm, [k0, k1, k2, k3, some (.builtin n), k5], g =>
          obtain ⟨a1, a⟩ := Bool.and_eq_true_iff.mp g
          obtain ⟨a2, a⟩ := Bool.and_eq_true_iff.mp a
          obtain ⟨a3, a⟩ := Bool.and_eq_true_iff.mp a
          obtain ⟨a4, a5⟩ := Bool.and_eq_true_iff.mp a
          have a1 := of_decide_eq_true a1
          have a2 := of_decide_eq_true a2
          have a3 : (!hdel) = true := a3
          have a4 : hdct = true := a4
          subst a1 a2 a4
          have a3 : hdel = false := by simpa using a3
          subst a3
          exact ⟨nm, qn, ns, bs, bm, sn, sub, ab, col, od, k0, k1, k2, k3, k5, rfl, a5⟩
      | _ => cases h1
    | _ => cases h1
theorem overB_ok {K : PySem.W.Frag} {T C : Addr} (h : overB K T C = true) : OverT K T C := by
  unfold overB at h
  obtain ⟨h1, h⟩ := Bool.and_eq_true_iff.mp h
  obtain ⟨h2, h⟩ := Bool.and_eq_true_iff.mp h
  obtain ⟨h3, h⟩ := Bool.and_eq_true_iff.mp h
  obtain ⟨h4, h5⟩ := Bool.and_eq_true_iff.mp h
  exact ⟨oexB_ok h1, of_decide_eq_true h2, of_decide_eq_true h3, of_decide_eq_true h4, of_decide_eq_true h5⟩
theorem clsfnB_ok {K : PySem.W.Frag} {T : Addr} (h : clsvB K T = true) : ClsFn K T "__init__" (He.ma K T "__init__") := by
  unfold clsvB at h
  obtain ⟨h1, h⟩ := Bool.and_eq_true_iff.mp h
  obtain ⟨h2, h⟩ := Bool.and_eq_true_iff.mp h
  obtain ⟨h3, h⟩ := Bool.and_eq_true_iff.mp h
  obtain ⟨h4, h5⟩ := Bool.and_eq_true_iff.mp h
  refine ⟨h1, of_decide_eq_true h2, ?_, of_decide_eq_true h4, h5⟩
  split at h3
  · rename_i f e
    rw [e, of_decide_eq_true h3]
  · cases h3
/-- the text of an __init__ that says super() -/
structure SupT (P : Program) (d : SupD) : Prop where
  body : supBody d.body
  self : ∃ ar, (d.params.posonlyargs ++ d.params.args).head? = some ar ∧ ar.arg = "self"
  cell : ∀ x ∈ d.scope.names, x.2 ≠ .cell
  free : ∀ x ∈ d.scope.names, x.2 = .free → x.1 = "__class__"
  l1 : d.scope.names.lookup ("super" : Str) = some .globalImplicit
  l2 : d.scope.names.lookup ("__class__" : Str) = some .free
  l3 : d.scope.names.lookup ("self" : Str) = some .local
  l4 : d.scope.names.lookup ("code" : Str) = some .local
  kind : d.scope.kind = .function
  co : d.scope.isCoroutine = false
  gen : d.scope.isGenerator = false
  top : (P.main.scope.names.lookup ("super" : Str)).isSome = false
  bind : ∀ (doc pm : Value) (an : Option Addr) (cdv ct : Value) (cc : Addr) (us : List Value), us.length = 2 → bindArgs (PySem.W.ksFn "__init__" d.qual d.params d.body d.scope .none .none doc pm an cdv ct cc) ⟨us, []⟩ = pure ((["self", "code"] : List Str).zip us)
theorem sup_of {P : Program} {K : PySem.W.Frag} {d : SupD} (h : supB K P.main.file d = true) (e : fnC K (d.at_ K) = d.val) (T : SupT P d) : ∃ fd, SupI P K (He.ga K d.C) (d.at_ K) fd ∧ Binds K fd ["self", "code"] [] := by
  unfold supB at h
  obtain ⟨h1, h⟩ := Bool.and_eq_true_iff.mp h
  obtain ⟨h2, h⟩ := Bool.and_eq_true_iff.mp h
  obtain ⟨h3, h4⟩ := Bool.and_eq_true_iff.mp h
  unfold fnC at e
  cases q : K.lookup (d.at_ K) with
  | none => rw [q] at h1; cases h1
  | some o =>
    obtain ⟨oc, od, dt, osl⟩ := o
    rw [q] at h1 e
    cases dt with
    | func fd =>
      obtain ⟨n1, n2, n3, n4, n5, n6, n7, n8, n9, n10, n11, n12, n13, n14, n15⟩ := fd
      have e2 : ((some (n1, n2, n3, n4, n5, n6, n7.map (·.1), n15) : FnC) = (some (("__init__" : Str), d.qual, d.params, .stmts d.body, d.scope, mainGlobals, [("__class__" : Str)], builtinsNs) : FnC)) := e
      simp only [Option.some.injEq, Prod.mk.injEq] at e2
      obtain ⟨e2a, e2b, e2c, e2d, e2e, e2f, e2g, e2h⟩ := e2
      subst e2a e2b e2c e2d e2e e2f e2h
      obtain ⟨g1, g⟩ := Bool.and_eq_true_iff.mp h1
      obtain ⟨g2, g3⟩ := Bool.and_eq_true_iff.mp g
      match n7, e2g, g2 with
      | [(y, cc)], e2g, g2 =>
        have ey : y = "__class__" := by simpa using e2g
        subst ey
        have g2 : (match K.lookup cc with
          | some ⟨_, _, .cell (some (.ref T)), _⟩ => decide (T = He.ga K d.C)
          | _ => false) = true := g2
        obtain ⟨oc3, od3, sl3, hcc⟩ : ∃ oc3 od3 sl3, K.lookup cc = some ⟨oc3, od3, .cell (some (.ref (He.ga K d.C))), sl3⟩ := by
          cases qc : K.lookup cc with
          | none => rw [qc] at g2; cases g2
          | some o =>
            obtain ⟨a1, a2, a3, a4⟩ := o
            rw [qc] at g2
            cases a3 with
            | cell v =>
              cases v with
              | none => cases g2
              | some v =>
                cases v with
                | ref T' =>
                  have g2 : decide (T' = He.ga K d.C) = true := g2
                  rw [of_decide_eq_true g2]
                  exact ⟨_, _, _, rfl⟩
                | _ => cases g2
            | _ => cases g2
        have hnn : n8 = .none ∧ n9 = .none := by
          clear e h1 g g1 g2 q
          cases n8 <;> first | (cases n9 <;> first | exact ⟨rfl, rfl⟩ | cases g3) | cases g3
        obtain ⟨rfl, rfl⟩ := hnn
        cases n13 with
        | ref cda =>
          have g1 : (PySem.W.codeIn K (.ref cda) d.qual && (match K.lookup cda with
            | some ⟨_, _, .fields vs, _⟩ => (match (vs[2]? : Option Value) with
              | some (.str file _) => P.main.file == file
              | _ => false)
            | _ => false)) = true := g1
          obtain ⟨b1, b2⟩ := Bool.and_eq_true_iff.mp g1
          obtain ⟨ar, ha1, ha2⟩ := T.self
          obtain ⟨oc2, od2, vs2, sl2, file, tf, hcda, hvs, hfile⟩ : ∃ oc2 od2 vs2 sl2 file tf, K.lookup cda = some ⟨oc2, od2, .fields vs2, sl2⟩ ∧ (vs2[2]? : Option Value) = some (.str file tf) ∧ ((P.main.file : Str) == file) = true := by
            cases qc : K.lookup cda with
            | none => rw [qc] at b2; cases b2
            | some o =>
              obtain ⟨a1, a2, a3, a4⟩ := o
              rw [qc] at b2
              cases a3 with
              | fields vs =>
                have b2 : (match (vs[2]? : Option Value) with
                  | some (.str file _) => P.main.file == file
                  | _ => false) = true := b2
                split at b2
                · rename_i file tf e
                  exact ⟨_, _, vs, _, file, tf, rfl, e, b2⟩
                · cases b2
              | _ => cases b2
          obtain ⟨cd, hcd⟩ := Option.isSome_iff_exists.mp h2
          exact ⟨_, ⟨⟨d.qual, d.params, ar, d.body, d.scope, oc, od, .none, .none, n10, n11, n12, cda, cc, n14, osl, rfl, T.body, q, b1, ha1, ha2, ⟨oc2, od2, vs2, sl2, file, tf, hcda, hvs, hfile⟩, ⟨oc3, od3, sl3, hcc⟩, T.cell, T.free, T.l1, T.l2, T.l3, T.l4, T.kind, T.co, T.gen⟩, ⟨cd, hcd⟩, of_decide_eq_true h3, T.top, of_decide_eq_true h4⟩, Binds.all fun us hl => T.bind n10 n11 n12 (.ref cda) n14 cc us hl⟩
        | _ => cases g1
    | _ => cases h1
section
variable {P : Program} {w : World} {K : PySem.W.Frag} {mg : Str → Option Value} {base : Heap}
theorem topI_of {d : SupD} (hm : mg d.C = some (.ref (He.ga K d.C))) (h : supB K P.main.file d = true) (e : fnC K (d.at_ K) = d.val) (T : SupT P d) (c : clsvB K (He.ga K d.C) = true) : TopI P w K mg base (L2.CX P w) d.C (He.ga K d.C) := by
  obtain ⟨fd, S, b⟩ := sup_of h e T
  exact ⟨_, fd, hm, clsfnB_ok c, sup_init S, b⟩
theorem excC_of0 [LamTab] {C x code qual : Str} {params : Arguments} {body : List Stmt} {scope : Scope} {fd : FuncData} (hm : mg C = some (.ref (He.ga K C))) (ov : overB K (He.ga K x) (He.ga K C) = true) (ib : initB K (He.ga K C) = true) (G : TopI P w K mg base (L2.CX P w) x (He.ga K x))
    (Fd : FunD K "__init__" qual params body scope [] [] (He.ma K (He.ga K C) "__init__") fd) (S : FnScope ["self"] ["self"] scope) (hb : xBody0 x code body) (bi : Binds K fd ["self"] []) (hg : scope.names.lookup x = some .globalImplicit := by rfl) (hdb : (x == ("__debug__" : Str)) = false := by decide)
    (hs : scope.names.lookup ("self" : Str) = some .local := by rfl) : ExcC P w K mg base C none code := by
  obtain ⟨i1, i2⟩ := Bool.and_eq_true_iff.mp ib
  exact ⟨_, _, _, fd, "", hm, overB_ok ov, of_decide_eq_true i1, of_decide_eq_true i2, exc_init0 Fd S hb hg hdb hs G, bi⟩
theorem excC_of1 [LamTab] {C x code f prm qual : Str} {params : Arguments} {body : List Stmt} {scope : Scope} {fd : FuncData} (hm : mg C = some (.ref (He.ga K C))) (ov : overB K (He.ga K x) (He.ga K C) = true) (ib : initB K (He.ga K C) = true) (nb : noB K (He.ga K C) f = true) (G : TopI P w K mg base (L2.CX P w) x (He.ga K x))
    (Fd : FunD K "__init__" qual params body scope [] [] (He.ma K (He.ga K C) "__init__") fd) (S : FnScope ["self", prm] ["self", prm] scope) (hb : xBody1 x code f prm body) (bi : Binds K fd ["self", prm] []) (hg : scope.names.lookup x = some .globalImplicit := by rfl) (hdb : (x == ("__debug__" : Str)) = false := by decide)
    (hs : scope.names.lookup ("self" : Str) = some .local := by rfl) (hp : scope.names.lookup prm = some .local := by rfl) (hpd : (prm == ("__debug__" : Str)) = false := by decide) (hpc : (prm == ("__classdict__" : Str)) = false := by decide) : ExcC P w K mg base C (some f) code := by
  obtain ⟨i1, i2⟩ := Bool.and_eq_true_iff.mp ib
  exact ⟨_, _, _, fd, prm, hm, overB_ok ov, of_decide_eq_true i1, of_decide_eq_true i2, of_decide_eq_true nb, exc_init1 Fd S hb hg hdb hs hp hpd hpc G, bi⟩
end
end PD
namespace PD
open PySem PySem.Spec PyProof.Rows L2 PX LamX
theorem walk_pdT {l : PySem.W.OpenLaw} {n k : Nat} {q : Program} {loose : List Str} {XP : (Str → Option Value) → Heap → Prop} {YP : World → Heap → Prop} {d : DefRec} {x : Str} {Fl : IF} {lams : Nat → LamD}
    (hn : l.most = some n) (hn2 : n ≤ sizeLine) (hdf : d.params.defaults = []) (hr : Room k callerA)
    (F : ∀ (w : World) (mg : Str → Option Value) (fa : Addr) (h : Heap), YP w h → h.Ns mainGlobals mg → mg d.name = some (.ref fa) →
      ∃ (K : PySem.W.Frag) (fd : FuncData) (cs : List (Addr × Addr)) (T : List (Addr × Str)), K.In h ∧ (∀ p ∈ cs, h.get? p.2 = some { cls := .none, data := .fields #[] }) ∧ (∀ p ∈ cs, K.lookup p.2 = none) ∧ (∀ p ∈ cs, PySem.W.CodeHd h p.1 p.2) ∧ (∀ p ∈ T, ∃ c, (c, p.1) ∈ cs) ∧
        (∀ (s : Shared) (u : Value), BindsTo s fd ⟨[u], []⟩ [(x, u)]) ∧ ∀ base : Heap, K.In base → base.Ns mainGlobals mg → (∀ p ∈ cs, TabB base mg p.1 p.2) → FnOk l.prog w K mg base (L2.CX l.prog w) k fa fd [x] (@SpI ⟨lams, T⟩ K mg 1 Fl))
    (math : ∀ ns : List Int, ns.length ≤ n → (∀ z ∈ ns, Builtin.Int.intBits z ≤ 1048576) → (∃ h', Fl [.scr (ns.map .int)] [] = some (.ok (.bl true), h')) ∧ ∃ h', Fl [.lst (ns.map .int)] [] = some (.ok (.bl true), h')) :
    PySem.W.WalkO q loose XP YP l.row.toRowW d [] (fun f vs => PySem.call f vs) := by
  refine Att.attach_callB hn hdf fun w s₀ s₁ mg mb fa o pm cd doc a vs ns G Y ho hd hcd hmg hobj hints hlen hbits hg => ?_
  obtain ⟨K, fd, cs, T, KX, hT, nT, C, hTc, hb, hF⟩ := F w mg fa _ Y G.T.g hmg
  refine law_callTs KX G.T.g G.T.b G.T.builtins G.T.nolimit hg hT nT C G.T.bmain hobj hints (Nat.le_trans hlen hn2) hr hF hb (fun H hH hS => ?_) fun H e s' hz => ?_
  · letI : LamTab := ⟨lams, T⟩
    obtain ⟨⟨h1, e1⟩, h2, e2⟩ := math ns hlen hbits
    have tb : MgE (⟨K, mg, fun _ => False, [], H⟩ : RC) mg := ⟨rfl, fun _ p hp => by
      obtain ⟨c, hc⟩ := hTc p hp
      exact TabS.nil (hH _ hc)⟩
    have fin : ∀ (r : R D) (h' : EH) , r = .ok (.bl true) → (∀ d, r = .ok d → ∀ (c' : RC) v, Rep c' d v → v = .bl true) := fun r h' er d ed c' v rv => by
      rw [er] at ed
      cases ed
      cases rv
      rfl
    rcases hS with (hS | ⟨o, hS⟩) | hS
    · exact ⟨⟨K, mg, fun _ => False, [], H⟩, [], [.lst (ns.map .int)], .ok (.bl true), h2, rfl, tb, rfl, SR.nil rfl (fun _ z => z.elim), .cons (.lst hS ⟨fun z => z, List.not_mem_nil⟩ (reps_ints ns)) .nil, rfl, e2, fun d ed c' v l s r => fin _ h2 rfl d ed c' v r, fun e ee => nomatch ee⟩
    · exact ⟨⟨K, mg, fun _ => False, [], H⟩, [], [.scr (ns.map .int)], .ok (.bl true), h1, rfl, tb, rfl, SR.nil rfl (fun _ z => z.elim), .cons (.scr (.inl ⟨o, hS⟩) (reps_ints ns)) .nil, rfl, e1, fun d ed c' v l s r => fin _ h1 rfl d ed c' v r, fun e ee => nomatch ee⟩
    · exact ⟨⟨K, mg, fun _ => False, [], H⟩, [], [.scr (ns.map .int)], .ok (.bl true), h1, rfl, tb, rfl, SR.nil rfl (fun _ z => z.elim), .cons (.scr (.inr hS) (reps_ints ns)) .nil, rfl, e1, fun d ed c' v l s r => fin _ h1 rfl d ed c' v r, fun e ee => nomatch ee⟩
  · obtain ⟨_, _, _, _, _, _, _, _, _, _, _, _, z⟩ := hz
    exact z
end PD
namespace PD
open PySem PySem.Spec PyProof.Rows L2 PX
end PD
namespace PD
open PySem PySem.Spec PyProof.Rows L2 PX
end PD
namespace PD
open PySem PySem.Spec PyProof.Rows L2 PX LamX
variable [LamTab]
section
variable {P : Program} {w : World} {K : PySem.W.Frag} {mg : Str → Option Value} {base : Heap}
theorem LamS.mono {i j k : Nat} {F : PF} (h : LamS P w K mg base j i F) (l : j ≤ k) : LamS P w K mg base k i F := by
  obtain ⟨m, e, r⟩ := h.run
  exact ⟨h.ok, m, e, fun cl f c' A outer s H E hr => r cl f c' A outer s H E (hr.mono l)⟩
end
end PD
namespace PD
open PySem PySem.Spec PyProof.Rows L2 PX LamX
variable [LamTab]
theorem SR.extN {c : RC} {h : EH} (s : SR c h) {b : Addr} {φ : Heap → Prop} (e : c.H b = some (.ext φ)) : b ∉ c.ρ := fun z => by
  obtain ⟨n, hn, eq⟩ := List.mem_iff_getElem.mp z
  have h1 : c.ρ[n]? = some b := by rw [List.getElem?_eq_getElem hn, eq]
  have hn' : n < h.length := by rw [← s.len]; exact hn
  have r := s.cells n b _ h1 (List.getElem?_eq_getElem hn')
  cases q : h[n] with
  | lst ds => rw [q] at r; obtain ⟨xs, e2, _⟩ := r; rw [e] at e2; cases e2
  | dic t kvs =>
    rw [q] at r
    obtain ⟨o, zs, e2, i, _⟩ := r
    rw [e] at e2
    cases e2
    rcases i with ⟨_, _, z, _⟩ | ⟨_, z⟩ <;> cases z
  | obj C fs => rw [q] at r; obtain ⟨_, _, _, _, e2, _⟩ := r; rw [e] at e2; cases e2
theorem LamAt.extE {X : Cx} {H H' : Hp} {i : Nat} {f : Addr} (e : ∀ b φ, H b = some (.ext φ) → H' b = some (.ext φ)) (h : LamAt X H i f) : LamAt X H' i f := by
  obtain ⟨dV, c', h1, h2, h3⟩ := h
  refine ⟨dV, c', e _ _ h1, e _ _ h2, ?_⟩
  rcases h3 with h3 | ⟨q, dt, t, e1, e2⟩
  · exact .inl h3
  · exact .inr ⟨q, dt, t, e1, e _ _ e2⟩
theorem LamAts.extE {X : Cx} {H H1 : Hp} (e : ∀ b φ, H b = some (.ext φ) → H1 b = some (.ext φ)) : ∀ {ps : List (Nat × List Nat)} {vs : List V}, LamAts X H ps vs → LamAts X H1 ps vs
  | _, _, .nil => .nil
  | _, _, .cons h t => .cons (h.extE e) (t.extE e)
theorem LAt.le {X : Cx} {ix : Nat} {ps : List (Nat × List Nat)} {c c' : RC} {σ : L2.St} {h : EH} (la : LAt X ix ps c σ) (s : SR c h) (l : c.Le c') {j : Nat} (hj : j ≠ ix) (v : Option V) : LAt X ix ps c' (σ.set j v) := by
  obtain ⟨a, vs, h1, h2, h3, h4⟩ := la
  refine ⟨a, vs, ?_, (l.lstH h2 h3).1, (l.lstH h2 h3).2, h4.extE fun b φ e => (l.keep b _ e (fun _ z => by cases z) (s.extN e)).1⟩
  rw [List.getElem?_set_ne hj]
  exact h1
end PD
namespace PD
open PySem PySem.Spec PyProof.Rows L2 PX LamX
end PD
namespace L2
open PySem PySem.Spec PyProof.Rows
end L2
namespace PD
open PySem PySem.Spec PyProof.Rows L2 PX LamX
end PD
namespace PD
open PySem PySem.Spec PyProof.Rows L2 PX LamX
end PD
namespace PD
open PySem PySem.Spec PyProof.Rows L2 PX LamX
end PD
namespace PX
open PySem PySem.Spec PyProof.Rows L2 PySem.Calls PD
variable [LamTab]
def lock (z : Addr → Option Obj) (H : Hp) : Hp := fun b => match z b, H b with
  | some o, some (.lst xs) => some (.frz o (.lst xs))
  | _, u => u
/-- z's objects are lists of H -/
def InL (z : Addr → Option Obj) (H : Hp) : Prop := ∀ b o, z b = some o → ∃ xs, H b = some (.lst xs)
section
variable {z : Addr → Option Obj} {H : Hp} {b : Addr}
theorem lock_out (h : z b = none) : lock z H b = H b := by
  unfold lock; rw [h]
theorem inl_out (hz : InL z H) {u : HO} (h : H b = some u) (n : ∀ xs, u ≠ .lst xs) : z b = none := by
  cases y : z b with
  | none => rfl
  | some o =>
    obtain ⟨xs, e⟩ := hz b o y
    rw [h] at e
    exact (n xs (Option.some.inj e)).elim
end
end PX
namespace PD
open PySem PySem.Spec PyProof.Rows L2 PX LamX
variable [LamTab]
abbrev lockC (c : RC) (z : Addr → Option Obj) : RC := { c with H := PX.lock z c.H, ρ := [], B := fun a => c.B a ∨ a ∈ c.ρ }
/-- z has just the cells of lists -/
structure LkZ (c : RC) (z : Addr → Option Obj) : Prop where
  in_ : ∀ b o, z b = some o → b ∈ c.ρ ∧ ∃ xs, c.H b = some (.lst xs)
  all : ∀ b xs, b ∈ c.ρ → c.H b = some (.lst xs) → ∃ o, z b = some o
section
variable {c c' : RC} {h : EH} {z : Addr → Option Obj}
theorem LkZ.inL (k : LkZ c z) : PX.InL z c.H := fun b o y => (k.in_ b o y).2
theorem LkZ.out (k : LkZ c z) {a : Addr} (h : a ∉ c.ρ) : z a = none := by
  cases y : z a with
  | none => rfl
  | some o => exact absurd (k.in_ a o y).1 h
theorem lock_some {H : Hp} {a : Addr} {o : HO} (e : H a = some o) : ∃ o', PX.lock z H a = some o' := by
  cases y : z a with
  | none => exact ⟨o, (lock_out y).trans e⟩
  | some ob =>
    unfold PX.lock
    rw [y, e]
    cases o <;> exact ⟨_, rfl⟩
theorem LkZ.leW (k : LkZ c z) : (c.bare fun a => c.B a ∨ a ∈ c.ρ).LeW (lockC c z) := by
  refine ⟨rfl, rfl, fun a h => .inl h, fun n a h => by simp at h, fun a o e => lock_some e, fun a o e nt nb nr => ⟨?_, nr⟩, fun a xs e => ?_, fun a o u e => ?_⟩
  · exact (lock_out (k.out fun q => nb (.inr q))).trans e
  · rcases e with e | ⟨o, e⟩
    · exact .inl ((lock_out (inl_out k.inL e fun _ q => by cases q)).trans e)
    · exact .inr ⟨o, (lock_out (inl_out k.inL e fun _ q => by cases q)).trans e⟩
  · exact (lock_out (inl_out k.inL e fun _ q => by cases q)).trans e
theorem LkZ.tabs (k : LkZ c z) (t : c.tabs) : RC.tabs (lockC c z) := fun q hq => codeO_ext (t q hq) (by
    obtain ⟨ps, k1, _⟩ := t q hq
    exact lock_out (inl_out k.inL k1 fun _ z => by cases z)) fun a e => (lock_out (inl_out k.inL e fun _ z => by cases z)).trans e
end
end PD
namespace PX
open PySem PySem.Spec PyProof.Rows L2 PySem.Calls PD
end PX
namespace PD
open PySem PySem.Spec PyProof.Rows L2 PX LamX
end PD
namespace PD
open PySem PySem.Spec PyProof.Rows L2 PX LamX
end PD
namespace PD
open PySem PySem.Spec PyProof.Rows L2 PX LamX
end PD
namespace PD
open PySem PySem.Spec PyProof.Rows L2 PX LamX
end PD
namespace PD
open PySem PySem.Spec PyProof.Rows L2 PX LamX
end PD
namespace PD
open PySem PySem.Spec PyProof.Rows L2 PX LamX
end PD
namespace PD
open PySem PySem.Spec PyProof.Rows L2 PX LamX
end PD
namespace PD
open PySem PySem.Spec PyProof.Rows L2 PX LamX
end PD
namespace PX
open PySem PySem.Spec PyProof.Rows L2 PySem.Calls
structure XB (b : XBase) : Prop where
  fB : ExcBaseFacts b.nm b.nw b.ini b.tl
  st : StoreFacts b.nm b.tl "object.__setattr__" "object"
  kx : PySem.W.KxsFacts b.nm b.ini
theorem veB_ok : XB veB := ⟨F.excBase_ValueError, F.store_ValueError, PySem.W.kxs_ValueError⟩
theorem leB_ok : XB leB := ⟨F.excBase_LookupError, F.store_LookupError, PySem.W.kxs_LookupError⟩
theorem ieB_ok : XB ieB := ⟨F.excBase_IndexError, F.store_IndexError, PySem.W.kxs_IndexError⟩
theorem refsT_cases (tl : List Value) : ∀ l : List Value, refsT tl l = true → (∃ c r, l = .ref c :: r ∧ refsT tl r = true) ∨ l = tl
  | .ref c :: r, e => .inl ⟨c, r, rfl, e⟩
  | [], e => .inr (beq_iff_eq.mp e)
  | .none :: _, e => .inr (beq_iff_eq.mp e)
  | .ellipsis :: _, e => .inr (beq_iff_eq.mp e)
  | .notImplemented :: _, e => .inr (beq_iff_eq.mp e)
  | .bool _ :: _, e => .inr (beq_iff_eq.mp e)
  | .int _ _ :: _, e => .inr (beq_iff_eq.mp e)
  | .float _ _ :: _, e => .inr (beq_iff_eq.mp e)
  | .str _ _ :: _, e => .inr (beq_iff_eq.mp e)
  | .bytes _ _ :: _, e => .inr (beq_iff_eq.mp e)
  | .type _ :: _, e => .inr (beq_iff_eq.mp e)
  | .builtin _ :: _, e => .inr (beq_iff_eq.mp e)
theorem refsT_ind {tl : List Value} {M : List Value → Prop} (h0 : M tl) (h1 : ∀ c r, M r → M (.ref c :: r)) : ∀ l : List Value, refsT tl l = true → M l
  | [], e => by rcases refsT_cases tl [] e with ⟨_, _, q, _⟩ | q
                · cases q
                · rw [q]; exact h0
  | a :: r, e => by
    rcases refsT_cases tl (a :: r) e with ⟨c, r', q, h⟩ | q
    · cases q
      exact h1 c r (refsT_ind h0 h1 r h)
    · rw [q]; exact h0
theorem refsT_has {tl l : List Value} (e : refsT tl l = true) (Y : String) : l.contains (.type Y) = tl.contains (.type Y) :=
  refsT_ind (M := fun l => l.contains (.type Y) = tl.contains (.type Y)) rfl (fun c r h => by rw [List.contains_cons, h] <;> rfl) l e
theorem refsT_free {b : XBase} (B : XB b) (self : Value) {l : List Value} (e : refsT b.tl l = true) : refuseLoop self "__setattr__" l = pure () :=
  refsT_ind (M := fun l => refuseLoop self "__setattr__" l = pure ()) (B.st.passes self) (fun c r h => by rw [refuseLoop_ref]; exact h) l e
theorem refsT_obj {b : XBase} (B : XB b) {l : List Value} (e : refsT b.tl l = true) : l.contains (.type "object") = true := (refsT_has e "object").trans B.st.hasOwner
theorem refsT_ve {l : List Value} (e : PySem.HandSPX.refsVE l = true) : refsT veB.tl l = true := by
  induction l with
  | nil => exact e
  | cons a r ih =>
    rcases PySem.HandSPX.refsVE_cases (a :: r) e with ⟨c, r', q, h⟩ | q
    · cases q
      exact ih h
    · rw [q]; decide +kernel
/-- an order of classes through which a store goes -/
structure Thru (l : List Value) : Prop where
  ne : l.isEmpty = false
  ob : l.contains (.type "object") = true
  go : ∀ self, refuseLoop self "__setattr__" l = pure ()
theorem thru_of {b : XBase} (B : XB b) {l : List Value} (e : refsT b.tl l = true) : Thru l := ⟨by
  cases l with
  | nil => exact absurd (refsT_obj B e) (by decide)
  | cons => rfl, refsT_obj B e, fun self => refsT_free B self e⟩
/-- the class at C over the base b -/
structure OexB (b : XBase) (K : PySem.W.Frag) (C : Addr) : Prop where
  cls : ∃ nm q N bs mr0 sn sub ab col dd k0 k1 k2 k3 k5, K.lookup C = some (excClassObj nm q C N bs mr0 true sn sub ab col dd k0 k1 k2 k3 k5 b.nw) ∧ refsT b.tl mr0 = true
  sa : PySem.W.findIn K (.ref C) "__setattr__" = some (some (.builtin "object.__setattr__"))
  exC : PySem.W.subIn K (.ref C) (.type "BaseException") = some true
  tyC : PySem.W.typeIn K (.ref C) = some (.type "type")
  kC : PySem.W.keepIn K (.ref C) = true
theorem oexB_ve {K : PySem.W.Frag} {C : Addr} (T : OexC K C) : OexB veB K C := by
  obtain ⟨nm, q, N, bs, mr0, sn, sub, ab, col, dd, k0, k1, k2, k3, k5, hC, hmr0⟩ := T.cls
  exact ⟨⟨nm, q, N, bs, mr0, sn, sub, ab, col, dd, k0, k1, k2, k3, k5, hC, refsT_ve hmr0⟩, T.sa, T.exC, T.tyC, T.kC⟩
theorem excHO_ok {P : Program} {w : World} {H : Hp} {h : Heap} {a C d t1 : Addr} (stA : h.get? a = some ({ cls := .ref C, dict := some d, data := .fields #[.ref t1, .none, .none, .none, .bool false, .none] } : Obj)) : ObjOk P w H h a (PD.excHO a C d) :=
  ⟨⟨_, _, stA, rfl, rfl, rfl⟩, ⟨_, stA⟩, fun h1 h2 z k => by
    obtain ⟨o, vs, q, r⟩ := z
    exact ⟨o, vs, k _ q, r⟩⟩
section
variable {X : Cx} {pins : List (Addr × Obj)} {σ : L2.St} {H : Hp} {s : Shared} {a C d : Addr} {fs : List (Str × V)}
/-- what was made stands as an exception from now on -/
theorem retrack (I : Inv X pins σ H s) (ea : H a = some (exo a C (some d))) (ed : H d = some (exd d fs)) (ne : d ≠ a) : Inv X pins σ (upd (upd H d (.xd fs)) a (PD.excHO a C d)) s := by
  obtain ⟨t1, ho⟩ := exo_at I.hok ea
  obtain ⟨mA, hns, rel⟩ := exd_at I.hok ed
  obtain ⟨hp, g, drw, tk, os⟩ := s
  have hd : ∃ o, hp.get? d = some o := by
    obtain ⟨o, _, _, e, _⟩ := hns
    exact ⟨o, e⟩
  have I1 : Inv X pins σ (upd H d (.xd fs)) ⟨hp, g, drw, tk, os⟩ := I.write (t' := tk) (x := d) (e := d) (o := .xd fs) (by rw [ed]; exact True.intro) (.inl rfl) (fun b u _ z => z) hd ⟨mA, hns, rel⟩
  exact I1.write (t' := tk) (x := a) (e := a) (o := PD.excHO a C d) (by rw [upd_ne ne.symm, ea]; exact True.intro) (.inl rfl) (fun b u _ z => z) ⟨_, ho⟩ (excHO_ok ho)
end
section
variable {X : Cx} {CX : CXT} {b : XBase} {C fI : Addr} {k : Nat} {fd : FuncData} {ps : List Str} {sp : Sp}
/-- C(..) of the class at C: afterwards the object stands as an exception -/
def NewX (C : Addr) (sp : Sp) (vs : List V) (H : Hp) (Q : VK) : Prop := vs.length ≤ 1000 ∧ ∀ a, H a = none → sp (.ref a :: vs) (upd H a (exo a C none))
  (fun v H2 => v = .non ∧ ∃ (d : Addr) (fs : List (Str × V)), H2 a = some (exo a C (some d)) ∧ H2 d = some (exd d fs) ∧ d ≠ a ∧ Q (.ref a) (upd (upd H2 d (.xd fs)) a (PD.excHO a C d))) (fun _ _ _ => False)
theorem run_newX {pins : List (Addr × Obj)} {σ : L2.St} {H : Hp} {s : Shared} {Q : VK} {us : List Value} {vs : List V} (B : XB b) (T : OexB b X.K C) (iC : PySem.W.findIn X.K (.ref C) "__init__" = some (some (.ref fI))) (tI : PySem.W.typeIn X.K (.ref fI) = some (.type "function"))
    (F1 : FnOk X.prog X.w X.K X.mg X.base CX k fI fd ps sp) (hr : Room (k + 1) X.A) (hb : Binds X.K fd ps []) (hx : Passes CX X (fun _ _ _ => False)) (I : Inv X pins σ H s) (r : Vals vs us) (h : NewX C sp vs H Q) :
    wpAny (model X.prog X.w) X.A (call (.ref C) us) (EP X pins σ Q) X.xe s := by
  obtain ⟨nm, q, N, bs, mr0, sn, sub, ab, col, dd, k0, k1, k2, k3, k5, hC, hmr0⟩ := T.cls
  obtain ⟨hz, q1⟩ := h
  obtain ⟨hp, g, drw, tk, os⟩ := s
  have hn : H (hp.objs.size + 1) = none := I.hok.fresh (Nat.le_succ _)
  have hq := q1 (hp.objs.size + 1) hn
  have gotA : ((hp.push (PySem.W.kdv_tup us)).push (PySem.HandSPX.excO C hp.objs.size)).get? (hp.objs.size + 1) = some (PySem.HandSPX.excO C hp.objs.size) := by heap_get
  have I2 := I.laid (t' := tk) (a := hp.objs.size + 1) (o := exo (hp.objs.size + 1) C none) (h' := (hp.push (PySem.W.kdv_tup us)).push (PySem.HandSPX.excO C hp.objs.size)) (fun b o e => Heap.get?_push_of_some _ (Heap.get?_push_of_some _ e)) (Nat.le_succ _) (exo_ok gotA)
  have r2 : Vals (V.ref (hp.objs.size + 1) :: vs) (Value.ref (hp.objs.size + 1) :: us ++ []) := by rw [List.append_nil]; exact .cons rfl r
  have lenP : (Value.ref (hp.objs.size + 1) :: us ++ []).length = ps.length := by
    have e := r2.length
    rw [F1.len _ _ _ _ hq] at e
    exact e.symm
  have szU : us.length ≤ sizeLine := by
    rw [← Paired.length r, sizeLine_eq]; omega
  refine wpAny_call (PySem.HandSPX.call_own B.fB (fun Y => refsT_has hmr0 Y) (I.kIn _ _ hC) (PySem.W.looks_findIn I.kIn iC) (fun self => PySem.W.bind_fn I.kIn self tI) szU
    (codeAny_mono (F1.run _ X.stack _ _ ⟨Value.ref (hp.objs.size + 1) :: us, []⟩ _ _ _ (fun _ _ _ => False) (hr.make C us []) (I2.env0.make C us []) (hb _ (Value.ref (hp.objs.size + 1) :: us) I2.kIn lenP) r2 hq) fun rz s' hq' => ?_))
  cases rz with
  | error er => exact hx pins σ _ _ er s' I2 hq'
  | ok fl =>
    cases fl with
    | ret u =>
      obtain ⟨v, H2, J, rv, ev, d, fs, ea, ed, nd, q2⟩ := I2.after hq'
      subst ev
      exact ⟨rv, .ref (hp.objs.size + 1), _, retrack J ea ed nd, rfl, q2⟩
    | next => exact False.elim hq'
    | brk => exact False.elim hq'
    | cont => exact False.elim hq'
variable {x : Str} {p pos : Pos} {e : Expr} {es : List Expr} {ta : TA}
theorem pe_newX0 (B : XB b) (T : OexB b X.K C) (iC : PySem.W.findIn X.K (.ref C) "__init__" = some (some (.ref fI))) (tI : PySem.W.typeIn X.K (.ref fI) = some (.type "function"))
    (F1 : FnOk X.prog X.w X.K X.mg X.base CX k fI fd ps sp) (hr : Room (k + 1) X.A) (hb : Binds X.K fd ps []) (hx : Passes CX X (fun _ _ _ => False)) (hg : Gl X x) (hm : X.mg x = some (.ref C)) (ndb : (x == ("__debug__" : Str)) = false) :
    PE X (.Call (.Name x p) [] [] pos) (fun _ H Q => NewX C sp [] H Q) := by
  refine ⟨fun pins s σ H Q I h => ?_⟩
  refine wpAny_Call_Name_kw (ld_glob I hg hm ?_ ndb)
  exact PySem.W.callWith_K0 I.kIn T.kC (run_newX B T iC tI F1 hr hb hx I .nil h)
theorem pe_newX (B : XB b) (T : OexB b X.K C) (iC : PySem.W.findIn X.K (.ref C) "__init__" = some (some (.ref fI))) (tI : PySem.W.typeIn X.K (.ref fI) = some (.type "function"))
    (F1 : FnOk X.prog X.w X.K X.mg X.base CX k fI fd ps sp) (hr : Room (k + 1) X.A) (hb : Binds X.K fd ps []) (hx : Passes CX X (fun _ _ _ => False)) (hg : Gl X x) (hm : X.mg x = some (.ref C)) (ha : PA X (e :: es) ta) (ndb : (x == ("__debug__" : Str)) = false)
    (stA : starEach (e :: es) X.env = (false, eval e X.env) :: starEach es X.env) (plA : (backTo pos (starEach es X.env)).any (·.1) = false) :
    PE X (.Call (.Name x p) (e :: es) [] pos) (fun σ H Q => ta σ H fun vs H1 => NewX C sp vs H1 Q) := by
  refine ⟨fun pins s σ H Q I h => ?_⟩
  refine wpAny_Call_Name_kw (ld_glob I hg hm ?_ ndb)
  refine PySem.W.callWith_K (h₀ := X.base) I.ok.mod.kin T.kC (thn (ha.run pos pins s σ H _ I h) fun us s1 ⟨vs, H1, I1, r1, q1⟩ => ⟨I1.kIn, ?_⟩) stA plA
  exact run_newX B T iC tI F1 hr hb hx I1 r1 q1
end
end PX
namespace PD
open PySem PySem.Spec PyProof.Rows L2 PX LamX
def exVs (fl : Option Str) (code : Str) (ys : List V) : Option (List (Str × V)) := match fl, ys with
  | none, [] => some [("code", .str code)]
  | some f, [y] => some [(f, y), ("code", .str code)]
  | _, _ => none
def mNewX (C : Str) (fl : Option Str) (cs : List Nat) (a : M (List D)) : M D := fun ε h => bR (a ε h) fun ds h1 => match excFs fl cs ds with
  | some fs => some (.ok (.exc C fs), h1)
  | none => none
/-- what one has of a class of exceptions: its __init__ keeps the fields -/
structure ExcV (P : Program) (w : World) (K : PySem.W.Frag) (mg : Str → Option Value) (base : Heap) (C : Str) (fl : Option Str) (code : Str) : Prop where
  ex : ∃ (b : XBase) (Ca fI : Addr) (fd : FuncData) (ps : List Str) (sp : Sp), XB b ∧ mg C = some (.ref Ca) ∧ OexB b K Ca ∧ PySem.W.findIn K (.ref Ca) "__init__" = some (some (.ref fI)) ∧ PySem.W.typeIn K (.ref fI) = some (.type "function") ∧
    FnOk P w K mg base (L2.CX P w) 2 fI fd ps sp ∧ Binds K fd ps [] ∧ ∀ (a : Addr) (H : Hp) (ys : List V) (fs : List (Str × V)) (Q : VK), exVs fl code ys = some fs → H a = some (exo a Ca none) →
      (∀ dx, H dx = none → dx ≠ a → Q .non (upd (upd H dx (exd dx fs)) a (exo a Ca (some dx)))) → sp (.ref a :: ys) H Q (fun _ _ _ => False)
section
variable [LamTab] {P : Program} {w : World} {K : PySem.W.Frag} {mg : Str → Option Value} {base : Heap}
theorem excV_of {C code : Str} {fl : Option Str} (G : ExcC P w K mg base C fl code) : ExcV P w K mg base C fl code := by
  obtain ⟨Ca, fI, T, fd, prm, hm, O, iC, tI, hF⟩ := G.ex
  cases fl with
  | none =>
    obtain ⟨F1, hb⟩ := hF
    refine ⟨veB, Ca, fI, fd, _, _, veB_ok, hm, oexB_ve O.oex, iC, tI, F1, hb, fun a H ys fs Q e ea go => ?_⟩
    match ys, e with
    | [], e =>
      cases e
      exact ⟨a, Ca, rfl, O, ea, go⟩
    | _ :: _, e => cases e
  | some f =>
    obtain ⟨hno, F1, hb⟩ := hF
    refine ⟨veB, Ca, fI, fd, _, _, veB_ok, hm, oexB_ve O.oex, iC, tI, F1, hb, fun a H ys fs Q e ea go => ?_⟩
    match ys, e with
    | [y], e =>
      cases e
      exact ⟨a, Ca, y, rfl, O, hno, ea, go⟩
    | [], e => cases e
    | _ :: _ :: _, e => cases e
end
variable [LamTab]
section
variable {X : Cx} {W : WX}
theorem newX_heap {H : Hp} {a dx : Addr} {o0 o u o' : HO} {fs : List (Str × V)} (ne : dx ≠ a) : upd (upd (upd (upd (upd H a o0) dx u) a o) dx (.xd fs)) a o' = upd (upd H dx (.xd fs)) a o' := by
  funext b
  by_cases h1 : b = a
  · subst h1
    rw [upd_same, upd_same]
  · rw [upd_ne h1, upd_ne h1]
    by_cases h2 : b = dx
    · subst h2
      rw [upd_same, upd_same]
    · rw [upd_ne h2, upd_ne h2, upd_ne h1, upd_ne h2, upd_ne h1]
theorem exFs_vs {c : RC} {fl : Option Str} {code : Str} {ds : List D} {vs : List V} {fs : List (Str × D)} (r : Reps c ds vs) (e : excFs fl code.cps.toList ds = some fs) : ∃ ws, exVs fl code vs = some ws ∧ RepF c fs ws ∧ vs.length ≤ 1 := by
  cases fl with
  | none =>
    match ds, vs, r, e with
    | [], [], .nil, e =>
      cases e
      exact ⟨_, rfl, .cons (by simpa using Rep.str code.cps.toList) .nil, by decide⟩
    | _ :: _, _, _, e => cases e
  | some f =>
    match ds, vs, r, e with
    | [d], [v], .cons rd .nil, e =>
      cases e
      exact ⟨_, rfl, .cons rd (.cons (by simpa using Rep.str code.cps.toList) .nil), Nat.le_refl 1⟩
    | [], _, _, e => cases e
    | _ :: _ :: _, _, _, e => cases e
/-- the new exception's values in a context -/
theorem newX_of {C code : Str} {fl : Option Str} {Ca : Addr} {sp : Sp} {c : RC} {h : EH} {ds : List D} {vs : List V} {fs : List (Str × D)} {Q : VK} (hm : c.mg C = some (.ref Ca))
    (hsp : ∀ (a : Addr) (H : Hp) (ys : List V) (fs : List (Str × V)) (Q : VK), exVs fl code ys = some fs → H a = some (exo a Ca none) → (∀ dx, H dx = none → dx ≠ a → Q .non (upd (upd H dx (exd dx fs)) a (exo a Ca (some dx)))) → sp (.ref a :: ys) H Q (fun _ _ _ => False))
    (s : SR c h) (r : Reps c ds vs) (e : excFs fl code.cps.toList ds = some fs) (go : ∀ c' v, c.Le c' → SR c' h → Rep c' (.exc C fs) v → Q v c'.H) : NewX Ca sp vs c.H Q := by
  obtain ⟨ws, ew, rf, lenP⟩ := exFs_vs r e
  refine ⟨by omega, fun a ha => hsp a _ vs ws _ ew upd_same fun dx n ne => ⟨rfl, dx, ws, upd_same, (upd_ne ne).trans upd_same, ne, ?_⟩⟩
  have hd : c.H dx = none := by rw [upd_ne ne] at n; exact n
  rw [newX_heap ne]
  obtain ⟨l1, s1, f1⟩ := s.new (o := .xd ws) hd
  obtain ⟨l2, s2, f2⟩ := s1.new (p := a) (o := excHO a Ca dx) ((upd_ne ne.symm).trans ha)
  refine go _ (.ref a) (l1.trans l2) s2 (.exc hm upd_same f2 ((upd_ne ne).trans upd_same) (l2.fr upd_same (fun _ z => by cases z) f1) ((rf.le l1).le l2))
theorem re_newX0 {C code : Str} {cs : List Nat} {p pos : Pos} {j : Nat} (G : ExcV X.prog X.w X.K X.mg X.base C none code) (hcs : code.cps.toList = cs) (hr : Room j X.A) (hk : 3 ≤ j := by decide) (hg : Gl X C := by rfl) (ndb : (C == ("__debug__" : Str)) = false := by decide) :
    RE X W (.Call (.Name C p) [] [] pos) (mNewX C none cs mNil) := by
  obtain ⟨b, Ca, fI, fd, ps, sp, B, hm, T, iC, tI, F1, hb, hsp⟩ := G.ex
  subst hcs
  refine pe_imp (pe_newX0 B T iC tI F1 (hr.mono hk) hb (fun pins σ H s e s' I c => (cx_never c).elim) hg hm ndb) fun σ H Q h => ?_
  obtain ⟨c, ε, h, r, h', hK, hmg, rfl, sr, er, e, px, go⟩ := h
  cases e
  exact newX_of (by rw [hmg.mge]; exact hm) hsp sr .nil rfl fun c' v l s' rv => go _ rfl c' v l s' rv
theorem re_newX1 {C code f : Str} {cs : List Nat} {e : Expr} {ma : M (List D)} {p pos : Pos} {j : Nat} (G : ExcV X.prog X.w X.K X.mg X.base C (some f) code) (hcs : code.cps.toList = cs) (hr : Room j X.A) (ha : RA X W [e] ma) (hk : 3 ≤ j := by decide) (hg : Gl X C := by rfl) (ndb : (C == ("__debug__" : Str)) = false := by decide)
    (stA : starEach [e] X.env = (false, eval e X.env) :: starEach [] X.env := by rfl) (plA : (backTo pos (starEach [] X.env)).any (·.1) = false := by rfl) :
    RE X W (.Call (.Name C p) [e] [] pos) (mNewX C (some f) cs ma) := by
  obtain ⟨b, Ca, fI, fd, ps, sp, B, hm, T, iC, tI, F1, hb, hsp⟩ := G.ex
  subst hcs
  refine pe_imp (pe_newX B T iC tI F1 (hr.mono hk) hb (fun pins σ H s e s' I c => (cx_never c).elim) hg hm ha ndb stA plA) fun σ H Q h => ?_
  obtain ⟨c, ε, h, r, h', hK, hmg, rfl, sr, er, e, px, go⟩ := h
  refine tX.bind hK hmg sr er e px fun ds h1 c1 vs e1 l1 s1 r1 => ?_
  cases q : excFs (some f) code.cps.toList ds with
  | none => rw [q] at e1; cases e1
  | some fs =>
    rw [q] at e1
    cases e1
    exact newX_of (by rw [l1.mg.e', hmg.mge]; exact hm) hsp s1 r1 q fun c' v l s' rv => go _ rfl c' v (l1.trans l) s' rv
end
end PD
namespace PX
open PySem PySem.Spec PyProof.Rows L2 PySem.Calls
theorem kitX_exc {K : PySem.W.Frag} {x C : Addr} {ox odx : Obj} (T : L2.ExcC K C) : PySem.W.KitX K (.ref x) (.ref C) (fun h => PySem.W.InstAt h x ox C (some odx)) :=
  PySem.W.kitx_exc (by obtain ⟨cd, hc, _⟩ := PySem.W.any_some T.hd; rw [hc]; rfl) T.hg T.hk T.hs T.ha T.hn T.ht T.hm
/-- what is read of a class of exceptions for isinstance: the class's own facts, the answer -/
def rIsX (K : PySem.W.Frag) : List V → Hp → VK → Prop := fun xs H Q => ∃ (a C d : Addr) (fs : List (Str × V)) (t : V) (tv : Value) (b : Bool), xs = [.ref a, t] ∧ H a = some (PD.excHO a C d) ∧ H d = some (.xd fs) ∧ ClsV t tv ∧ L2.ExcC K C ∧ PySem.W.kitOne K (.ref C) tv = some b ∧ Q (.bl b) H
section
variable {X : Cx}
theorem instX {pins : List (Addr × Obj)} {σ : L2.St} {H : Hp} {s : Shared} {a C d : Addr} {fs : List (Str × V)} (I : Inv X pins σ H s) (ea : H a = some (PD.excHO a C d)) (ed : H d = some (.xd fs)) :
    ∃ (ox odx : Obj), PySem.W.InstAt s.heap a ox C (some odx) ∧ ∀ f v, fs.lookup f = some v → ∃ u, PySem.W.lookIn f odx = some (some u) ∧ RelV v u := by
  obtain ⟨⟨o, vs, ha, hc, hdt, hf⟩, _⟩ := (show ObjOk X.prog X.w H s.heap a (PD.excHO a C d) from I.hok a _ ea)
  obtain ⟨mA, hns, hr⟩ := (show ObjOk X.prog X.w H s.heap d (.xd fs) from I.hok d _ ed)
  obtain ⟨odx, ho, hlk⟩ := lookIn_ns hns
  refine ⟨o, odx, ⟨ha, hc, by unfold PySem.W.notCls; rw [hf] <;> rfl, by rw [hdt]; exact ho⟩, fun f v l => ?_⟩
  obtain ⟨u, hu, ru⟩ := RelO.some_of (v := v) (o := mA f) (by rw [← l]; exact hr f)
  exact ⟨u, by rw [hlk, hu], ru⟩
theorem call_isX : CallR X (.builtin "isinstance") (rIsX X.K) := by
  intro pins s σ H xs uss Q I r h
  obtain ⟨a, C, d, fs, t, tv, b, rfl, ea, ed, k, T, e, q⟩ := h
  obtain ⟨u1, u2, rfl, r1, r2⟩ := vals2 r
  cases k.eq r2
  cases (show u1 = Value.ref a from r1)
  obtain ⟨ox, odx, J, _⟩ := instX I ea ed
  exact PySem.W.kia_one (kitX_exc T) I.kIn J e (fun z => nomatch z) fun tk => ⟨.bl b, H, I.tok tk, rfl, q⟩
/-- e.f of an exception -/
def tXFld (K : PySem.W.Frag) (f : Str) (te : TE) : TE := fun σ H Q => te σ H fun x H1 => ∃ (a C d : Addr) (fs : List (Str × V)) (v : V), x = .ref a ∧ XfC K C ∧ PySem.W.findIn K (.ref C) f = some none ∧ H1 a = some (PD.excHO a C d) ∧ H1 d = some (.xd fs) ∧ fs.lookup f = some v ∧ Q v H1
theorem pe_xfld {e : Expr} {te : TE} {pos : Pos} {f : Str} (he : PE X e te) (hb : attributeBase e f X.env (eval e X.env) = eval e X.env) : PE X (.Attribute e f pos) (tXFld X.K f te) := by
  refine ⟨fun pins s σ H Q I h => ?_⟩
  refine attr_of hb (thn (he.run pins s σ H _ I h) fun u s1 ⟨x, H1, I1, rxx, a, C, d, fs, v, ex, T, hno, ea, ed, l, q⟩ => ?_)
  subst ex
  obtain rfl : u = Value.ref a := rxx
  obtain ⟨ox, odx, J, hlk⟩ := instX I1 ea ed
  obtain ⟨u, hu, ru⟩ := hlk f v l
  exact PySem.HandSPX.exc_get I1.kIn J T.ga T.gg T.exC (PySem.W.findObj_own T.hdC hno rfl hu) (handed_of ru) ⟨v, H1, I1.tok _, ru, q⟩
end
end PX
namespace PD
open PySem PySem.Spec PyProof.Rows L2 PX LamX
def mFldX (cs : List Str) (f : Str) (m : M D) : M D := fun ε h => bR (m ε h) fun d h1 => match d with
  | .exc C fs => if cs.contains C = true then rt (fs.lookup f) h1 else none
  | _ => none
def isXd (tb : List (Str × Bool)) : D → Option D
  | .exc C _ => (tb.lookup C).map D.bl
  | _ => none
def mIsX (tb : List (Str × Bool)) (m : M D) : M D := fun ε h => bR (m ε h) fun d h1 => rt (isXd tb d) h1
/-- f is a field of the exceptions of the class C -/
structure XvC (K : PySem.W.Frag) (mg : Str → Option Value) (f C : Str) : Prop where
  ex : ∃ Ca, mg C = some (.ref Ca) ∧ XfC K Ca ∧ PySem.W.findIn K (.ref Ca) f = some none
/-- isinstance(e, t) of the exceptions of the class C -/
structure XiC (K : PySem.W.Frag) (mg : Str → Option Value) (t : Value) (C : Str) (b : Bool) : Prop where
  ex : ∃ Ca, mg C = some (.ref Ca) ∧ L2.ExcC K Ca ∧ PySem.W.kitOne K (.ref Ca) t = some b
theorem mem_look {tb : List (Str × Bool)} {C : Str} {b : Bool} (h : tb.lookup C = some b) : (C, b) ∈ tb := by
  induction tb with
  | nil => cases h
  | cons p r ih =>
    obtain ⟨y, z⟩ := p
    rw [List.lookup_cons] at h
    cases q : C == y with
    | true => rw [q] at h; cases h; rw [beq_iff_eq.mp q]; exact List.mem_cons_self
    | false => rw [q] at h; exact List.mem_cons_of_mem _ (ih h)
variable [LamTab]
section
variable {X : Cx} {W : WX}
theorem exc_rep {c : RC} {C : Str} {fs : List (Str × D)} {v : V} (r : Rep c (.exc C fs) v) : ∃ a Ca dx ws, v = .ref a ∧ c.mg C = some (.ref Ca) ∧ c.H a = some (excHO a Ca dx) ∧ c.H dx = some (.xd ws) ∧ RepF c fs ws := by
  cases r with
  | exc m h1 f1 h2 f2 rf => exact ⟨_, _, _, _, rfl, m, h1, h2, rf⟩
theorem re_fldX {cs : List Str} {f : Str} {e : Expr} {m : M D} {pos : Pos} (hx : ∀ C ∈ cs, XvC X.K X.mg f C) (he : RE X W e m) (hb : attributeBase e f X.env (eval e X.env) = eval e X.env := by rfl) : RE X W (.Attribute e f pos) (mFldX cs f m) := by
  refine pe_imp (pe_xfld he hb) fun σ H Q h => ?_
  obtain ⟨c, ε, h, r, h', hK, hm, rfl, sr, er, e, px, go⟩ := h
  unfold tXFld
  refine tX.bind hK hm sr er e px fun d h1 c1 v e1 l1 s1 r1 => ?_
  cases d with
  | exc C fs =>
    have e1 : (if cs.contains C = true then rt (fs.lookup f) h1 else none) = some (r, h') := e1
    by_cases hc : cs.contains C = true
    · rw [if_pos hc] at e1
      cases q : fs.lookup f with
      | none => rw [q] at e1; cases e1
      | some d =>
        rw [q] at e1
        cases e1
        obtain ⟨a, Ca, dx, ws, rfl, m1, m2, m3, rf⟩ := exc_rep r1
        obtain ⟨Ca', k1, k2, k3⟩ := (hx C (List.contains_iff_mem.mp hc)).ex
        rw [l1.mg.e', hm.mge, k1] at m1
        cases m1
        obtain ⟨v, l, rv⟩ := rf.look q
        exact ⟨a, Ca, dx, ws, v, rfl, k2, k3, m2, m3, l, go _ rfl c1 v l1 s1 rv⟩
    · rw [if_neg hc] at e1; cases e1
  | _ => cases e1
theorem isX_rep {tb : List (Str × Bool)} {tv : Value} {t : V} {c1 : RC} {h1 h' : EH} {d : D} {v : V} {r : R D} {Q : VK} (k : ClsV t tv) (hx : ∀ q ∈ tb, XiC X.K X.mg tv q.1 q.2) (hm : c1.mg = X.mg) (r1 : Rep c1 d v) (e1 : rt (isXd tb d) h1 = some (r, h')) (go : ∀ b, r = .ok (.bl b) → h1 = h' → Q (.bl b) c1.H) : rIsX X.K [v, t] c1.H Q := by
  cases d with
  | exc C fs =>
    have e1 : rt ((tb.lookup C).map D.bl) h1 = some (r, h') := e1
    cases q : tb.lookup C with
    | none => rw [q] at e1; cases e1
    | some b =>
      rw [q] at e1
      cases e1
      obtain ⟨a, Ca, dx, ws, rfl, m1, m2, m3, rf⟩ := exc_rep r1
      obtain ⟨Ca', k1, k2, k3⟩ := (hx _ (mem_look q)).ex
      rw [hm, k1] at m1
      cases m1
      exact ⟨a, Ca, dx, ws, t, tv, b, rfl, m2, m3, k, k2, k3, go b rfl rfl⟩
  | _ => cases e1
/-- isinstance(e, x), x a built-in class -/
theorem re_isXb {T : String} {tb : List (Str × Bool)} {e : Expr} {x : Str} {p p2 pos : Pos} {m : M D} (hx : ∀ q ∈ tb, XiC X.K X.mg (.type T) q.1 q.2) (hm : X.mg "isinstance" = none) (hmx : X.mg x = none) (he : RE X W e m) (hv : bootBuiltins x = some (.type T) := by decide +kernel)
    (hg : Gl X "isinstance" := by rfl) (hgx : Gl X x := by rfl) (hnx : x ≠ "__name__" := by decide) (hdx : (x == ("__debug__" : Str)) = false := by decide)
    (hs1 : starEach [e, .Name x p2] X.env = (false, eval e X.env) :: starEach [.Name x p2] X.env := by rfl) (hs2 : starEach [.Name x p2] X.env = (false, eval (.Name x p2) X.env) :: starEach [] X.env := by rfl)
    (hpl : (backTo pos (starEach [.Name x p2] X.env)).any (·.1) = false := by rfl) : RE X W (.Call (.Name "isinstance" p) [e, .Name x p2] [] pos) (mIsX tb m) := by
  refine pe_imp (pe_callB (x := "isinstance") call_isX hg hm (by decide +kernel) (pa_cons he (pa_cons (pe_bltn (v := .ty T) (u := .type T) hgx hmx hv rfl hnx hdx) pa_nil hs2) hs1) (by decide) (by decide) hs1 hpl) fun σ H Q h => ?_
  obtain ⟨c, ε, h, r, h', hK, hm, rfl, sr, er, e, px, go⟩ := h
  unfold tCB tCons tC tNil
  refine tX.bind hK hm sr er e px fun d h1 c1 v e1 l1 s1 r1 => ?_
  show rIsX X.K [v, _] c1.H Q
  refine isX_rep (Q := Q) (h' := h') (r := r) (.ty T) hx (by rw [l1.mg.e', hm.mge]) r1 e1 fun b er eh => ?_
  subst eh
  exact go _ er c1 _ l1 s1 (.bl b)
/-- isinstance(e, x), x a class of one's own -/
theorem re_isXo {Ta : Addr} {tb : List (Str × Bool)} {e : Expr} {x : Str} {p p2 pos : Pos} {m : M D} (hmx : X.mg x = some (.ref Ta)) (hx : ∀ q ∈ tb, XiC X.K X.mg (.ref Ta) q.1 q.2) (hm : X.mg "isinstance" = none) (he : RE X W e m) (hg : Gl X "isinstance" := by rfl) (hgx : Gl X x := by rfl) (hdx : (x == ("__debug__" : Str)) = false := by decide)
    (hs1 : starEach [e, .Name x p2] X.env = (false, eval e X.env) :: starEach [.Name x p2] X.env := by rfl) (hs2 : starEach [.Name x p2] X.env = (false, eval (.Name x p2) X.env) :: starEach [] X.env := by rfl)
    (hpl : (backTo pos (starEach [.Name x p2] X.env)).any (·.1) = false := by rfl) : RE X W (.Call (.Name "isinstance" p) [e, .Name x p2] [] pos) (mIsX tb m) := by
  refine pe_imp (pe_callB (x := "isinstance") call_isX hg hm (by decide +kernel) (pa_cons he (pa_cons (pe_glob (v := .ref Ta) (u := .ref Ta) hgx hmx rfl hdx) pa_nil hs2) hs1) (by decide) (by decide) hs1 hpl) fun σ H Q h => ?_
  obtain ⟨c, ε, h, r, h', hK, hm, rfl, sr, er, e, px, go⟩ := h
  unfold tCB tCons tC tNil
  refine tX.bind hK hm sr er e px fun d h1 c1 v e1 l1 s1 r1 => ?_
  show rIsX X.K [v, _] c1.H Q
  refine isX_rep (Q := Q) (h' := h') (r := r) (.own Ta) hx (by rw [l1.mg.e', hm.mge]) r1 e1 fun b er eh => ?_
  subst eh
  exact go _ er c1 _ l1 s1 (.bl b)
end
end PD
namespace PX
open PySem PySem.Spec PyProof.Rows L2 PySem.Calls
section
open Builtin Builtin.ObjectAttr PySem.W
variable {prog : Program} {w : World} {A : Around} {R : Result → Shared → Prop} {hp : Heap} {g : Array GenState} {d : Drawn} {t : Nat} {oss : OsState} {K : Frag} {name : Str} {tkn : Tok} {v : Value} {x C dx : Addr} {fv : Array Value} {cd : ClassData}
/-- the way to a store into the object's own dict -/
theorem store_way {od : Option Obj} {ox : Obj} (X : K.In hp) (I : InstAt hp x ox C od) (hcd : clsIn K C = some cd) (hm : Thru cd.mro) (ha : findIn K (.ref C) name = some none)
    (kon : wpAny (model prog w) A.in1 (storeInOwnDict (.ref x) (.ref C) (.str name tkn) name v false) (fun fin s' => match fin with
      | .done f => R (.ok f) s'
      | .again c' => c'.quiet = true ∧ codeAny (model prog w) A c' R s') (fun e s' => R (.error e) s') ⟨hp, g, d, t, oss⟩) :
    codeAny (model prog w) A (.call (.builtin "object.__setattr__") ⟨[.ref x, .str name tkn, v], []⟩) R ⟨hp, g, d, t, oss⟩ := by
  have S := PySem.F.store_object
  have hI : Looks (model prog w) hp (isInstance (.ref x) (.type "object")) true := I.type.andThen (looks_mroIn X (by unfold mroIn; rw [hcd, Option.bind_some, if_neg (by rw [hm.ne]; decide), hm.ob]))
  refine codeAny_call_builtin S.slot.plain S.entry (@check_slot (model prog w) _ _ ⟨hp, g, d, t, oss⟩ "object.__setattr__" "object" "__setattr__" (.ref x) [.str name tkn, v] [] _ S.kind S.split hI (S.args (.ref x) (.str name tkn) v) ?_)
  have M0 : Looks (model prog w) hp (mroOf (.ref C)) cd.mro := (looks_clsIn X hcd).andThen .now
  have T0 : Looks (model prog w) hp (storeTaker? none) none := .now
  rw [osa_eq, refuse_eq]
  refine wpAny_bind (wpAny_bind (I.type.at (wpAny_bind (M0.at ?_))))
  rw [hm.go]
  exact wpAny_pure (wpAny_bind (I.type.at (wpAny_bind ((looks_findIn X ha).at (wpAny_bind (T0.at kon))))))
theorem store_first (X : K.In hp) (hx : hp.get? x = some { cls := .ref C, data := .fields fv }) (hcd : clsIn K C = some cd) (hm : Thru cd.mro) (hh : cd.hasDict = true) (ha : findIn K (.ref C) name = some none)
    (kon : ∀ h' tk' dx, (∀ b o, b ≠ x → hp.get? b = some o → h'.get? b = some o) → hp.objs.size ≤ dx → dx ≠ x → h'.get? x = some { cls := .ref C, dict := some dx, data := .fields fv } →
      h'.Ns1 dx (fun y => if y = name then some v else none) → R (.ok (.ret .none)) ⟨h', g, d, tk', oss⟩) :
    codeAny (model prog w) A (.call (.builtin "object.__setattr__") ⟨[.ref x, .str name tkn, v], []⟩) R ⟨hp, g, d, t, oss⟩ := by
  have ns : x ≠ hp.objs.size := Nat.ne_of_lt (Heap.lt_size hx)
  have hC : Looks (model prog w) hp (classData C) cd := looks_clsIn X hcd
  refine store_way (ox := { cls := .ref C, data := .fields fv }) (od := none) X ⟨hx, rfl, rfl, trivial⟩ hcd hm ha ?_
  obtain ⟨c1, c2, c3, c4, c5, c6, c7, c8, c9, c10, c11⟩ := cd
  cases (show c6 = true from hh)
  unfold storeInOwnDict ownDictForStores
  repeat (first | with_reducible refine PySem.HandSPX.store_in_new ?_ ?_ | with_reducible refine wpAny_loadPart_at hx ?_ | with_reducible refine hC.at ?_ | wp_step)
  · exact ⟨_, #[], _, (Heap.get?_update_ne _ _ _ _ ns.symm).trans (Heap.get?_push_at rfl rfl), rfl, fun e he => absurd he (by simp), fun _ => rfl⟩
  · intro h' tk' hn' hs
    have h1 : (hp.push { cls := .type "dict", data := .dict #[] }).get? x = some { cls := .ref C, data := .fields fv } := Heap.get?_push_of_some _ hx
    exact kon h' tk' hp.objs.size (fun b o hb ho => (hs.2 b (Nat.ne_of_lt (Heap.lt_size ho))).trans ((Heap.get?_update_ne _ _ _ _ hb).trans (Heap.get?_push_of_some _ ho))) (Nat.le_refl _) ns.symm ((hs.2 x ns).trans (Heap.get?_update_self _ h1 rfl)) hn'
theorem store_more {m0 : Str → Option Value} {nl : List Str} (X : K.In hp) (hx : hp.get? x = some { cls := .ref C, dict := some dx, data := .fields fv }) (nsm : hp.Ns1 dx m0) (hwi : Within m0 nl) (hz : nl.length ≤ 1000) (hcd : clsIn K C = some cd) (hm : Thru cd.mro) (hh : cd.hasDict = true)
    (ha : findIn K (.ref C) name = some none) (kon : ∀ h' tk', (∀ b o, b ≠ dx → hp.get? b = some o → h'.get? b = some o) → h'.Ns1 dx (fun y => if y = name then some v else m0 y) → R (.ok (.ret .none)) ⟨h', g, d, tk', oss⟩) :
    codeAny (model prog w) A (.call (.builtin "object.__setattr__") ⟨[.ref x, .str name tkn, v], []⟩) R ⟨hp, g, d, t, oss⟩ := by
  obtain ⟨oD, esD, epD, oAt, oDt, _⟩ := nsm.count hwi
  have hC : Looks (model prog w) hp (classData C) cd := looks_clsIn X hcd
  refine store_way (ox := { cls := .ref C, dict := some dx, data := .fields fv }) (od := some oD) X ⟨hx, rfl, rfl, oAt⟩ hcd hm ha ?_
  obtain ⟨c1, c2, c3, c4, c5, c6, c7, c8, c9, c10, c11⟩ := cd
  cases (show c6 = true from hh)
  unfold storeInOwnDict ownDictForStores
  repeat (first | with_reducible refine PySem.OEX.store_in_old nsm hwi hz ?_ | with_reducible refine wpAny_loadPart_at hx ?_ | with_reducible refine hC.at ?_ | wp_step)
  intro h' tk' hn' hs
  exact kon h' tk' (fun b o hb ho => (hs.2 b hb).trans ho) hn'
end
section
variable {X : Cx} {b : XBase} {pins : List (Addr × Obj)} {σ : L2.St} {H : Hp} {s : Shared} {a C dx : Addr} {f : Str} {y : V} {u : Value} {fs : List (Str × V)} {Q : Unit → Shared → Prop} {E : Value → Shared → Prop} {A : Around}
theorem ostB_new (B : XB b) (T : OexB b X.K C) (I : Inv X pins σ H s) (e : H a = some (exo a C none)) (nof : PySem.W.findIn X.K (.ref C) f = some none) (rvy : RelV y u)
    (h : ∀ dx s', H dx = none → dx ≠ a → Inv X pins σ (upd (upd H dx (exd dx [(f, y)])) a (exo a C (some dx))) s' → Q () s') : wpAny (model X.prog X.w) A (setAttr (.ref a) f u) Q E s := by
  obtain ⟨nm, q, N, bs, mr0, sn, sub, ab, col, dd, k0, k1, k2, k3, k5, hC, hmr0⟩ := T.cls
  have ecl : PySem.W.clsIn X.K C = some { name := nm, bases := bs, mro := .ref C :: mr0, ns := N, qualname := q, hasDict := true, slotNames := sn, subclasses := sub, abstract := ab, collection := col, hasDel := false } := by unfold PySem.W.clsIn; rw [hC] <;> rfl
  obtain ⟨t1, ho⟩ := exo_at I.hok e
  obtain ⟨hp, g, d, t, oss⟩ := s
  refine PySem.W.set_plain I.kIn (ox := { cls := .ref C, dict := none, data := .fields #[.ref t1, .none, .none, .none, .bool false, .none] }) (od := none) ⟨ho, rfl, rfl, trivial⟩ T.sa ?_
  refine store_first I.kIn ho ecl (thru_of B (l := .ref C :: mr0) hmr0) rfl nof fun h' tk' dx k dn dne hx hn => ?_
  have ndA : H dx = none := I.hok.fresh dn
  have n1 : ∀ {b : Addr} {o : Obj}, hp.get? b = some o → b ≠ dx := fun q => Nat.ne_of_lt (Nat.lt_of_lt_of_le (Heap.lt_size q) dn)
  have n2 : ∀ {b : Addr}, H b = none → b ≠ a := fun n z => by rw [z, e] at n; cases n
  refine h dx _ ndA dne (I.un (t' := tk') ⟨fun b o q n _ _ => k b o (n2 n) q, fun b o q n _ _ => ⟨o.slots, k b o (n2 n) q⟩, fun b o q n _ => by rw [upd_ne (n2 n), upd_ne (n1 q)]; exact n, fun b o q _ => ?_,
    fun b xs q => by rw [upd_ne (at_ne e q exo_tup), upd_ne (ne_of_none q ndA)]; exact q, fun b o v q => by rw [upd_ne (at_ne e q exo_frz), upd_ne (ne_of_none q ndA)]; exact q, fun b ps q => ⟨#[], by rw [upd_ne (at_ne e q exo_tbl), upd_ne (ne_of_none q ndA), q]; simp⟩⟩ fun b o q => ?_)
  · by_cases hb : b = a
    · exact ⟨_, by rw [hb]; exact hx⟩
    · exact ⟨o, k b o hb q⟩
  by_cases hb : b = a
  · subst hb
    rw [upd_same] at q
    cases q
    exact exo_ok hx
  rw [upd_ne hb] at q
  by_cases hd : b = dx
  · subst hd
    rw [upd_same] at q
    cases q
    exact exd_ok hn (relO_put (fs := []) rvy fun g => True.intro)
  rw [upd_ne hd] at q
  exact (I.hok b o q).stay (fun c v hc z => k c v (hc.elim (fun w => w ▸ hb) fun w => at_ne e w exo_own) z)
    (fun c hc => by rw [upd_ne (at_ne e hc exo_own), upd_ne (ne_of_none hc ndA)]; exact hc) (fun c xs hc => by rw [upd_ne (at_ne e hc exo_tup), upd_ne (ne_of_none hc ndA)]; exact hc)
theorem ostB_more (B : XB b) (T : OexB b X.K C) (I : Inv X pins σ H s) (e : H a = some (exo a C (some dx))) (atD : H dx = some (exd dx fs)) (szl : fs.length ≤ 900) (nof : PySem.W.findIn X.K (.ref C) f = some none) (rvy : RelV y u)
    (h : ∀ s', Inv X pins σ (upd H dx (exd dx ((f, y) :: fs))) s' → Q () s') : wpAny (model X.prog X.w) A (setAttr (.ref a) f u) Q E s := by
  obtain ⟨nm, q, N, bs, mr0, sn, sub, ab, col, dd, k0, k1, k2, k3, k5, hC, hmr0⟩ := T.cls
  have ecl : PySem.W.clsIn X.K C = some { name := nm, bases := bs, mro := .ref C :: mr0, ns := N, qualname := q, hasDict := true, slotNames := sn, subclasses := sub, abstract := ab, collection := col, hasDel := false } := by unfold PySem.W.clsIn; rw [hC] <;> rfl
  obtain ⟨t1, ho⟩ := exo_at I.hok e
  obtain ⟨mp, nsm, rlm⟩ := exd_at I.hok atD
  obtain ⟨hp, g, d, t, oss⟩ := s
  obtain ⟨oD, _, _, oAt, _, _⟩ := nsm.count (within_of rlm)
  refine PySem.W.set_plain I.kIn (ox := { cls := .ref C, dict := some dx, data := .fields #[.ref t1, .none, .none, .none, .bool false, .none] }) (od := some oD) ⟨ho, rfl, rfl, oAt⟩ T.sa ?_
  refine store_more I.kIn ho nsm (within_of rlm) (by rw [List.length_map]; omega) ecl (thru_of B (l := .ref C :: mr0) hmr0) rfl nof fun h' tk' k hn => ?_
  exact h _ (I.write (t' := tk') (x := dx) (e := dx) (o := exd dx ((f, y) :: fs)) (by rw [atD]; exact True.intro) (.inl rfl) k (let ⟨o, _, _, z, _⟩ := hn; ⟨o, z⟩) (exd_ok hn (relO_put rvy rlm)))
end
/-- self.f = e -/
def tOstB (b : XBase) (K : PySem.W.Frag) (f : Str) (to te : TE) : TS := fun D σ H => te σ H fun y H1 => to σ H1 fun x H2 => ∃ a C : Addr, x = .ref a ∧ OexB b K C ∧ PySem.W.findIn K (.ref C) f = some none ∧
  ((H2 a = some (exo a C none) ∧ ∀ dx, H2 dx = none → dx ≠ a → D.nx σ (upd (upd H2 dx (exd dx [(f, y)])) a (exo a C (some dx)))) ∨
    ∃ (dx : Addr) (fs : List (Str × V)), H2 a = some (exo a C (some dx)) ∧ H2 dx = some (exd dx fs) ∧ fs.length ≤ 900 ∧ D.nx σ (upd H2 dx (exd dx ((f, y) :: fs))))
section
variable {X : Cx} {b : XBase} {o e : Expr} {to te : TE} {f : Str} {p' pos : Pos}
theorem ps_ostB (B : XB b) (ho : PE X o to) (he : PE X e te) (hs : swapsWith e (some (.Attribute o f p')) pos.line X.env = pure false) : PS X (.Assign [.Attribute o f p'] e pos) (tOstB b X.K f to te) := by
  refine ⟨fun pins s σ H D I h => ?_⟩
  refine plainObj_wpAny_Assign_Attribute (thn (he.run pins s σ H _ I h) fun v s1 ⟨y, H1, I1, r1, q1⟩ => thn (ho.run pins s1 σ H1 _ I1 q1) fun u s2 ⟨x, H2, I2, r2, a, C, ex, T, nof, q⟩ => ?_) hs
  subst ex
  cases (show u = Value.ref a from r2)
  rcases q with ⟨atA, q⟩ | ⟨dx, fs, atA, atD, szl, q⟩
  · exact ostB_new B T I2 atA nof r1 fun dx s' n ne J => ⟨σ, _, J, q dx n ne⟩
  · exact ostB_more B T I2 atA atD szl nof r1 fun s' J => ⟨σ, _, J, q⟩
end
section
variable {X : Cx} {b : XBase} {pins : List (Addr × Obj)} {σ : L2.St} {H : Hp} {s : Shared} {a C u : Addr} {E : Value → Shared → Prop}
/-- the base's __init__ bound to the object, called -/
theorem mw_initB {us : List Value} {Q : Value → Shared → Prop} (B : XB b) (T : OexB b X.K C) (I : Inv X pins σ H s) (e : H a = some (exo a C none)) (atU : s.heap.get? u = some (PySem.W.kxs_mw b.ini a)) (szl : us.length ≤ sizeLine) (h : ∀ s', Inv X pins σ H s' → Q .none s') :
    wpAny (model X.prog X.w) X.A (call (.ref u) us) Q E s := by
  obtain ⟨nm, q, N, bs, mr0, sn, sub, ab, col, dd, k0, k1, k2, k3, k5, hC, hmr0⟩ := T.cls
  obtain ⟨t1, ho⟩ := exo_at I.hok e
  obtain ⟨hp, g, d, t, oss⟩ := s
  have KC := I.kIn _ _ hC
  refine wpAny_call (codeAny_of_tree ?_)
  show wpAny _ X.A.in1 (callAny (.ref u) ⟨us, []⟩) _ _ _
  simp only [callAny]
  refine wpAny_bind (wpAny_load atU ?_)
  simp only [PySem.W.kxs_mw, show (Value.type "method-wrapper" == Value.type "method" || Value.type "method-wrapper" == Value.type "builtin_function_or_method" || Value.type "method-wrapper" == Value.type "method-wrapper") = true by decide, if_true]
  refine PySem.W.KFB.if_so (by decide) ?_
  refine wpAny_bind (PySem.W.check_bound_init B.fB.toExcCallFacts KC ho rfl ?_)
  refine wpAny_bind (wpAny_pure (wpAny_pure ⟨plainId_quiet B.fB.init.plain _, codeAny_builtin B.fB.initEntry ?_⟩))
  refine PySem.W.exc_init_tree (cls := .ref C) (t0 := t1) (dv := none) (c2 := .none) (c3 := .none) (b4 := .bool false) ho szl fun h' k hx _ => ?_
  have J := I.write (t' := t) (x := a) (e := a) (o := exo a C none) (by rw [e]; exact True.intro) (.inl rfl) k ⟨_, hx⟩ (exo_ok hx)
  have eu : upd H a (exo a C none) = H := funext fun c => by
    by_cases hb : c = a
    · rw [hb, upd_same, e]
    · rw [upd_ne hb]
  rw [eu] at J
  exact h _ J
end
/-- what super().__init__ gets: the parameter, or a constant -/
inductive SArg
  | par
  | con (c : Str)
def SArg.N : SArg → List Str
  | .par => ["self", "code"]
  | .con _ => ["self"]
def SArg.is : SArg → List V → Addr → V → Prop
  | .par, vs, a, y => vs = [.ref a, y]
  | .con c, vs, a, y => vs = [.ref a] ∧ y = .str c
def SArg.ex : SArg → Expr → Prop
  | .par, e => ∃ p, e = .Name "code" p
  | .con c, e => ∃ j p, e = .Constant (.str c) j p
def SArg.te : SArg → TE
  | .par => tVar 1
  | .con c => tC (.str c)
theorem SArg.star {g : SArg} {e : Expr} {env : Env} (h : g.ex e) : starEach [e] env = (false, eval e env) :: starEach [] env := by
  cases g with
  | par => obtain ⟨p, rfl⟩ := h; rfl
  | con c => obtain ⟨j, p, rfl⟩ := h; rfl
/-- super().__init__(e); self.code = e -/
def supBodyB (g : SArg) (b : List Stmt) : Prop := ∃ e1 e2 p0 p1 p2 p4 p5 p6 p7 p9, g.ex e1 ∧ g.ex e2 ∧ (∀ env : Env, ∃ pl : Sem Bool, eval (.Call (.Attribute (.Call (.Name "super" p0) [] [] p1) "__init__" p2) [e1] [] p4) env = (do
      let ov ← attributeBase (.Call (.Name "super" p0) [] [] p1) "__init__" env (eval (.Call (.Name "super" p0) [] [] p1) env)
      standAt p2.atName
      let (f, first) ← holding [ov] (getMethod ov "__init__" pl)
      callWith p4 f first (backTo p4 (starEach [e1] env)) [])) ∧ (∀ env line, swapsWith e2 (some (.Attribute (.Name "self" p6) "code" p7)) line env = pure false) ∧ b = [.Expr (.Call (.Attribute (.Call (.Name "super" p0) [] [] p1) "__init__" p2) [e1] [] p4) p5, .Assign [.Attribute (.Name "self" p6) "code" p7] e2 p9]
structure SupIB (g : SArg) (P : Program) (K : PySem.W.Frag) (T f : Addr) (fd : FuncData) : Prop where
  ex : ∃ (qual : Str) (params : Arguments) (ar : Arg) (body : List Stmt) (scope : Scope) (oc : Value) (od : Option Addr) (dV kV doc pm : Value) (an : Option Addr) (cda cc : Addr) (ct : Value) (osl : Array (Option Value)),
    fd = PySem.W.ksFn "__init__" qual params body scope dV kV doc pm an (.ref cda) ct cc ∧ supBodyB g body ∧ K.lookup f = some ⟨oc, od, .func fd, osl⟩ ∧ PySem.W.codeIn K (.ref cda) qual = true ∧ (params.posonlyargs ++ params.args).head? = some ar ∧ ar.arg = "self" ∧
    (∃ (oc2 : Value) (od2 : Option Addr) (vs : Array Value) (sl2 : Array (Option Value)) (file : Str) (tf : Tok), K.lookup cda = some ⟨oc2, od2, .fields vs, sl2⟩ ∧ vs[2]? = some (.str file tf) ∧ ((P.main.file : Str) == file) = true) ∧
    (∃ (oc3 : Value) (od3 : Option Addr) (sl3 : Array (Option Value)), K.lookup cc = some ⟨oc3, od3, .cell (some (.ref T)), sl3⟩) ∧
    (∀ x ∈ scope.names, x.2 ≠ .cell) ∧ (∀ x ∈ scope.names, x.2 = .free → x.1 = "__class__") ∧ scope.names.lookup ("super" : Str) = some .globalImplicit ∧ scope.names.lookup ("__class__" : Str) = some .free ∧ (∀ x ∈ g.N, scope.names.lookup x = some .local) ∧
    scope.kind = .function ∧ scope.isCoroutine = false ∧ scope.isGenerator = false
  cls : ∃ cd, PySem.W.clsIn K T = some cd
  sup : PySem.W.nsIn K mainGlobals "super" = some none
  top : (P.main.scope.names.lookup ("super" : Str)).isSome = false
  opq : PySem.W.nsIn K cStatics "thirdparty.any" = some none
/-- the class C of the object lies over T, T over the base b -/
structure OverB (b : XBase) (K : PySem.W.Frag) (T C : Addr) : Prop where
  oex : OexB b K C
  sup : PySem.W.ks_superIn K C T "__init__" = some (some (.builtin b.ini))
  mro : PySem.W.mroIn K C (.ref T) = some true
  sub : PySem.W.subIn K (.ref C) (.type b.nm) = some true
  no : PySem.W.findIn K (.ref C) "code" = some none
def spTB (b : XBase) (g : SArg) (K : PySem.W.Frag) (T : Addr) : Sp := fun vs H Q _ => ∃ (a C : Addr) (y : V), g.is vs a y ∧ OverB b K T C ∧ H a = some (exo a C none) ∧ ∀ dx, H dx = none → dx ≠ a → Q .non (upd (upd H dx (exd dx [("code", y)])) a (exo a C (some dx)))
def supCxB (N : List Str) (CX : CXT) (P : Program) (w : World) (K : PySem.W.Frag) (mg : Str → Option Value) (base : Heap) (qual : Str) (scope : Scope) (f cc : Addr) (cd : Value) (A : Around) (outer : List Env) (s : Shared) (H : Hp) (E : XK) : Cx := { supCx CX P w K mg base qual scope f cc cd A outer s H E with N := N }
end PX
namespace PX
open PySem PySem.Spec PyProof.Rows L2 PySem.Calls
theorem SArg.pe {X : Cx} {g : SArg} {e : Expr} (hN : X.N = g.N) (hl : ∀ x ∈ g.N, X.env.scope.names.lookup x = some .local) (h : g.ex e) : PE X e g.te := by
  cases g with
  | par =>
    obtain ⟨p, rfl⟩ := h
    exact pe_var (i := 1) (by rw [hN]; rfl) (.inl (hl "code" (by simp [SArg.N])))
  | con c =>
    obtain ⟨j, p, rfl⟩ := h
    exact pe_str
theorem SArg.val {g : SArg} {vs : List V} {a : Addr} {y : V} {H : Hp} {Q : VK} (h : g.is vs a y) (q : Q y H) : g.te (vs.map some) H Q := by
  cases g with
  | par =>
    have h : vs = [.ref a, y] := h
    subst h
    exact ⟨y, rfl, q⟩
  | con c =>
    obtain ⟨rfl, rfl⟩ := h
    exact q
theorem SArg.len {g : SArg} {vs : List V} {a : Addr} {y : V} (h : g.is vs a y) : vs.length = g.N.length := by
  cases g with
  | par =>
    have h : vs = [.ref a, y] := h
    subst h; rfl
  | con c =>
    obtain ⟨rfl, _⟩ := h
    rfl
theorem SArg.self {g : SArg} {vs : List V} {us : List Value} {a : Addr} {y : V} (h : g.is vs a y) (r : Vals vs us) : (g.N.zip us).reverse.lookup ("self" : Str) = some (.ref a) ∧ ∀ (i : Nat) (x : Str) (v : V), g.N[i]? = some x → (vs.map some)[i]? = some (some v) → ∃ u, RelV v u ∧ (g.N.zip us).reverse.lookup x = some u := by
  cases g with
  | par =>
    have h : vs = [.ref a, y] := h
    subst h
    obtain ⟨u0, u1, rfl, r0, r1⟩ := r.two
    cases (show u0 = Value.ref a from r0)
    refine ⟨rfl, fun i x v h1 h2 => ?_⟩
    rcases i with _ | _ | n
    · cases h1; cases h2; exact ⟨_, r0, rfl⟩
    · cases h1; cases h2; exact ⟨_, r1, rfl⟩
    · simp at h2
  | con c =>
    obtain ⟨rfl, _⟩ := h
    match us, r with
    | [u0], .cons r0 .nil =>
      cases (show u0 = Value.ref a from r0)
      refine ⟨rfl, fun i x v h1 h2 => ?_⟩
      rcases i with _ | n
      · cases h1; cases h2; exact ⟨_, r0, rfl⟩
      · simp at h2
section
variable {P : Program} {w : World} {K : PySem.W.Frag} {mg : Str → Option Value} {base : Heap} {CX : CXT} {k : Nat} {T f : Addr} {fd : FuncData} {b : XBase} {g : SArg}
theorem sup_startB {qual : Str} {scope : Scope} {cc : Addr} {cd : Value} {vs : List V} {us : List Value} {a : Addr} {y : V} {A : Around} {outer : List Env} {s : Shared} {H : Hp} {E : XK} {h₁ : Heap} {tk : Nat} (hi : g.is vs a y) (r : Vals vs us) (hd : A.handled = none) (e0 : Env0 P w K mg base A outer s H)
    (hcell : ∃ (oc3 : Value) (od3 : Option Addr) (sl3 : Array (Option Value)), K.lookup cc = some ⟨oc3, od3, .cell (some (.ref T)), sl3⟩) (hc : ∀ x ∈ scope.names, x.2 ≠ .cell) (hf : ∀ x ∈ scope.names, x.2 = .free → x.1 = "__class__") (hl : ∀ x ∈ g.N, scope.names.lookup x = some .local) (hkind : scope.kind = .function)
    (hns : h₁.Ns s.heap.objs.size (fun x => (g.N.zip us).reverse.lookup x)) (hk : ∀ b o, s.heap.get? b = some o → h₁.get? b = some o) :
    Inv (supCxB g.N CX P w K mg base qual scope f cc cd A outer s H E) [] (vs.map some) H { s with heap := h₁, toks := tk } := by
  obtain ⟨oc3, od3, sl3, hcell⟩ := hcell
  have noA : ∀ b : Addr, b ∉ (supCxB g.N CX P w K mg base qual scope f cc cd A outer s H E).ex := fun b z => absurd (show b ∈ ([] : List Addr) from z) (by simp)
  have cells : ∀ {y : Str} {c : Addr}, (supCxB g.N CX P w K mg base qual scope f cc cd A outer s H E).env.cells.lookup y = some c → y = "__class__" ∧ c = cc := fun {y c} e => by
    have e' : ([(("__class__" : Str), cc)] : List (Str × Addr)).lookup y = some c := e
    rw [List.lookup_cons] at e'
    cases q : y == ("__class__" : Str) with
    | true => rw [q] at e'; cases e'; exact ⟨beq_iff_eq.mp q, rfl⟩
    | false => rw [q] at e'; cases e'
  have kc := e0.mod.kin _ _ hcell
  refine ⟨⟨e0.mod, hkind, rfl, rfl, Nat.le_refl _, fun y z c h1 h2 => (cells h1).1.trans (cells h2).1.symm, fun y hyy => ?_, fun y c z _ => ?_, fun _ => hd, Around.frames_deeper e0.frames, .inr ⟨rfl, rfl⟩, fun b z => absurd z (noA b), e0.bs, e0.bsz, fun b _ _ => noA b, fun b z => absurd z (noA b), e0.funs, e0.frf⟩,
    rfl, e0.bare, Un.kept hk, ⟨_, hns, fun i y v h1 h2 h3 => ?_⟩, fun y c h => ?_, e0.hok.fresh (Nat.le_refl _), fun y c h => ?_, fun p hp => absurd (show p ∈ ([] : List (Addr × Obj)) from hp) (by simp), e0.hok.kept hk, ?_⟩
  · have hyy : scope.names.lookup y = some .cell ∨ scope.names.lookup y = some .free := hyy
    rcases hyy with hyy | hyy
    · exact absurd rfl (hc _ (PySem.mem_of_lookup hyy))
    · have e := hf _ (PySem.mem_of_lookup hyy) rfl
      have e' : y = "__class__" := e
      subst e'
      exact ⟨cc, rfl⟩
  · have z : false = true := z
    cases z
  · obtain ⟨u, ru, lu⟩ := (SArg.self hi r).2 i y v h1 h2
    exact ⟨u, ru, .inl ⟨hl y (List.mem_of_getElem? h1), lu⟩⟩
  · rw [(cells h).2]
    exact ⟨_, _, hk _ _ (e0.bs _ _ kc).1, rfl⟩
  · rw [(cells h).2]
    exact (e0.bs _ _ kc).2
  · show (vs.map some).length = g.N.length
    rw [List.length_map]; exact SArg.len hi
/-- its promise -/
theorem sup_initB (B : XB b) (S : SupIB g P K T f fd) : FnOk P w K mg base CX (k + 1) f fd g.N (spTB b g K T) := by
  refine ⟨fun vs H Q E h => ?_, fun A outer s H args us vs Q E hr e0 hb r hsp => ?_⟩
  · obtain ⟨a, C, y, hi, _⟩ := h
    exact SArg.len hi
  obtain ⟨a, C, y, hi, O, ea, go⟩ := hsp
  obtain ⟨qual, params, ar, body, scope, oc, od, dV, kV, doc, pm, an, cda, cc, ct, osl, rfl, ⟨e1, e2, p0, p1, p2, p4, p5, p6, p7, p9, hx1, hx2, hev, hsw, rfl⟩, lk, hcd, hp, har, ⟨oc2, od2, cvs, sl2, file, tf, hcda, hvs, hfile⟩, hcl, hnc, hnf, fsup, fcls, hloc, hkind, hco, hgen⟩ := S.ex
  have hself : scope.names.lookup ("self" : Str) = some .local := hloc "self" (by cases g <;> simp [SArg.N])
  have KXs : K.In s.heap := e0.mod.kin.keeps fun b o e => (e0.bs b o e).1
  have nlm : s.heap.NoLimit := e0.mod.nolimit.keeps fun b o e => (e0.bs b o e).1
  refine PySem.ks_codeAny_call_defAt (fd := PySem.W.ksFn "__init__" qual params _ scope dV kV doc pm an (.ref cda) ct cc) (binds := g.N.zip us) hr.depth (KXs _ _ lk) rfl nlm (PySem.W.codeRec_of KXs hcd) rfl hb hnc (fun x hx => hloc x.1 (List.of_mem_zip hx).1) (fun h₁ hns hk => ?_) hco hgen hkind
  have I := sup_startB (CX := CX) (f := f) (qual := qual) (cd := .ref cda) (E := E) (tk := s.toks + (g.N.zip us).length) hi r hr.hd e0 hcl hnc hnf hloc hkind hns hk
  obtain ⟨nm, q, N, bs, bm, sn, sub, ab, col, dd, k0, k1, k2, k3, k5, hC, hbm⟩ := O.oex.cls
  obtain ⟨cdT, hT⟩ := S.cls
  let s1 : Shared := { s with heap := h₁, toks := s.toks + (g.N.zip us).length }
  have I : Inv (supCxB g.N CX P w K mg base qual scope f cc (.ref cda) A outer s H E) [] (vs.map some) H s1 := I
  have KX1 : K.In h₁ := I.kIn
  obtain ⟨oD, hD1, hD2⟩ : ∃ oD, h₁.get? T = some oD ∧ oD.data = .cls cdT := by
    unfold PySem.W.clsIn at hT
    split at hT
    · rename_i c d cd' sl ho
      cases hT
      exact ⟨_, KX1 _ _ ho, rfl⟩
    · cases hT
  obtain ⟨t1, hx⟩ := exo_at I.hok ea
  have hxC : a ≠ C := fun z => by
    have e1 := KX1 _ _ hC
    rw [← z, hx] at e1
    cases e1
  have hsub : PySem.W.Looks (model P w) h₁ (isSubtype (.ref C) (.ref T)) true := PySem.W.looks_mroIn KX1 O.mro
  let env : Env := PySem.W.ksEnv qual scope s.heap.objs.size f (.ref cda) cc
  have hnsE : h₁.Ns env.locals (fun x => (g.N.zip us).reverse.lookup x) := hns
  refine PySem.ks_wpAt_execs_cons (PySem.ks_wpAt_Expr_any (PySem.ks_wpAt_MethodCall (env := env) ?_ (hev env).choose_spec) (by show interactive env = false; unfold interactive; rw [show env.scope.kind = _ from hkind] <;> rfl) (by rfl))
  refine PySem.ks_wpAt_super_base (env := env) fsup fcls rfl rfl (KX1 _ _ lk) rfl hp rfl (KX1 _ _ hcda) rfl hvs hfile S.top ?_
  obtain ⟨mb, b1, b2⟩ := e0.mod.blt
  refine PySem.W.ks_loadName_global hkind fsup (loadGlobal_builtin (env := env) (e0.mod.glob.keeps I.bk) (PySem.W.mg_none_of e0.mod.kin e0.mod.glob S.sup) (b1.keeps I.bk) ((b2 "super" (by decide)).trans (by decide +kernel)) ⟨rfl, ?_⟩)
  obtain ⟨oc3, od3, sl3, hcc⟩ := hcl
  refine wpAny_loadName_free hkind fcls rfl ⟨_, KX1 _ _ hcc, rfl⟩ ?_
  rw [har]
  refine wpAny_loadName_local hkind hself hnsE (SArg.self hi r).1 ?_
  refine PySem.ks_wpAny_isType_cls hD1 hD2 ⟨rfl, ?_⟩
  refine PySem.ks_wpAny_call_super hD1 hD2 hx rfl (fun c e => by cases e) hsub (fun h' e k => ?_)
  have I2 : Inv (supCxB g.N CX P w K mg base qual scope f cc (.ref cda) A outer s H E) [] (vs.map some) H { s with heap := h', toks := s.toks + (g.N.zip us).length } := I.kept k
  obtain ⟨cdC, hcdC⟩ : ∃ cd, PySem.W.clsIn K C = some cd := by
    have z := O.sup
    unfold PySem.W.ks_superIn at z
    cases q : PySem.W.clsIn K C with
    | none => rw [q] at z; cases z
    | some cd => exact ⟨cd, rfl⟩
  have hal : PySem.W.alongIn K "__init__" ((cdC.mro.dropWhile (· != .ref T)).drop 1) = some (some (.builtin b.ini)) := by
    have z := O.sup
    unfold PySem.W.ks_superIn at z
    rw [hcdC] at z
    exact z
  have hmro : PySem.W.Looks (model P w) h' (mroOf (.ref C)) cdC.mro := fun A Q E s k q => wpAny_bind ((PySem.W.looks_clsIn I2.kIn hcdC) A _ E s k (wpAny_pure q))
  have LTy : PySem.W.Looks (model P w) h' (typeOf (.ref a)) (.ref C) := fun A Q E s k2 q => wpAny_typeOf_ref (k2 _ _ (k _ _ hx)) q
  have hI : PySem.W.Looks (model P w) h' (isInstance (.ref a) (.type b.nm)) true := LTy.andThen (PySem.W.looks_subIn I2.kIn O.sub)
  refine PySem.W.kxs_getMethod B.kx (by exact e) (PySem.W.looks_opaque I2.kIn S.opq) hmro rfl I2.kIn hal hI hxC (by decide) ?_
  have kp : ∀ c o, h'.get? c = some o → (h'.push (PySem.W.kxs_mw b.ini a)).get? c = some o := fun c o e => Heap.get?_push_of_some _ e
  have I3 : Inv (supCxB g.N CX P w K mg base qual scope f cc (.ref cda) A outer s H E) [] (vs.map some) H { s with heap := h'.push (PySem.W.kxs_mw b.ini a), toks := s.toks + (g.N.zip us).length + 1 } := I2.kept kp
  have hu : (h'.push (PySem.W.kxs_mw b.ini a)).get? h'.objs.size = some (PySem.W.kxs_mw b.ini a) := Heap.get?_push_size _ rfl
  rw [show starEach [e1] env = (false, eval e1 env) :: starEach [] env from SArg.star hx1]
  refine PySem.W.kxs_callWith (i := b.ini) (x := a) rfl (evalArgs_plain ?_)
  have pe1 := SArg.pe (X := supCxB g.N CX P w K mg base qual scope f cc (.ref cda) A outer s H E) rfl hloc hx1
  have pe2 := SArg.pe (X := supCxB g.N CX P w K mg base qual scope f cc (.ref cda) A outer s H E) rfl hloc hx2
  show wpAny _ _ (spliced ((false, eval e1 env) :: backTo p4 (starEach [] env))) _ _ _
  have I4 : Inv (supCxB g.N CX P w K mg base qual scope f cc (.ref cda) A outer s H E) [(h'.objs.size, PySem.W.kxs_mw b.ini a)] (vs.map some) H { s with heap := h'.push (PySem.W.kxs_mw b.ini a), toks := s.toks + (g.N.zip us).length + 1 } :=
    I3.pins_of fun q hq => by
      rw [List.mem_singleton.mp hq]
      exact ⟨hu, I2.hok.fresh (Nat.le_refl _), Nat.ne_of_gt I2.lt, I2.nofs (Nat.le_refl _), fun v z => by cases z⟩
  refine PySem.Calls.spliced_cons (wpAny_mono (pe1.run [_] _ _ H (fun v H' => v = y ∧ H' = H) I4 (SArg.val hi ⟨rfl, rfl⟩)) (fun u1 s3 hu1 => ?_) fun e s' hs => hs)
  obtain ⟨v1, H1, I5, r1, rfl, rfl⟩ := hu1
  have P5 := I5.pin (h'.objs.size, PySem.W.kxs_mw b.ini a) (List.mem_append_right _ (List.mem_singleton.mpr rfl))
  have I6 : Inv (supCxB g.N CX P w K mg base qual scope f cc (.ref cda) A outer s H1 E) [] (vs.map some) H1 s3 := I5.pins_of fun q hq => absurd hq List.not_mem_nil
  refine PySem.Calls.spliced_nil ⟨P5.1, ?_⟩
  refine mw_initB (X := supCxB g.N CX P w K mg base qual scope f cc (.ref cda) A outer s H1 E) (us := [u1]) B O.oex I6 ea P5.1 (by show 1 ≤ sizeLine; rw [sizeLine_eq]; omega) fun s4 I7 => ?_
  refine wpAt_of_wpAny ?_
  have hps := pss_one (ps_ostB (X := supCxB g.N CX P w K mg base qual scope f cc (.ref cda) A outer s H1 E) (f := "code") (p' := p7) (pos := p9) B (pe_var (x := "self") (pos := p6) (i := 0) (by cases g <;> rfl) (.inl hself)) pe2 (hsw _ _))
  refine wpAny_mono (hps.run [] s4 (vs.map some) H1 { nx := fun _ H' => Q .non H', rt := Q } I7 ?_) (fun fl s' hs => ?_) fun e s' hs => hs
  · refine SArg.val hi ⟨.ref a, ?_, a, C, rfl, O.oex, O.no, .inl ⟨ea, go⟩⟩
    cases g with
    | par =>
      have hi : vs = [.ref a, v1] := hi
      subst hi; rfl
    | con c =>
      obtain ⟨rfl, _⟩ := hi
      rfl
  · have fin : ∀ {σ' : L2.St} {H' : Hp} {v : V} {u : Value}, Inv (supCxB g.N CX P w K mg base qual scope f cc (.ref cda) A outer s H1 E) [] σ' H' s' → RelV v u → Q v H' → CE outer P w H1 s Q u s' :=
      fun {σ' H' v u} J rvv q => ⟨v, H', J.os, J.bare, J.base, J.hok, rvv, q⟩
    cases fl with
    | ret u =>
      obtain ⟨v, σ', H', J, rvv, q⟩ := hs
      exact fin J rvv q
    | next =>
      obtain ⟨σ', H', J, q⟩ := hs
      exact fin (v := V.non) (u := Value.none) J rfl q
    | brk =>
      obtain ⟨_, _, _, q⟩ := hs
      exact False.elim q
    | cont =>
      obtain ⟨_, _, _, q⟩ := hs
      exact False.elim q
end
end PX
namespace PX
open PySem PySem.Spec PyProof.Rows L2 PySem.Calls
def spXB (b : XBase) (K : PySem.W.Frag) (T : Addr) (f code : Str) : Sp := fun vs H Q _ => ∃ (a C : Addr) (y : V), vs = [.ref a, y] ∧ OverB b K T C ∧ PySem.W.findIn K (.ref C) f = some none ∧ H a = some (exo a C none) ∧ ∀ dx, H dx = none → dx ≠ a → Q .non (upd (upd H dx (exd dx [(f, y), ("code", .str code)])) a (exo a C (some dx)))
section
variable {P : Program} {w : World} {K : PySem.W.Frag} {mg : Str → Option Value} {base : Heap} {CX : CXT} {k : Nat} {T fT : Addr} {fdT : FuncData} {X : Cx} {b : XBase}
structure TopIB (b : XBase) (P : Program) (w : World) (K : PySem.W.Frag) (mgl : Str → Option Value) (base : Heap) (CX : CXT) (x : Str) (T : Addr) : Prop where
  ex : ∃ (fT : Addr) (fdT : FuncData), mgl x = some (.ref T) ∧ ClsFn K T "__init__" fT ∧ FnOk P w K mgl base CX 1 fT fdT ["self", "code"] (spTB b .par K T) ∧ Binds K fdT ["self", "code"] []
theorem pe_callTB {x code : Str} {j : Nat} {e : Expr} {T : Addr} (h : callT x code j e) (G : TopIB b X.prog X.w X.K X.mg X.base (L2.CX X.prog X.w) x T) (hr : Room k X.A) (hk : 1 ≤ k) (hg : Gl X x) (hN : X.N[0]? = some ("self" : Str)) (hs : X.env.scope.names.lookup ("self" : Str) = some .local) (hdb : (x == ("__debug__" : Str)) = false) :
    PE X e (tCall (spTB b .par X.K T) [] (fun _ _ _ => False) (tCons (tVar 0) (tCons (tC (.str code)) tNil))) := by
  obtain ⟨p1, p2, p3, p4, p5, ht, rfl⟩ := h
  obtain ⟨fT, fdT, hm, c, F, hb⟩ := G.ex
  exact pe_clsfn hg hm c F (hr.mono hk) hb (fun pins σ H s e s' I c => (cx_never c).elim) (pa_cons (pe_var (i := 0) hN (.inl hs)) (pa_cons pe_str pa_nil)) (ht X.env).choose_spec hdb
theorem exc_initB {x code fl prm : Str} {qual : Str} {params : Arguments} {body : List Stmt} {scope : Scope} {f T : Addr} {fd : FuncData} (B : XB b) (F : FunD K "__init__" qual params body scope [] [] f fd) (S : FnScope ["self", prm] ["self", prm] scope) (hb : xBody1 x code fl prm body) (hg : scope.names.lookup x = some .globalImplicit) (hdb : (x == ("__debug__" : Str)) = false)
    (hs : scope.names.lookup ("self" : Str) = some .local) (hp : scope.names.lookup prm = some .local) (hpd : (prm == ("__debug__" : Str)) = false) (hpc : (prm == ("__classdict__" : Str)) = false) (G : TopIB b P w K mg base (L2.CX P w) x T) : FnOk P w K mg base (L2.CX P w) 2 f fd ["self", prm] (spXB b K T fl code) := by
  refine F.ok S (fun vs H Q E h => ?_) (fun cdv A outer s H vs Q E hr h => ?_)
  · obtain ⟨a, C, y, rfl, _⟩ := h
    rfl
  · obtain ⟨a, C, y, rfl, O, hfl, ea, go⟩ := h
    obtain ⟨j, e, p, p7, p8, p9, p10, hc, rfl⟩ := hb
    have hcall := pe_callTB (X := cxOf (L2.CX P w) P w K mg base ["self", prm] qual scope f cdv A outer s H E) hc G hr (by decide) hg rfl hs hdb
    obtain ⟨p1, p2, p3, p4, p5, ht, rfl⟩ := hc
    refine ⟨_, pss_cons (ps_expr hcall) (pss_one (ps_ostB B (pe_var (i := 0) rfl (.inl hs)) (pe_var (i := 1) rfl (.inl hp) hpd hpc) (by rfl))), ?_⟩
    refine ⟨.ref a, rfl, a, C, .str code, rfl, O, ea, fun dx n ne => ?_⟩
    refine ⟨y, rfl, .ref a, rfl, a, C, rfl, O.oex, hfl, .inr ⟨dx, [("code", .str code)], upd_same, (upd_ne ne).trans upd_same, by simp, ?_⟩⟩
    rw [heap_two ne]
    exact go dx n ne
end
end PX
namespace PD
open PySem PySem.Spec PyProof.Rows L2 PX
theorem oexBB_ok {b : XBase} {K : PySem.W.Frag} {C : Addr} (h : oexBB b K C = true) : OexB b K C := by
  unfold oexBB at h
  obtain ⟨y1, h⟩ := Bool.and_eq_true_iff.mp h
  obtain ⟨y2, h⟩ := Bool.and_eq_true_iff.mp h
  obtain ⟨y3, h⟩ := Bool.and_eq_true_iff.mp h
  obtain ⟨y4, y5⟩ := Bool.and_eq_true_iff.mp h
  refine ⟨?_, of_decide_eq_true y2, of_decide_eq_true y3, of_decide_eq_true y4, y5⟩
  cases q : K.lookup C with
  | none => rw [q] at y1; cases y1
  | some o =>
    obtain ⟨oc, od, dt, sl⟩ := o
    rw [q] at y1
    cases oc with
    | type t =>
      cases dt with
      | cls cd =>
        obtain ⟨g1, g⟩ := Bool.and_eq_true_iff.mp y1
        have g1 := of_decide_eq_true g1
        subst g1
        obtain ⟨nm, bs, mro, ns, qn, hdct, sn, sub, ab, col, hdel⟩ := cd
        obtain ⟨sl⟩ := sl
        match mro, sl, g with
        | .ref C' :: bm, [k0, k1, k2, k3, some (.builtin n), k5], g =>
          obtain ⟨a1, a⟩ := Bool.and_eq_true_iff.mp g
          obtain ⟨a2, a⟩ := Bool.and_eq_true_iff.mp a
          obtain ⟨a3, a⟩ := Bool.and_eq_true_iff.mp a
          obtain ⟨a4, a5⟩ := Bool.and_eq_true_iff.mp a
          have a1 := of_decide_eq_true a1
          have a2 := of_decide_eq_true a2
          have a4 : hdct = true := a4
          have a3' : hdel = false := by simpa using a3
          subst a1 a2 a4
          subst a3'
          exact ⟨nm, qn, ns, bs, bm, sn, sub, ab, col, od, k0, k1, k2, k3, k5, rfl, a5⟩
      | _ => cases y1
    | _ => cases y1
theorem overBB_ok {b : XBase} {K : PySem.W.Frag} {T C : Addr} (h : overBB b K T C = true) : OverB b K T C := by
  unfold overBB at h
  obtain ⟨y1, h⟩ := Bool.and_eq_true_iff.mp h
  obtain ⟨y2, h⟩ := Bool.and_eq_true_iff.mp h
  obtain ⟨y3, h⟩ := Bool.and_eq_true_iff.mp h
  obtain ⟨y4, y5⟩ := Bool.and_eq_true_iff.mp h
  exact ⟨oexBB_ok y1, of_decide_eq_true y2, of_decide_eq_true y3, of_decide_eq_true y4, of_decide_eq_true y5⟩
/-- the text of an __init__ that says super() -/
structure SupTB (g : SArg) (P : Program) (d : SupD) : Prop where
  body : supBodyB g d.body
  self : ∃ ar, (d.params.posonlyargs ++ d.params.args).head? = some ar ∧ ar.arg = "self"
  cell : ∀ x ∈ d.scope.names, x.2 ≠ .cell
  free : ∀ x ∈ d.scope.names, x.2 = .free → x.1 = "__class__"
  l1 : d.scope.names.lookup ("super" : Str) = some .globalImplicit
  l2 : d.scope.names.lookup ("__class__" : Str) = some .free
  loc : ∀ x ∈ g.N, d.scope.names.lookup x = some .local
  kind : d.scope.kind = .function
  co : d.scope.isCoroutine = false
  gen : d.scope.isGenerator = false
  top : (P.main.scope.names.lookup ("super" : Str)).isSome = false
  bind : ∀ (doc pm : Value) (an : Option Addr) (cdv ct : Value) (cc : Addr) (us : List Value), us.length = g.N.length → bindArgs (PySem.W.ksFn "__init__" d.qual d.params d.body d.scope .none .none doc pm an cdv ct cc) ⟨us, []⟩ = pure (g.N.zip us)
theorem sup_ofB {g : SArg} {P : Program} {K : PySem.W.Frag} {d : SupD} (h : supB K P.main.file d = true) (e : fnC K (d.at_ K) = d.val) (T : SupTB g P d) : ∃ fd, SupIB g P K (He.ga K d.C) (d.at_ K) fd ∧ Binds K fd g.N [] := by
  unfold supB at h
  obtain ⟨y1, h⟩ := Bool.and_eq_true_iff.mp h
  obtain ⟨y2, h⟩ := Bool.and_eq_true_iff.mp h
  obtain ⟨y3, y4⟩ := Bool.and_eq_true_iff.mp h
  unfold fnC at e
  cases q : K.lookup (d.at_ K) with
  | none => rw [q] at y1; cases y1
  | some o =>
    obtain ⟨oc, od, dt, osl⟩ := o
    rw [q] at y1 e
    cases dt with
    | func fd =>
      obtain ⟨m1, m2, m3, n4, n5, n6, n7, n8, n9, n10, n11, n12, n13, n14, n15⟩ := fd
      have e2 : ((some (m1, m2, m3, n4, n5, n6, n7.map (·.1), n15) : FnC) = (some (("__init__" : Str), d.qual, d.params, .stmts d.body, d.scope, mainGlobals, [("__class__" : Str)], builtinsNs) : FnC)) := e
      simp only [Option.some.injEq, Prod.mk.injEq] at e2
      obtain ⟨e2a, e2b, e2c, e2d, e2e, e2f, e2g, e2h⟩ := e2
      subst e2a e2b e2c e2d e2e e2f e2h
      obtain ⟨g1, g'⟩ := Bool.and_eq_true_iff.mp y1
      obtain ⟨g2, g3⟩ := Bool.and_eq_true_iff.mp g'
      match n7, e2g, g2 with
      | [(y, cc)], e2g, g2 =>
        have ey : y = "__class__" := by simpa using e2g
        subst ey
        have g2 : (match K.lookup cc with
          | some ⟨_, _, .cell (some (.ref T)), _⟩ => decide (T = He.ga K d.C)
          | _ => false) = true := g2
        obtain ⟨oc3, od3, sl3, hcc⟩ : ∃ oc3 od3 sl3, K.lookup cc = some ⟨oc3, od3, .cell (some (.ref (He.ga K d.C))), sl3⟩ := by
          split at g2
          · rename_i z1 z2 T' z3 zq
            rw [of_decide_eq_true g2] at zq
            exact ⟨_, _, _, zq⟩
          · cases g2
        have hnn : n8 = .none ∧ n9 = .none := by
          clear e y1 g' g1 g2 q
          cases n8 <;> first | (cases n9 <;> first | exact ⟨rfl, rfl⟩ | cases g3) | cases g3
        obtain ⟨rfl, rfl⟩ := hnn
        cases n13 with
        | ref cda =>
          have g1 : (PySem.W.codeIn K (.ref cda) d.qual && (match K.lookup cda with
            | some ⟨_, _, .fields vs, _⟩ => (match (vs[2]? : Option Value) with
              | some (.str file _) => P.main.file == file
              | _ => false)
            | _ => false)) = true := g1
          obtain ⟨b1, b2⟩ := Bool.and_eq_true_iff.mp g1
          obtain ⟨ar, ha1, ha2⟩ := T.self
          obtain ⟨oc2, od2, vs2, sl2, file, tf, hcda, hvs, hfile⟩ : ∃ oc2 od2 vs2 sl2 file tf, K.lookup cda = some ⟨oc2, od2, .fields vs2, sl2⟩ ∧ (vs2[2]? : Option Value) = some (.str file tf) ∧ ((P.main.file : Str) == file) = true := by
            split at b2
            · rename_i z1 z2 vs z3 zq
              split at b2
              · rename_i file tf e
                exact ⟨_, _, vs, _, file, tf, zq, e, b2⟩
              · cases b2
            · cases b2
          obtain ⟨cd, hcd⟩ := Option.isSome_iff_exists.mp y2
          exact ⟨_, ⟨⟨d.qual, d.params, ar, d.body, d.scope, oc, od, .none, .none, n10, n11, n12, cda, cc, n14, osl, rfl, T.body, q, b1, ha1, ha2, ⟨oc2, od2, vs2, sl2, file, tf, hcda, hvs, hfile⟩, ⟨oc3, od3, sl3, hcc⟩, T.cell, T.free, T.l1, T.l2, T.loc, T.kind, T.co, T.gen⟩, ⟨cd, hcd⟩, of_decide_eq_true y3, T.top, of_decide_eq_true y4⟩, Binds.all fun us hl => T.bind n10 n11 n12 (.ref cda) n14 cc us hl⟩
        | _ => cases g1
    | _ => cases y1
section
variable {b : XBase} {P : Program} {w : World} {K : PySem.W.Frag} {mg : Str → Option Value} {base : Heap}
theorem topIB_of {d : SupD} (B : XB b) (hm : mg d.C = some (.ref (He.ga K d.C))) (h : supB K P.main.file d = true) (e : fnC K (d.at_ K) = d.val) (T : SupTB .par P d) (c : clsvB K (He.ga K d.C) = true) : TopIB b P w K mg base (L2.CX P w) d.C (He.ga K d.C) := by
  obtain ⟨fd, S, bi⟩ := sup_ofB h e T
  exact ⟨_, fd, hm, clsfnB_ok c, sup_initB B S, bi⟩
/-- C(y) where C's __init__ says T.__init__(self, code); self.f = y -/
theorem excV_ofB [LamTab] {C x code f prm qual : Str} {params : Arguments} {body : List Stmt} {scope : Scope} {fd : FuncData} (B : XB b) (hm : mg C = some (.ref (He.ga K C))) (ov : overBB b K (He.ga K x) (He.ga K C) = true) (ib : initB K (He.ga K C) = true) (nb : noB K (He.ga K C) f = true) (G : TopIB b P w K mg base (L2.CX P w) x (He.ga K x))
    (Fd : FunD K "__init__" qual params body scope [] [] (He.ma K (He.ga K C) "__init__") fd) (S : FnScope ["self", prm] ["self", prm] scope) (hb : xBody1 x code f prm body) (bi : Binds K fd ["self", prm] []) (hg : scope.names.lookup x = some .globalImplicit := by rfl) (hdb : (x == ("__debug__" : Str)) = false := by decide)
    (hs : scope.names.lookup ("self" : Str) = some .local := by rfl) (hp : scope.names.lookup prm = some .local := by rfl) (hpd : (prm == ("__debug__" : Str)) = false := by decide) (hpc : (prm == ("__classdict__" : Str)) = false := by decide) : ExcV P w K mg base C (some f) code := by
  obtain ⟨i1, i2⟩ := Bool.and_eq_true_iff.mp ib
  have O := overBB_ok ov
  refine ⟨b, _, _, fd, _, _, B, hm, O.oex, of_decide_eq_true i1, of_decide_eq_true i2, exc_initB B Fd S hb hg hdb hs hp hpd hpc G, bi, fun a H ys fs Q e ea go => ?_⟩
  match ys, e with
  | [y], e =>
    cases e
    exact ⟨a, _, y, rfl, O, of_decide_eq_true nb, ea, go⟩
  | [], e => cases e
  | _ :: _ :: _, e => cases e
/-- C() where C's __init__ says super().__init__(code); self.code = code -/
theorem excV_ofS {d : SupD} {code : Str} (B : XB b) (hm : mg d.C = some (.ref (He.ga K d.C))) (ov : overBB b K (He.ga K d.C) (He.ga K d.C) = true) (ib : initB K (He.ga K d.C) = true) (h : supB K P.main.file d = true) (e : fnC K (d.at_ K) = d.val) (T : SupTB (.con code) P d) : ExcV P w K mg base d.C none code := by
  obtain ⟨i1, i2⟩ := Bool.and_eq_true_iff.mp ib
  obtain ⟨fd, S, bi⟩ := sup_ofB h e T
  have O := overBB_ok ov
  refine ⟨b, _, _, fd, _, _, B, hm, O.oex, of_decide_eq_true i1, of_decide_eq_true i2, sup_initB B S, bi, fun a H ys fs Q e ea go => ?_⟩
  match ys, e with
  | [], e =>
    cases e
    exact ⟨a, _, .str code, ⟨rfl, rfl⟩, O, ea, go⟩
  | _ :: _, e => cases e
theorem xvC_of {f C : Str} (hm : mg C = some (.ref (He.ga K C))) (h : xvB K f C = true) : XvC K mg f C := by
  obtain ⟨y1, y2⟩ := Bool.and_eq_true_iff.mp h
  exact ⟨_, hm, xfB_ok y1, of_decide_eq_true y2⟩
theorem xiC_of {t : Value} {q : Str × Bool} (hm : mg q.1 = some (.ref (He.ga K q.1))) (h : excB K q.1 = true) (k : kitXB K t q = true) : XiC K mg t q.1 q.2 := by
  unfold excB at h
  obtain ⟨y1, h⟩ := Bool.and_eq_true_iff.mp h
  obtain ⟨y2, h⟩ := Bool.and_eq_true_iff.mp h
  obtain ⟨y3, h⟩ := Bool.and_eq_true_iff.mp h
  obtain ⟨y4, h⟩ := Bool.and_eq_true_iff.mp h
  obtain ⟨y5, h⟩ := Bool.and_eq_true_iff.mp h
  obtain ⟨y6, h⟩ := Bool.and_eq_true_iff.mp h
  obtain ⟨y7, y8⟩ := Bool.and_eq_true_iff.mp h
  exact ⟨_, hm, ⟨of_decide_eq_true y1, of_decide_eq_true y2, of_decide_eq_true y3, y4, of_decide_eq_true y5, of_decide_eq_true y6, of_decide_eq_true y7, of_decide_eq_true y8⟩, of_decide_eq_true k⟩
end
end PD
namespace PD
open PySem PySem.Spec PyProof.Rows L2
/-- the run lemmas of the layer ask for a LamTab; any will do -/
instance (priority := low) lamTab0 : LamTab := ⟨fun _ => ⟨"", ⟨[], [], none, [], [], none, []⟩, .Constant .none 0 ⟨0, 0, 0, 0⟩, { kind := .function, names := [], isGenerator := false, isCoroutine := false }, [], false⟩, []⟩
def sq (x : Option (RS × EH)) (b : MS) : Option (RS × EH) := match x with
  | some (.nx ε1, h1) => b ε1 h1
  | some (r, h1) => some (r, h1)
  | none => none
section
variable {α : Type} {ε ε1 : Ev} {h h1 : EH}
theorem seq_ap (a b : MS) : msSeq a b ε h = sq (a ε h) b := (rfl)
theorem sq_nx (b : MS) : sq (some (.nx ε, h)) b = b ε h := (rfl)
theorem sq_rt (d : D) (b : MS) : sq (some (.rt d, h)) b = some (.rt d, h) := (rfl)
theorem sq_bk (b : MS) : sq (some (.bk ε, h)) b = some (.bk ε, h) := (rfl)
theorem sq_ct (b : MS) : sq (some (.ct ε, h)) b = some (.ct ε, h) := (rfl)
theorem sq_ex (e : Ex) (b : MS) : sq (some (.ex e ε, h)) b = some (.ex e ε, h) := (rfl)
theorem bS_ok (a : α) (f : α → EH → Option (RS × EH)) : bS (some (.ok a, h)) ε f = f a h := (rfl)
theorem bS_ex (e : Ex) (f : α → EH → Option (RS × EH)) : bS (some (.ex e, h)) ε f = some (.ex e ε, h) := (rfl)
theorem var_ap (i : Nat) : mVar i ε h = rt (ε.getD i none) h := (rfl)
theorem c_ap (d : D) : mC d ε h = some (.ok d, h) := (rfl)
def binK2 (f : EH → D → D → Option D) (x y : D) (h2 : EH) : O D := rt (f h2 x y) h2
def binK1 (f : EH → D → D → Option D) (b : M D) (ε : Ev) (x : D) (h1 : EH) : O D := bR (b ε h1) (binK2 f x)
theorem bin_ap (f : EH → D → D → Option D) (a b : M D) : mBin f a b ε h = bR (a ε h) (binK1 f b ε) := (rfl)
theorem binK1_ap (f : EH → D → D → Option D) (b : M D) (x : D) : binK1 f b ε x h = bR (b ε h) (binK2 f x) := (rfl)
theorem binK2_ap (f : EH → D → D → Option D) (x y : D) : binK2 f x y h = rt (f h x y) h := (rfl)
def tstK (x : D) (h1 : EH) : O Bool := rt (asB x) h1
theorem tst_ap (m : M D) : mTst m ε h = bR (m ε h) tstK := (rfl)
theorem tstK_b (b : Bool) : tstK (.bl b) h = some (.ok b, h) := (rfl)
def notK (b : Bool) (h1 : EH) : O Bool := some (.ok (!b), h1)
theorem not_ap (a : M Bool) : mNot a ε h = bR (a ε h) notK := (rfl)
theorem notK_ap (b : Bool) : notK b h = some (.ok (!b), h) := (rfl)
def andK (b : M Bool) (ε : Ev) (x : Bool) (h1 : EH) : O Bool := if x = true then b ε h1 else some (.ok false, h1)
def orK (b : M Bool) (ε : Ev) (x : Bool) (h1 : EH) : O Bool := if x = true then some (.ok true, h1) else b ε h1
def ifK (a b : M α) (ε : Ev) (x : Bool) (h1 : EH) : O α := if x = true then a ε h1 else b ε h1
theorem and_ap (a b : M Bool) : mAnd a b ε h = bR (a ε h) (andK b ε) := (rfl)
theorem or_ap (a b : M Bool) : mOr a b ε h = bR (a ε h) (orK b ε) := (rfl)
theorem if_ap (t : M Bool) (a b : M α) : mIf t a b ε h = bR (t ε h) (ifK a b ε) := (rfl)
theorem andK_t (b : M Bool) : andK b ε true h = b ε h := (rfl)
theorem andK_f (b : M Bool) : andK b ε false h = some (.ok false, h) := (rfl)
theorem orK_t (b : M Bool) : orK b ε true h = some (.ok true, h) := (rfl)
theorem orK_f (b : M Bool) : orK b ε false h = b ε h := (rfl)
theorem ifK_t (a b : M α) : ifK a b ε true h = a ε h := (rfl)
theorem ifK_f (a b : M α) : ifK a b ε false h = b ε h := (rfl)
def andV (b : M D) (ε : Ev) (x : D) (h : EH) : O D := match x with
  | .bl true => b ε h
  | .bl false => some (.ok (.bl false), h)
  | _ => none
def orV (b : M D) (ε : Ev) (x : D) (h : EH) : O D := match x with
  | .bl true => some (.ok (.bl true), h)
  | .bl false => b ε h
  | _ => none
theorem andv_ap (a b : M D) : mAndV a b ε h = bR (a ε h) (andV b ε) := (rfl)
theorem orv_ap (a b : M D) : mOrV a b ε h = bR (a ε h) (orV b ε) := (rfl)
theorem andV_t (b : M D) : andV b ε (.bl true) h = b ε h := (rfl)
theorem andV_f (b : M D) : andV b ε (.bl false) h = some (.ok (.bl false), h) := (rfl)
theorem orV_t (b : M D) : orV b ε (.bl true) h = some (.ok (.bl true), h) := (rfl)
theorem orV_f (b : M D) : orV b ε (.bl false) h = b ε h := (rfl)
def notV (x : D) (h : EH) : O D := match x with
  | .bl b => some (.ok (.bl (!b)), h)
  | _ => none
theorem notv_ap (a : M D) : mNotV a ε h = bR (a ε h) notV := (rfl)
theorem notV_c (c : Bool) : notV (.bl c) h = some (.ok (.bl (!c)), h) := (rfl)
theorem nil_ap : mNil ε h = some (.ok [], h) := (rfl)
def consK2 (x : D) (xs : List D) (h2 : EH) : O (List D) := some (.ok (x :: xs), h2)
def consK1 (b : M (List D)) (ε : Ev) (x : D) (h1 : EH) : O (List D) := bR (b ε h1) (consK2 x)
theorem cons_ap (a : M D) (b : M (List D)) : mCons a b ε h = bR (a ε h) (consK1 b ε) := (rfl)
theorem consK1_ap (b : M (List D)) (x : D) : consK1 b ε x h = bR (b ε h) (consK2 x) := (rfl)
theorem consK2_ap (x : D) (xs : List D) : consK2 x xs h = some (.ok (x :: xs), h) := (rfl)
def tupK (ds : List D) (h1 : EH) : O D := rt (szL ds (.tup ds)) h1
def lstK (ds : List D) (h1 : EH) : O D := rt (szL ds (.lst ds)) h1
theorem tup_ap (m : M (List D)) : mTup m ε h = bR (m ε h) tupK := (rfl)
theorem lst_ap (m : M (List D)) : mLst m ε h = bR (m ε h) lstK := (rfl)
theorem tupK_ok {ds : List D} (e : ds.length ≤ 16777216) : tupK ds h = some (.ok (.tup ds), h) := by
  show rt (szL ds (.tup ds)) h = _
  rw [show szL ds (.tup ds) = some (.tup ds) from if_pos e]; rfl
theorem lstK_ok {ds : List D} (e : ds.length ≤ 16777216) : lstK ds h = some (.ok (.lst ds), h) := by
  show rt (szL ds (.lst ds)) h = _
  rw [show szL ds (.lst ds) = some (.lst ds) from if_pos e]; rfl
def callK (f : EH → List D → Option D) (xs : List D) (h1 : EH) : O D := rt (f h1 xs) h1
theorem call_ap (f : EH → List D → Option D) (a : M (List D)) : mCall f a ε h = bR (a ε h) (callK f) := (rfl)
theorem callK_ap (f : EH → List D → Option D) (xs : List D) : callK f xs h = rt (f h xs) h := (rfl)
def callPK (F : PF) (ds : List D) (h1 : EH) : O D := if noRef.go ds = true then (F ds).map fun r => (r, h1) else none
theorem callP_ap (F : PF) (a : M (List D)) : mCallP F a ε h = bR (a ε h) (callPK F) := (rfl)
theorem callPK_ok {F : PF} {ds : List D} {r : R D} (e2 : F ds = some r) (e : noRef.go ds = true) : callPK F ds h = some (r, h) := by
  unfold callPK
  rw [if_pos e, e2]; rfl
theorem callI_ap (F : IF) (a : M (List D)) : mCallI F a ε h = bR (a ε h) F := (rfl)
def permK (p : List Nat) (ds : List D) (h1 : EH) : O (List D) := some (.ok (permL p ds), h1)
theorem perm_ap (p : List Nat) (a : M (List D)) : mPerm p a ε h = bR (a ε h) (permK p) := (rfl)
theorem permK_ap (p : List Nat) (ds : List D) : permK p ds h = some (.ok (permL p ds), h) := (rfl)
theorem nop_ap : mNoP ε h = some (.ok none, h) := (rfl)
def smP (x : D) (h1 : EH) : O (Option Int) := match x with
  | .int i => some (.ok (some i), h1)
  | _ => none
theorem smp_ap (m : M D) : mSmP m ε h = bR (m ε h) smP := (rfl)
theorem smP_int (i : Int) : smP (.int i) h = some (.ok (some i), h) := (rfl)
def slK3 (x : D) (l u : Option Int) (h3 : EH) : O D := rt (dSl h3 x l u) h3
def slK2 (hi : M (Option Int)) (ε : Ev) (x : D) (l : Option Int) (h2 : EH) : O D := bR (hi ε h2) (slK3 x l)
def slK1 (lo hi : M (Option Int)) (ε : Ev) (x : D) (h1 : EH) : O D := bR (lo ε h1) (slK2 hi ε x)
theorem sl_ap (a : M D) (lo hi : M (Option Int)) : mSl a lo hi ε h = bR (a ε h) (slK1 lo hi ε) := (rfl)
theorem slK1_ap (lo hi : M (Option Int)) (x : D) : slK1 lo hi ε x h = bR (lo ε h) (slK2 hi ε x) := (rfl)
theorem slK2_ap (hi : M (Option Int)) (x : D) (l : Option Int) : slK2 hi ε x l h = bR (hi ε h) (slK3 x l) := (rfl)
theorem slK3_ap (x : D) (l u : Option Int) : slK3 x l u h = rt (dSl h x l u) h := (rfl)
theorem sl_lst (ds : List D) (l u : Option Int) : dSl h (.lst ds) l u = some (.lst (cutD ds l u)) := (rfl)
theorem sl_scr (ds : List D) (l u : Option Int) : dSl h (.scr ds) l u = some (.lst (cutD ds l u)) := (rfl)
theorem sl_tup (ds : List D) (l u : Option Int) : dSl h (.tup ds) l u = some (.tup (cutD ds l u)) := (rfl)
theorem sl_str {z : List Nat} (l u : Option Int) (e : z.length ≤ 16777216) : dSl h (.str z) l u = some (.str (cutD z l u)) := if_pos e
def chK4 (g : EH → D → D → Option D) (y z : D) (h4 : EH) : O D := rt (g h4 y z) h4
def chK3 (g : EH → D → D → Option D) (c : M D) (ε : Ev) (y : D) (k : Bool) (h3 : EH) : O D := if k = true then bR (c ε h3) (chK4 g y) else some (.ok (.bl false), h3)
def chK2 (f g : EH → D → D → Option D) (c : M D) (ε : Ev) (x y : D) (h2 : EH) : O D := bR (rt ((f h2 x y).bind asB) h2) (chK3 g c ε y)
def chK1 (f g : EH → D → D → Option D) (b c : M D) (ε : Ev) (x : D) (h1 : EH) : O D := bR (b ε h1) (chK2 f g c ε x)
theorem chain_ap (f g : EH → D → D → Option D) (a b c : M D) : mChain f g a b c ε h = bR (a ε h) (chK1 f g b c ε) := (rfl)
theorem chK1_ap (f g : EH → D → D → Option D) (b c : M D) (x : D) : chK1 f g b c ε x h = bR (b ε h) (chK2 f g c ε x) := (rfl)
theorem chK2_ap (f g : EH → D → D → Option D) (c : M D) (x y : D) : chK2 f g c ε x y h = bR (rt ((f h x y).bind asB) h) (chK3 g c ε y) := (rfl)
theorem chK3_t (g : EH → D → D → Option D) (c : M D) (y : D) : chK3 g c ε y true h = bR (c ε h) (chK4 g y) := (rfl)
theorem chK3_f (g : EH → D → D → Option D) (c : M D) (y : D) : chK3 g c ε y false h = some (.ok (.bl false), h) := (rfl)
theorem chK4_ap (g : EH → D → D → Option D) (y z : D) : chK4 g y z h = rt (g h y z) h := (rfl)
def isiK (ts : List Ty) (d : D) (h1 : EH) : O D := match tyD h1 d with
  | some t => some (.ok (.bl (ts.any (isa t))), h1)
  | none => none
theorem isi_ap (ts : List Ty) (a : M D) : mIsi ts a ε h = bR (a ε h) (isiK ts) := (rfl)
theorem isiK_int (ts : List Ty) (i : Int) : isiK ts (.int i) h = some (.ok (.bl (ts.any (isa .int))), h) := (rfl)
theorem isiK_str (ts : List Ty) (i : List Nat) : isiK ts (.str i) h = some (.ok (.bl (ts.any (isa .str))), h) := (rfl)
theorem isiK_bl (ts : List Ty) (i : Bool) : isiK ts (.bl i) h = some (.ok (.bl (ts.any (isa .bool))), h) := (rfl)
theorem isiK_non (ts : List Ty) : isiK ts .non h = some (.ok (.bl (ts.any (isa .non))), h) := (rfl)
theorem isiK_tup (ts : List Ty) (i : List D) : isiK ts (.tup i) h = some (.ok (.bl (ts.any (isa .tup))), h) := (rfl)
theorem isiK_lst (ts : List Ty) (i : List D) : isiK ts (.lst i) h = some (.ok (.bl (ts.any (isa .lst))), h) := (rfl)
def lcK (vs : List Nat) (g : MG) (t : M Bool) (e : M D) (ε : Ev) (ds : List D) (h1 : EH) : O D := okL (lcL g t e ds (wipeE ε vs) h1)
theorem lc_ap (vs : List Nat) (it : M (List D)) (g : MG) (t : M Bool) (e : M D) : mLc vs it g t e ε h = bR (it ε h) (lcK vs g t e ε) := (rfl)
theorem lcK_ok {vs : List Nat} {g : MG} {t : M Bool} {e : M D} {ds ys : List D} {h' : EH} (q : lcL g t e ds (wipeE ε vs) h = some (ys, h')) (l : ys.length ≤ 16777216) : lcK vs g t e ε ds h = some (.ok (.lst ys), h') := by
  unfold lcK
  rw [q]
  exact if_pos l
def lstCK (ds : List D) (h1 : EH) : O D := if ds.length ≤ sizeLine then some (.ok (.ref h1.length), h1 ++ [.lst ds]) else none
theorem lstC_ap (m : M (List D)) : mLstC m ε h = bR (m ε h) lstCK := (rfl)
theorem lstCK_ok {ds : List D} (e : ds.length ≤ 16777216) : lstCK ds h = some (.ok (.ref h.length), h ++ [.lst ds]) := if_pos e
def mtsK2 (f : EH → List Nat → List D → Option D) (z : List Nat) (ds : List D) (h2 : EH) : O D := rt (f h2 z ds) h2
def mtsK (f : EH → List Nat → List D → Option D) (a : M (List D)) (ε : Ev) (x : D) (h1 : EH) : O D := match x with
  | .str z => bR (a ε h1) (mtsK2 f z)
  | _ => none
theorem mts_ap (f : EH → List Nat → List D → Option D) (o : M D) (a : M (List D)) : mMtS f o a ε h = bR (o ε h) (mtsK f a ε) := (rfl)
theorem mtsK_str (f : EH → List Nat → List D → Option D) (a : M (List D)) (z : List Nat) : mtsK f a ε (.str z) h = bR (a ε h) (mtsK2 f z) := (rfl)
theorem mtsK2_ap (f : EH → List Nat → List D → Option D) (z : List Nat) (ds : List D) : mtsK2 f z ds h = rt (f h z ds) h := (rfl)
theorem yes_ap : mYes ε h = some (.ok true, h) := (rfl)
def ilK (x : D) (h1 : EH) : O (List D) := match x with
  | .lst ds => some (.ok ds, h1)
  | .scr ds => some (.ok ds, h1)
  | _ => none
theorem il_ap (a : M D) : miL a ε h = bR (a ε h) ilK := (rfl)
theorem ilK_lst (ds : List D) : ilK (.lst ds) h = some (.ok ds, h) := (rfl)
theorem ilK_scr (ds : List D) : ilK (.scr ds) h = some (.ok ds, h) := (rfl)
def itK (x : D) (h1 : EH) : O (List D) := match x with
  | .tup ds => some (.ok ds, h1)
  | _ => none
theorem it_ap (a : M D) : miT a ε h = bR (a ε h) itK := (rfl)
theorem itK_tup (ds : List D) : itK (.tup ds) h = some (.ok ds, h) := (rfl)
def isK (x : D) (h1 : EH) : O (List D) := match x with
  | .str z => some (.ok (z.map fun c => .str [c]), h1)
  | _ => none
theorem is_ap (a : M D) : miS a ε h = bR (a ε h) isK := (rfl)
theorem isK_str (z : List Nat) : isK (.str z) h = some (.ok (z.map fun c => .str [c]), h) := (rfl)
def ir1K (xs : List D) (h1 : EH) : O (List D) := match xs with
  | [.int j] => if -(2 ^ 62) ≤ j ∧ j < 2 ^ 62 then some (.ok (rngD 0 j.toNat), h1) else none
  | _ => none
theorem ir1_ap (a : M (List D)) : miR1 a ε h = bR (a ε h) ir1K := (rfl)
def izK (xs : List D) (h1 : EH) : O (List D) := match xs with
  | [x, y] => (match x, y with
    | .lst as, .lst bs => some (.ok (zipD as bs), h1)
    | .tup as, .tup bs => some (.ok (zipD as bs), h1)
    | _, _ => none)
  | _ => none
theorem iz_ap (a : M (List D)) : miZip a ε h = bR (a ε h) izK := (rfl)
theorem izK_l (as bs : List D) : izK [.lst as, .lst bs] h = some (.ok (zipD as bs), h) := (rfl)
theorem izK_t (as bs : List D) : izK [.tup as, .tup bs] h = some (.ok (zipD as bs), h) := (rfl)
theorem snil_ap : msNil ε h = some (.nx ε, h) := (rfl)
def retK (d : D) (h1 : EH) : Option (RS × EH) := some (.rt d, h1)
theorem ret_ap (a : M D) : msRet a ε h = bS (a ε h) ε retK := (rfl)
theorem retK_ap (d : D) : retK d h = some (.rt d, h) := (rfl)
def sifK (a b : MS) (ε : Ev) (k : Bool) (h1 : EH) : Option (RS × EH) := if k = true then a ε h1 else b ε h1
theorem sif_ap (t : M Bool) (a b : MS) : msIf t a b ε h = bS (t ε h) ε (sifK a b ε) := (rfl)
theorem sifK_t (a b : MS) : sifK a b ε true h = a ε h := (rfl)
theorem sifK_f (a b : MS) : sifK a b ε false h = b ε h := (rfl)
def sexprK (ε : Ev) (_ : D) (h1 : EH) : Option (RS × EH) := some (.nx ε, h1)
theorem sexpr_ap (a : M D) : msExpr a ε h = bS (a ε h) ε (sexprK ε) := (rfl)
theorem sexprK_ap (d : D) : sexprK ε d h = some (.nx ε, h) := (rfl)
theorem bk_ap : msBk ε h = some (.bk ε, h) := (rfl)
theorem ct_ap : msCt ε h = some (.ct ε, h) := (rfl)
def asgK (g : MG) (ε : Ev) (d : D) (h1 : EH) : Option (RS × EH) := bG (g d ε h1)
theorem asg_ap (a : M D) (g : MG) : msAsg a g ε h = bS (a ε h) ε (asgK g ε) := (rfl)
theorem asgK_ap (g : MG) (d : D) : asgK g ε d h = bG (g d ε h) := (rfl)
theorem bG_ok : bG (some (ε, h)) = some (.nx ε, h) := (rfl)
def forK (g : MG) (b : MS) (ε : Ev) (ds : List D) (h1 : EH) : Option (RS × EH) := forL g b ds ε h1
theorem for_ap (it : M (List D)) (g : MG) (b : MS) : msFor it g b ε h = bS (it ε h) ε (forK g b ε) := (rfl)
theorem forK_ap (g : MG) (b : MS) (ds : List D) : forK g b ε ds h = forL g b ds ε h := (rfl)
def parK (i j : Nat) (ε : Ev) (ds : List D) (h1 : EH) : Option (RS × EH) := match ds with
  | [d, e] => some (.nx ((ε.set i (some d)).set j (some e)), h1)
  | _ => none
theorem par_ap (i j : Nat) (m : M (List D)) : msPar i j m ε h = bS (m ε h) ε (parK i j ε) := (rfl)
theorem parK_ok (i j : Nat) (d e : D) : parK i j ε [d, e] h = some (.nx ((ε.set i (some d)).set j (some e)), h) := (rfl)
theorem gname_ap (i : Nat) (d : D) : mgName i d ε h = some (ε.set i (some d), h) := (rfl)
theorem gnil_ap : mgNil [] ε h = some (ε, h) := (rfl)
def gK (x : Option (Ev × EH)) (b : MGs) (r : List D) : Option (Ev × EH) := match x with
  | some (ε1, h1) => b r ε1 h1
  | none => none
theorem gcons_ap (a : MG) (b : MGs) (d : D) (r : List D) : mgCons a b (d :: r) ε h = gK (a d ε h) b r := (rfl)
theorem gK_ok (b : MGs) (r : List D) : gK (some (ε, h)) b r = b r ε h := (rfl)
theorem gtup_ap (n : Nat) (ms : MGs) (ds : List D) : mgTup n ms (.tup ds) ε h = if ds.length = n then ms ds ε h else none := (rfl)
def subK2 (v x : D) (ε : Ev) (z : O D) : Option (Ev × EH) := match z with
  | some (.ok y, h2) => (putL h2 x y v).map fun h3 => (ε, h3)
  | _ => none
def subK1 (v : D) (i : M D) (ε : Ev) (z : O D) : Option (Ev × EH) := match z with
  | some (.ok x, h1) => subK2 v x ε (i ε h1)
  | _ => none
theorem gsub_ap (o i : M D) (v : D) : mgSub o i v ε h = subK1 v i ε (o ε h) := by
  unfold mgSub subK1 subK2
  cases o ε h with
  | none => rfl
  | some z =>
    obtain ⟨r, h1⟩ := z
    cases r <;> rfl
theorem subK1_ok (v x : D) (i : M D) : subK1 v i ε (some (.ok x, h)) = subK2 v x ε (i ε h) := (rfl)
theorem subK2_ok (v x y : D) : subK2 v x ε (some (.ok y, h)) = (putL h x y v).map fun h3 => (ε, h3) := (rfl)
theorem add_int (i j : Int) : dAdd h (.int i) (.int j) = some (.int (i + j)) := (rfl)
theorem sub_int (i j : Int) : dSub h (.int i) (.int j) = some (.int (i - j)) := (rfl)
theorem mul_int {i j : Int} (e : CMul i j) : dMul h (.int i) (.int j) = some (.int (i * j)) := if_pos e
theorem div_int {i j : Int} (e : CDiv i j) : dDiv h (.int i) (.int j) = some (.int (i / j)) := if_pos e
theorem mod_int {i j : Int} (e : 0 < j) : dMod h (.int i) (.int j) = some (.int (i % j)) := if_pos e
theorem pow_int {i j : Int} (e : CPow i j) : dPow h (.int i) (.int j) = some (.int (i ^ j.toNat)) := if_pos e
theorem lt_int (i j : Int) : dLt h (.int i) (.int j) = some (.bl (decide (i < j))) := (rfl)
theorem le_int (i j : Int) : dLe h (.int i) (.int j) = some (.bl (decide (i ≤ j))) := (rfl)
theorem gt_int (i j : Int) : dGt h (.int i) (.int j) = some (.bl (decide (j < i))) := (rfl)
theorem ge_int (i j : Int) : dGe h (.int i) (.int j) = some (.bl (decide (j ≤ i))) := (rfl)
theorem eq_int (i j : Int) : dEq h (.int i) (.int j) = some (.bl (decide (i = j))) := (rfl)
theorem eq_str (i j : List Nat) : dEq h (.str i) (.str j) = some (.bl (decide (i = j))) := (rfl)
theorem eq_bl (i j : Bool) : dEq h (.bl i) (.bl j) = some (.bl (decide (i = j))) := (rfl)
theorem eq_is (i : Int) (j : List Nat) : dEq h (.int i) (.str j) = some (.bl false) := (rfl)
theorem eq_si (i : Int) (j : List Nat) : dEq h (.str j) (.int i) = some (.bl false) := (rfl)
theorem eq_bs (i : Bool) (j : List Nat) : dEq h (.bl i) (.str j) = some (.bl false) := (rfl)
theorem eq_sb (i : Bool) (j : List Nat) : dEq h (.str j) (.bl i) = some (.bl false) := (rfl)
theorem eq_nn : dEq h .non .non = some (.bl true) := (rfl)
theorem ne_int (i j : Int) : dNe h (.int i) (.int j) = some (.bl (!decide (i = j))) := (rfl)
theorem ne_str (i j : List Nat) : dNe h (.str i) (.str j) = some (.bl (!decide (i = j))) := (rfl)
theorem ne_bl (i j : Bool) : dNe h (.bl i) (.bl j) = some (.bl (!decide (i = j))) := (rfl)
theorem isn_ap (neg : Bool) (x : D) : dIsN neg h x .non = some (.bl (neg != isNon x)) := (rfl)
theorem isN_int (i : Int) : isNon (.int i) = false := (rfl)
theorem isN_str (i : List Nat) : isNon (.str i) = false := (rfl)
theorem isN_bl (i : Bool) : isNon (.bl i) = false := (rfl)
theorem isN_tup (i : List D) : isNon (.tup i) = false := (rfl)
theorem isN_lst (i : List D) : isNon (.lst i) = false := (rfl)
theorem isN_non : isNon .non = true := (rfl)
theorem ix_lst (ds : List D) (i : Int) : dIx h (.lst ds) (.int i) = atI ds i := (rfl)
theorem ix_tup (ds : List D) (i : Int) : dIx h (.tup ds) (.int i) = atI ds i := (rfl)
theorem ix_scr (ds : List D) (i : Int) : dIx h (.scr ds) (.int i) = atI ds i := (rfl)
theorem len_lst (ds : List D) : dLen h [.lst ds] = some (.int ds.length) := (rfl)
theorem len_tup (ds : List D) : dLen h [.tup ds] = some (.int ds.length) := (rfl)
theorem int_int (i : Int) : dInt h [.int i] = some (.int i) := (rfl)
theorem list_lst (ds : List D) : dList h [.lst ds] = some (.lst ds) := (rfl)
theorem list_tup (ds : List D) : dList h [.tup ds] = some (.lst ds) := (rfl)
theorem tuple_lst (ds : List D) : dTuple h [.lst ds] = some (.tup ds) := (rfl)
theorem tuple_tup (ds : List D) : dTuple h [.tup ds] = some (.tup ds) := (rfl)
theorem all_lst {ds : List D} {bs : List Bool} (e : asBs ds = some bs) : dAll h [.lst ds] = some (.bl (bs.all id)) := by
  show (asBs ds).map _ = _
  rw [e]; rfl
theorem asB_bl (b : Bool) : asB (.bl b) = some b := (rfl)
theorem getD0 {α : Type} (a : Option α) (r : List (Option α)) : (a :: r).getD 0 none = a := (rfl)
theorem getDS {α : Type} (a : Option α) (r : List (Option α)) (n : Nat) : (a :: r).getD (n + 1) none = r.getD n none := by
  simp
theorem set0 {α : Type} (a b : α) (r : List α) : (a :: r).set 0 b = b :: r := (rfl)
theorem setS {α : Type} (a b : α) (r : List α) (n : Nat) : (a :: r).set (n + 1) b = a :: r.set n b := (rfl)
theorem at0 {α : Type} (a : α) (r : List α) : (a :: r)[0]? = some a := (rfl)
theorem atS {α : Type} (a : α) (r : List α) (n : Nat) : (a :: r)[n + 1]? = r[n]? := (rfl)
theorem atI_nat {α : Type} (xs : List α) (n : Nat) (i : Int) (e : i = (n : Int)) : atI xs i = xs[n]? := by
  subst e
  unfold atI ixN
  by_cases hn : n < xs.length
  · rw [if_pos (by omega), if_pos (by omega)]
    rfl
  · rw [if_pos (by omega), if_neg (by omega), List.getElem?_eq_none (by omega)]
    rfl
theorem endI_rt {d d' : D} {n : Nat} (e : h.length = n) (f : frzI n h d = some d') : endI n (some (.rt d, h)) = some (.ok d', h) := by
  unfold endI trim
  simp only [f, e, if_true]
theorem endP_rt {d : D} (e : noRef d = true) (f : frz h d = some d) : endP (some (.rt d, h)) = some (.ok d) := by
  show (frz h d).map _ = _
  rw [f]; rfl
theorem map_some' {α β : Type} (f : α → β) (a : α) : (some a).map f = some (f a) := (rfl)
theorem bind_some' {α β : Type} (f : α → Option β) (a : α) : (some a).bind f = f a := (rfl)
end
theorem frz_id {h : EH} : ∀ {d : D}, noRef d = true → frz1 h d = some d
  | .non, _ => rfl
  | .bl _, _ => rfl
  | .int _, _ => rfl
  | .str _, _ => rfl
  | .dic _ _, e => if_pos e
  | .ref _, e => by cases e
  | .tup ds, e => if_pos e
  | .lst ds, e => if_pos e
  | .scr ds, e => if_pos e
  | .obj C fs, e => if_pos e
  | .fn _ _, e => if_pos e
  | .exc _ _, e => if_pos e
theorem frzL_id {h : EH} : ∀ {ds : List D}, noRef.go ds = true → frzL h ds = some ds
  | [], _ => rfl
  | d :: ds, e => by
    rw [noRef.go, Bool.and_eq_true] at e
    unfold frzL
    rw [frz_id e.1, frzL_id e.2]
theorem frzT {h : EH} : ∀ {d : D}, noRef d = true → frz h d = some d
  | .tup ds, e => by
    show (frzL h ds).map D.tup = _
    rw [frzL_id (by rw [noRef] at e; exact e)]; rfl
  | .lst ds, e => by
    show (frzL h ds).map D.lst = _
    rw [frzL_id (by rw [noRef] at e; exact e)]; rfl
  | .non, _ => rfl
  | .bl _, _ => rfl
  | .int _, _ => rfl
  | .str _, _ => rfl
  | .dic _ _, e => if_pos e
  | .ref _, e => by cases e
  | .scr ds, e => if_pos e
  | .obj C fs, e => if_pos e
  | .fn _ _, e => if_pos e
  | .exc _ _, e => if_pos e
theorem frzI_id1 {n : Nat} {h : EH} : ∀ {d : D}, noRef d = true → frz1I n h d = some d
  | .non, _ => rfl
  | .bl _, _ => rfl
  | .int _, _ => rfl
  | .str _, _ => rfl
  | .dic _ _, e => if_pos e
  | .ref _, e => by cases e
  | .tup ds, e => if_pos e
  | .lst ds, e => if_pos e
  | .scr ds, e => if_pos e
  | .obj C fs, e => if_pos e
  | .fn _ _, e => if_pos e
  | .exc _ _, e => if_pos e
theorem frzLI_id {n : Nat} {h : EH} : ∀ {ds : List D}, noRef.go ds = true → frzLI n h ds = some ds
  | [], _ => rfl
  | d :: ds, e => by
    rw [noRef.go, Bool.and_eq_true] at e
    unfold frzLI
    rw [frzI_id1 e.1, frzLI_id e.2]
theorem frzIT {n : Nat} {h : EH} : ∀ {d : D}, noRef d = true → frzI n h d = some d
  | .tup ds, e => by
    show (frzLI n h ds).map D.tup = _
    rw [frzLI_id (by rw [noRef] at e; exact e)]; rfl
  | .lst ds, e => by
    show (frzLI n h ds).map D.lst = _
    rw [frzLI_id (by rw [noRef] at e; exact e)]; rfl
  | .non, _ => rfl
  | .bl _, _ => rfl
  | .int _, _ => rfl
  | .str _, _ => rfl
  | .dic _ _, e => if_pos e
  | .ref _, e => by cases e
  | .scr ds, e => if_pos e
  | .obj C fs, e => if_pos e
  | .fn _ _, e => if_pos e
  | .exc _ _, e => if_pos e
section
variable {h h' : EH} {d : D} {n : Nat}
theorem endP_ok (e : noRef d = true) : endP (some (.rt d, h)) = some (.ok d) := endP_rt e (frzT e)
theorem endI_ok (l : h.length = n) (e : noRef d = true) : endI n (some (.rt d, h)) = some (.ok d, h) := endI_rt l (frzIT e)
end
end PD
namespace PD
open PySem PySem.Spec PyProof.Rows L2
def bagC (cs : List D) (i b s c : Int) : Cell := .lst [.lst cs, .int i, .int b, .int s, .int c]
/-- a bag between two pulls -/
structure BagI (k : Cell) : Prop where
  ex : ∃ (cs : List Int) (i b s c : Int), k = bagC (cs.map .int) i b s c ∧ cs.length ≤ 63 ∧ 0 ≤ i ∧ 0 ≤ b ∧ 0 ≤ s ∧ s < 2147483549
def mPull : MS :=
    (msSeq (msAsg (mBin dAdd (mBin dIx (mVar 0) (mC (.int 4))) (mC (.int 1))) (mgSub (mVar 0) (mC (.int 4))))
    (msSeq (msIf (mAnd (mTst (mBin dEq (mBin dIx (mVar 0) (mC (.int 2))) (mC (.int 0)))) (mTst (mBin dLt (mBin dIx (mVar 0) (mC (.int 1))) (mCall dLen (mCons (mBin dIx (mVar 0) (mC (.int 0))) mNil))))) (msSeq (msAsg (mTup (mCons (mBin dIx (mBin dIx (mVar 0) (mC (.int 0))) (mBin dIx (mVar 0) (mC (.int 1)))) (mCons (mBin dAdd (mBin dIx (mVar 0) (mC (.int 1))) (mC (.int 1))) mNil))) (mgTup 2 (mgCons (mgName 3) (mgCons (mgSub (mVar 0) (mC (.int 1))) mgNil))))
    (msSeq (msIf (mTst (mBin dGe (mVar 3) (mBin dPow (mC (.int 10)) (mC (.int 18))))) (msAsg (mVar 3) (mgSub (mVar 0) (mC (.int 2)))) msNil)
    (msAsg (mBin dMod (mCall dInt (mCons (mBin dAdd (mBin dAdd (mBin dMul (mBin dIx (mVar 0) (mC (.int 3))) (mC (.int 38377))) (mBin dMul (mBin dMod (mCall dInt (mCons (mVar 3) mNil)) (mC (.int 2147483489))) (mC (.int 41143)))) (mC (.int 61))) mNil)) (mC (.int 2147483549))) (mgSub (mVar 0) (mC (.int 3)))))) msNil)
    (msSeq (msIf (mTst (mBin dGt (mBin dIx (mVar 0) (mC (.int 2))) (mC (.int 0)))) (msSeq (msAsg (mTup (mCons (mBin dMod (mCall dInt (mCons (mBin dIx (mVar 0) (mC (.int 2))) mNil)) (mVar 1)) (mCons (mBin dDiv (mBin dIx (mVar 0) (mC (.int 2))) (mVar 1)) mNil))) (mgTup 2 (mgCons (mgName 4) (mgCons (mgSub (mVar 0) (mC (.int 2))) mgNil))))
    (msRet (mVar 4))) msNil)
    (msSeq (msAsg (mBin dIx (mVar 0) (mC (.int 3))) (mgName 2))
    (msSeq (msAsg (mBin dMod (mCall dInt (mCons (mBin dAdd (mBin dAdd (mBin dAdd (mBin dPow (mVar 2) (mC (.int 3))) (mBin dMul (mVar 2) (mC (.int 37813)))) (mBin dMul (mBin dIx (mVar 0) (mC (.int 4))) (mC (.int 1299689)))) (mC (.int 65437))) mNil)) (mC (.int 2147483549))) (mgSub (mVar 0) (mC (.int 3))))
    (msRet (mBin dMod (mCall dInt (mCons (mBin dAdd (mBin dDiv (mBin dIx (mVar 0) (mC (.int 3))) (mC (.int 89))) (mBin dMul (mBin dMod (mCall dInt (mCons (mBin dIx (mVar 0) (mC (.int 3))) mNil)) (mC (.int 7919))) (mC (.int 71)))) mNil)) (mVar 1))))))))
section
variable {cs : List D} {i b s c : Int} {t : EH}
theorem bag0 : dIx (bagC cs i b s c :: t) (.ref 0) (.int 0) = some (.lst cs) := rfl
theorem bag1 : dIx (bagC cs i b s c :: t) (.ref 0) (.int 1) = some (.int i) := rfl
theorem bag2 : dIx (bagC cs i b s c :: t) (.ref 0) (.int 2) = some (.int b) := rfl
theorem bag3 : dIx (bagC cs i b s c :: t) (.ref 0) (.int 3) = some (.int s) := rfl
theorem bag4 : dIx (bagC cs i b s c :: t) (.ref 0) (.int 4) = some (.int c) := rfl
theorem put1 (x : Int) : putL (bagC cs i b s c :: t) (.ref 0) (.int 1) (.int x) = some (bagC cs x b s c :: t) := rfl
theorem put2 (x : Int) : putL (bagC cs i b s c :: t) (.ref 0) (.int 2) (.int x) = some (bagC cs i x s c :: t) := rfl
theorem put3 (x : Int) : putL (bagC cs i b s c :: t) (.ref 0) (.int 3) (.int x) = some (bagC cs i b x c :: t) := rfl
theorem put4 (x : Int) : putL (bagC cs i b s c :: t) (.ref 0) (.int 4) (.int x) = some (bagC cs i b s x :: t) := rfl
end
theorem mul_rc {h : EH} {i j : Int} (e : -18446744073709551616 < j ∧ j < 18446744073709551616) : dMul h (.int i) (.int j) = some (.int (i * j)) := mul_int (.inr e)
theorem pow_c {h : EH} {i j : Int} (e : 0 ≤ j ∧ j ≤ 1000000) (e2 : i.natAbs < 18446744073709551616) : dPow h (.int i) (.int j) = some (.int (i ^ j.toNat)) := pow_int ⟨e.1, e.2, e2⟩
theorem p10_18 {h : EH} : dPow h (.int 10) (.int 18) = some (.int 1000000000000000000) := pow_int ⟨by decide, by decide, by decide⟩
theorem p10_30 {h : EH} : dPow h (.int 10) (.int 30) = some (.int 1000000000000000000000000000000) := pow_int ⟨by decide, by decide, by decide⟩
theorem div_c {h : EH} {i j : Int} (e : 0 < j ∧ j < 1073741824) : dDiv h (.int i) (.int j) = some (.int (i / j)) := div_int e
theorem pull_ok {k : Cell} (hk : BagI k) {n : Int} (hn : 0 < n) (hn2 : n < 1073741824) (t : EH) : ∃ d k', runI 5 mPull [.ref 0, .int n] (k :: t) = some (.ok (.int d), k' :: t) ∧ 0 ≤ d ∧ d < n ∧ BagI k' := by
  obtain ⟨cs, i, b, s, c, rfl, hcs, hi, hb, hs, hs2⟩ := hk.ex
  have fin : ∀ {d : Int} {k' : Cell} {ε : Ev}, mPull (startE 5 [.ref 0, .int n]) (bagC (cs.map .int) i b s c :: t) = some (.rt (.int d), k' :: t) → runI 5 mPull [.ref 0, .int n] (bagC (cs.map .int) i b s c :: t) = some (.ok (.int d), k' :: t) := fun e => by
    unfold runI
    rw [e]
    exact endI_ok rfl rfl
  have e0 : startE 5 [.ref 0, .int n] = [some (.ref 0), some (.int n), none, none, none] := rfl
  rw [e0] at fin
  have hs3 : s.natAbs < 18446744073709551616 := by omega
  by_cases q1 : b = 0
  · subst q1
    have M : ∀ z : Int, 0 ≤ z % 2147483549 ∧ z % 2147483549 < 2147483549 := fun z => ⟨Int.emod_nonneg _ (by decide), Int.emod_lt_of_pos _ (by decide)⟩
    by_cases q2 : i < (cs.length : Int)
    · obtain ⟨j, rfl⟩ : ∃ j : Nat, i = (j : Int) := ⟨i.toNat, by omega⟩
      have hj : j < cs.length := by omega
      have eX : atI (cs.map D.int) (j : Int) = some (.int cs[j]) := by
        rw [atI_nat _ j _ rfl, List.getElem?_map, List.getElem?_eq_getElem hj]; rfl
      by_cases q3 : (1000000000000000000 : Int) ≤ cs[j]
      · have q4 : 0 < cs[j] := by omega
        refine ⟨cs[j] % n, bagC (cs.map .int) (j + 1) (cs[j] / n) ((s * 38377 + cs[j] % 2147483489 * 41143 + 61) % 2147483549) (c + 1), ?_, Int.emod_nonneg _ (by omega), Int.emod_lt_of_pos _ hn, ⟨_, _, _, _, _, rfl, hcs, by omega, Int.ediv_nonneg (by omega) (by omega), (M _).1, (M _).2⟩⟩
        refine fin (ε := []) ?_
        simp only [mPull, ↓seq_ap, ↓var_ap, ↓c_ap, ↓bin_ap, ↓tst_ap, ↓not_ap, ↓and_ap, ↓or_ap, ↓if_ap, ↓andv_ap, ↓orv_ap, ↓notv_ap, ↓nil_ap, ↓cons_ap, ↓tup_ap, ↓lst_ap, ↓call_ap, ↓callP_ap, ↓callI_ap, ↓perm_ap, ↓nop_ap, ↓smp_ap, ↓sl_ap, ↓chain_ap, ↓isi_ap, ↓lc_ap, ↓lstC_ap, ↓mts_ap, ↓yes_ap, ↓il_ap, ↓it_ap, ↓is_ap, ↓ir1_ap, ↓iz_ap, ↓snil_ap, ↓ret_ap, ↓sif_ap, ↓sexpr_ap, ↓bk_ap, ↓ct_ap, ↓asg_ap, ↓for_ap, ↓par_ap, ↓gname_ap, ↓gnil_ap, ↓gcons_ap, ↓gtup_ap, ↓gsub_ap, bR_ok, bR_ex, rt_some, sq_nx, sq_rt, sq_bk, sq_ct, sq_ex, bS_ok, bS_ex, binK1_ap, binK2_ap, tstK_b, notK_ap, andK_t, andK_f, orK_t, orK_f, ifK_t, ifK_f, andV_t, andV_f, orV_t, orV_f, notV_c, consK1_ap, consK2_ap, tupK_ok, lstK_ok, callK_ap, permK_ap, smP_int, slK1_ap, slK2_ap, slK3_ap, sl_lst, sl_scr, sl_tup, chK1_ap, chK2_ap, chK3_t, chK3_f, chK4_ap, isiK_int, isiK_str, isiK_bl, isiK_non, isiK_tup, isiK_lst, mtsK_str, mtsK2_ap, ilK_lst, ilK_scr, itK_tup, isK_str, izK_l, izK_t, retK_ap, sifK_t, sifK_f, sexprK_ap, asgK_ap, bG_ok, forK_ap, parK_ok, gK_ok, subK1_ok, subK2_ok, add_int, sub_int, mod_int, lt_int, le_int, gt_int, ge_int, eq_int, eq_str, eq_bl, eq_is, eq_si, eq_bs, eq_sb, eq_nn, ne_int, ne_str, ne_bl, isn_ap, isN_int, isN_str, isN_bl, isN_tup, isN_lst, isN_non, ix_lst, ix_tup, ix_scr, len_lst, len_tup, int_int, list_lst, list_tup, tuple_lst, tuple_tup, asB_bl, getD0, getDS, set0, setS, at0, atS, map_some', bind_some', List.length_cons, List.length_nil, List.any_cons, List.any_nil, bag0, bag1, bag2, bag3, bag4, put1, put2, put3, put4, hn, hn2, q2, q3, q4, eX, decide_true, decide_false, and_self, div_c, mul_rc, p10_18, pow_c, Nat.reduceLeDiff, Nat.reduceAdd, if_true, List.length_map, Int.reduceLT, Int.reduceNeg, Int.reducePow, Int.reduceToNat, Int.reduceLE, Nat.reduceLT]
      · have hs4 := M (s * 38377 + cs[j] % 2147483489 * 41143 + 61)
        generalize hs' : (s * 38377 + cs[j] % 2147483489 * 41143 + 61) % 2147483549 = s' at hs4
        have hs5 : s'.natAbs < 18446744073709551616 := by omega
        generalize hz : (s' ^ 3 + s' * 37813 + (c + 1) * 1299689 + 65437) % 2147483549 = z
        refine ⟨(z / 89 + z % 7919 * 71) % n, bagC (cs.map .int) (j + 1) 0 z (c + 1), ?_, Int.emod_nonneg _ (by omega), Int.emod_lt_of_pos _ hn, ⟨_, _, _, _, _, rfl, hcs, by omega, by omega, by rw [← hz]; exact (M _).1, by rw [← hz]; exact (M _).2⟩⟩
        refine fin (ε := []) ?_
        simp only [mPull, ↓seq_ap, ↓var_ap, ↓c_ap, ↓bin_ap, ↓tst_ap, ↓not_ap, ↓and_ap, ↓or_ap, ↓if_ap, ↓andv_ap, ↓orv_ap, ↓notv_ap, ↓nil_ap, ↓cons_ap, ↓tup_ap, ↓lst_ap, ↓call_ap, ↓callP_ap, ↓callI_ap, ↓perm_ap, ↓nop_ap, ↓smp_ap, ↓sl_ap, ↓chain_ap, ↓isi_ap, ↓lc_ap, ↓lstC_ap, ↓mts_ap, ↓yes_ap, ↓il_ap, ↓it_ap, ↓is_ap, ↓ir1_ap, ↓iz_ap, ↓snil_ap, ↓ret_ap, ↓sif_ap, ↓sexpr_ap, ↓bk_ap, ↓ct_ap, ↓asg_ap, ↓for_ap, ↓par_ap, ↓gname_ap, ↓gnil_ap, ↓gcons_ap, ↓gtup_ap, ↓gsub_ap, bR_ok, bR_ex, rt_some, sq_nx, sq_rt, sq_bk, sq_ct, sq_ex, bS_ok, bS_ex, binK1_ap, binK2_ap, tstK_b, notK_ap, andK_t, andK_f, orK_t, orK_f, ifK_t, ifK_f, andV_t, andV_f, orV_t, orV_f, notV_c, consK1_ap, consK2_ap, tupK_ok, lstK_ok, callK_ap, permK_ap, smP_int, slK1_ap, slK2_ap, slK3_ap, sl_lst, sl_scr, sl_tup, chK1_ap, chK2_ap, chK3_t, chK3_f, chK4_ap, isiK_int, isiK_str, isiK_bl, isiK_non, isiK_tup, isiK_lst, mtsK_str, mtsK2_ap, ilK_lst, ilK_scr, itK_tup, isK_str, izK_l, izK_t, retK_ap, sifK_t, sifK_f, sexprK_ap, asgK_ap, bG_ok, forK_ap, parK_ok, gK_ok, subK1_ok, subK2_ok, add_int, sub_int, mod_int, lt_int, le_int, gt_int, ge_int, eq_int, eq_str, eq_bl, eq_is, eq_si, eq_bs, eq_sb, eq_nn, ne_int, ne_str, ne_bl, isn_ap, isN_int, isN_str, isN_bl, isN_tup, isN_lst, isN_non, ix_lst, ix_tup, ix_scr, len_lst, len_tup, int_int, list_lst, list_tup, tuple_lst, tuple_tup, asB_bl, getD0, getDS, set0, setS, at0, atS, map_some', bind_some', List.length_cons, List.length_nil, List.any_cons, List.any_nil, bag0, bag1, bag2, bag3, bag4, put1, put2, put3, put4, hn, hn2, q2, q3, eX, decide_true, decide_false, and_self, div_c, mul_rc, p10_18, pow_c, Nat.reduceLeDiff, Nat.reduceAdd, if_true, List.length_map, Int.reduceLT, Int.reduceNeg, Int.reducePow, Int.reduceToNat, Int.reduceLE, Nat.reduceLT, hs', hs5, hz]
    · have hs5 : s.natAbs < 18446744073709551616 := by omega
      generalize hz : (s ^ 3 + s * 37813 + (c + 1) * 1299689 + 65437) % 2147483549 = z
      refine ⟨(z / 89 + z % 7919 * 71) % n, bagC (cs.map .int) i 0 z (c + 1), ?_, Int.emod_nonneg _ (by omega), Int.emod_lt_of_pos _ hn, ⟨_, _, _, _, _, rfl, hcs, by omega, by omega, by rw [← hz]; exact (M _).1, by rw [← hz]; exact (M _).2⟩⟩
      refine fin (ε := []) ?_
      simp only [mPull, ↓seq_ap, ↓var_ap, ↓c_ap, ↓bin_ap, ↓tst_ap, ↓not_ap, ↓and_ap, ↓or_ap, ↓if_ap, ↓andv_ap, ↓orv_ap, ↓notv_ap, ↓nil_ap, ↓cons_ap, ↓tup_ap, ↓lst_ap, ↓call_ap, ↓callP_ap, ↓callI_ap, ↓perm_ap, ↓nop_ap, ↓smp_ap, ↓sl_ap, ↓chain_ap, ↓isi_ap, ↓lc_ap, ↓lstC_ap, ↓mts_ap, ↓yes_ap, ↓il_ap, ↓it_ap, ↓is_ap, ↓ir1_ap, ↓iz_ap, ↓snil_ap, ↓ret_ap, ↓sif_ap, ↓sexpr_ap, ↓bk_ap, ↓ct_ap, ↓asg_ap, ↓for_ap, ↓par_ap, ↓gname_ap, ↓gnil_ap, ↓gcons_ap, ↓gtup_ap, ↓gsub_ap, bR_ok, bR_ex, rt_some, sq_nx, sq_rt, sq_bk, sq_ct, sq_ex, bS_ok, bS_ex, binK1_ap, binK2_ap, tstK_b, notK_ap, andK_t, andK_f, orK_t, orK_f, ifK_t, ifK_f, andV_t, andV_f, orV_t, orV_f, notV_c, consK1_ap, consK2_ap, tupK_ok, lstK_ok, callK_ap, permK_ap, smP_int, slK1_ap, slK2_ap, slK3_ap, sl_lst, sl_scr, sl_tup, chK1_ap, chK2_ap, chK3_t, chK3_f, chK4_ap, isiK_int, isiK_str, isiK_bl, isiK_non, isiK_tup, isiK_lst, mtsK_str, mtsK2_ap, ilK_lst, ilK_scr, itK_tup, isK_str, izK_l, izK_t, retK_ap, sifK_t, sifK_f, sexprK_ap, asgK_ap, bG_ok, forK_ap, parK_ok, gK_ok, subK1_ok, subK2_ok, add_int, sub_int, mod_int, lt_int, le_int, gt_int, ge_int, eq_int, eq_str, eq_bl, eq_is, eq_si, eq_bs, eq_sb, eq_nn, ne_int, ne_str, ne_bl, isn_ap, isN_int, isN_str, isN_bl, isN_tup, isN_lst, isN_non, ix_lst, ix_tup, ix_scr, len_lst, len_tup, int_int, list_lst, list_tup, tuple_lst, tuple_tup, asB_bl, getD0, getDS, set0, setS, at0, atS, map_some', bind_some', List.length_cons, List.length_nil, List.any_cons, List.any_nil, bag0, bag1, bag2, bag3, bag4, put1, put2, put3, put4, hn, hn2, q2, decide_true, decide_false, and_self, div_c, mul_rc, p10_18, pow_c, Nat.reduceLeDiff, Nat.reduceAdd, if_true, List.length_map, Int.reduceLT, Int.reduceNeg, Int.reducePow, Int.reduceToNat, Int.reduceLE, Nat.reduceLT, hs5, hz]
  · have q2 : 0 < b := by omega
    refine ⟨b % n, bagC (cs.map .int) i (b / n) s (c + 1), ?_, Int.emod_nonneg _ (by omega), Int.emod_lt_of_pos _ hn, ⟨_, _, _, _, _, rfl, hcs, hi, Int.ediv_nonneg hb (by omega), hs, hs2⟩⟩
    refine fin (ε := []) ?_
    simp only [mPull, ↓seq_ap, ↓var_ap, ↓c_ap, ↓bin_ap, ↓tst_ap, ↓not_ap, ↓and_ap, ↓or_ap, ↓if_ap, ↓andv_ap, ↓orv_ap, ↓notv_ap, ↓nil_ap, ↓cons_ap, ↓tup_ap, ↓lst_ap, ↓call_ap, ↓callP_ap, ↓callI_ap, ↓perm_ap, ↓nop_ap, ↓smp_ap, ↓sl_ap, ↓chain_ap, ↓isi_ap, ↓lc_ap, ↓lstC_ap, ↓mts_ap, ↓yes_ap, ↓il_ap, ↓it_ap, ↓is_ap, ↓ir1_ap, ↓iz_ap, ↓snil_ap, ↓ret_ap, ↓sif_ap, ↓sexpr_ap, ↓bk_ap, ↓ct_ap, ↓asg_ap, ↓for_ap, ↓par_ap, ↓gname_ap, ↓gnil_ap, ↓gcons_ap, ↓gtup_ap, ↓gsub_ap, bR_ok, bR_ex, rt_some, sq_nx, sq_rt, sq_bk, sq_ct, sq_ex, bS_ok, bS_ex, binK1_ap, binK2_ap, tstK_b, notK_ap, andK_t, andK_f, orK_t, orK_f, ifK_t, ifK_f, andV_t, andV_f, orV_t, orV_f, notV_c, consK1_ap, consK2_ap, tupK_ok, lstK_ok, callK_ap, permK_ap, smP_int, slK1_ap, slK2_ap, slK3_ap, sl_lst, sl_scr, sl_tup, chK1_ap, chK2_ap, chK3_t, chK3_f, chK4_ap, isiK_int, isiK_str, isiK_bl, isiK_non, isiK_tup, isiK_lst, mtsK_str, mtsK2_ap, ilK_lst, ilK_scr, itK_tup, isK_str, izK_l, izK_t, retK_ap, sifK_t, sifK_f, sexprK_ap, asgK_ap, bG_ok, forK_ap, parK_ok, gK_ok, subK1_ok, subK2_ok, add_int, sub_int, mod_int, lt_int, le_int, gt_int, ge_int, eq_int, eq_str, eq_bl, eq_is, eq_si, eq_bs, eq_sb, eq_nn, ne_int, ne_str, ne_bl, isn_ap, isN_int, isN_str, isN_bl, isN_tup, isN_lst, isN_non, ix_lst, ix_tup, ix_scr, len_lst, len_tup, int_int, list_lst, list_tup, tuple_lst, tuple_tup, asB_bl, getD0, getDS, set0, setS, at0, atS, map_some', bind_some', List.length_cons, List.length_nil, List.any_cons, List.any_nil, bag0, bag1, bag2, bag3, bag4, put1, put2, put3, put4, hn, hn2, q1, q2, decide_true, decide_false, and_self, div_c, Nat.reduceLeDiff, Nat.reduceAdd, if_true]
end PD
local macro_rules
  | `(tactic| simp? only [$xs,*] $[$l]?) => `(tactic| simp only [↓PD.seq_ap, ↓PD.var_ap, ↓PD.c_ap, ↓PD.bin_ap, ↓PD.tst_ap, ↓PD.not_ap, ↓PD.and_ap, ↓PD.or_ap, ↓PD.if_ap, ↓PD.andv_ap, ↓PD.orv_ap, ↓PD.notv_ap, ↓PD.nil_ap, ↓PD.cons_ap, ↓PD.tup_ap, ↓PD.lst_ap, ↓PD.call_ap, ↓PD.callP_ap, ↓PD.callI_ap, ↓PD.perm_ap, ↓PD.nop_ap, ↓PD.smp_ap, ↓PD.sl_ap, ↓PD.chain_ap, ↓PD.isi_ap, ↓PD.lc_ap, ↓PD.lstC_ap, ↓PD.mts_ap, ↓PD.yes_ap, ↓PD.il_ap, ↓PD.it_ap, ↓PD.is_ap, ↓PD.ir1_ap, ↓PD.iz_ap, ↓PD.snil_ap, ↓PD.ret_ap, ↓PD.sif_ap, ↓PD.sexpr_ap, ↓PD.bk_ap, ↓PD.ct_ap, ↓PD.asg_ap, ↓PD.for_ap, ↓PD.par_ap, ↓PD.gname_ap, ↓PD.gnil_ap, ↓PD.gcons_ap, ↓PD.gtup_ap, ↓PD.gsub_ap, PD.bR_ok, PD.bR_ex, PD.rt_some, PD.sq_nx, PD.sq_rt, PD.sq_bk, PD.sq_ct, PD.sq_ex, PD.bS_ok, PD.bS_ex, PD.binK1_ap, PD.binK2_ap, PD.tstK_b, PD.notK_ap, PD.andK_t, PD.andK_f, PD.orK_t, PD.orK_f, PD.ifK_t, PD.ifK_f, PD.andV_t, PD.andV_f, PD.orV_t, PD.orV_f, PD.notV_c, PD.consK1_ap, PD.consK2_ap, PD.tupK_ok, PD.lstK_ok, PD.callK_ap, PD.permK_ap, PD.smP_int, PD.slK1_ap, PD.slK2_ap, PD.slK3_ap, PD.sl_lst, PD.sl_scr, PD.sl_tup, PD.chK1_ap, PD.chK2_ap, PD.chK3_t, PD.chK3_f, PD.chK4_ap, PD.isiK_int, PD.isiK_str, PD.isiK_bl, PD.isiK_non, PD.isiK_tup, PD.isiK_lst, PD.mtsK_str, PD.mtsK2_ap, PD.ilK_lst, PD.ilK_scr, PD.itK_tup, PD.isK_str, PD.izK_l, PD.izK_t, PD.retK_ap, PD.sifK_t, PD.sifK_f, PD.sexprK_ap, PD.asgK_ap, PD.bG_ok, PD.forK_ap, PD.parK_ok, PD.gK_ok, PD.subK1_ok, PD.subK2_ok, PD.add_int, PD.sub_int, PD.mod_int, PD.lt_int, PD.le_int, PD.gt_int, PD.ge_int, PD.eq_int, PD.eq_str, PD.eq_bl, PD.eq_is, PD.eq_si, PD.eq_bs, PD.eq_sb, PD.eq_nn, PD.ne_int, PD.ne_str, PD.ne_bl, PD.isn_ap, PD.isN_int, PD.isN_str, PD.isN_bl, PD.isN_tup, PD.isN_lst, PD.isN_non, PD.ix_lst, PD.ix_tup, PD.ix_scr, PD.len_lst, PD.len_tup, PD.int_int, PD.list_lst, PD.list_tup, PD.tuple_lst, PD.tuple_tup, PD.asB_bl, PD.getD0, PD.getDS, PD.set0, PD.setS, PD.at0, PD.atS, PD.map_some', PD.bind_some', List.length_cons, List.length_nil, List.any_cons, List.any_nil, decide_true, decide_false, and_self, Nat.reduceLeDiff, Nat.reduceAdd, if_true, Int.reduceLT, Int.reduceNeg, Int.reducePow, Int.reduceToNat, Int.reduceLE, Nat.reduceLT, Int.reduceAdd, Int.reduceSub, Bool.not_true, Bool.not_false, Int.reduceEq, bne_self_eq_false, Bool.false_bne, Bool.true_bne, Int.reduceBNe, $xs,*] $[$l]?)
namespace PD
open PySem PySem.Spec PyProof.Rows L2
def F_pull : IF := runI 5 mPull
theorem lcL_map {g : MG} {t : M Bool} {e : M D} (f : D → D) {ε : Ev} {h : EH} : ∀ {ds : List D}, (∀ d ∈ ds, ∃ ε1, g d ε h = some (ε1, h) ∧ t ε1 h = some (.ok true, h) ∧ e ε1 h = some (.ok (f d), h)) → lcL g t e ds ε h = some (ds.map f, h)
  | [], _ => rfl
  | d :: ds, H => by
    obtain ⟨ε1, h1, h2, h3⟩ := H d List.mem_cons_self
    unfold lcL
    simp only [h1, h2, h3, lcL_map f fun x hx => H x (List.mem_cons_of_mem _ hx), List.map_cons]
theorem asBs_map {α : Type} (f : α → Bool) : ∀ ds : List α, asBs (ds.map fun d => .bl (f d)) = some (ds.map f)
  | [] => rfl
  | d :: ds => by
    rw [List.map_cons]
    unfold asBs
    rw [asBs_map f ds]; rfl
theorem atI_in {α : Type} {ds : List α} {i : Int} (h0 : 0 ≤ i) (h1 : i < (ds.length : Int)) : ∃ x ∈ ds, atI ds i = some x := by
  have hj : i.toNat < ds.length := by omega
  exact ⟨ds[i.toNat], List.getElem_mem hj, by rw [atI_nat ds i.toNat i (by omega), List.getElem?_eq_getElem hj]⟩
def mAny : MS :=
    (msRet (mBin dIx (mVar 1) (mCallI F_pull (mCons (mVar 0) (mCons (mCall dLen (mCons (mVar 1) mNil)) mNil)))))
def F_any : IF := runI 2 mAny
theorem any_lst {k : Cell} (hk : BagI k) {ds : List D} (h0 : 0 < ds.length) (h1 : ds.length < 1073741824) (hr : ∀ d ∈ ds, noRef d = true) (t : EH) : ∃ d k', F_any [.ref 0, .lst ds] (k :: t) = some (.ok d, k' :: t) ∧ d ∈ ds ∧ BagI k' := by
  obtain ⟨i, k', e, i0, i1, hk'⟩ := pull_ok hk (n := (ds.length : Int)) (by omega) (by omega) t
  obtain ⟨d, hd, ed⟩ := atI_in i0 i1
  refine ⟨d, k', ?_, hd, hk'⟩
  show endI _ (mAny [some (.ref 0), some (.lst ds)] (k :: t)) = _
  have e' : F_pull [.ref 0, .int ds.length] (k :: t) = some (.ok (.int i), k' :: t) := e
  simp only [mAny, ↓seq_ap, ↓var_ap, ↓c_ap, ↓bin_ap, ↓tst_ap, ↓not_ap, ↓and_ap, ↓or_ap, ↓if_ap, ↓andv_ap, ↓orv_ap, ↓notv_ap, ↓nil_ap, ↓cons_ap, ↓tup_ap, ↓lst_ap, ↓call_ap, ↓callP_ap, ↓callI_ap, ↓perm_ap, ↓nop_ap, ↓smp_ap, ↓sl_ap, ↓chain_ap, ↓isi_ap, ↓lc_ap, ↓lstC_ap, ↓mts_ap, ↓yes_ap, ↓il_ap, ↓it_ap, ↓is_ap, ↓ir1_ap, ↓iz_ap, ↓snil_ap, ↓ret_ap, ↓sif_ap, ↓sexpr_ap, ↓bk_ap, ↓ct_ap, ↓asg_ap, ↓for_ap, ↓par_ap, ↓gname_ap, ↓gnil_ap, ↓gcons_ap, ↓gtup_ap, ↓gsub_ap, bR_ok, bR_ex, rt_some, sq_nx, sq_rt, sq_bk, sq_ct, sq_ex, bS_ok, bS_ex, binK1_ap, binK2_ap, tstK_b, notK_ap, andK_t, andK_f, orK_t, orK_f, ifK_t, ifK_f, andV_t, andV_f, orV_t, orV_f, notV_c, consK1_ap, consK2_ap, tupK_ok, lstK_ok, callK_ap, permK_ap, smP_int, slK1_ap, slK2_ap, slK3_ap, sl_lst, sl_scr, sl_tup, chK1_ap, chK2_ap, chK3_t, chK3_f, chK4_ap, isiK_int, isiK_str, isiK_bl, isiK_non, isiK_tup, isiK_lst, mtsK_str, mtsK2_ap, ilK_lst, ilK_scr, itK_tup, isK_str, izK_l, izK_t, retK_ap, sifK_t, sifK_f, sexprK_ap, asgK_ap, bG_ok, forK_ap, parK_ok, gK_ok, subK1_ok, subK2_ok, add_int, sub_int, mod_int, lt_int, le_int, gt_int, ge_int, eq_int, eq_str, eq_bl, eq_is, eq_si, eq_bs, eq_sb, eq_nn, ne_int, ne_str, ne_bl, isn_ap, isN_int, isN_str, isN_bl, isN_tup, isN_lst, isN_non, ix_lst, ix_tup, ix_scr, len_lst, len_tup, int_int, list_lst, list_tup, tuple_lst, tuple_tup, asB_bl, getD0, getDS, set0, setS, at0, atS, map_some', bind_some', List.length_cons, List.length_nil, List.any_cons, List.any_nil, e', ed]
  exact endI_ok rfl (hr d hd)
def mDraws : MS :=
    (msSeq (msAsg (mC (.int 5648)) (mgName 1))
    (msSeq (msFor (miL (mSl (mVar 0) mNoP (mSmP (mC (.int 63))))) (mgName 2) (msAsg (mBin dMod (mCall dInt (mCons (mBin dAdd (mBin dAdd (mBin dMul (mVar 1) (mC (.int 44021))) (mBin dMod (mCall dInt (mCons (mVar 2) mNil)) (mC (.int 2147483489)))) (mC (.int 53))) mNil)) (mC (.int 2147483549))) (mgName 1)))
    (msRet (mLstC (mCons (mCall dList (mCons (mSl (mVar 0) mNoP (mSmP (mC (.int 63)))) mNil)) (mCons (mC (.int 0)) (mCons (mC (.int 0)) (mCons (mVar 1) (mCons (mC (.int 0)) mNil)))))))))
def F_draws : IF := runA 3 mDraws
theorem draws_loop {x : D} : ∀ (ns : List Int) (s : Int) (o : Option D), 0 ≤ s → s < 2147483549 → ∃ s' o', forL (mgName 2) (msAsg (mBin dMod (mCall dInt (mCons (mBin dAdd (mBin dAdd (mBin dMul (mVar 1) (mC (.int 44021))) (mBin dMod (mCall dInt (mCons (mVar 2) mNil)) (mC (.int 2147483489)))) (mC (.int 53))) mNil)) (mC (.int 2147483549))) (mgName 1)) (ns.map .int) [some x, some (.int s), o] [] = some (.nx [some x, some (.int s'), o'], []) ∧ 0 ≤ s' ∧ s' < 2147483549
  | [], s, o, h0, h1 => ⟨s, o, rfl, h0, h1⟩
  | n :: ns, s, o, h0, h1 => by
    obtain ⟨s', o', e, r⟩ := draws_loop ns ((s * 44021 + n % 2147483489 + 53) % 2147483549) (some (.int n)) (Int.emod_nonneg _ (by decide)) (Int.emod_lt_of_pos _ (by decide))
    refine ⟨s', o', ?_, r⟩
    rw [List.map_cons]
    unfold forL
    simp? only [mul_rc]
    exact e
theorem cut63 {α : Type} {ns : List α} (h : ns.length ≤ 63) : cutD ns none (some 63) = ns := by
  unfold cutD
  have e1 : HT.sIx ns.length 0 none = 0 := rfl
  have e2 : HT.sIx ns.length ns.length (some 63) = ns.length := by
    show (if (63 : Int) < 0 then ((63 : Int) + (ns.length : Int)).toNat else min (63 : Int).toNat ns.length) = _
    rw [if_neg (by decide)]
    show min 63 ns.length = _
    omega
  rw [e1, e2]
  simp
theorem draws_ok {ns : List Int} (h : ns.length ≤ 63) : ∃ k, F_draws [.scr (ns.map .int)] [] = some (.ok (.ref 0), [k]) ∧ BagI k := by
  obtain ⟨s', o', e, r0, r1⟩ := draws_loop (x := .scr (ns.map .int)) ns 5648 none (by decide) (by decide)
  refine ⟨bagC (ns.map .int) 0 0 s' 0, ?_, ⟨_, _, _, _, _, rfl, h, by decide, by decide, r0, r1⟩⟩
  show endA _ (mDraws [some (.scr (ns.map .int)), none, none] []) = _
  have l : (ns.map D.int).length ≤ 63 := by simpa using h
  simp? only [mDraws, cut63 l, e, lstCK_ok]
  rfl
def mLike (F : PF) : MS :=
    (msSeq (msIf (mTst (mIsi [.lst, .tup] (mVar 1))) (msSeq (msAsg (mAndV (mBin dEq (mIsi [.lst] (mVar 0)) (mIsi [.lst] (mVar 1))) (mBin dEq (mIsi [.tup] (mVar 0)) (mIsi [.tup] (mVar 1)))) (mgName 2))
    (msRet (mAndV (mVar 2) (mAndV (mBin dEq (mCall dLen (mCons (mVar 0) mNil)) (mCall dLen (mCons (mVar 1) mNil))) (mCall dAll (mCons (mLc [3, 4] (miZip (mCons (mVar 0) (mCons (mVar 1) mNil))) (mgTup 2 (mgCons (mgName 3) (mgCons (mgName 4) mgNil))) mYes (mCallP F (mCons (mVar 3) (mCons (mVar 4) mNil)))) mNil)))))) msNil)
    (msSeq (msIf (mOr (mTst (mBin (dIsN false) (mVar 0) (mC .non))) (mOr (mTst (mBin (dIsN false) (mVar 1) (mC .non))) (mTst (mBin dNe (mIsi [.bool] (mVar 0)) (mIsi [.bool] (mVar 1)))))) (msRet (mAndV (mBin (dIsN false) (mVar 0) (mC .non)) (mBin (dIsN false) (mVar 1) (mC .non)))) msNil)
    (msRet (mAndV (mBin dEq (mIsi [.int] (mVar 0)) (mIsi [.int] (mVar 1))) (mAndV (mBin dEq (mIsi [.str] (mVar 0)) (mIsi [.str] (mVar 1))) (mBin dEq (mVar 0) (mVar 1)))))))
def F_like_ : Nat → PF
  | 0 => fun _ => none
  | t + 1 => runP 5 (mLike (F_like_ t))
/-- data of a depth -/
def okD : Nat → D → Bool
  | 0, _ => false
  | _ + 1, .non => true
  | _ + 1, .bl _ => true
  | _ + 1, .int _ => true
  | _ + 1, .str _ => true
  | t + 1, .tup ds => decide (ds.length ≤ 16777216) && ds.all (okD t)
  | t + 1, .lst ds => decide (ds.length ≤ 16777216) && ds.all (okD t)
  | _ + 1, _ => false
theorem noRef_all : ∀ {ds : List D}, (∀ d ∈ ds, noRef d = true) → noRef.go ds = true
  | [], _ => rfl
  | d :: ds, h => by
    rw [noRef.go, h d List.mem_cons_self, noRef_all fun x hx => h x (List.mem_cons_of_mem _ hx)]; rfl
theorem okD_noRef : ∀ {t : Nat} {d : D}, okD t d = true → noRef d = true
  | 0, _, e => by cases e
  | t + 1, .non, _ => rfl
  | t + 1, .bl _, _ => rfl
  | t + 1, .int _, _ => rfl
  | t + 1, .str _, _ => rfl
  | t + 1, .tup ds, e => by
    rw [noRef]
    exact noRef_all fun d hd => okD_noRef (t := t) (List.all_eq_true.mp (Bool.and_eq_true_iff.mp (show (decide (ds.length ≤ 16777216) && ds.all (okD t)) = true from e)).2 d hd)
  | t + 1, .lst ds, e => by
    rw [noRef]
    exact noRef_all fun d hd => okD_noRef (t := t) (List.all_eq_true.mp (Bool.and_eq_true_iff.mp (show (decide (ds.length ≤ 16777216) && ds.all (okD t)) = true from e)).2 d hd)
  | t + 1, .scr _, e => by cases e
  | t + 1, .dic _ _, e => by cases e
  | t + 1, .obj _ _, e => by cases e
  | t + 1, .ref _, e => by cases e
theorem okD_up : ∀ {t : Nat} {d : D}, okD t d = true → okD (t + 1) d = true
  | 0, _, e => by cases e
  | t + 1, .non, _ => rfl
  | t + 1, .bl _, _ => rfl
  | t + 1, .int _, _ => rfl
  | t + 1, .str _, _ => rfl
  | t + 1, .tup ds, e => by
    have e' := Bool.and_eq_true_iff.mp (show (decide (ds.length ≤ 16777216) && ds.all (okD t)) = true from e)
    exact Bool.and_eq_true_iff.mpr ⟨e'.1, List.all_eq_true.mpr fun d hd => okD_up (List.all_eq_true.mp e'.2 d hd)⟩
  | t + 1, .lst ds, e => by
    have e' := Bool.and_eq_true_iff.mp (show (decide (ds.length ≤ 16777216) && ds.all (okD t)) = true from e)
    exact Bool.and_eq_true_iff.mpr ⟨e'.1, List.all_eq_true.mpr fun d hd => okD_up (List.all_eq_true.mp e'.2 d hd)⟩
  | t + 1, .scr _, e => by cases e
  | t + 1, .dic _ _, e => by cases e
  | t + 1, .obj _ _, e => by cases e
  | t + 1, .ref _, e => by cases e
theorem okD_le {t u : Nat} {d : D} (h : okD t d = true) (l : t ≤ u) : okD u d = true := by
  induction l with
  | refl => exact h
  | step _ ih => exact okD_up ih
theorem zip_self : ∀ ds : List D, zipD ds ds = ds.map fun d => .tup [d, d]
  | [] => rfl
  | d :: ds => by
    have := zip_self ds
    unfold zipD at this ⊢
    rw [List.zip_cons_cons, List.map_cons, this, List.map_cons]
theorem like_lc {t : Nat} {ds : List D} {a b c : Option D} (hl : ds.length ≤ 16777216) (hd : ∀ d ∈ ds, noRef d = true) (ih : ∀ d ∈ ds, F_like_ t [d, d] = some (.ok (.bl true))) :
    lcL (mgTup 2 (mgCons (mgName 3) (mgCons (mgName 4) mgNil))) mYes (mCallP (F_like_ t) (mCons (mVar 3) (mCons (mVar 4) mNil))) (zipD ds ds) [a, b, c, none, none] [] = some (ds.map fun _ => .bl true, []) := by
  have := lcL_map (g := mgTup 2 (mgCons (mgName 3) (mgCons (mgName 4) mgNil))) (t := mYes) (e := mCallP (F_like_ t) (mCons (mVar 3) (mCons (mVar 4) mNil))) (fun _ => .bl true) (ε := [a, b, c, none, none]) (h := []) (ds := zipD ds ds) fun x hx => by
    rw [zip_self] at hx
    obtain ⟨d, hd1, rfl⟩ := List.mem_map.mp hx
    refine ⟨[a, b, c, some d, some d], rfl, rfl, ?_⟩
    have e2 : noRef.go [d, d] = true := by rw [noRef.go, noRef.go, hd d hd1]; rfl
    simp only [↓seq_ap, ↓var_ap, ↓c_ap, ↓bin_ap, ↓tst_ap, ↓not_ap, ↓and_ap, ↓or_ap, ↓if_ap, ↓andv_ap, ↓orv_ap, ↓notv_ap, ↓nil_ap, ↓cons_ap, ↓tup_ap, ↓lst_ap, ↓call_ap, ↓callP_ap, ↓callI_ap, ↓perm_ap, ↓nop_ap, ↓smp_ap, ↓sl_ap, ↓chain_ap, ↓isi_ap, ↓lc_ap, ↓lstC_ap, ↓mts_ap, ↓yes_ap, ↓il_ap, ↓it_ap, ↓is_ap, ↓ir1_ap, ↓iz_ap, ↓snil_ap, ↓ret_ap, ↓sif_ap, ↓sexpr_ap, ↓bk_ap, ↓ct_ap, ↓asg_ap, ↓for_ap, ↓par_ap, ↓gname_ap, ↓gnil_ap, ↓gcons_ap, ↓gtup_ap, ↓gsub_ap, bR_ok, bR_ex, rt_some, sq_nx, sq_rt, sq_bk, sq_ct, sq_ex, bS_ok, bS_ex, binK1_ap, binK2_ap, tstK_b, notK_ap, andK_t, andK_f, orK_t, orK_f, ifK_t, ifK_f, andV_t, andV_f, orV_t, orV_f, notV_c, consK1_ap, consK2_ap, tupK_ok, lstK_ok, callK_ap, permK_ap, smP_int, slK1_ap, slK2_ap, slK3_ap, sl_lst, sl_scr, sl_tup, chK1_ap, chK2_ap, chK3_t, chK3_f, chK4_ap, isiK_int, isiK_str, isiK_bl, isiK_non, isiK_tup, isiK_lst, mtsK_str, mtsK2_ap, ilK_lst, ilK_scr, itK_tup, isK_str, izK_l, izK_t, retK_ap, sifK_t, sifK_f, sexprK_ap, asgK_ap, bG_ok, forK_ap, parK_ok, gK_ok, subK1_ok, subK2_ok, add_int, sub_int, mod_int, lt_int, le_int, gt_int, ge_int, eq_int, eq_str, eq_bl, eq_is, eq_si, eq_bs, eq_sb, eq_nn, ne_int, ne_str, ne_bl, isn_ap, isN_int, isN_str, isN_bl, isN_tup, isN_lst, isN_non, ix_lst, ix_tup, ix_scr, len_lst, len_tup, int_int, list_lst, list_tup, tuple_lst, tuple_tup, asB_bl, getD0, getDS, set0, setS, at0, atS, map_some', bind_some', List.length_cons, List.length_nil, List.any_cons, List.any_nil, callPK_ok (ih d hd1) e2]
  rw [this, zip_self, List.map_map]
  rfl
theorem like_refl : ∀ {t : Nat} {d : D}, okD t d = true → F_like_ t [d, d] = some (.ok (.bl true))
  | 0, _, e => by cases e
  | t + 1, .non, _ => by
    show endP (mLike (F_like_ t) [some .non, some .non, none, none, none] []) = _
    simp? only [mLike, isa, Bool.or_false, Bool.or_true, Bool.and_true, Bool.and_false, Bool.or_self]
    exact endP_ok rfl
  | t + 1, .bl b, _ => by
    show endP (mLike (F_like_ t) [some (.bl b), some (.bl b), none, none, none] []) = _
    simp? only [mLike, isa, Bool.or_false, Bool.or_true, Bool.and_true, Bool.and_false, Bool.or_self]
    exact endP_ok rfl
  | t + 1, .int i, _ => by
    show endP (mLike (F_like_ t) [some (.int i), some (.int i), none, none, none] []) = _
    simp? only [mLike, isa, Bool.or_false, Bool.or_true, Bool.and_true, Bool.and_false, Bool.or_self]
    exact endP_ok rfl
  | t + 1, .str z, _ => by
    show endP (mLike (F_like_ t) [some (.str z), some (.str z), none, none, none] []) = _
    simp? only [mLike, isa, Bool.or_false, Bool.or_true, Bool.and_true, Bool.and_false, Bool.or_self]
    exact endP_ok rfl
  | t + 1, .tup ds, e => by
    obtain ⟨e1, e2⟩ := Bool.and_eq_true_iff.mp (show (decide (ds.length ≤ 16777216) && ds.all (okD t)) = true from e)
    have hl : ds.length ≤ 16777216 := of_decide_eq_true e1
    have hA := List.all_eq_true.mp e2
    have lc := like_lc (t := t) (a := some (.tup ds)) (b := some (.tup ds)) (c := some (.bl true)) hl (fun d hd => okD_noRef (hA d hd)) fun d hd => like_refl (hA d hd)
    have lk := lcK_ok (vs := [3, 4]) (ε := [some (.tup ds), some (.tup ds), some (.bl true), none, none]) (h := []) lc (by simpa using hl)
    show endP (mLike (F_like_ t) [some (.tup ds), some (.tup ds), none, none, none] []) = _
    simp? only [mLike, isa, Bool.or_false, Bool.or_true, Bool.and_true, Bool.and_false, Bool.or_self, lk, all_lst (asBs_map (fun _ => true) ds)]
    rw [show (ds.map fun _ => true).all id = true by simp]
    exact endP_ok rfl
  | t + 1, .lst ds, e => by
    obtain ⟨e1, e2⟩ := Bool.and_eq_true_iff.mp (show (decide (ds.length ≤ 16777216) && ds.all (okD t)) = true from e)
    have hl : ds.length ≤ 16777216 := of_decide_eq_true e1
    have hA := List.all_eq_true.mp e2
    have lc := like_lc (t := t) (a := some (.lst ds)) (b := some (.lst ds)) (c := some (.bl true)) hl (fun d hd => okD_noRef (hA d hd)) fun d hd => like_refl (hA d hd)
    have lk := lcK_ok (vs := [3, 4]) (ε := [some (.lst ds), some (.lst ds), some (.bl true), none, none]) (h := []) lc (by simpa using hl)
    show endP (mLike (F_like_ t) [some (.lst ds), some (.lst ds), none, none, none] []) = _
    simp? only [mLike, isa, Bool.or_false, Bool.or_true, Bool.and_true, Bool.and_false, Bool.or_self, lk, all_lst (asBs_map (fun _ => true) ds)]
    rw [show (ds.map fun _ => true).all id = true by simp]
    exact endP_ok rfl
  | t + 1, .scr _, e => by cases e
  | t + 1, .dic _ _, e => by cases e
  | t + 1, .obj _ _, e => by cases e
  | t + 1, .ref _, e => by cases e
end PD
namespace PD
open PySem PySem.Spec PyProof.Rows L2
def abc : List Nat := [97, 98, 99, 100, 101, 102, 103, 104, 105, 106, 107, 108, 109, 110, 111, 112, 113, 114, 115, 116, 117, 118, 119, 120, 121, 122]
def resv : List (List Nat) := [[97, 110, 100], [102, 111, 117, 110, 100], [107, 101, 121], [110, 101, 120, 116], [110, 111, 116], [111, 114], [111, 119, 110], [115, 101, 116], [116, 114, 117, 101], [119, 104, 101, 114, 101]]
def isNm (z : List Nat) : Bool := decide (1 ≤ z.length) && (decide (z.length ≤ 6) && (!decide (z ∈ resv) && z.all fun c => decide (c ∈ abc)))
def isCol (z : List Nat) : Bool := decide (z = [107, 101, 121]) || isNm z
def isCon (i : Int) : Bool := decide (0 - 1000000000000000000000000000000 ≤ i) && decide (i ≤ 1000000000000000000000000000000)
def sField : List Nat := [102, 105, 101, 108, 100]
def sNumber : List Nat := [110, 117, 109, 98, 101, 114]
def sName : List Nat := [110, 97, 109, 101]
def sOwn : List Nat := [111, 119, 110]
def sNext : List Nat := [110, 101, 120, 116]
def sPlus : List Nat := [112, 108, 117, 115]
inductive Pl where
  | num (n : Int) | name (z : List Nat) | field (z y : List Nat) | own (y : List Nat) | next (y : List Nat)
  deriving DecidableEq
def Pl.d : Pl → D
  | .num n => .tup [.str sNumber, .int n]
  | .name z => .tup [.str sName, .str z]
  | .field z y => .tup [.str sField, .str z, .str y]
  | .own y => .tup [.str sOwn, .str y]
  | .next y => .tup [.str sNext, .str y]
def Pl.ok : Pl → Bool
  | .num n => isCon n
  | .name z => isNm z
  | .field z y => isNm z && isCol y
  | .own y => isCol y
  | .next y => isCol y
inductive Vl where
  | pl (p : Pl) | plus (p : Pl) (m : Int)
  deriving DecidableEq
def Vl.d : Vl → D
  | .pl p => p.d
  | .plus p m => .tup [.str sPlus, p.d, .int m]
def Vl.ok : Vl → Bool
  | .pl p => p.ok
  | .plus p m => p.ok && isCon m
theorem atl0 {a : D} {r : List D} : atI (a :: r) 0 = some a := by
  rw [atI_nat _ 0 0 rfl]; rfl
theorem atl1 {a b : D} {r : List D} : atI (a :: b :: r) 1 = some b := by
  rw [atI_nat _ 1 1 rfl]; rfl
theorem atl2 {a b c : D} {r : List D} : atI (a :: b :: c :: r) 2 = some c := by
  rw [atI_nat _ 2 2 rfl]; rfl
end PD
namespace PD
open PySem PySem.Spec PyProof.Rows L2
def abcAt (n : Nat) : Nat := abc.getD (n % 26) 0
def row (stem : List Nat) (a f k : Nat) : List Nat := stem.take a ++ [abcAt (f + k)] ++ stem.drop a
end PD
namespace PD
open PySem PySem.Spec PyProof.Rows L2
end PD
namespace PD
open PySem PySem.Spec PyProof.Rows L2
section
variable {ε : Ev} {h : EH}
def fldK (Cs : List Str) (f : Str) (x : D) (h1 : EH) : O D := rt (dFld Cs f h1 x) h1
theorem fld_ap (Cs : List Str) (f : Str) (a : M D) : mFld Cs f a ε h = bR (a ε h) (fldK Cs f) := (rfl)
theorem fldK_ap (Cs : List Str) (f : Str) (x : D) : fldK Cs f x h = rt (dFld Cs f h x) h := (rfl)
def meiK2 (F : IF) (x : D) (ds : List D) (h2 : EH) : O D := F (x :: ds) h2
def meiK (C m : Str) (F : IF) (a : M (List D)) (ε : Ev) (x : D) (h1 : EH) : O D := match insD h1 x with
  | some (C', fs) => if C' = C ∧ fs.lookup m = none then bR (a ε h1) (meiK2 F x) else none
  | none => none
theorem mei_ap (C m : Str) (F : IF) (o : M D) (a : M (List D)) : mMeI C m F o a ε h = bR (o ε h) (meiK C m F a ε) := (rfl)
theorem meiK2_ap (F : IF) (x : D) (ds : List D) : meiK2 F x ds h = F (x :: ds) h := (rfl)
def faugK2 (Cs : List Str) (f : Str) (x z : D) (h1 : EH) (ε : Ev) (y : D) (h2 : EH) : Option (RS × EH) := match addI z y with
    | some w => if (insD h1 x).map (·.1) = (insD h2 x).map (·.1) then (putO Cs f h2 x w).map fun h3 => (.nx ε, h3) else none
    | none => none
def faugK (Cs : List Str) (f : Str) (v : M D) (ε : Ev) (x : D) (h1 : EH) : Option (RS × EH) := match dFld Cs f h1 x with
  | some z => bS (v ε h1) ε (faugK2 Cs f x z h1 ε)
  | none => none
theorem faug_ap (Cs : List Str) (f : Str) (o v : M D) : msFAug Cs f o v ε h = bS (o ε h) ε (faugK Cs f v ε) := (rfl)
def sfldK2 (Cs : List Str) (f : Str) (ε : Ev) (y x : D) (h2 : EH) : Option (RS × EH) := (putO Cs f h2 x y).map fun h3 => (.nx ε, h3)
def sfldK (Cs : List Str) (f : Str) (o : M D) (ε : Ev) (y : D) (h1 : EH) : Option (RS × EH) := bS (o ε h1) ε (sfldK2 Cs f ε y)
theorem sfld_ap (Cs : List Str) (f : Str) (o v : M D) : msFld Cs f o v ε h = bS (v ε h) ε (sfldK Cs f o ε) := (rfl)
theorem sfldK_ap (Cs : List Str) (f : Str) (o : M D) (y : D) : sfldK Cs f o ε y h = bS (o ε h) ε (sfldK2 Cs f ε y) := (rfl)
theorem sfldK2_ap (Cs : List Str) (f : Str) (y x : D) : sfldK2 Cs f ε y x h = (putO Cs f h x y).map fun h3 => (.nx ε, h3) := (rfl)
def c1K (f : D → Option D) (x : D) (h1 : EH) : O D := rt (f x) h1
theorem c1_ap (f : D → Option D) (a : M D) : mC1 f a ε h = bR (a ε h) (c1K f) := (rfl)
theorem c1K_ap (f : D → Option D) (x : D) : c1K f x h = rt (f x) h := (rfl)
def ir2K (xs : List D) (h1 : EH) : O (List D) := match xs with
  | [.int i, .int j] => if -(2 ^ 62) ≤ i ∧ i < 2 ^ 62 ∧ -(2 ^ 62) ≤ j ∧ j < 2 ^ 62 then some (.ok (rngD i (j - i).toNat), h1) else none
  | _ => none
theorem ir2_ap (a : M (List D)) : miR2 a ε h = bR (a ε h) ir2K := (rfl)
end
end PD
namespace PD
open PySem PySem.Spec PyProof.Rows L2
end PD
namespace PD
open PySem PySem.Spec PyProof.Rows L2
end PD
namespace PD
open PySem PySem.Spec PyProof.Rows L2
section
variable {ε : Ev} {h : EH}
def iaK (x : D) (h1 : EH) : O (List D) := match x with
  | .lst ds => some (.ok ds, h1)
  | .scr ds => some (.ok ds, h1)
  | .tup ds => some (.ok ds, h1)
  | _ => none
theorem ia_ap (a : M D) : miA a ε h = bR (a ε h) iaK := by
  unfold miA miL miT
  cases a ε h with
  | none => rfl
  | some z =>
    obtain ⟨r, h1⟩ := z
    cases r with
    | ex e => rfl
    | ok x => cases x <;> rfl
theorem iaK_lst (ds : List D) : iaK (.lst ds) h = some (.ok ds, h) := (rfl)
theorem iaK_tup (ds : List D) : iaK (.tup ds) h = some (.ok ds, h) := (rfl)
def ienK (xs : List D) (h1 : EH) : O (List D) := match xs with
  | [x] => (match x with
    | .lst as => some (.ok (enumD as), h1)
    | .tup as => some (.ok (enumD as), h1)
    | _ => none)
  | _ => none
theorem ien_ap (a : M (List D)) : miEn a ε h = bR (a ε h) ienK := (rfl)
theorem ienK_lst (ds : List D) : ienK [.lst ds] h = some (.ok (enumD ds), h) := (rfl)
theorem ienK_tup (ds : List D) : ienK [.tup ds] h = some (.ok (enumD ds), h) := (rfl)
def sortK (x : D) (h1 : EH) : O D := rt ((txD h1 x).map fun zs => .lst ((srtU zs).map .str)) h1
def lenTK (x : D) (h1 : EH) : O D := rt ((txD h1 x).map fun zs => .int (srtU zs).length) h1
theorem sort_ap (a : M D) : mSortT a ε h = bR (a ε h) sortK := (rfl)
theorem lenT_ap (a : M D) : mLenT a ε h = bR (a ε h) lenTK := (rfl)
def cgetK2 (kvs : List (List Nat × D)) (k : List Nat) (z : D) (h2 : EH) : O D := some (.ok ((lkS k kvs).getD z), h2)
def cgetK (kvs : List (List Nat × D)) (b : M D) (ε : Ev) (y : D) (h1 : EH) : O D := match y with
  | .str k => bR (b ε h1) (cgetK2 kvs k)
  | _ => none
theorem cget_ap (kvs : List (List Nat × D)) (a b : M D) : mCGet kvs a b ε h = bR (a ε h) (cgetK kvs b ε) := (rfl)
theorem cgetK_str (kvs : List (List Nat × D)) (b : M D) (k : List Nat) : cgetK kvs b ε (.str k) h = bR (b ε h) (cgetK2 kvs k) := (rfl)
theorem cgetK2_ap (kvs : List (List Nat × D)) (k : List Nat) (z : D) : cgetK2 kvs k z h = some (.ok ((lkS k kvs).getD z), h) := (rfl)
def apK2 (x y : D) (h2 : EH) : O D := (apD h2 x y).map fun h3 => (.ok .non, h3)
def apK (e : M D) (ε : Ev) (x : D) (h1 : EH) : O D := if isLc h1 x = true then bR (e ε h1) (apK2 x) else none
theorem append_ap (o e : M D) : mAppend o e ε h = bR (o ε h) (apK e ε) := (rfl)
theorem apK2_ap (x y : D) : apK2 x y h = (apD h x y).map fun h3 => (.ok .non, h3) := (rfl)
def app2K2 (xs ys : List D) (h2 : EH) : O (List D) := some (.ok (xs ++ ys), h2)
def app2K (b : M (List D)) (ε : Ev) (xs : List D) (h1 : EH) : O (List D) := bR (b ε h1) (app2K2 xs)
theorem app2_ap (a b : M (List D)) : mApp2 a b ε h = bR (a ε h) (app2K b ε) := (rfl)
theorem app2K_ap (b : M (List D)) (xs : List D) : app2K b ε xs h = bR (b ε h) (app2K2 xs) := (rfl)
theorem app2K2_ap (xs ys : List D) : app2K2 xs ys h = some (.ok (xs ++ ys), h) := (rfl)
def par3K (i j l : Nat) (ε : Ev) (ds : List D) (h1 : EH) : Option (RS × EH) := match ds with
  | [d, e, f] => some (.nx (((ε.set i (some d)).set j (some e)).set l (some f)), h1)
  | _ => none
theorem par3_ap (i j l : Nat) (m : M (List D)) : msPar3 i j l m ε h = bS (m ε h) ε (par3K i j l ε) := (rfl)
theorem par3K_ok (i j l : Nat) (d e f : D) : par3K i j l ε [d, e, f] h = some (.nx (((ε.set i (some d)).set j (some e)).set l (some f)), h) := (rfl)
def lc2K (vs : List Nat) (g : MG) (t : M Bool) (mi1 : M (List D)) (g1 : MG) (t1 : M Bool) (e : M D) (vs1 : List Nat) (ε : Ev) (ds : List D) (h1 : EH) : O D := okL (lcL2 g t mi1 g1 t1 e vs1 ds (wipeE ε vs) h1)
theorem lc2_ap (vs : List Nat) (mi : M (List D)) (g : MG) (t : M Bool) (mi1 : M (List D)) (g1 : MG) (t1 : M Bool) (e : M D) (vs1 : List Nat) : mLc2 vs mi g t mi1 g1 t1 e vs1 ε h = bR (mi ε h) (lc2K vs g t mi1 g1 t1 e vs1 ε) := (rfl)
def prpK (C : Str) (F : PF) (x : D) (h1 : EH) : O D := match insD h1 x with
  | some (C', _) => if C' = C ∧ noRef.go [x] = true then (match F [x] with
    | some (.ok d) => some (.ok d, h1)
    | _ => none) else none
  | none => none
theorem prp_ap (C : Str) (F : PF) (o : M D) : mPrp C F o ε h = bR (o ε h) (prpK C F) := (rfl)
def mepK2 (F : PF) (x : D) (ds : List D) (h2 : EH) : O D := if noRef.go (x :: ds) = true then (F (x :: ds)).map fun r => (r, h2) else none
def mepK (C m : Str) (F : PF) (a : M (List D)) (ε : Ev) (x : D) (h1 : EH) : O D := match insD h1 x with
  | some (C', fs) => if C' = C ∧ fs.lookup m = none then bR (a ε h1) (mepK2 F x) else none
  | none => none
theorem mep_ap (C m : Str) (F : PF) (o : M D) (a : M (List D)) : mMeP C m F o a ε h = bR (o ε h) (mepK C m F a ε) := (rfl)
def mkpK (C : Str) (dd : List D) (F : IF) (ds : List D) (h1 : EH) : O D := match F (.ref h1.length :: (ds ++ dd)) (h1 ++ [.obj C []]) with
  | some (.ok .non, h2) => (match frzI h1.length h2 (.ref h1.length), trim h1.length h2 with
    | some d, some h3 => some (.ok d, h3)
    | _, _ => none)
  | some (.ex e, h2) => if noRef.gf e.fs = true then (trim h1.length h2).map fun h3 => (.ex e, h3) else none
  | _ => none
theorem mkp_ap (C : Str) (dd : List D) (F : IF) (a : M (List D)) : mMkP C dd F a ε h = bR (a ε h) (mkpK C dd F) := (rfl)
theorem max2_ap (i j : Int) : dMax2 h [.int i, .int j] = some (.int (if j > i then j else i)) := (rfl)
def augK (i : Nat) (x : D) (ε : Ev) (y : D) (h1 : EH) : Option (RS × EH) := (addI x y).map fun z => (.nx (ε.set i (some z)), h1)
theorem augK_int {i : Nat} {a b : Int} : augK i (.int a) ε (.int b) h = some (.nx (ε.set i (some (.int (a + b)))), h) := (rfl)
def negK (x : D) (h1 : EH) : O D := match x with
  | .int i => some (.ok (.int (-i)), h1)
  | _ => none
theorem neg_ap (a : M D) : mNeg a ε h = bR (a ε h) negK := (rfl)
theorem negK_int (i : Int) : negK (.int i) h = some (.ok (.int (-i)), h) := (rfl)
end
end PD
namespace K01
open PySem PySem.Spec PyProof.Rows L2 PD
variable [LamTab]
def lams : Nat → LamD
  | _ => ⟨"", ⟨[], [], none, [], [], none, []⟩, .Constant .none 0 noPos, { kind := .function, names := [], isGenerator := false, isCoroutine := false }, [], false⟩
structure CtxT (P : Program) (K : PySem.W.Frag) (w : World) (mg : Str → Option Value) : Prop where
  d__law_draws : ∃ f fd, FunD K "_law_draws" "_law_draws" (defArgs (top 30)) (defBody (top 30)) (defScope (top 30)) [] [] f fd ∧ mg "_law_draws" = some (.ref f)
  d__law_given : ∃ f fd, FunD K "_law_given" "_law_given" (defArgs (top 36)) (defBody (top 36)) (defScope (top 36)) [] [] f fd ∧ mg "_law_given" = some (.ref f)
  d__law_pull : ∃ f fd, FunD K "_law_pull" "_law_pull" (defArgs (top 31)) (defBody (top 31)) (defScope (top 31)) [] [] f fd ∧ mg "_law_pull" = some (.ref f)
  d__law_any : ∃ f fd, FunD K "_law_any" "_law_any" (defArgs (top 32)) (defBody (top 32)) (defScope (top 32)) [] [] f fd ∧ mg "_law_any" = some (.ref f)
  d__law_like : ∃ f fd, FunD K "_law_like" "_law_like" (defArgs (top 33)) (defBody (top 33)) (defScope (top 33)) [] [] f fd ∧ mg "_law_like" = some (.ref f)
  d__law_bases : ∃ f fd, FunD K "_law_bases" "_law_bases" (defArgs (top 35)) (defBody (top 35)) (defScope (top 35)) [] [] f fd ∧ mg "_law_bases" = some (.ref f)
  d__law_far : ∃ f fd, FunD K "_law_far" "_law_far" (defArgs (top 34)) (defBody (top 34)) (defScope (top 34)) [] [] f fd ∧ mg "_law_far" = some (.ref f)
  d_law : ∃ f fd, FunD K "law" "law" (defArgs (top 37)) (defBody (top 37)) (defScope (top 37)) [] [] f fd ∧ mg "law" = some (.ref f)
  n_list : mg "list" = none
  n_int : mg "int" = none
  n_len : mg "len" = none
  n_isinstance : mg "isinstance" = none
  n_str : mg "str" = none
  n_bool : mg "bool" = none
  n_tuple : mg "tuple" = none
  n_zip : mg "zip" = none
  n_all : mg "all" = none
  n_LookupError : mg "LookupError" = none
  n_ValueError : mg "ValueError" = none
  n_IndexError : mg "IndexError" = none
  g_NothingLeft : mg "NothingLeft" = some (.ref (He.ga K "NothingLeft"))
  g_Missing : mg "Missing" = some (.ref (He.ga K "Missing"))
  g_TableError : mg "TableError" = some (.ref (He.ga K "TableError"))
  g_InvalidName : mg "InvalidName" = some (.ref (He.ga K "InvalidName"))
  g_InvalidCount : mg "InvalidCount" = some (.ref (He.ga K "InvalidCount"))
  g_UnknownName : mg "UnknownName" = some (.ref (He.ga K "UnknownName"))
  g_WrongKind : mg "WrongKind" = some (.ref (He.ga K "WrongKind"))
  g_DuplicateName : mg "DuplicateName" = some (.ref (He.ga K "DuplicateName"))
  g_InvalidStatement : mg "InvalidStatement" = some (.ref (He.ga K "InvalidStatement"))
  g_InvalidCondition : mg "InvalidCondition" = some (.ref (He.ga K "InvalidCondition"))
  g_InvalidCommand : mg "InvalidCommand" = some (.ref (He.ga K "InvalidCommand"))
  g_InvalidLine : mg "InvalidLine" = some (.ref (He.ga K "InvalidLine"))
  g_FailsLate : mg "FailsLate" = some (.ref (He.ga K "FailsLate"))
  g_InvalidRule : mg "InvalidRule" = some (.ref (He.ga K "InvalidRule"))
  g_InvalidComparison : mg "InvalidComparison" = some (.ref (He.ga K "InvalidComparison"))
  g_InvalidRow : mg "InvalidRow" = some (.ref (He.ga K "InvalidRow"))
  g_InvalidLimit : mg "InvalidLimit" = some (.ref (He.ga K "InvalidLimit"))
  g_UnknownKey : mg "UnknownKey" = some (.ref (He.ga K "UnknownKey"))
  g_Failed : mg "Failed" = some (.ref (He.ga K "Failed"))
  g_Full : mg "Full" = some (.ref (He.ga K "Full"))
  g_TooWide : mg "TooWide" = some (.ref (He.ga K "TooWide"))
  g_NotCarried : mg "NotCarried" = some (.ref (He.ga K "NotCarried"))
  g_InvalidText : mg "InvalidText" = some (.ref (He.ga K "InvalidText"))
  g_ColumnsDiffer : mg "ColumnsDiffer" = some (.ref (He.ga K "ColumnsDiffer"))
  g_NotOpen : mg "NotOpen" = some (.ref (He.ga K "NotOpen"))
  g_InvalidArguments : mg "InvalidArguments" = some (.ref (He.ga K "InvalidArguments"))
  g_InvalidValue : mg "InvalidValue" = some (.ref (He.ga K "InvalidValue"))
  g_InvalidColumns : mg "InvalidColumns" = some (.ref (He.ga K "InvalidColumns"))
  o_UnknownName : overBB PX.leB K (He.ga K "Missing") (He.ga K "UnknownName") = true
  i_UnknownName : initB K (He.ga K "UnknownName") = true
  na_UnknownName : noB K (He.ga K "UnknownName") "name" = true
  x_UnknownName : ∃ fd, FunD K "__init__" "UnknownName.__init__" (defArgs s_UnknownName_init) (defBody s_UnknownName_init) (defScope s_UnknownName_init) [] [] (He.ma K (He.ga K "UnknownName") "__init__") fd
  o_WrongKind : overB K (He.ga K "TableError") (He.ga K "WrongKind") = true
  i_WrongKind : initB K (He.ga K "WrongKind") = true
  na_WrongKind : noB K (He.ga K "WrongKind") "name" = true
  x_WrongKind : ∃ fd, FunD K "__init__" "WrongKind.__init__" (defArgs s_WrongKind_init) (defBody s_WrongKind_init) (defScope s_WrongKind_init) [] [] (He.ma K (He.ga K "WrongKind") "__init__") fd
  o_DuplicateName : overB K (He.ga K "TableError") (He.ga K "DuplicateName") = true
  i_DuplicateName : initB K (He.ga K "DuplicateName") = true
  na_DuplicateName : noB K (He.ga K "DuplicateName") "name" = true
  x_DuplicateName : ∃ fd, FunD K "__init__" "DuplicateName.__init__" (defArgs s_DuplicateName_init) (defBody s_DuplicateName_init) (defScope s_DuplicateName_init) [] [] (He.ma K (He.ga K "DuplicateName") "__init__") fd
  o_InvalidStatement : overB K (He.ga K "TableError") (He.ga K "InvalidStatement") = true
  i_InvalidStatement : initB K (He.ga K "InvalidStatement") = true
  na_InvalidStatement : noB K (He.ga K "InvalidStatement") "path" = true
  x_InvalidStatement : ∃ fd, FunD K "__init__" "InvalidStatement.__init__" (defArgs s_InvalidStatement_init) (defBody s_InvalidStatement_init) (defScope s_InvalidStatement_init) [] [] (He.ma K (He.ga K "InvalidStatement") "__init__") fd
  o_InvalidCondition : overB K (He.ga K "TableError") (He.ga K "InvalidCondition") = true
  i_InvalidCondition : initB K (He.ga K "InvalidCondition") = true
  na_InvalidCondition : noB K (He.ga K "InvalidCondition") "path" = true
  x_InvalidCondition : ∃ fd, FunD K "__init__" "InvalidCondition.__init__" (defArgs s_InvalidCondition_init) (defBody s_InvalidCondition_init) (defScope s_InvalidCondition_init) [] [] (He.ma K (He.ga K "InvalidCondition") "__init__") fd
  o_InvalidCommand : overB K (He.ga K "TableError") (He.ga K "InvalidCommand") = true
  i_InvalidCommand : initB K (He.ga K "InvalidCommand") = true
  na_InvalidCommand : noB K (He.ga K "InvalidCommand") "index" = true
  x_InvalidCommand : ∃ fd, FunD K "__init__" "InvalidCommand.__init__" (defArgs s_InvalidCommand_init) (defBody s_InvalidCommand_init) (defScope s_InvalidCommand_init) [] [] (He.ma K (He.ga K "InvalidCommand") "__init__") fd
  o_InvalidLine : overB K (He.ga K "TableError") (He.ga K "InvalidLine") = true
  i_InvalidLine : initB K (He.ga K "InvalidLine") = true
  na_InvalidLine : noB K (He.ga K "InvalidLine") "index" = true
  x_InvalidLine : ∃ fd, FunD K "__init__" "InvalidLine.__init__" (defArgs s_InvalidLine_init) (defBody s_InvalidLine_init) (defScope s_InvalidLine_init) [] [] (He.ma K (He.ga K "InvalidLine") "__init__") fd
  o_FailsLate : overB K (He.ga K "TableError") (He.ga K "FailsLate") = true
  i_FailsLate : initB K (He.ga K "FailsLate") = true
  na_FailsLate : noB K (He.ga K "FailsLate") "index" = true
  x_FailsLate : ∃ fd, FunD K "__init__" "FailsLate.__init__" (defArgs s_FailsLate_init) (defBody s_FailsLate_init) (defScope s_FailsLate_init) [] [] (He.ma K (He.ga K "FailsLate") "__init__") fd
  o_InvalidRule : overB K (He.ga K "TableError") (He.ga K "InvalidRule") = true
  i_InvalidRule : initB K (He.ga K "InvalidRule") = true
  na_InvalidRule : noB K (He.ga K "InvalidRule") "index" = true
  x_InvalidRule : ∃ fd, FunD K "__init__" "InvalidRule.__init__" (defArgs s_InvalidRule_init) (defBody s_InvalidRule_init) (defScope s_InvalidRule_init) [] [] (He.ma K (He.ga K "InvalidRule") "__init__") fd
  o_InvalidComparison : overB K (He.ga K "TableError") (He.ga K "InvalidComparison") = true
  i_InvalidComparison : initB K (He.ga K "InvalidComparison") = true
  na_InvalidComparison : noB K (He.ga K "InvalidComparison") "index" = true
  x_InvalidComparison : ∃ fd, FunD K "__init__" "InvalidComparison.__init__" (defArgs s_InvalidComparison_init) (defBody s_InvalidComparison_init) (defScope s_InvalidComparison_init) [] [] (He.ma K (He.ga K "InvalidComparison") "__init__") fd
  o_InvalidRow : overB K (He.ga K "TableError") (He.ga K "InvalidRow") = true
  i_InvalidRow : initB K (He.ga K "InvalidRow") = true
  na_InvalidRow : noB K (He.ga K "InvalidRow") "index" = true
  x_InvalidRow : ∃ fd, FunD K "__init__" "InvalidRow.__init__" (defArgs s_InvalidRow_init) (defBody s_InvalidRow_init) (defScope s_InvalidRow_init) [] [] (He.ma K (He.ga K "InvalidRow") "__init__") fd
  o_InvalidLimit : overB K (He.ga K "TableError") (He.ga K "InvalidLimit") = true
  i_InvalidLimit : initB K (He.ga K "InvalidLimit") = true
  na_InvalidLimit : noB K (He.ga K "InvalidLimit") "given" = true
  x_InvalidLimit : ∃ fd, FunD K "__init__" "InvalidLimit.__init__" (defArgs s_InvalidLimit_init) (defBody s_InvalidLimit_init) (defScope s_InvalidLimit_init) [] [] (He.ma K (He.ga K "InvalidLimit") "__init__") fd
  o_InvalidCount : overB K (He.ga K "TableError") (He.ga K "InvalidCount") = true
  i_InvalidCount : initB K (He.ga K "InvalidCount") = true
  na_InvalidCount : noB K (He.ga K "InvalidCount") "given" = true
  x_InvalidCount : ∃ fd, FunD K "__init__" "InvalidCount.__init__" (defArgs s_InvalidCount_init) (defBody s_InvalidCount_init) (defScope s_InvalidCount_init) [] [] (He.ma K (He.ga K "InvalidCount") "__init__") fd
  o_InvalidName : overB K (He.ga K "TableError") (He.ga K "InvalidName") = true
  i_InvalidName : initB K (He.ga K "InvalidName") = true
  na_InvalidName : noB K (He.ga K "InvalidName") "given" = true
  x_InvalidName : ∃ fd, FunD K "__init__" "InvalidName.__init__" (defArgs s_InvalidName_init) (defBody s_InvalidName_init) (defScope s_InvalidName_init) [] [] (He.ma K (He.ga K "InvalidName") "__init__") fd
  o_UnknownKey : overBB PX.leB K (He.ga K "Missing") (He.ga K "UnknownKey") = true
  i_UnknownKey : initB K (He.ga K "UnknownKey") = true
  na_UnknownKey : noB K (He.ga K "UnknownKey") "key" = true
  x_UnknownKey : ∃ fd, FunD K "__init__" "UnknownKey.__init__" (defArgs s_UnknownKey_init) (defBody s_UnknownKey_init) (defScope s_UnknownKey_init) [] [] (He.ma K (He.ga K "UnknownKey") "__init__") fd
  o_Failed : overB K (He.ga K "TableError") (He.ga K "Failed") = true
  i_Failed : initB K (He.ga K "Failed") = true
  na_Failed : noB K (He.ga K "Failed") "word" = true
  x_Failed : ∃ fd, FunD K "__init__" "Failed.__init__" (defArgs s_Failed_init) (defBody s_Failed_init) (defScope s_Failed_init) [] [] (He.ma K (He.ga K "Failed") "__init__") fd
  o_Full : overB K (He.ga K "TableError") (He.ga K "Full") = true
  i_Full : initB K (He.ga K "Full") = true
  na_Full : noB K (He.ga K "Full") "limit" = true
  x_Full : ∃ fd, FunD K "__init__" "Full.__init__" (defArgs s_Full_init) (defBody s_Full_init) (defScope s_Full_init) [] [] (He.ma K (He.ga K "Full") "__init__") fd
  o_TooWide : overB K (He.ga K "TableError") (He.ga K "TooWide") = true
  i_TooWide : initB K (He.ga K "TooWide") = true
  na_TooWide : noB K (He.ga K "TooWide") "most" = true
  x_TooWide : ∃ fd, FunD K "__init__" "TooWide.__init__" (defArgs s_TooWide_init) (defBody s_TooWide_init) (defScope s_TooWide_init) [] [] (He.ma K (He.ga K "TooWide") "__init__") fd
  o_NotCarried : overB K (He.ga K "TableError") (He.ga K "NotCarried") = true
  i_NotCarried : initB K (He.ga K "NotCarried") = true
  na_NotCarried : noB K (He.ga K "NotCarried") "witness" = true
  x_NotCarried : ∃ fd, FunD K "__init__" "NotCarried.__init__" (defArgs s_NotCarried_init) (defBody s_NotCarried_init) (defScope s_NotCarried_init) [] [] (He.ma K (He.ga K "NotCarried") "__init__") fd
  o_InvalidText : overB K (He.ga K "TableError") (He.ga K "InvalidText") = true
  i_InvalidText : initB K (He.ga K "InvalidText") = true
  x_InvalidText : ∃ fd, FunD K "__init__" "InvalidText.__init__" (defArgs s_InvalidText_init) (defBody s_InvalidText_init) (defScope s_InvalidText_init) [] [] (He.ma K (He.ga K "InvalidText") "__init__") fd
  o_ColumnsDiffer : overB K (He.ga K "TableError") (He.ga K "ColumnsDiffer") = true
  i_ColumnsDiffer : initB K (He.ga K "ColumnsDiffer") = true
  x_ColumnsDiffer : ∃ fd, FunD K "__init__" "ColumnsDiffer.__init__" (defArgs s_ColumnsDiffer_init) (defBody s_ColumnsDiffer_init) (defScope s_ColumnsDiffer_init) [] [] (He.ma K (He.ga K "ColumnsDiffer") "__init__") fd
  o_NotOpen : overB K (He.ga K "TableError") (He.ga K "NotOpen") = true
  i_NotOpen : initB K (He.ga K "NotOpen") = true
  x_NotOpen : ∃ fd, FunD K "__init__" "NotOpen.__init__" (defArgs s_NotOpen_init) (defBody s_NotOpen_init) (defScope s_NotOpen_init) [] [] (He.ma K (He.ga K "NotOpen") "__init__") fd
  o_InvalidArguments : overB K (He.ga K "TableError") (He.ga K "InvalidArguments") = true
  i_InvalidArguments : initB K (He.ga K "InvalidArguments") = true
  x_InvalidArguments : ∃ fd, FunD K "__init__" "InvalidArguments.__init__" (defArgs s_InvalidArguments_init) (defBody s_InvalidArguments_init) (defScope s_InvalidArguments_init) [] [] (He.ma K (He.ga K "InvalidArguments") "__init__") fd
  o_InvalidValue : overB K (He.ga K "TableError") (He.ga K "InvalidValue") = true
  i_InvalidValue : initB K (He.ga K "InvalidValue") = true
  x_InvalidValue : ∃ fd, FunD K "__init__" "InvalidValue.__init__" (defArgs s_InvalidValue_init) (defBody s_InvalidValue_init) (defScope s_InvalidValue_init) [] [] (He.ma K (He.ga K "InvalidValue") "__init__") fd
  o_InvalidColumns : overB K (He.ga K "TableError") (He.ga K "InvalidColumns") = true
  i_InvalidColumns : initB K (He.ga K "InvalidColumns") = true
  x_InvalidColumns : ∃ fd, FunD K "__init__" "InvalidColumns.__init__" (defArgs s_InvalidColumns_init) (defBody s_InvalidColumns_init) (defScope s_InvalidColumns_init) [] [] (He.ma K (He.ga K "InvalidColumns") "__init__") fd
  su_Missing : supB K P.main.file sd_Missing = true
  sv_Missing : fnC K (sd_Missing.at_ K) = sd_Missing.val
  cf_Missing : clsvB K (He.ga K "Missing") = true
  su_TableError : supB K P.main.file sd_TableError = true
  sv_TableError : fnC K (sd_TableError.at_ K) = sd_TableError.val
  cf_TableError : clsvB K (He.ga K "TableError") = true
  o_NothingLeft : overBB PX.ieB K (He.ga K "NothingLeft") (He.ga K "NothingLeft") = true
  i_NothingLeft : initB K (He.ga K "NothingLeft") = true
  su_NothingLeft : supB K P.main.file sd_NothingLeft = true
  sv_NothingLeft : fnC K (sd_NothingLeft.at_ K) = sd_NothingLeft.val
  vf_key : cl_key.all (xvB K "key") = true
  vf_code : cl_code.all (xvB K "code") = true
  vf_word : cl_word.all (xvB K "word") = true
  vf_limit : cl_limit.all (xvB K "limit") = true
  vf_most : cl_most.all (xvB K "most") = true
  vf_witness : cl_witness.all (xvB K "witness") = true
  vf_path : cl_path.all (xvB K "path") = true
  vf_name : cl_name.all (xvB K "name") = true
  vf_given : cl_given.all (xvB K "given") = true
  vf_index : cl_index.all (xvB K "index") = true
  exb_ : cl_.all (excB K) = true
  kt_LookupError : tb_LookupError.all (kitXB K (.type "LookupError")) = true
  kt_ValueError : tb_ValueError.all (kitXB K (.type "ValueError")) = true
  kt_NothingLeft : tb_NothingLeft.all (kitXB K (.ref (He.ga K "NothingLeft"))) = true
  kt_Missing : tb_Missing.all (kitXB K (.ref (He.ga K "Missing"))) = true
  kt_TableError : tb_TableError.all (kitXB K (.ref (He.ga K "TableError"))) = true
  kt_InvalidName : tb_InvalidName.all (kitXB K (.ref (He.ga K "InvalidName"))) = true
  kt_InvalidCount : tb_InvalidCount.all (kitXB K (.ref (He.ga K "InvalidCount"))) = true
  kt_IndexError : tb_IndexError.all (kitXB K (.type "IndexError")) = true
  top_ : (P.main.scope.names.lookup ("super" : Str)).isSome = false
  lamE : LamTab.lam = lams
structure CtxB (K : PySem.W.Frag) (mg : Str → Option Value) (base : Heap) : Prop where
  ok : True
section
variable {P : Program} {w : World} {K : PySem.W.Frag} {mg : Str → Option Value} {base : Heap}
theorem supT_Missing (h : (P.main.scope.names.lookup ("super" : Str)).isSome = false) : SupTB .par P sd_Missing := ⟨⟨_, _, _, _, _, _, _, _, _, _, ⟨_, rfl⟩, ⟨_, rfl⟩, fun _ => ⟨_, rfl⟩, fun _ _ => rfl, rfl⟩, ⟨_, rfl, rfl⟩, by decide +kernel, by decide +kernel, rfl, rfl, by decide +kernel, rfl, rfl, rfl, h, fun _ _ _ _ _ _ us hl => match us, hl with | [_, _], _ => rfl⟩
theorem topI_Missing (C : CtxT P K w mg) : PX.TopIB PX.leB P w K mg base (L2.CX P w) "Missing" (He.ga K "Missing") := topIB_of (d := sd_Missing) PX.leB_ok C.g_Missing C.su_Missing C.sv_Missing (supT_Missing C.top_) C.cf_Missing
theorem supT_TableError (h : (P.main.scope.names.lookup ("super" : Str)).isSome = false) : SupT P sd_TableError := ⟨⟨_, _, _, _, _, _, _, _, _, _, fun _ => ⟨_, rfl⟩, rfl⟩, ⟨_, rfl, rfl⟩, by decide +kernel, by decide +kernel, rfl, rfl, rfl, rfl, rfl, rfl, rfl, h, fun _ _ _ _ _ _ us hl => match us, hl with | [_, _], _ => rfl⟩
theorem topI_TableError (C : CtxT P K w mg) : PX.TopI P w K mg base (L2.CX P w) "TableError" (He.ga K "TableError") := topI_of (d := sd_TableError) C.g_TableError C.su_TableError C.sv_TableError (supT_TableError C.top_) C.cf_TableError
theorem xv_UnknownName (C : CtxT P K w mg) : ExcV P w K mg base "UnknownName" (some "name") "UnknownName" := by
  obtain ⟨fd, F⟩ := C.x_UnknownName
  exact excV_ofB PX.leB_ok (prm := "name") C.g_UnknownName C.o_UnknownName C.i_UnknownName C.na_UnknownName (topI_Missing C) F ⟨rfl, rfl, rfl, by decide +kernel, rfl, by decide +kernel, by decide +kernel⟩ ⟨_, _, _, _, _, _, _, ⟨_, _, _, _, _, fun _ => ⟨_, rfl⟩, rfl⟩, rfl⟩ (F.bindsN (fun _ _ _ _ _ _ us hl => match us, hl with | [_, _], _ => rfl))
theorem exc_WrongKind (C : CtxT P K w mg) : ExcC P w K mg base "WrongKind" (some "name") "WrongKind" := by
  obtain ⟨fd, F⟩ := C.x_WrongKind
  exact excC_of1 (prm := "name") C.g_WrongKind C.o_WrongKind C.i_WrongKind C.na_WrongKind (topI_TableError C) F ⟨rfl, rfl, rfl, by decide +kernel, rfl, by decide +kernel, by decide +kernel⟩ ⟨_, _, _, _, _, _, _, ⟨_, _, _, _, _, fun _ => ⟨_, rfl⟩, rfl⟩, rfl⟩ (F.bindsN (fun _ _ _ _ _ _ us hl => match us, hl with | [_, _], _ => rfl))
theorem exc_DuplicateName (C : CtxT P K w mg) : ExcC P w K mg base "DuplicateName" (some "name") "DuplicateName" := by
  obtain ⟨fd, F⟩ := C.x_DuplicateName
  exact excC_of1 (prm := "name") C.g_DuplicateName C.o_DuplicateName C.i_DuplicateName C.na_DuplicateName (topI_TableError C) F ⟨rfl, rfl, rfl, by decide +kernel, rfl, by decide +kernel, by decide +kernel⟩ ⟨_, _, _, _, _, _, _, ⟨_, _, _, _, _, fun _ => ⟨_, rfl⟩, rfl⟩, rfl⟩ (F.bindsN (fun _ _ _ _ _ _ us hl => match us, hl with | [_, _], _ => rfl))
theorem exc_InvalidStatement (C : CtxT P K w mg) : ExcC P w K mg base "InvalidStatement" (some "path") "InvalidStatement" := by
  obtain ⟨fd, F⟩ := C.x_InvalidStatement
  exact excC_of1 (prm := "path") C.g_InvalidStatement C.o_InvalidStatement C.i_InvalidStatement C.na_InvalidStatement (topI_TableError C) F ⟨rfl, rfl, rfl, by decide +kernel, rfl, by decide +kernel, by decide +kernel⟩ ⟨_, _, _, _, _, _, _, ⟨_, _, _, _, _, fun _ => ⟨_, rfl⟩, rfl⟩, rfl⟩ (F.bindsN (fun _ _ _ _ _ _ us hl => match us, hl with | [_, _], _ => rfl))
theorem exc_InvalidCondition (C : CtxT P K w mg) : ExcC P w K mg base "InvalidCondition" (some "path") "InvalidCondition" := by
  obtain ⟨fd, F⟩ := C.x_InvalidCondition
  exact excC_of1 (prm := "path") C.g_InvalidCondition C.o_InvalidCondition C.i_InvalidCondition C.na_InvalidCondition (topI_TableError C) F ⟨rfl, rfl, rfl, by decide +kernel, rfl, by decide +kernel, by decide +kernel⟩ ⟨_, _, _, _, _, _, _, ⟨_, _, _, _, _, fun _ => ⟨_, rfl⟩, rfl⟩, rfl⟩ (F.bindsN (fun _ _ _ _ _ _ us hl => match us, hl with | [_, _], _ => rfl))
theorem exc_InvalidCommand (C : CtxT P K w mg) : ExcC P w K mg base "InvalidCommand" (some "index") "InvalidCommand" := by
  obtain ⟨fd, F⟩ := C.x_InvalidCommand
  exact excC_of1 (prm := "index") C.g_InvalidCommand C.o_InvalidCommand C.i_InvalidCommand C.na_InvalidCommand (topI_TableError C) F ⟨rfl, rfl, rfl, by decide +kernel, rfl, by decide +kernel, by decide +kernel⟩ ⟨_, _, _, _, _, _, _, ⟨_, _, _, _, _, fun _ => ⟨_, rfl⟩, rfl⟩, rfl⟩ (F.bindsN (fun _ _ _ _ _ _ us hl => match us, hl with | [_, _], _ => rfl))
theorem exc_InvalidLine (C : CtxT P K w mg) : ExcC P w K mg base "InvalidLine" (some "index") "InvalidLine" := by
  obtain ⟨fd, F⟩ := C.x_InvalidLine
  exact excC_of1 (prm := "index") C.g_InvalidLine C.o_InvalidLine C.i_InvalidLine C.na_InvalidLine (topI_TableError C) F ⟨rfl, rfl, rfl, by decide +kernel, rfl, by decide +kernel, by decide +kernel⟩ ⟨_, _, _, _, _, _, _, ⟨_, _, _, _, _, fun _ => ⟨_, rfl⟩, rfl⟩, rfl⟩ (F.bindsN (fun _ _ _ _ _ _ us hl => match us, hl with | [_, _], _ => rfl))
theorem exc_FailsLate (C : CtxT P K w mg) : ExcC P w K mg base "FailsLate" (some "index") "FailsLate" := by
  obtain ⟨fd, F⟩ := C.x_FailsLate
  exact excC_of1 (prm := "index") C.g_FailsLate C.o_FailsLate C.i_FailsLate C.na_FailsLate (topI_TableError C) F ⟨rfl, rfl, rfl, by decide +kernel, rfl, by decide +kernel, by decide +kernel⟩ ⟨_, _, _, _, _, _, _, ⟨_, _, _, _, _, fun _ => ⟨_, rfl⟩, rfl⟩, rfl⟩ (F.bindsN (fun _ _ _ _ _ _ us hl => match us, hl with | [_, _], _ => rfl))
theorem exc_InvalidRule (C : CtxT P K w mg) : ExcC P w K mg base "InvalidRule" (some "index") "InvalidRule" := by
  obtain ⟨fd, F⟩ := C.x_InvalidRule
  exact excC_of1 (prm := "index") C.g_InvalidRule C.o_InvalidRule C.i_InvalidRule C.na_InvalidRule (topI_TableError C) F ⟨rfl, rfl, rfl, by decide +kernel, rfl, by decide +kernel, by decide +kernel⟩ ⟨_, _, _, _, _, _, _, ⟨_, _, _, _, _, fun _ => ⟨_, rfl⟩, rfl⟩, rfl⟩ (F.bindsN (fun _ _ _ _ _ _ us hl => match us, hl with | [_, _], _ => rfl))
theorem exc_InvalidComparison (C : CtxT P K w mg) : ExcC P w K mg base "InvalidComparison" (some "index") "InvalidComparison" := by
  obtain ⟨fd, F⟩ := C.x_InvalidComparison
  exact excC_of1 (prm := "index") C.g_InvalidComparison C.o_InvalidComparison C.i_InvalidComparison C.na_InvalidComparison (topI_TableError C) F ⟨rfl, rfl, rfl, by decide +kernel, rfl, by decide +kernel, by decide +kernel⟩ ⟨_, _, _, _, _, _, _, ⟨_, _, _, _, _, fun _ => ⟨_, rfl⟩, rfl⟩, rfl⟩ (F.bindsN (fun _ _ _ _ _ _ us hl => match us, hl with | [_, _], _ => rfl))
theorem exc_InvalidRow (C : CtxT P K w mg) : ExcC P w K mg base "InvalidRow" (some "index") "InvalidRow" := by
  obtain ⟨fd, F⟩ := C.x_InvalidRow
  exact excC_of1 (prm := "index") C.g_InvalidRow C.o_InvalidRow C.i_InvalidRow C.na_InvalidRow (topI_TableError C) F ⟨rfl, rfl, rfl, by decide +kernel, rfl, by decide +kernel, by decide +kernel⟩ ⟨_, _, _, _, _, _, _, ⟨_, _, _, _, _, fun _ => ⟨_, rfl⟩, rfl⟩, rfl⟩ (F.bindsN (fun _ _ _ _ _ _ us hl => match us, hl with | [_, _], _ => rfl))
theorem exc_InvalidLimit (C : CtxT P K w mg) : ExcC P w K mg base "InvalidLimit" (some "given") "InvalidLimit" := by
  obtain ⟨fd, F⟩ := C.x_InvalidLimit
  exact excC_of1 (prm := "given") C.g_InvalidLimit C.o_InvalidLimit C.i_InvalidLimit C.na_InvalidLimit (topI_TableError C) F ⟨rfl, rfl, rfl, by decide +kernel, rfl, by decide +kernel, by decide +kernel⟩ ⟨_, _, _, _, _, _, _, ⟨_, _, _, _, _, fun _ => ⟨_, rfl⟩, rfl⟩, rfl⟩ (F.bindsN (fun _ _ _ _ _ _ us hl => match us, hl with | [_, _], _ => rfl))
theorem exc_InvalidCount (C : CtxT P K w mg) : ExcC P w K mg base "InvalidCount" (some "given") "InvalidCount" := by
  obtain ⟨fd, F⟩ := C.x_InvalidCount
  exact excC_of1 (prm := "given") C.g_InvalidCount C.o_InvalidCount C.i_InvalidCount C.na_InvalidCount (topI_TableError C) F ⟨rfl, rfl, rfl, by decide +kernel, rfl, by decide +kernel, by decide +kernel⟩ ⟨_, _, _, _, _, _, _, ⟨_, _, _, _, _, fun _ => ⟨_, rfl⟩, rfl⟩, rfl⟩ (F.bindsN (fun _ _ _ _ _ _ us hl => match us, hl with | [_, _], _ => rfl))
theorem exc_InvalidName (C : CtxT P K w mg) : ExcC P w K mg base "InvalidName" (some "given") "InvalidName" := by
  obtain ⟨fd, F⟩ := C.x_InvalidName
  exact excC_of1 (prm := "given") C.g_InvalidName C.o_InvalidName C.i_InvalidName C.na_InvalidName (topI_TableError C) F ⟨rfl, rfl, rfl, by decide +kernel, rfl, by decide +kernel, by decide +kernel⟩ ⟨_, _, _, _, _, _, _, ⟨_, _, _, _, _, fun _ => ⟨_, rfl⟩, rfl⟩, rfl⟩ (F.bindsN (fun _ _ _ _ _ _ us hl => match us, hl with | [_, _], _ => rfl))
theorem xv_UnknownKey (C : CtxT P K w mg) : ExcV P w K mg base "UnknownKey" (some "key") "UnknownKey" := by
  obtain ⟨fd, F⟩ := C.x_UnknownKey
  exact excV_ofB PX.leB_ok (prm := "key") C.g_UnknownKey C.o_UnknownKey C.i_UnknownKey C.na_UnknownKey (topI_Missing C) F ⟨rfl, rfl, rfl, by decide +kernel, rfl, by decide +kernel, by decide +kernel⟩ ⟨_, _, _, _, _, _, _, ⟨_, _, _, _, _, fun _ => ⟨_, rfl⟩, rfl⟩, rfl⟩ (F.bindsN (fun _ _ _ _ _ _ us hl => match us, hl with | [_, _], _ => rfl))
theorem exc_Failed (C : CtxT P K w mg) : ExcC P w K mg base "Failed" (some "word") "Failed" := by
  obtain ⟨fd, F⟩ := C.x_Failed
  exact excC_of1 (prm := "word") C.g_Failed C.o_Failed C.i_Failed C.na_Failed (topI_TableError C) F ⟨rfl, rfl, rfl, by decide +kernel, rfl, by decide +kernel, by decide +kernel⟩ ⟨_, _, _, _, _, _, _, ⟨_, _, _, _, _, fun _ => ⟨_, rfl⟩, rfl⟩, rfl⟩ (F.bindsN (fun _ _ _ _ _ _ us hl => match us, hl with | [_, _], _ => rfl))
theorem exc_Full (C : CtxT P K w mg) : ExcC P w K mg base "Full" (some "limit") "Full" := by
  obtain ⟨fd, F⟩ := C.x_Full
  exact excC_of1 (prm := "limit") C.g_Full C.o_Full C.i_Full C.na_Full (topI_TableError C) F ⟨rfl, rfl, rfl, by decide +kernel, rfl, by decide +kernel, by decide +kernel⟩ ⟨_, _, _, _, _, _, _, ⟨_, _, _, _, _, fun _ => ⟨_, rfl⟩, rfl⟩, rfl⟩ (F.bindsN (fun _ _ _ _ _ _ us hl => match us, hl with | [_, _], _ => rfl))
theorem exc_TooWide (C : CtxT P K w mg) : ExcC P w K mg base "TooWide" (some "most") "TooWide" := by
  obtain ⟨fd, F⟩ := C.x_TooWide
  exact excC_of1 (prm := "most") C.g_TooWide C.o_TooWide C.i_TooWide C.na_TooWide (topI_TableError C) F ⟨rfl, rfl, rfl, by decide +kernel, rfl, by decide +kernel, by decide +kernel⟩ ⟨_, _, _, _, _, _, _, ⟨_, _, _, _, _, fun _ => ⟨_, rfl⟩, rfl⟩, rfl⟩ (F.bindsN (fun _ _ _ _ _ _ us hl => match us, hl with | [_, _], _ => rfl))
theorem exc_NotCarried (C : CtxT P K w mg) : ExcC P w K mg base "NotCarried" (some "witness") "NotCarried" := by
  obtain ⟨fd, F⟩ := C.x_NotCarried
  exact excC_of1 (prm := "witness") C.g_NotCarried C.o_NotCarried C.i_NotCarried C.na_NotCarried (topI_TableError C) F ⟨rfl, rfl, rfl, by decide +kernel, rfl, by decide +kernel, by decide +kernel⟩ ⟨_, _, _, _, _, _, _, ⟨_, _, _, _, _, fun _ => ⟨_, rfl⟩, rfl⟩, rfl⟩ (F.bindsN (fun _ _ _ _ _ _ us hl => match us, hl with | [_, _], _ => rfl))
theorem exc_InvalidText (C : CtxT P K w mg) : ExcC P w K mg base "InvalidText" none "InvalidText" := by
  obtain ⟨fd, F⟩ := C.x_InvalidText
  exact excC_of0 C.g_InvalidText C.o_InvalidText C.i_InvalidText (topI_TableError C) F ⟨rfl, rfl, rfl, by decide +kernel, rfl, by decide +kernel, by decide +kernel⟩ ⟨_, _, _, ⟨_, _, _, _, _, fun _ => ⟨_, rfl⟩, rfl⟩, rfl⟩ (F.bindsN (fun _ _ _ _ _ _ us hl => match us, hl with | [_], _ => rfl))
theorem exc_ColumnsDiffer (C : CtxT P K w mg) : ExcC P w K mg base "ColumnsDiffer" none "ColumnsDiffer" := by
  obtain ⟨fd, F⟩ := C.x_ColumnsDiffer
  exact excC_of0 C.g_ColumnsDiffer C.o_ColumnsDiffer C.i_ColumnsDiffer (topI_TableError C) F ⟨rfl, rfl, rfl, by decide +kernel, rfl, by decide +kernel, by decide +kernel⟩ ⟨_, _, _, ⟨_, _, _, _, _, fun _ => ⟨_, rfl⟩, rfl⟩, rfl⟩ (F.bindsN (fun _ _ _ _ _ _ us hl => match us, hl with | [_], _ => rfl))
theorem exc_NotOpen (C : CtxT P K w mg) : ExcC P w K mg base "NotOpen" none "NotOpen" := by
  obtain ⟨fd, F⟩ := C.x_NotOpen
  exact excC_of0 C.g_NotOpen C.o_NotOpen C.i_NotOpen (topI_TableError C) F ⟨rfl, rfl, rfl, by decide +kernel, rfl, by decide +kernel, by decide +kernel⟩ ⟨_, _, _, ⟨_, _, _, _, _, fun _ => ⟨_, rfl⟩, rfl⟩, rfl⟩ (F.bindsN (fun _ _ _ _ _ _ us hl => match us, hl with | [_], _ => rfl))
theorem exc_InvalidArguments (C : CtxT P K w mg) : ExcC P w K mg base "InvalidArguments" none "InvalidArguments" := by
  obtain ⟨fd, F⟩ := C.x_InvalidArguments
  exact excC_of0 C.g_InvalidArguments C.o_InvalidArguments C.i_InvalidArguments (topI_TableError C) F ⟨rfl, rfl, rfl, by decide +kernel, rfl, by decide +kernel, by decide +kernel⟩ ⟨_, _, _, ⟨_, _, _, _, _, fun _ => ⟨_, rfl⟩, rfl⟩, rfl⟩ (F.bindsN (fun _ _ _ _ _ _ us hl => match us, hl with | [_], _ => rfl))
theorem exc_InvalidValue (C : CtxT P K w mg) : ExcC P w K mg base "InvalidValue" none "InvalidValue" := by
  obtain ⟨fd, F⟩ := C.x_InvalidValue
  exact excC_of0 C.g_InvalidValue C.o_InvalidValue C.i_InvalidValue (topI_TableError C) F ⟨rfl, rfl, rfl, by decide +kernel, rfl, by decide +kernel, by decide +kernel⟩ ⟨_, _, _, ⟨_, _, _, _, _, fun _ => ⟨_, rfl⟩, rfl⟩, rfl⟩ (F.bindsN (fun _ _ _ _ _ _ us hl => match us, hl with | [_], _ => rfl))
theorem exc_InvalidColumns (C : CtxT P K w mg) : ExcC P w K mg base "InvalidColumns" none "InvalidColumns" := by
  obtain ⟨fd, F⟩ := C.x_InvalidColumns
  exact excC_of0 C.g_InvalidColumns C.o_InvalidColumns C.i_InvalidColumns (topI_TableError C) F ⟨rfl, rfl, rfl, by decide +kernel, rfl, by decide +kernel, by decide +kernel⟩ ⟨_, _, _, ⟨_, _, _, _, _, fun _ => ⟨_, rfl⟩, rfl⟩, rfl⟩ (F.bindsN (fun _ _ _ _ _ _ us hl => match us, hl with | [_], _ => rfl))
theorem xv_WrongKind (C : CtxT P K w mg) : ExcV P w K mg base "WrongKind" (some "name") "WrongKind" := excV_of (exc_WrongKind C)
theorem xv_DuplicateName (C : CtxT P K w mg) : ExcV P w K mg base "DuplicateName" (some "name") "DuplicateName" := excV_of (exc_DuplicateName C)
theorem xv_InvalidStatement (C : CtxT P K w mg) : ExcV P w K mg base "InvalidStatement" (some "path") "InvalidStatement" := excV_of (exc_InvalidStatement C)
theorem xv_InvalidCondition (C : CtxT P K w mg) : ExcV P w K mg base "InvalidCondition" (some "path") "InvalidCondition" := excV_of (exc_InvalidCondition C)
theorem xv_InvalidCommand (C : CtxT P K w mg) : ExcV P w K mg base "InvalidCommand" (some "index") "InvalidCommand" := excV_of (exc_InvalidCommand C)
theorem xv_InvalidLine (C : CtxT P K w mg) : ExcV P w K mg base "InvalidLine" (some "index") "InvalidLine" := excV_of (exc_InvalidLine C)
theorem xv_FailsLate (C : CtxT P K w mg) : ExcV P w K mg base "FailsLate" (some "index") "FailsLate" := excV_of (exc_FailsLate C)
theorem xv_InvalidRule (C : CtxT P K w mg) : ExcV P w K mg base "InvalidRule" (some "index") "InvalidRule" := excV_of (exc_InvalidRule C)
theorem xv_InvalidComparison (C : CtxT P K w mg) : ExcV P w K mg base "InvalidComparison" (some "index") "InvalidComparison" := excV_of (exc_InvalidComparison C)
theorem xv_InvalidRow (C : CtxT P K w mg) : ExcV P w K mg base "InvalidRow" (some "index") "InvalidRow" := excV_of (exc_InvalidRow C)
theorem xv_InvalidLimit (C : CtxT P K w mg) : ExcV P w K mg base "InvalidLimit" (some "given") "InvalidLimit" := excV_of (exc_InvalidLimit C)
theorem xv_InvalidCount (C : CtxT P K w mg) : ExcV P w K mg base "InvalidCount" (some "given") "InvalidCount" := excV_of (exc_InvalidCount C)
theorem xv_InvalidName (C : CtxT P K w mg) : ExcV P w K mg base "InvalidName" (some "given") "InvalidName" := excV_of (exc_InvalidName C)
theorem xv_Failed (C : CtxT P K w mg) : ExcV P w K mg base "Failed" (some "word") "Failed" := excV_of (exc_Failed C)
theorem xv_Full (C : CtxT P K w mg) : ExcV P w K mg base "Full" (some "limit") "Full" := excV_of (exc_Full C)
theorem xv_TooWide (C : CtxT P K w mg) : ExcV P w K mg base "TooWide" (some "most") "TooWide" := excV_of (exc_TooWide C)
theorem xv_NotCarried (C : CtxT P K w mg) : ExcV P w K mg base "NotCarried" (some "witness") "NotCarried" := excV_of (exc_NotCarried C)
theorem xv_InvalidText (C : CtxT P K w mg) : ExcV P w K mg base "InvalidText" none "InvalidText" := excV_of (exc_InvalidText C)
theorem xv_ColumnsDiffer (C : CtxT P K w mg) : ExcV P w K mg base "ColumnsDiffer" none "ColumnsDiffer" := excV_of (exc_ColumnsDiffer C)
theorem xv_NotOpen (C : CtxT P K w mg) : ExcV P w K mg base "NotOpen" none "NotOpen" := excV_of (exc_NotOpen C)
theorem xv_InvalidArguments (C : CtxT P K w mg) : ExcV P w K mg base "InvalidArguments" none "InvalidArguments" := excV_of (exc_InvalidArguments C)
theorem xv_InvalidValue (C : CtxT P K w mg) : ExcV P w K mg base "InvalidValue" none "InvalidValue" := excV_of (exc_InvalidValue C)
theorem xv_InvalidColumns (C : CtxT P K w mg) : ExcV P w K mg base "InvalidColumns" none "InvalidColumns" := excV_of (exc_InvalidColumns C)
theorem supT_NothingLeft (h : (P.main.scope.names.lookup ("super" : Str)).isSome = false) : SupTB (.con "NothingLeft") P sd_NothingLeft := ⟨⟨_, _, _, _, _, _, _, _, _, _, ⟨_, _, rfl⟩, ⟨_, _, rfl⟩, fun _ => ⟨_, rfl⟩, fun _ _ => rfl, rfl⟩, ⟨_, rfl, rfl⟩, by decide +kernel, by decide +kernel, rfl, rfl, by decide +kernel, rfl, rfl, rfl, h, fun _ _ _ _ _ _ us hl => match us, hl with | [_], _ => rfl⟩
theorem xv_NothingLeft (C : CtxT P K w mg) : ExcV P w K mg base "NothingLeft" none "NothingLeft" := excV_ofS (d := sd_NothingLeft) PX.ieB_ok C.g_NothingLeft C.o_NothingLeft C.i_NothingLeft C.su_NothingLeft C.sv_NothingLeft (supT_NothingLeft C.top_)
theorem vf_key (C : CtxT P K w mg) : ∀ D ∈ cl_key, XvC K mg "key" D := by
  intro D hD
  have a := List.all_eq_true.mp C.vf_key
  unfold cl_key at hD
  rcases List.mem_cons.mp hD with rfl | hD
  · exact xvC_of C.g_UnknownKey (a _ (by decide +kernel))
  exact absurd hD (by simp)
theorem vf_code (C : CtxT P K w mg) : ∀ D ∈ cl_code, XvC K mg "code" D := by
  intro D hD
  have a := List.all_eq_true.mp C.vf_code
  unfold cl_code at hD
  rcases List.mem_cons.mp hD with rfl | hD
  · exact xvC_of C.g_UnknownName (a _ (by decide +kernel))
  rcases List.mem_cons.mp hD with rfl | hD
  · exact xvC_of C.g_WrongKind (a _ (by decide +kernel))
  rcases List.mem_cons.mp hD with rfl | hD
  · exact xvC_of C.g_DuplicateName (a _ (by decide +kernel))
  rcases List.mem_cons.mp hD with rfl | hD
  · exact xvC_of C.g_InvalidStatement (a _ (by decide +kernel))
  rcases List.mem_cons.mp hD with rfl | hD
  · exact xvC_of C.g_InvalidCondition (a _ (by decide +kernel))
  rcases List.mem_cons.mp hD with rfl | hD
  · exact xvC_of C.g_InvalidCommand (a _ (by decide +kernel))
  rcases List.mem_cons.mp hD with rfl | hD
  · exact xvC_of C.g_InvalidLine (a _ (by decide +kernel))
  rcases List.mem_cons.mp hD with rfl | hD
  · exact xvC_of C.g_FailsLate (a _ (by decide +kernel))
  rcases List.mem_cons.mp hD with rfl | hD
  · exact xvC_of C.g_InvalidRule (a _ (by decide +kernel))
  rcases List.mem_cons.mp hD with rfl | hD
  · exact xvC_of C.g_InvalidComparison (a _ (by decide +kernel))
  rcases List.mem_cons.mp hD with rfl | hD
  · exact xvC_of C.g_InvalidRow (a _ (by decide +kernel))
  rcases List.mem_cons.mp hD with rfl | hD
  · exact xvC_of C.g_InvalidLimit (a _ (by decide +kernel))
  rcases List.mem_cons.mp hD with rfl | hD
  · exact xvC_of C.g_InvalidCount (a _ (by decide +kernel))
  rcases List.mem_cons.mp hD with rfl | hD
  · exact xvC_of C.g_InvalidName (a _ (by decide +kernel))
  rcases List.mem_cons.mp hD with rfl | hD
  · exact xvC_of C.g_UnknownKey (a _ (by decide +kernel))
  rcases List.mem_cons.mp hD with rfl | hD
  · exact xvC_of C.g_Failed (a _ (by decide +kernel))
  rcases List.mem_cons.mp hD with rfl | hD
  · exact xvC_of C.g_Full (a _ (by decide +kernel))
  rcases List.mem_cons.mp hD with rfl | hD
  · exact xvC_of C.g_TooWide (a _ (by decide +kernel))
  rcases List.mem_cons.mp hD with rfl | hD
  · exact xvC_of C.g_NotCarried (a _ (by decide +kernel))
  rcases List.mem_cons.mp hD with rfl | hD
  · exact xvC_of C.g_NothingLeft (a _ (by decide +kernel))
  rcases List.mem_cons.mp hD with rfl | hD
  · exact xvC_of C.g_InvalidText (a _ (by decide +kernel))
  rcases List.mem_cons.mp hD with rfl | hD
  · exact xvC_of C.g_ColumnsDiffer (a _ (by decide +kernel))
  rcases List.mem_cons.mp hD with rfl | hD
  · exact xvC_of C.g_NotOpen (a _ (by decide +kernel))
  rcases List.mem_cons.mp hD with rfl | hD
  · exact xvC_of C.g_InvalidArguments (a _ (by decide +kernel))
  rcases List.mem_cons.mp hD with rfl | hD
  · exact xvC_of C.g_InvalidValue (a _ (by decide +kernel))
  rcases List.mem_cons.mp hD with rfl | hD
  · exact xvC_of C.g_InvalidColumns (a _ (by decide +kernel))
  exact absurd hD (by simp)
theorem vf_word (C : CtxT P K w mg) : ∀ D ∈ cl_word, XvC K mg "word" D := by
  intro D hD
  have a := List.all_eq_true.mp C.vf_word
  unfold cl_word at hD
  rcases List.mem_cons.mp hD with rfl | hD
  · exact xvC_of C.g_Failed (a _ (by decide +kernel))
  exact absurd hD (by simp)
theorem vf_limit (C : CtxT P K w mg) : ∀ D ∈ cl_limit, XvC K mg "limit" D := by
  intro D hD
  have a := List.all_eq_true.mp C.vf_limit
  unfold cl_limit at hD
  rcases List.mem_cons.mp hD with rfl | hD
  · exact xvC_of C.g_Full (a _ (by decide +kernel))
  exact absurd hD (by simp)
theorem vf_most (C : CtxT P K w mg) : ∀ D ∈ cl_most, XvC K mg "most" D := by
  intro D hD
  have a := List.all_eq_true.mp C.vf_most
  unfold cl_most at hD
  rcases List.mem_cons.mp hD with rfl | hD
  · exact xvC_of C.g_TooWide (a _ (by decide +kernel))
  exact absurd hD (by simp)
theorem vf_witness (C : CtxT P K w mg) : ∀ D ∈ cl_witness, XvC K mg "witness" D := by
  intro D hD
  have a := List.all_eq_true.mp C.vf_witness
  unfold cl_witness at hD
  rcases List.mem_cons.mp hD with rfl | hD
  · exact xvC_of C.g_NotCarried (a _ (by decide +kernel))
  exact absurd hD (by simp)
theorem vf_path (C : CtxT P K w mg) : ∀ D ∈ cl_path, XvC K mg "path" D := by
  intro D hD
  have a := List.all_eq_true.mp C.vf_path
  unfold cl_path at hD
  rcases List.mem_cons.mp hD with rfl | hD
  · exact xvC_of C.g_InvalidStatement (a _ (by decide +kernel))
  rcases List.mem_cons.mp hD with rfl | hD
  · exact xvC_of C.g_InvalidCondition (a _ (by decide +kernel))
  exact absurd hD (by simp)
theorem vf_name (C : CtxT P K w mg) : ∀ D ∈ cl_name, XvC K mg "name" D := by
  intro D hD
  have a := List.all_eq_true.mp C.vf_name
  unfold cl_name at hD
  rcases List.mem_cons.mp hD with rfl | hD
  · exact xvC_of C.g_UnknownName (a _ (by decide +kernel))
  rcases List.mem_cons.mp hD with rfl | hD
  · exact xvC_of C.g_WrongKind (a _ (by decide +kernel))
  rcases List.mem_cons.mp hD with rfl | hD
  · exact xvC_of C.g_DuplicateName (a _ (by decide +kernel))
  exact absurd hD (by simp)
theorem vf_given (C : CtxT P K w mg) : ∀ D ∈ cl_given, XvC K mg "given" D := by
  intro D hD
  have a := List.all_eq_true.mp C.vf_given
  unfold cl_given at hD
  rcases List.mem_cons.mp hD with rfl | hD
  · exact xvC_of C.g_InvalidLimit (a _ (by decide +kernel))
  rcases List.mem_cons.mp hD with rfl | hD
  · exact xvC_of C.g_InvalidCount (a _ (by decide +kernel))
  rcases List.mem_cons.mp hD with rfl | hD
  · exact xvC_of C.g_InvalidName (a _ (by decide +kernel))
  exact absurd hD (by simp)
theorem vf_index (C : CtxT P K w mg) : ∀ D ∈ cl_index, XvC K mg "index" D := by
  intro D hD
  have a := List.all_eq_true.mp C.vf_index
  unfold cl_index at hD
  rcases List.mem_cons.mp hD with rfl | hD
  · exact xvC_of C.g_InvalidCommand (a _ (by decide +kernel))
  rcases List.mem_cons.mp hD with rfl | hD
  · exact xvC_of C.g_InvalidLine (a _ (by decide +kernel))
  rcases List.mem_cons.mp hD with rfl | hD
  · exact xvC_of C.g_FailsLate (a _ (by decide +kernel))
  rcases List.mem_cons.mp hD with rfl | hD
  · exact xvC_of C.g_InvalidRule (a _ (by decide +kernel))
  rcases List.mem_cons.mp hD with rfl | hD
  · exact xvC_of C.g_InvalidComparison (a _ (by decide +kernel))
  rcases List.mem_cons.mp hD with rfl | hD
  · exact xvC_of C.g_InvalidRow (a _ (by decide +kernel))
  exact absurd hD (by simp)
theorem ix_LookupError (C : CtxT P K w mg) : ∀ q ∈ tb_LookupError, XiC K mg (.type "LookupError") q.1 q.2 := by
  intro q hq
  have a := List.all_eq_true.mp C.kt_LookupError
  have b := List.all_eq_true.mp C.exb_
  unfold tb_LookupError at hq
  rcases List.mem_cons.mp hq with rfl | hq
  · exact xiC_of (q := ("UnknownName", true)) C.g_UnknownName (b _ (by decide +kernel)) (a _ (by decide +kernel))
  rcases List.mem_cons.mp hq with rfl | hq
  · exact xiC_of (q := ("WrongKind", false)) C.g_WrongKind (b _ (by decide +kernel)) (a _ (by decide +kernel))
  rcases List.mem_cons.mp hq with rfl | hq
  · exact xiC_of (q := ("DuplicateName", false)) C.g_DuplicateName (b _ (by decide +kernel)) (a _ (by decide +kernel))
  rcases List.mem_cons.mp hq with rfl | hq
  · exact xiC_of (q := ("InvalidStatement", false)) C.g_InvalidStatement (b _ (by decide +kernel)) (a _ (by decide +kernel))
  rcases List.mem_cons.mp hq with rfl | hq
  · exact xiC_of (q := ("InvalidCondition", false)) C.g_InvalidCondition (b _ (by decide +kernel)) (a _ (by decide +kernel))
  rcases List.mem_cons.mp hq with rfl | hq
  · exact xiC_of (q := ("InvalidCommand", false)) C.g_InvalidCommand (b _ (by decide +kernel)) (a _ (by decide +kernel))
  rcases List.mem_cons.mp hq with rfl | hq
  · exact xiC_of (q := ("InvalidLine", false)) C.g_InvalidLine (b _ (by decide +kernel)) (a _ (by decide +kernel))
  rcases List.mem_cons.mp hq with rfl | hq
  · exact xiC_of (q := ("FailsLate", false)) C.g_FailsLate (b _ (by decide +kernel)) (a _ (by decide +kernel))
  rcases List.mem_cons.mp hq with rfl | hq
  · exact xiC_of (q := ("InvalidRule", false)) C.g_InvalidRule (b _ (by decide +kernel)) (a _ (by decide +kernel))
  rcases List.mem_cons.mp hq with rfl | hq
  · exact xiC_of (q := ("InvalidComparison", false)) C.g_InvalidComparison (b _ (by decide +kernel)) (a _ (by decide +kernel))
  rcases List.mem_cons.mp hq with rfl | hq
  · exact xiC_of (q := ("InvalidRow", false)) C.g_InvalidRow (b _ (by decide +kernel)) (a _ (by decide +kernel))
  rcases List.mem_cons.mp hq with rfl | hq
  · exact xiC_of (q := ("InvalidLimit", false)) C.g_InvalidLimit (b _ (by decide +kernel)) (a _ (by decide +kernel))
  rcases List.mem_cons.mp hq with rfl | hq
  · exact xiC_of (q := ("InvalidCount", false)) C.g_InvalidCount (b _ (by decide +kernel)) (a _ (by decide +kernel))
  rcases List.mem_cons.mp hq with rfl | hq
  · exact xiC_of (q := ("InvalidName", false)) C.g_InvalidName (b _ (by decide +kernel)) (a _ (by decide +kernel))
  rcases List.mem_cons.mp hq with rfl | hq
  · exact xiC_of (q := ("UnknownKey", true)) C.g_UnknownKey (b _ (by decide +kernel)) (a _ (by decide +kernel))
  rcases List.mem_cons.mp hq with rfl | hq
  · exact xiC_of (q := ("Failed", false)) C.g_Failed (b _ (by decide +kernel)) (a _ (by decide +kernel))
  rcases List.mem_cons.mp hq with rfl | hq
  · exact xiC_of (q := ("Full", false)) C.g_Full (b _ (by decide +kernel)) (a _ (by decide +kernel))
  rcases List.mem_cons.mp hq with rfl | hq
  · exact xiC_of (q := ("TooWide", false)) C.g_TooWide (b _ (by decide +kernel)) (a _ (by decide +kernel))
  rcases List.mem_cons.mp hq with rfl | hq
  · exact xiC_of (q := ("NotCarried", false)) C.g_NotCarried (b _ (by decide +kernel)) (a _ (by decide +kernel))
  rcases List.mem_cons.mp hq with rfl | hq
  · exact xiC_of (q := ("NothingLeft", true)) C.g_NothingLeft (b _ (by decide +kernel)) (a _ (by decide +kernel))
  rcases List.mem_cons.mp hq with rfl | hq
  · exact xiC_of (q := ("InvalidText", false)) C.g_InvalidText (b _ (by decide +kernel)) (a _ (by decide +kernel))
  rcases List.mem_cons.mp hq with rfl | hq
  · exact xiC_of (q := ("ColumnsDiffer", false)) C.g_ColumnsDiffer (b _ (by decide +kernel)) (a _ (by decide +kernel))
  rcases List.mem_cons.mp hq with rfl | hq
  · exact xiC_of (q := ("NotOpen", false)) C.g_NotOpen (b _ (by decide +kernel)) (a _ (by decide +kernel))
  rcases List.mem_cons.mp hq with rfl | hq
  · exact xiC_of (q := ("InvalidArguments", false)) C.g_InvalidArguments (b _ (by decide +kernel)) (a _ (by decide +kernel))
  rcases List.mem_cons.mp hq with rfl | hq
  · exact xiC_of (q := ("InvalidValue", false)) C.g_InvalidValue (b _ (by decide +kernel)) (a _ (by decide +kernel))
  rcases List.mem_cons.mp hq with rfl | hq
  · exact xiC_of (q := ("InvalidColumns", false)) C.g_InvalidColumns (b _ (by decide +kernel)) (a _ (by decide +kernel))
  exact absurd hq (by simp)
theorem ix_ValueError (C : CtxT P K w mg) : ∀ q ∈ tb_ValueError, XiC K mg (.type "ValueError") q.1 q.2 := by
  intro q hq
  have a := List.all_eq_true.mp C.kt_ValueError
  have b := List.all_eq_true.mp C.exb_
  unfold tb_ValueError at hq
  rcases List.mem_cons.mp hq with rfl | hq
  · exact xiC_of (q := ("UnknownName", false)) C.g_UnknownName (b _ (by decide +kernel)) (a _ (by decide +kernel))
  rcases List.mem_cons.mp hq with rfl | hq
  · exact xiC_of (q := ("WrongKind", true)) C.g_WrongKind (b _ (by decide +kernel)) (a _ (by decide +kernel))
  rcases List.mem_cons.mp hq with rfl | hq
  · exact xiC_of (q := ("DuplicateName", true)) C.g_DuplicateName (b _ (by decide +kernel)) (a _ (by decide +kernel))
  rcases List.mem_cons.mp hq with rfl | hq
  · exact xiC_of (q := ("InvalidStatement", true)) C.g_InvalidStatement (b _ (by decide +kernel)) (a _ (by decide +kernel))
  rcases List.mem_cons.mp hq with rfl | hq
  · exact xiC_of (q := ("InvalidCondition", true)) C.g_InvalidCondition (b _ (by decide +kernel)) (a _ (by decide +kernel))
  rcases List.mem_cons.mp hq with rfl | hq
  · exact xiC_of (q := ("InvalidCommand", true)) C.g_InvalidCommand (b _ (by decide +kernel)) (a _ (by decide +kernel))
  rcases List.mem_cons.mp hq with rfl | hq
  · exact xiC_of (q := ("InvalidLine", true)) C.g_InvalidLine (b _ (by decide +kernel)) (a _ (by decide +kernel))
  rcases List.mem_cons.mp hq with rfl | hq
  · exact xiC_of (q := ("FailsLate", true)) C.g_FailsLate (b _ (by decide +kernel)) (a _ (by decide +kernel))
  rcases List.mem_cons.mp hq with rfl | hq
  · exact xiC_of (q := ("InvalidRule", true)) C.g_InvalidRule (b _ (by decide +kernel)) (a _ (by decide +kernel))
  rcases List.mem_cons.mp hq with rfl | hq
  · exact xiC_of (q := ("InvalidComparison", true)) C.g_InvalidComparison (b _ (by decide +kernel)) (a _ (by decide +kernel))
  rcases List.mem_cons.mp hq with rfl | hq
  · exact xiC_of (q := ("InvalidRow", true)) C.g_InvalidRow (b _ (by decide +kernel)) (a _ (by decide +kernel))
  rcases List.mem_cons.mp hq with rfl | hq
  · exact xiC_of (q := ("InvalidLimit", true)) C.g_InvalidLimit (b _ (by decide +kernel)) (a _ (by decide +kernel))
  rcases List.mem_cons.mp hq with rfl | hq
  · exact xiC_of (q := ("InvalidCount", true)) C.g_InvalidCount (b _ (by decide +kernel)) (a _ (by decide +kernel))
  rcases List.mem_cons.mp hq with rfl | hq
  · exact xiC_of (q := ("InvalidName", true)) C.g_InvalidName (b _ (by decide +kernel)) (a _ (by decide +kernel))
  rcases List.mem_cons.mp hq with rfl | hq
  · exact xiC_of (q := ("UnknownKey", false)) C.g_UnknownKey (b _ (by decide +kernel)) (a _ (by decide +kernel))
  rcases List.mem_cons.mp hq with rfl | hq
  · exact xiC_of (q := ("Failed", true)) C.g_Failed (b _ (by decide +kernel)) (a _ (by decide +kernel))
  rcases List.mem_cons.mp hq with rfl | hq
  · exact xiC_of (q := ("Full", true)) C.g_Full (b _ (by decide +kernel)) (a _ (by decide +kernel))
  rcases List.mem_cons.mp hq with rfl | hq
  · exact xiC_of (q := ("TooWide", true)) C.g_TooWide (b _ (by decide +kernel)) (a _ (by decide +kernel))
  rcases List.mem_cons.mp hq with rfl | hq
  · exact xiC_of (q := ("NotCarried", true)) C.g_NotCarried (b _ (by decide +kernel)) (a _ (by decide +kernel))
  rcases List.mem_cons.mp hq with rfl | hq
  · exact xiC_of (q := ("NothingLeft", false)) C.g_NothingLeft (b _ (by decide +kernel)) (a _ (by decide +kernel))
  rcases List.mem_cons.mp hq with rfl | hq
  · exact xiC_of (q := ("InvalidText", true)) C.g_InvalidText (b _ (by decide +kernel)) (a _ (by decide +kernel))
  rcases List.mem_cons.mp hq with rfl | hq
  · exact xiC_of (q := ("ColumnsDiffer", true)) C.g_ColumnsDiffer (b _ (by decide +kernel)) (a _ (by decide +kernel))
  rcases List.mem_cons.mp hq with rfl | hq
  · exact xiC_of (q := ("NotOpen", true)) C.g_NotOpen (b _ (by decide +kernel)) (a _ (by decide +kernel))
  rcases List.mem_cons.mp hq with rfl | hq
  · exact xiC_of (q := ("InvalidArguments", true)) C.g_InvalidArguments (b _ (by decide +kernel)) (a _ (by decide +kernel))
  rcases List.mem_cons.mp hq with rfl | hq
  · exact xiC_of (q := ("InvalidValue", true)) C.g_InvalidValue (b _ (by decide +kernel)) (a _ (by decide +kernel))
  rcases List.mem_cons.mp hq with rfl | hq
  · exact xiC_of (q := ("InvalidColumns", true)) C.g_InvalidColumns (b _ (by decide +kernel)) (a _ (by decide +kernel))
  exact absurd hq (by simp)
theorem ix_NothingLeft (C : CtxT P K w mg) : ∀ q ∈ tb_NothingLeft, XiC K mg (.ref (He.ga K "NothingLeft")) q.1 q.2 := by
  intro q hq
  have a := List.all_eq_true.mp C.kt_NothingLeft
  have b := List.all_eq_true.mp C.exb_
  unfold tb_NothingLeft at hq
  rcases List.mem_cons.mp hq with rfl | hq
  · exact xiC_of (q := ("UnknownName", false)) C.g_UnknownName (b _ (by decide +kernel)) (a _ (by decide +kernel))
  rcases List.mem_cons.mp hq with rfl | hq
  · exact xiC_of (q := ("WrongKind", false)) C.g_WrongKind (b _ (by decide +kernel)) (a _ (by decide +kernel))
  rcases List.mem_cons.mp hq with rfl | hq
  · exact xiC_of (q := ("DuplicateName", false)) C.g_DuplicateName (b _ (by decide +kernel)) (a _ (by decide +kernel))
  rcases List.mem_cons.mp hq with rfl | hq
  · exact xiC_of (q := ("InvalidStatement", false)) C.g_InvalidStatement (b _ (by decide +kernel)) (a _ (by decide +kernel))
  rcases List.mem_cons.mp hq with rfl | hq
  · exact xiC_of (q := ("InvalidCondition", false)) C.g_InvalidCondition (b _ (by decide +kernel)) (a _ (by decide +kernel))
  rcases List.mem_cons.mp hq with rfl | hq
  · exact xiC_of (q := ("InvalidCommand", false)) C.g_InvalidCommand (b _ (by decide +kernel)) (a _ (by decide +kernel))
  rcases List.mem_cons.mp hq with rfl | hq
  · exact xiC_of (q := ("InvalidLine", false)) C.g_InvalidLine (b _ (by decide +kernel)) (a _ (by decide +kernel))
  rcases List.mem_cons.mp hq with rfl | hq
  · exact xiC_of (q := ("FailsLate", false)) C.g_FailsLate (b _ (by decide +kernel)) (a _ (by decide +kernel))
  rcases List.mem_cons.mp hq with rfl | hq
  · exact xiC_of (q := ("InvalidRule", false)) C.g_InvalidRule (b _ (by decide +kernel)) (a _ (by decide +kernel))
  rcases List.mem_cons.mp hq with rfl | hq
  · exact xiC_of (q := ("InvalidComparison", false)) C.g_InvalidComparison (b _ (by decide +kernel)) (a _ (by decide +kernel))
  rcases List.mem_cons.mp hq with rfl | hq
  · exact xiC_of (q := ("InvalidRow", false)) C.g_InvalidRow (b _ (by decide +kernel)) (a _ (by decide +kernel))
  rcases List.mem_cons.mp hq with rfl | hq
  · exact xiC_of (q := ("InvalidLimit", false)) C.g_InvalidLimit (b _ (by decide +kernel)) (a _ (by decide +kernel))
  rcases List.mem_cons.mp hq with rfl | hq
  · exact xiC_of (q := ("InvalidCount", false)) C.g_InvalidCount (b _ (by decide +kernel)) (a _ (by decide +kernel))
  rcases List.mem_cons.mp hq with rfl | hq
  · exact xiC_of (q := ("InvalidName", false)) C.g_InvalidName (b _ (by decide +kernel)) (a _ (by decide +kernel))
  rcases List.mem_cons.mp hq with rfl | hq
  · exact xiC_of (q := ("UnknownKey", false)) C.g_UnknownKey (b _ (by decide +kernel)) (a _ (by decide +kernel))
  rcases List.mem_cons.mp hq with rfl | hq
  · exact xiC_of (q := ("Failed", false)) C.g_Failed (b _ (by decide +kernel)) (a _ (by decide +kernel))
  rcases List.mem_cons.mp hq with rfl | hq
  · exact xiC_of (q := ("Full", false)) C.g_Full (b _ (by decide +kernel)) (a _ (by decide +kernel))
  rcases List.mem_cons.mp hq with rfl | hq
  · exact xiC_of (q := ("TooWide", false)) C.g_TooWide (b _ (by decide +kernel)) (a _ (by decide +kernel))
  rcases List.mem_cons.mp hq with rfl | hq
  · exact xiC_of (q := ("NotCarried", false)) C.g_NotCarried (b _ (by decide +kernel)) (a _ (by decide +kernel))
  rcases List.mem_cons.mp hq with rfl | hq
  · exact xiC_of (q := ("NothingLeft", true)) C.g_NothingLeft (b _ (by decide +kernel)) (a _ (by decide +kernel))
  rcases List.mem_cons.mp hq with rfl | hq
  · exact xiC_of (q := ("InvalidText", false)) C.g_InvalidText (b _ (by decide +kernel)) (a _ (by decide +kernel))
  rcases List.mem_cons.mp hq with rfl | hq
  · exact xiC_of (q := ("ColumnsDiffer", false)) C.g_ColumnsDiffer (b _ (by decide +kernel)) (a _ (by decide +kernel))
  rcases List.mem_cons.mp hq with rfl | hq
  · exact xiC_of (q := ("NotOpen", false)) C.g_NotOpen (b _ (by decide +kernel)) (a _ (by decide +kernel))
  rcases List.mem_cons.mp hq with rfl | hq
  · exact xiC_of (q := ("InvalidArguments", false)) C.g_InvalidArguments (b _ (by decide +kernel)) (a _ (by decide +kernel))
  rcases List.mem_cons.mp hq with rfl | hq
  · exact xiC_of (q := ("InvalidValue", false)) C.g_InvalidValue (b _ (by decide +kernel)) (a _ (by decide +kernel))
  rcases List.mem_cons.mp hq with rfl | hq
  · exact xiC_of (q := ("InvalidColumns", false)) C.g_InvalidColumns (b _ (by decide +kernel)) (a _ (by decide +kernel))
  exact absurd hq (by simp)
theorem ix_Missing (C : CtxT P K w mg) : ∀ q ∈ tb_Missing, XiC K mg (.ref (He.ga K "Missing")) q.1 q.2 := by
  intro q hq
  have a := List.all_eq_true.mp C.kt_Missing
  have b := List.all_eq_true.mp C.exb_
  unfold tb_Missing at hq
  rcases List.mem_cons.mp hq with rfl | hq
  · exact xiC_of (q := ("UnknownName", true)) C.g_UnknownName (b _ (by decide +kernel)) (a _ (by decide +kernel))
  rcases List.mem_cons.mp hq with rfl | hq
  · exact xiC_of (q := ("WrongKind", false)) C.g_WrongKind (b _ (by decide +kernel)) (a _ (by decide +kernel))
  rcases List.mem_cons.mp hq with rfl | hq
  · exact xiC_of (q := ("DuplicateName", false)) C.g_DuplicateName (b _ (by decide +kernel)) (a _ (by decide +kernel))
  rcases List.mem_cons.mp hq with rfl | hq
  · exact xiC_of (q := ("InvalidStatement", false)) C.g_InvalidStatement (b _ (by decide +kernel)) (a _ (by decide +kernel))
  rcases List.mem_cons.mp hq with rfl | hq
  · exact xiC_of (q := ("InvalidCondition", false)) C.g_InvalidCondition (b _ (by decide +kernel)) (a _ (by decide +kernel))
  rcases List.mem_cons.mp hq with rfl | hq
  · exact xiC_of (q := ("InvalidCommand", false)) C.g_InvalidCommand (b _ (by decide +kernel)) (a _ (by decide +kernel))
  rcases List.mem_cons.mp hq with rfl | hq
  · exact xiC_of (q := ("InvalidLine", false)) C.g_InvalidLine (b _ (by decide +kernel)) (a _ (by decide +kernel))
  rcases List.mem_cons.mp hq with rfl | hq
  · exact xiC_of (q := ("FailsLate", false)) C.g_FailsLate (b _ (by decide +kernel)) (a _ (by decide +kernel))
  rcases List.mem_cons.mp hq with rfl | hq
  · exact xiC_of (q := ("InvalidRule", false)) C.g_InvalidRule (b _ (by decide +kernel)) (a _ (by decide +kernel))
  rcases List.mem_cons.mp hq with rfl | hq
  · exact xiC_of (q := ("InvalidComparison", false)) C.g_InvalidComparison (b _ (by decide +kernel)) (a _ (by decide +kernel))
  rcases List.mem_cons.mp hq with rfl | hq
  · exact xiC_of (q := ("InvalidRow", false)) C.g_InvalidRow (b _ (by decide +kernel)) (a _ (by decide +kernel))
  rcases List.mem_cons.mp hq with rfl | hq
  · exact xiC_of (q := ("InvalidLimit", false)) C.g_InvalidLimit (b _ (by decide +kernel)) (a _ (by decide +kernel))
  rcases List.mem_cons.mp hq with rfl | hq
  · exact xiC_of (q := ("InvalidCount", false)) C.g_InvalidCount (b _ (by decide +kernel)) (a _ (by decide +kernel))
  rcases List.mem_cons.mp hq with rfl | hq
  · exact xiC_of (q := ("InvalidName", false)) C.g_InvalidName (b _ (by decide +kernel)) (a _ (by decide +kernel))
  rcases List.mem_cons.mp hq with rfl | hq
  · exact xiC_of (q := ("UnknownKey", true)) C.g_UnknownKey (b _ (by decide +kernel)) (a _ (by decide +kernel))
  rcases List.mem_cons.mp hq with rfl | hq
  · exact xiC_of (q := ("Failed", false)) C.g_Failed (b _ (by decide +kernel)) (a _ (by decide +kernel))
  rcases List.mem_cons.mp hq with rfl | hq
  · exact xiC_of (q := ("Full", false)) C.g_Full (b _ (by decide +kernel)) (a _ (by decide +kernel))
  rcases List.mem_cons.mp hq with rfl | hq
  · exact xiC_of (q := ("TooWide", false)) C.g_TooWide (b _ (by decide +kernel)) (a _ (by decide +kernel))
  rcases List.mem_cons.mp hq with rfl | hq
  · exact xiC_of (q := ("NotCarried", false)) C.g_NotCarried (b _ (by decide +kernel)) (a _ (by decide +kernel))
  rcases List.mem_cons.mp hq with rfl | hq
  · exact xiC_of (q := ("NothingLeft", false)) C.g_NothingLeft (b _ (by decide +kernel)) (a _ (by decide +kernel))
  rcases List.mem_cons.mp hq with rfl | hq
  · exact xiC_of (q := ("InvalidText", false)) C.g_InvalidText (b _ (by decide +kernel)) (a _ (by decide +kernel))
  rcases List.mem_cons.mp hq with rfl | hq
  · exact xiC_of (q := ("ColumnsDiffer", false)) C.g_ColumnsDiffer (b _ (by decide +kernel)) (a _ (by decide +kernel))
  rcases List.mem_cons.mp hq with rfl | hq
  · exact xiC_of (q := ("NotOpen", false)) C.g_NotOpen (b _ (by decide +kernel)) (a _ (by decide +kernel))
  rcases List.mem_cons.mp hq with rfl | hq
  · exact xiC_of (q := ("InvalidArguments", false)) C.g_InvalidArguments (b _ (by decide +kernel)) (a _ (by decide +kernel))
  rcases List.mem_cons.mp hq with rfl | hq
  · exact xiC_of (q := ("InvalidValue", false)) C.g_InvalidValue (b _ (by decide +kernel)) (a _ (by decide +kernel))
  rcases List.mem_cons.mp hq with rfl | hq
  · exact xiC_of (q := ("InvalidColumns", false)) C.g_InvalidColumns (b _ (by decide +kernel)) (a _ (by decide +kernel))
  exact absurd hq (by simp)
theorem ix_TableError (C : CtxT P K w mg) : ∀ q ∈ tb_TableError, XiC K mg (.ref (He.ga K "TableError")) q.1 q.2 := by
  intro q hq
  have a := List.all_eq_true.mp C.kt_TableError
  have b := List.all_eq_true.mp C.exb_
  unfold tb_TableError at hq
  rcases List.mem_cons.mp hq with rfl | hq
  · exact xiC_of (q := ("UnknownName", false)) C.g_UnknownName (b _ (by decide +kernel)) (a _ (by decide +kernel))
  rcases List.mem_cons.mp hq with rfl | hq
  · exact xiC_of (q := ("WrongKind", true)) C.g_WrongKind (b _ (by decide +kernel)) (a _ (by decide +kernel))
  rcases List.mem_cons.mp hq with rfl | hq
  · exact xiC_of (q := ("DuplicateName", true)) C.g_DuplicateName (b _ (by decide +kernel)) (a _ (by decide +kernel))
  rcases List.mem_cons.mp hq with rfl | hq
  · exact xiC_of (q := ("InvalidStatement", true)) C.g_InvalidStatement (b _ (by decide +kernel)) (a _ (by decide +kernel))
  rcases List.mem_cons.mp hq with rfl | hq
  · exact xiC_of (q := ("InvalidCondition", true)) C.g_InvalidCondition (b _ (by decide +kernel)) (a _ (by decide +kernel))
  rcases List.mem_cons.mp hq with rfl | hq
  · exact xiC_of (q := ("InvalidCommand", true)) C.g_InvalidCommand (b _ (by decide +kernel)) (a _ (by decide +kernel))
  rcases List.mem_cons.mp hq with rfl | hq
  · exact xiC_of (q := ("InvalidLine", true)) C.g_InvalidLine (b _ (by decide +kernel)) (a _ (by decide +kernel))
  rcases List.mem_cons.mp hq with rfl | hq
  · exact xiC_of (q := ("FailsLate", true)) C.g_FailsLate (b _ (by decide +kernel)) (a _ (by decide +kernel))
  rcases List.mem_cons.mp hq with rfl | hq
  · exact xiC_of (q := ("InvalidRule", true)) C.g_InvalidRule (b _ (by decide +kernel)) (a _ (by decide +kernel))
  rcases List.mem_cons.mp hq with rfl | hq
  · exact xiC_of (q := ("InvalidComparison", true)) C.g_InvalidComparison (b _ (by decide +kernel)) (a _ (by decide +kernel))
  rcases List.mem_cons.mp hq with rfl | hq
  · exact xiC_of (q := ("InvalidRow", true)) C.g_InvalidRow (b _ (by decide +kernel)) (a _ (by decide +kernel))
  rcases List.mem_cons.mp hq with rfl | hq
  · exact xiC_of (q := ("InvalidLimit", true)) C.g_InvalidLimit (b _ (by decide +kernel)) (a _ (by decide +kernel))
  rcases List.mem_cons.mp hq with rfl | hq
  · exact xiC_of (q := ("InvalidCount", true)) C.g_InvalidCount (b _ (by decide +kernel)) (a _ (by decide +kernel))
  rcases List.mem_cons.mp hq with rfl | hq
  · exact xiC_of (q := ("InvalidName", true)) C.g_InvalidName (b _ (by decide +kernel)) (a _ (by decide +kernel))
  rcases List.mem_cons.mp hq with rfl | hq
  · exact xiC_of (q := ("UnknownKey", false)) C.g_UnknownKey (b _ (by decide +kernel)) (a _ (by decide +kernel))
  rcases List.mem_cons.mp hq with rfl | hq
  · exact xiC_of (q := ("Failed", true)) C.g_Failed (b _ (by decide +kernel)) (a _ (by decide +kernel))
  rcases List.mem_cons.mp hq with rfl | hq
  · exact xiC_of (q := ("Full", true)) C.g_Full (b _ (by decide +kernel)) (a _ (by decide +kernel))
  rcases List.mem_cons.mp hq with rfl | hq
  · exact xiC_of (q := ("TooWide", true)) C.g_TooWide (b _ (by decide +kernel)) (a _ (by decide +kernel))
  rcases List.mem_cons.mp hq with rfl | hq
  · exact xiC_of (q := ("NotCarried", true)) C.g_NotCarried (b _ (by decide +kernel)) (a _ (by decide +kernel))
  rcases List.mem_cons.mp hq with rfl | hq
  · exact xiC_of (q := ("NothingLeft", false)) C.g_NothingLeft (b _ (by decide +kernel)) (a _ (by decide +kernel))
  rcases List.mem_cons.mp hq with rfl | hq
  · exact xiC_of (q := ("InvalidText", true)) C.g_InvalidText (b _ (by decide +kernel)) (a _ (by decide +kernel))
  rcases List.mem_cons.mp hq with rfl | hq
  · exact xiC_of (q := ("ColumnsDiffer", true)) C.g_ColumnsDiffer (b _ (by decide +kernel)) (a _ (by decide +kernel))
  rcases List.mem_cons.mp hq with rfl | hq
  · exact xiC_of (q := ("NotOpen", true)) C.g_NotOpen (b _ (by decide +kernel)) (a _ (by decide +kernel))
  rcases List.mem_cons.mp hq with rfl | hq
  · exact xiC_of (q := ("InvalidArguments", true)) C.g_InvalidArguments (b _ (by decide +kernel)) (a _ (by decide +kernel))
  rcases List.mem_cons.mp hq with rfl | hq
  · exact xiC_of (q := ("InvalidValue", true)) C.g_InvalidValue (b _ (by decide +kernel)) (a _ (by decide +kernel))
  rcases List.mem_cons.mp hq with rfl | hq
  · exact xiC_of (q := ("InvalidColumns", true)) C.g_InvalidColumns (b _ (by decide +kernel)) (a _ (by decide +kernel))
  exact absurd hq (by simp)
theorem ix_InvalidName (C : CtxT P K w mg) : ∀ q ∈ tb_InvalidName, XiC K mg (.ref (He.ga K "InvalidName")) q.1 q.2 := by
  intro q hq
  have a := List.all_eq_true.mp C.kt_InvalidName
  have b := List.all_eq_true.mp C.exb_
  unfold tb_InvalidName at hq
  rcases List.mem_cons.mp hq with rfl | hq
  · exact xiC_of (q := ("UnknownName", false)) C.g_UnknownName (b _ (by decide +kernel)) (a _ (by decide +kernel))
  rcases List.mem_cons.mp hq with rfl | hq
  · exact xiC_of (q := ("WrongKind", false)) C.g_WrongKind (b _ (by decide +kernel)) (a _ (by decide +kernel))
  rcases List.mem_cons.mp hq with rfl | hq
  · exact xiC_of (q := ("DuplicateName", false)) C.g_DuplicateName (b _ (by decide +kernel)) (a _ (by decide +kernel))
  rcases List.mem_cons.mp hq with rfl | hq
  · exact xiC_of (q := ("InvalidStatement", false)) C.g_InvalidStatement (b _ (by decide +kernel)) (a _ (by decide +kernel))
  rcases List.mem_cons.mp hq with rfl | hq
  · exact xiC_of (q := ("InvalidCondition", false)) C.g_InvalidCondition (b _ (by decide +kernel)) (a _ (by decide +kernel))
  rcases List.mem_cons.mp hq with rfl | hq
  · exact xiC_of (q := ("InvalidCommand", false)) C.g_InvalidCommand (b _ (by decide +kernel)) (a _ (by decide +kernel))
  rcases List.mem_cons.mp hq with rfl | hq
  · exact xiC_of (q := ("InvalidLine", false)) C.g_InvalidLine (b _ (by decide +kernel)) (a _ (by decide +kernel))
  rcases List.mem_cons.mp hq with rfl | hq
  · exact xiC_of (q := ("FailsLate", false)) C.g_FailsLate (b _ (by decide +kernel)) (a _ (by decide +kernel))
  rcases List.mem_cons.mp hq with rfl | hq
  · exact xiC_of (q := ("InvalidRule", false)) C.g_InvalidRule (b _ (by decide +kernel)) (a _ (by decide +kernel))
  rcases List.mem_cons.mp hq with rfl | hq
  · exact xiC_of (q := ("InvalidComparison", false)) C.g_InvalidComparison (b _ (by decide +kernel)) (a _ (by decide +kernel))
  rcases List.mem_cons.mp hq with rfl | hq
  · exact xiC_of (q := ("InvalidRow", false)) C.g_InvalidRow (b _ (by decide +kernel)) (a _ (by decide +kernel))
  rcases List.mem_cons.mp hq with rfl | hq
  · exact xiC_of (q := ("InvalidLimit", false)) C.g_InvalidLimit (b _ (by decide +kernel)) (a _ (by decide +kernel))
  rcases List.mem_cons.mp hq with rfl | hq
  · exact xiC_of (q := ("InvalidCount", false)) C.g_InvalidCount (b _ (by decide +kernel)) (a _ (by decide +kernel))
  rcases List.mem_cons.mp hq with rfl | hq
  · exact xiC_of (q := ("InvalidName", true)) C.g_InvalidName (b _ (by decide +kernel)) (a _ (by decide +kernel))
  rcases List.mem_cons.mp hq with rfl | hq
  · exact xiC_of (q := ("UnknownKey", false)) C.g_UnknownKey (b _ (by decide +kernel)) (a _ (by decide +kernel))
  rcases List.mem_cons.mp hq with rfl | hq
  · exact xiC_of (q := ("Failed", false)) C.g_Failed (b _ (by decide +kernel)) (a _ (by decide +kernel))
  rcases List.mem_cons.mp hq with rfl | hq
  · exact xiC_of (q := ("Full", false)) C.g_Full (b _ (by decide +kernel)) (a _ (by decide +kernel))
  rcases List.mem_cons.mp hq with rfl | hq
  · exact xiC_of (q := ("TooWide", false)) C.g_TooWide (b _ (by decide +kernel)) (a _ (by decide +kernel))
  rcases List.mem_cons.mp hq with rfl | hq
  · exact xiC_of (q := ("NotCarried", false)) C.g_NotCarried (b _ (by decide +kernel)) (a _ (by decide +kernel))
  rcases List.mem_cons.mp hq with rfl | hq
  · exact xiC_of (q := ("NothingLeft", false)) C.g_NothingLeft (b _ (by decide +kernel)) (a _ (by decide +kernel))
  rcases List.mem_cons.mp hq with rfl | hq
  · exact xiC_of (q := ("InvalidText", false)) C.g_InvalidText (b _ (by decide +kernel)) (a _ (by decide +kernel))
  rcases List.mem_cons.mp hq with rfl | hq
  · exact xiC_of (q := ("ColumnsDiffer", false)) C.g_ColumnsDiffer (b _ (by decide +kernel)) (a _ (by decide +kernel))
  rcases List.mem_cons.mp hq with rfl | hq
  · exact xiC_of (q := ("NotOpen", false)) C.g_NotOpen (b _ (by decide +kernel)) (a _ (by decide +kernel))
  rcases List.mem_cons.mp hq with rfl | hq
  · exact xiC_of (q := ("InvalidArguments", false)) C.g_InvalidArguments (b _ (by decide +kernel)) (a _ (by decide +kernel))
  rcases List.mem_cons.mp hq with rfl | hq
  · exact xiC_of (q := ("InvalidValue", false)) C.g_InvalidValue (b _ (by decide +kernel)) (a _ (by decide +kernel))
  rcases List.mem_cons.mp hq with rfl | hq
  · exact xiC_of (q := ("InvalidColumns", false)) C.g_InvalidColumns (b _ (by decide +kernel)) (a _ (by decide +kernel))
  exact absurd hq (by simp)
theorem ix_InvalidCount (C : CtxT P K w mg) : ∀ q ∈ tb_InvalidCount, XiC K mg (.ref (He.ga K "InvalidCount")) q.1 q.2 := by
  intro q hq
  have a := List.all_eq_true.mp C.kt_InvalidCount
  have b := List.all_eq_true.mp C.exb_
  unfold tb_InvalidCount at hq
  rcases List.mem_cons.mp hq with rfl | hq
  · exact xiC_of (q := ("UnknownName", false)) C.g_UnknownName (b _ (by decide +kernel)) (a _ (by decide +kernel))
  rcases List.mem_cons.mp hq with rfl | hq
  · exact xiC_of (q := ("WrongKind", false)) C.g_WrongKind (b _ (by decide +kernel)) (a _ (by decide +kernel))
  rcases List.mem_cons.mp hq with rfl | hq
  · exact xiC_of (q := ("DuplicateName", false)) C.g_DuplicateName (b _ (by decide +kernel)) (a _ (by decide +kernel))
  rcases List.mem_cons.mp hq with rfl | hq
  · exact xiC_of (q := ("InvalidStatement", false)) C.g_InvalidStatement (b _ (by decide +kernel)) (a _ (by decide +kernel))
  rcases List.mem_cons.mp hq with rfl | hq
  · exact xiC_of (q := ("InvalidCondition", false)) C.g_InvalidCondition (b _ (by decide +kernel)) (a _ (by decide +kernel))
  rcases List.mem_cons.mp hq with rfl | hq
  · exact xiC_of (q := ("InvalidCommand", false)) C.g_InvalidCommand (b _ (by decide +kernel)) (a _ (by decide +kernel))
  rcases List.mem_cons.mp hq with rfl | hq
  · exact xiC_of (q := ("InvalidLine", false)) C.g_InvalidLine (b _ (by decide +kernel)) (a _ (by decide +kernel))
  rcases List.mem_cons.mp hq with rfl | hq
  · exact xiC_of (q := ("FailsLate", false)) C.g_FailsLate (b _ (by decide +kernel)) (a _ (by decide +kernel))
  rcases List.mem_cons.mp hq with rfl | hq
  · exact xiC_of (q := ("InvalidRule", false)) C.g_InvalidRule (b _ (by decide +kernel)) (a _ (by decide +kernel))
  rcases List.mem_cons.mp hq with rfl | hq
  · exact xiC_of (q := ("InvalidComparison", false)) C.g_InvalidComparison (b _ (by decide +kernel)) (a _ (by decide +kernel))
  rcases List.mem_cons.mp hq with rfl | hq
  · exact xiC_of (q := ("InvalidRow", false)) C.g_InvalidRow (b _ (by decide +kernel)) (a _ (by decide +kernel))
  rcases List.mem_cons.mp hq with rfl | hq
  · exact xiC_of (q := ("InvalidLimit", false)) C.g_InvalidLimit (b _ (by decide +kernel)) (a _ (by decide +kernel))
  rcases List.mem_cons.mp hq with rfl | hq
  · exact xiC_of (q := ("InvalidCount", true)) C.g_InvalidCount (b _ (by decide +kernel)) (a _ (by decide +kernel))
  rcases List.mem_cons.mp hq with rfl | hq
  · exact xiC_of (q := ("InvalidName", false)) C.g_InvalidName (b _ (by decide +kernel)) (a _ (by decide +kernel))
  rcases List.mem_cons.mp hq with rfl | hq
  · exact xiC_of (q := ("UnknownKey", false)) C.g_UnknownKey (b _ (by decide +kernel)) (a _ (by decide +kernel))
  rcases List.mem_cons.mp hq with rfl | hq
  · exact xiC_of (q := ("Failed", false)) C.g_Failed (b _ (by decide +kernel)) (a _ (by decide +kernel))
  rcases List.mem_cons.mp hq with rfl | hq
  · exact xiC_of (q := ("Full", false)) C.g_Full (b _ (by decide +kernel)) (a _ (by decide +kernel))
  rcases List.mem_cons.mp hq with rfl | hq
  · exact xiC_of (q := ("TooWide", false)) C.g_TooWide (b _ (by decide +kernel)) (a _ (by decide +kernel))
  rcases List.mem_cons.mp hq with rfl | hq
  · exact xiC_of (q := ("NotCarried", false)) C.g_NotCarried (b _ (by decide +kernel)) (a _ (by decide +kernel))
  rcases List.mem_cons.mp hq with rfl | hq
  · exact xiC_of (q := ("NothingLeft", false)) C.g_NothingLeft (b _ (by decide +kernel)) (a _ (by decide +kernel))
  rcases List.mem_cons.mp hq with rfl | hq
  · exact xiC_of (q := ("InvalidText", false)) C.g_InvalidText (b _ (by decide +kernel)) (a _ (by decide +kernel))
  rcases List.mem_cons.mp hq with rfl | hq
  · exact xiC_of (q := ("ColumnsDiffer", false)) C.g_ColumnsDiffer (b _ (by decide +kernel)) (a _ (by decide +kernel))
  rcases List.mem_cons.mp hq with rfl | hq
  · exact xiC_of (q := ("NotOpen", false)) C.g_NotOpen (b _ (by decide +kernel)) (a _ (by decide +kernel))
  rcases List.mem_cons.mp hq with rfl | hq
  · exact xiC_of (q := ("InvalidArguments", false)) C.g_InvalidArguments (b _ (by decide +kernel)) (a _ (by decide +kernel))
  rcases List.mem_cons.mp hq with rfl | hq
  · exact xiC_of (q := ("InvalidValue", false)) C.g_InvalidValue (b _ (by decide +kernel)) (a _ (by decide +kernel))
  rcases List.mem_cons.mp hq with rfl | hq
  · exact xiC_of (q := ("InvalidColumns", false)) C.g_InvalidColumns (b _ (by decide +kernel)) (a _ (by decide +kernel))
  exact absurd hq (by simp)
theorem ix_IndexError (C : CtxT P K w mg) : ∀ q ∈ tb_IndexError, XiC K mg (.type "IndexError") q.1 q.2 := by
  intro q hq
  have a := List.all_eq_true.mp C.kt_IndexError
  have b := List.all_eq_true.mp C.exb_
  unfold tb_IndexError at hq
  rcases List.mem_cons.mp hq with rfl | hq
  · exact xiC_of (q := ("UnknownName", false)) C.g_UnknownName (b _ (by decide +kernel)) (a _ (by decide +kernel))
  rcases List.mem_cons.mp hq with rfl | hq
  · exact xiC_of (q := ("WrongKind", false)) C.g_WrongKind (b _ (by decide +kernel)) (a _ (by decide +kernel))
  rcases List.mem_cons.mp hq with rfl | hq
  · exact xiC_of (q := ("DuplicateName", false)) C.g_DuplicateName (b _ (by decide +kernel)) (a _ (by decide +kernel))
  rcases List.mem_cons.mp hq with rfl | hq
  · exact xiC_of (q := ("InvalidStatement", false)) C.g_InvalidStatement (b _ (by decide +kernel)) (a _ (by decide +kernel))
  rcases List.mem_cons.mp hq with rfl | hq
  · exact xiC_of (q := ("InvalidCondition", false)) C.g_InvalidCondition (b _ (by decide +kernel)) (a _ (by decide +kernel))
  rcases List.mem_cons.mp hq with rfl | hq
  · exact xiC_of (q := ("InvalidCommand", false)) C.g_InvalidCommand (b _ (by decide +kernel)) (a _ (by decide +kernel))
  rcases List.mem_cons.mp hq with rfl | hq
  · exact xiC_of (q := ("InvalidLine", false)) C.g_InvalidLine (b _ (by decide +kernel)) (a _ (by decide +kernel))
  rcases List.mem_cons.mp hq with rfl | hq
  · exact xiC_of (q := ("FailsLate", false)) C.g_FailsLate (b _ (by decide +kernel)) (a _ (by decide +kernel))
  rcases List.mem_cons.mp hq with rfl | hq
  · exact xiC_of (q := ("InvalidRule", false)) C.g_InvalidRule (b _ (by decide +kernel)) (a _ (by decide +kernel))
  rcases List.mem_cons.mp hq with rfl | hq
  · exact xiC_of (q := ("InvalidComparison", false)) C.g_InvalidComparison (b _ (by decide +kernel)) (a _ (by decide +kernel))
  rcases List.mem_cons.mp hq with rfl | hq
  · exact xiC_of (q := ("InvalidRow", false)) C.g_InvalidRow (b _ (by decide +kernel)) (a _ (by decide +kernel))
  rcases List.mem_cons.mp hq with rfl | hq
  · exact xiC_of (q := ("InvalidLimit", false)) C.g_InvalidLimit (b _ (by decide +kernel)) (a _ (by decide +kernel))
  rcases List.mem_cons.mp hq with rfl | hq
  · exact xiC_of (q := ("InvalidCount", false)) C.g_InvalidCount (b _ (by decide +kernel)) (a _ (by decide +kernel))
  rcases List.mem_cons.mp hq with rfl | hq
  · exact xiC_of (q := ("InvalidName", false)) C.g_InvalidName (b _ (by decide +kernel)) (a _ (by decide +kernel))
  rcases List.mem_cons.mp hq with rfl | hq
  · exact xiC_of (q := ("UnknownKey", false)) C.g_UnknownKey (b _ (by decide +kernel)) (a _ (by decide +kernel))
  rcases List.mem_cons.mp hq with rfl | hq
  · exact xiC_of (q := ("Failed", false)) C.g_Failed (b _ (by decide +kernel)) (a _ (by decide +kernel))
  rcases List.mem_cons.mp hq with rfl | hq
  · exact xiC_of (q := ("Full", false)) C.g_Full (b _ (by decide +kernel)) (a _ (by decide +kernel))
  rcases List.mem_cons.mp hq with rfl | hq
  · exact xiC_of (q := ("TooWide", false)) C.g_TooWide (b _ (by decide +kernel)) (a _ (by decide +kernel))
  rcases List.mem_cons.mp hq with rfl | hq
  · exact xiC_of (q := ("NotCarried", false)) C.g_NotCarried (b _ (by decide +kernel)) (a _ (by decide +kernel))
  rcases List.mem_cons.mp hq with rfl | hq
  · exact xiC_of (q := ("NothingLeft", true)) C.g_NothingLeft (b _ (by decide +kernel)) (a _ (by decide +kernel))
  rcases List.mem_cons.mp hq with rfl | hq
  · exact xiC_of (q := ("InvalidText", false)) C.g_InvalidText (b _ (by decide +kernel)) (a _ (by decide +kernel))
  rcases List.mem_cons.mp hq with rfl | hq
  · exact xiC_of (q := ("ColumnsDiffer", false)) C.g_ColumnsDiffer (b _ (by decide +kernel)) (a _ (by decide +kernel))
  rcases List.mem_cons.mp hq with rfl | hq
  · exact xiC_of (q := ("NotOpen", false)) C.g_NotOpen (b _ (by decide +kernel)) (a _ (by decide +kernel))
  rcases List.mem_cons.mp hq with rfl | hq
  · exact xiC_of (q := ("InvalidArguments", false)) C.g_InvalidArguments (b _ (by decide +kernel)) (a _ (by decide +kernel))
  rcases List.mem_cons.mp hq with rfl | hq
  · exact xiC_of (q := ("InvalidValue", false)) C.g_InvalidValue (b _ (by decide +kernel)) (a _ (by decide +kernel))
  rcases List.mem_cons.mp hq with rfl | hq
  · exact xiC_of (q := ("InvalidColumns", false)) C.g_InvalidColumns (b _ (by decide +kernel)) (a _ (by decide +kernel))
  exact absurd hq (by simp)
def N__law_draws : List Str := ["_law_script", "_law_seed", "_law_cell"]
def mb__law_draws_0 : MS :=
    (msAsg (mBin dMod (mCall dInt (mCons (mBin dAdd (mBin dAdd (mBin dMul (mVar 1) (mC (.int 44021))) (mBin dMod (mCall dInt (mCons (mVar 2) mNil)) (mC (.int 2147483489)))) (mC (.int 53))) mNil)) (mC (.int 2147483549))) (mgName 1))
def m__law_draws : MS :=
    (msSeq (msAsg (mC (.int 5648)) (mgName 1))
    (msSeq (msFor (miL (mSl (mVar 0) mNoP (mSmP (mC (.int 63))))) (mgName 2) mb__law_draws_0)
    (msRet (mLstC (mCons (mCall dList (mCons (mSl (mVar 0) mNoP (mSmP (mC (.int 63)))) mNil)) (mCons (mC (.int 0)) (mCons (mC (.int 0)) (mCons (mVar 1) (mCons (mC (.int 0)) mNil)))))))))
theorem sc__law_draws : FnScope N__law_draws ["_law_script"] (defScope s__law_draws) := ⟨rfl, rfl, rfl, by decide +kernel, rfl, by decide +kernel, by decide +kernel⟩
def F__law_draws : IF := runA N__law_draws.length m__law_draws
theorem ok__law_draws (C : CtxT P K w mg) (B : CtxB K mg base) : FnI P w K mg base "_law_draws" (1) 1 (F__law_draws) := by
  have sc := sc__law_draws
  obtain ⟨f, fd, Fd, g⟩ := C.d__law_draws
  exact ⟨⟨f, fd, ["_law_script"], g, Fd.kp, Fd.bindsN (fun _ _ _ _ _ _ us hl => match us, hl with | [_], _ => rfl), rfl, fnA Fd sc fun cdv A outer s H E hr => (rss_cons (rs_set 1 sc.nd re_int)
    (rss_cons (rs_for poOf rfl (ri_list (re_slice (re_var 0) ro_none (ro_some re_int))) (rg_name 2 sc.nd) (rss_one (rs_set 1 sc.nd (re_mod (re_intc C.n_int (ra_cons (re_add (re_add (re_mul (re_var 1) re_int) (re_mod (re_intc C.n_int (ra_cons (re_var 2) ra_nil)) re_int)) re_int) ra_nil)) re_int))))
    (rss_one (rs_ret (re_lstC (ra_cons (re_listc C.n_list (ra_cons (re_slice (re_var 0) ro_none (ro_some re_int)) ra_nil)) (ra_cons re_int (ra_cons re_int (ra_cons (re_var 1) (ra_cons re_int ra_nil))))))))))⟩⟩
def N__law_given : List Str := ["_law_a", "_law_named", "_law_indexed", "_law_paths"]
def m__law_given : MS :=
    (msSeq (msAsg (mLst (mCons (mTup (mCons (mNewX "InvalidName" (some "given") [73, 110, 118, 97, 108, 105, 100, 78, 97, 109, 101] (mCons (mVar 0) mNil)) (mCons (mC (.str [73, 110, 118, 97, 108, 105, 100, 78, 97, 109, 101])) mNil))) (mCons (mTup (mCons (mNewX "InvalidCount" (some "given") [73, 110, 118, 97, 108, 105, 100, 67, 111, 117, 110, 116] (mCons (mVar 0) mNil)) (mCons (mC (.str [73, 110, 118, 97, 108, 105, 100, 67, 111, 117, 110, 116])) mNil))) (mCons (mTup (mCons (mNewX "InvalidLimit" (some "given") [73, 110, 118, 97, 108, 105, 100, 76, 105, 109, 105, 116] (mCons (mVar 0) mNil)) (mCons (mC (.str [73, 110, 118, 97, 108, 105, 100, 76, 105, 109, 105, 116])) mNil))) mNil)))) (mgName 1))
    (msSeq (msAsg (mLst (mCons (mTup (mCons (mNewX "InvalidRow" (some "index") [73, 110, 118, 97, 108, 105, 100, 82, 111, 119] (mCons (mVar 0) mNil)) (mCons (mC (.str [73, 110, 118, 97, 108, 105, 100, 82, 111, 119])) mNil))) (mCons (mTup (mCons (mNewX "InvalidComparison" (some "index") [73, 110, 118, 97, 108, 105, 100, 67, 111, 109, 112, 97, 114, 105, 115, 111, 110] (mCons (mVar 0) mNil)) (mCons (mC (.str [73, 110, 118, 97, 108, 105, 100, 67, 111, 109, 112, 97, 114, 105, 115, 111, 110])) mNil))) (mCons (mTup (mCons (mNewX "InvalidRule" (some "index") [73, 110, 118, 97, 108, 105, 100, 82, 117, 108, 101] (mCons (mVar 0) mNil)) (mCons (mC (.str [73, 110, 118, 97, 108, 105, 100, 82, 117, 108, 101])) mNil))) mNil)))) (mgName 2))
    (msSeq (msAsg (mBin dAdd (mVar 2) (mLst (mCons (mTup (mCons (mNewX "FailsLate" (some "index") [70, 97, 105, 108, 115, 76, 97, 116, 101] (mCons (mVar 0) mNil)) (mCons (mC (.str [70, 97, 105, 108, 115, 76, 97, 116, 101])) mNil))) (mCons (mTup (mCons (mNewX "InvalidLine" (some "index") [73, 110, 118, 97, 108, 105, 100, 76, 105, 110, 101] (mCons (mVar 0) mNil)) (mCons (mC (.str [73, 110, 118, 97, 108, 105, 100, 76, 105, 110, 101])) mNil))) (mCons (mTup (mCons (mNewX "InvalidCommand" (some "index") [73, 110, 118, 97, 108, 105, 100, 67, 111, 109, 109, 97, 110, 100] (mCons (mVar 0) mNil)) (mCons (mC (.str [73, 110, 118, 97, 108, 105, 100, 67, 111, 109, 109, 97, 110, 100])) mNil))) mNil))))) (mgName 2))
    (msSeq (msAsg (mLst (mCons (mTup (mCons (mNewX "InvalidCondition" (some "path") [73, 110, 118, 97, 108, 105, 100, 67, 111, 110, 100, 105, 116, 105, 111, 110] (mCons (mTup (mCons (mC (.int 1)) (mCons (mC (.int 2)) mNil))) mNil)) (mCons (mC (.str [73, 110, 118, 97, 108, 105, 100, 67, 111, 110, 100, 105, 116, 105, 111, 110])) mNil))) (mCons (mTup (mCons (mNewX "InvalidStatement" (some "path") [73, 110, 118, 97, 108, 105, 100, 83, 116, 97, 116, 101, 109, 101, 110, 116] (mCons (mTup (mCons (mC (.int 1)) (mCons (mC (.int 2)) mNil))) mNil)) (mCons (mC (.str [73, 110, 118, 97, 108, 105, 100, 83, 116, 97, 116, 101, 109, 101, 110, 116])) mNil))) mNil))) (mgName 3))
    (msRet (mTup (mCons (mVar 1) (mCons (mVar 2) (mCons (mVar 3) (mCons (mLst (mCons (mTup (mCons (mNewX "DuplicateName" (some "name") [68, 117, 112, 108, 105, 99, 97, 116, 101, 78, 97, 109, 101] (mCons (mVar 0) mNil)) (mCons (mC (.str [68, 117, 112, 108, 105, 99, 97, 116, 101, 78, 97, 109, 101])) mNil))) (mCons (mTup (mCons (mNewX "WrongKind" (some "name") [87, 114, 111, 110, 103, 75, 105, 110, 100] (mCons (mVar 0) mNil)) (mCons (mC (.str [87, 114, 111, 110, 103, 75, 105, 110, 100])) mNil))) (mCons (mTup (mCons (mNewX "UnknownName" (some "name") [85, 110, 107, 110, 111, 119, 110, 78, 97, 109, 101] (mCons (mVar 0) mNil)) (mCons (mC (.str [85, 110, 107, 110, 111, 119, 110, 78, 97, 109, 101])) mNil))) mNil)))) mNil))))))))))
theorem sc__law_given : FnScope N__law_given ["_law_a"] (defScope s__law_given) := ⟨rfl, rfl, rfl, by decide +kernel, rfl, by decide +kernel, by decide +kernel⟩
def F__law_given : PF := runP N__law_given.length m__law_given
theorem ok__law_given (C : CtxT P K w mg) (B : CtxB K mg base) : FnP P w K mg base "_law_given" (4) 1 (F__law_given) := by
  have sc := sc__law_given
  obtain ⟨f, fd, Fd, g⟩ := C.d__law_given
  exact ⟨⟨f, fd, ["_law_a"], g, Fd.kp, Fd.bindsN (fun _ _ _ _ _ _ us hl => match us, hl with | [_], _ => rfl), rfl, fnP Fd sc fun cdv A outer s H E hr => (rss_cons (rs_set 1 sc.nd (re_lst (ra_cons (re_tup (ra_cons (re_newX1 (xv_InvalidName C) (by decide +kernel) hr (ra_cons (re_var 0) ra_nil)) (ra_cons (re_str [73, 110, 118, 97, 108, 105, 100, 78, 97, 109, 101]) ra_nil))) (ra_cons (re_tup (ra_cons (re_newX1 (xv_InvalidCount C) (by decide +kernel) hr (ra_cons (re_var 0) ra_nil)) (ra_cons (re_str [73, 110, 118, 97, 108, 105, 100, 67, 111, 117, 110, 116]) ra_nil))) (ra_cons (re_tup (ra_cons (re_newX1 (xv_InvalidLimit C) (by decide +kernel) hr (ra_cons (re_var 0) ra_nil)) (ra_cons (re_str [73, 110, 118, 97, 108, 105, 100, 76, 105, 109, 105, 116]) ra_nil))) ra_nil)))))
    (rss_cons (rs_set 2 sc.nd (re_lst (ra_cons (re_tup (ra_cons (re_newX1 (xv_InvalidRow C) (by decide +kernel) hr (ra_cons (re_var 0) ra_nil)) (ra_cons (re_str [73, 110, 118, 97, 108, 105, 100, 82, 111, 119]) ra_nil))) (ra_cons (re_tup (ra_cons (re_newX1 (xv_InvalidComparison C) (by decide +kernel) hr (ra_cons (re_var 0) ra_nil)) (ra_cons (re_str [73, 110, 118, 97, 108, 105, 100, 67, 111, 109, 112, 97, 114, 105, 115, 111, 110]) ra_nil))) (ra_cons (re_tup (ra_cons (re_newX1 (xv_InvalidRule C) (by decide +kernel) hr (ra_cons (re_var 0) ra_nil)) (ra_cons (re_str [73, 110, 118, 97, 108, 105, 100, 82, 117, 108, 101]) ra_nil))) ra_nil)))))
    (rss_cons (rs_set 2 sc.nd (re_add (re_var 2) (re_lst (ra_cons (re_tup (ra_cons (re_newX1 (xv_FailsLate C) (by decide +kernel) hr (ra_cons (re_var 0) ra_nil)) (ra_cons (re_str [70, 97, 105, 108, 115, 76, 97, 116, 101]) ra_nil))) (ra_cons (re_tup (ra_cons (re_newX1 (xv_InvalidLine C) (by decide +kernel) hr (ra_cons (re_var 0) ra_nil)) (ra_cons (re_str [73, 110, 118, 97, 108, 105, 100, 76, 105, 110, 101]) ra_nil))) (ra_cons (re_tup (ra_cons (re_newX1 (xv_InvalidCommand C) (by decide +kernel) hr (ra_cons (re_var 0) ra_nil)) (ra_cons (re_str [73, 110, 118, 97, 108, 105, 100, 67, 111, 109, 109, 97, 110, 100]) ra_nil))) ra_nil))))))
    (rss_cons (rs_set 3 sc.nd (re_lst (ra_cons (re_tup (ra_cons (re_newX1 (xv_InvalidCondition C) (by decide +kernel) hr (ra_cons (re_tup (ra_cons re_int (ra_cons re_int ra_nil))) ra_nil)) (ra_cons (re_str [73, 110, 118, 97, 108, 105, 100, 67, 111, 110, 100, 105, 116, 105, 111, 110]) ra_nil))) (ra_cons (re_tup (ra_cons (re_newX1 (xv_InvalidStatement C) (by decide +kernel) hr (ra_cons (re_tup (ra_cons re_int (ra_cons re_int ra_nil))) ra_nil)) (ra_cons (re_str [73, 110, 118, 97, 108, 105, 100, 83, 116, 97, 116, 101, 109, 101, 110, 116]) ra_nil))) ra_nil))))
    (rss_one (rs_ret (re_tup (ra_cons (re_var 1) (ra_cons (re_var 2) (ra_cons (re_var 3) (ra_cons (re_lst (ra_cons (re_tup (ra_cons (re_newX1 (xv_DuplicateName C) (by decide +kernel) hr (ra_cons (re_var 0) ra_nil)) (ra_cons (re_str [68, 117, 112, 108, 105, 99, 97, 116, 101, 78, 97, 109, 101]) ra_nil))) (ra_cons (re_tup (ra_cons (re_newX1 (xv_WrongKind C) (by decide +kernel) hr (ra_cons (re_var 0) ra_nil)) (ra_cons (re_str [87, 114, 111, 110, 103, 75, 105, 110, 100]) ra_nil))) (ra_cons (re_tup (ra_cons (re_newX1 (xv_UnknownName C) (by decide +kernel) hr (ra_cons (re_var 0) ra_nil)) (ra_cons (re_str [85, 110, 107, 110, 111, 119, 110, 78, 97, 109, 101]) ra_nil))) ra_nil)))) ra_nil)))))))))))⟩⟩
def N__law_pull : List Str := ["_law_bag", "_law_sides", "_law_seed", "_law_cell", "_law_digit"]
def m__law_pull : MS :=
    (msSeq (msAsg (mBin dAdd (mBin dIx (mVar 0) (mC (.int 4))) (mC (.int 1))) (mgSub (mVar 0) (mC (.int 4))))
    (msSeq (msIf (mAnd (mTst (mBin dEq (mBin dIx (mVar 0) (mC (.int 2))) (mC (.int 0)))) (mTst (mBin dLt (mBin dIx (mVar 0) (mC (.int 1))) (mCall dLen (mCons (mBin dIx (mVar 0) (mC (.int 0))) mNil))))) (msSeq (msAsg (mTup (mCons (mBin dIx (mBin dIx (mVar 0) (mC (.int 0))) (mBin dIx (mVar 0) (mC (.int 1)))) (mCons (mBin dAdd (mBin dIx (mVar 0) (mC (.int 1))) (mC (.int 1))) mNil))) (mgTup 2 (mgCons (mgName 3) (mgCons (mgSub (mVar 0) (mC (.int 1))) mgNil))))
    (msSeq (msIf (mTst (mBin dGe (mVar 3) (mBin dPow (mC (.int 10)) (mC (.int 18))))) (msAsg (mVar 3) (mgSub (mVar 0) (mC (.int 2)))) msNil)
    (msAsg (mBin dMod (mCall dInt (mCons (mBin dAdd (mBin dAdd (mBin dMul (mBin dIx (mVar 0) (mC (.int 3))) (mC (.int 38377))) (mBin dMul (mBin dMod (mCall dInt (mCons (mVar 3) mNil)) (mC (.int 2147483489))) (mC (.int 41143)))) (mC (.int 61))) mNil)) (mC (.int 2147483549))) (mgSub (mVar 0) (mC (.int 3)))))) msNil)
    (msSeq (msIf (mTst (mBin dGt (mBin dIx (mVar 0) (mC (.int 2))) (mC (.int 0)))) (msSeq (msAsg (mTup (mCons (mBin dMod (mCall dInt (mCons (mBin dIx (mVar 0) (mC (.int 2))) mNil)) (mVar 1)) (mCons (mBin dDiv (mBin dIx (mVar 0) (mC (.int 2))) (mVar 1)) mNil))) (mgTup 2 (mgCons (mgName 4) (mgCons (mgSub (mVar 0) (mC (.int 2))) mgNil))))
    (msRet (mVar 4))) msNil)
    (msSeq (msAsg (mBin dIx (mVar 0) (mC (.int 3))) (mgName 2))
    (msSeq (msAsg (mBin dMod (mCall dInt (mCons (mBin dAdd (mBin dAdd (mBin dAdd (mBin dPow (mVar 2) (mC (.int 3))) (mBin dMul (mVar 2) (mC (.int 37813)))) (mBin dMul (mBin dIx (mVar 0) (mC (.int 4))) (mC (.int 1299689)))) (mC (.int 65437))) mNil)) (mC (.int 2147483549))) (mgSub (mVar 0) (mC (.int 3))))
    (msRet (mBin dMod (mCall dInt (mCons (mBin dAdd (mBin dDiv (mBin dIx (mVar 0) (mC (.int 3))) (mC (.int 89))) (mBin dMul (mBin dMod (mCall dInt (mCons (mBin dIx (mVar 0) (mC (.int 3))) mNil)) (mC (.int 7919))) (mC (.int 71)))) mNil)) (mVar 1))))))))
theorem sc__law_pull : FnScope N__law_pull ["_law_bag", "_law_sides"] (defScope s__law_pull) := ⟨rfl, rfl, rfl, by decide +kernel, rfl, by decide +kernel, by decide +kernel⟩
def F__law_pull : IF := runI N__law_pull.length m__law_pull
theorem ok__law_pull (C : CtxT P K w mg) (B : CtxB K mg base) : FnI P w K mg base "_law_pull" (1) 2 (F__law_pull) := by
  have sc := sc__law_pull
  obtain ⟨f, fd, Fd, g⟩ := C.d__law_pull
  exact ⟨⟨f, fd, ["_law_bag", "_law_sides"], g, Fd.kp, Fd.bindsN (fun _ _ _ _ _ _ us hl => match us, hl with | [_, _], _ => rfl), rfl, fnI Fd sc fun cdv A outer s H E hr => (rss_cons (rs_asg (re_add (re_ix (re_var 0) re_int) re_int) (rg_sub (W := W0) (re_var 0) re_int))
    (rss_cons (rs_if (rt_bool (rw_and (rt_eq hr (re_ix (re_var 0) re_int) re_int) (rw_and1 (rt_lt (re_ix (re_var 0) re_int) (re_len C.n_len (ra_cons (re_ix (re_var 0) re_int) ra_nil)))))) (rss_cons (rs_asg (re_tup (ra_cons (re_ix (re_ix (re_var 0) re_int) (re_ix (re_var 0) re_int)) (ra_cons (re_add (re_ix (re_var 0) re_int) re_int) ra_nil))) (rg_tup (n := 2) rfl (rgs_cons (rg_name 3 sc.nd) (rgs_cons (rg_sub (W := W0) (re_var 0) re_int) rgs_nil))))
    (rss_cons (rs_if (rt_ge (re_var 3) (re_pow re_int re_int)) (rss_one (rs_asg (re_var 3) (rg_sub (W := W0) (re_var 0) re_int))) rss_nil)
    (rss_one (rs_asg (re_mod (re_intc C.n_int (ra_cons (re_add (re_add (re_mul (re_ix (re_var 0) re_int) re_int) (re_mul (re_mod (re_intc C.n_int (ra_cons (re_var 3) ra_nil)) re_int) re_int)) re_int) ra_nil)) re_int) (rg_sub (W := W0) (re_var 0) re_int))))) rss_nil)
    (rss_cons (rs_if (rt_gt (re_ix (re_var 0) re_int) re_int) (rss_cons (rs_asg (re_tup (ra_cons (re_mod (re_intc C.n_int (ra_cons (re_ix (re_var 0) re_int) ra_nil)) (re_var 1)) (ra_cons (re_div (re_ix (re_var 0) re_int) (re_var 1)) ra_nil))) (rg_tup (n := 2) rfl (rgs_cons (rg_name 4 sc.nd) (rgs_cons (rg_sub (W := W0) (re_var 0) re_int) rgs_nil))))
    (rss_one (rs_ret (re_var 4)))) rss_nil)
    (rss_cons (rs_set 2 sc.nd (re_ix (re_var 0) re_int))
    (rss_cons (rs_asg (re_mod (re_intc C.n_int (ra_cons (re_add (re_add (re_add (re_pow (re_var 2) re_int) (re_mul (re_var 2) re_int)) (re_mul (re_ix (re_var 0) re_int) re_int)) re_int) ra_nil)) re_int) (rg_sub (W := W0) (re_var 0) re_int))
    (rss_one (rs_ret (re_mod (re_intc C.n_int (ra_cons (re_add (re_div (re_ix (re_var 0) re_int) re_int) (re_mul (re_mod (re_intc C.n_int (ra_cons (re_ix (re_var 0) re_int) ra_nil)) re_int) re_int)) ra_nil)) (re_var 1)))))))))⟩⟩
def N__law_any : List Str := ["_law_bag", "_law_rows"]
def m__law_any : MS :=
    (msRet (mBin dIx (mVar 1) (mCallI F__law_pull (mCons (mVar 0) (mCons (mCall dLen (mCons (mVar 1) mNil)) mNil)))))
theorem sc__law_any : FnScope N__law_any ["_law_bag", "_law_rows"] (defScope s__law_any) := ⟨rfl, rfl, rfl, by decide +kernel, rfl, by decide +kernel, by decide +kernel⟩
def F__law_any : IF := runI N__law_any.length m__law_any
theorem ok__law_any (C : CtxT P K w mg) (B : CtxB K mg base) : FnI P w K mg base "_law_any" (2) 2 (F__law_any) := by
  have sc := sc__law_any
  have G__law_pull := ok__law_pull (P := P) (w := w) (base := base) C B
  obtain ⟨f, fd, Fd, g⟩ := C.d__law_any
  exact ⟨⟨f, fd, ["_law_bag", "_law_rows"], g, Fd.kp, Fd.bindsN (fun _ _ _ _ _ _ us hl => match us, hl with | [_, _], _ => rfl), rfl, fnI Fd sc fun cdv A outer s H E hr => (rss_one (rs_ret (re_ix (re_var 1) (re_callI G__law_pull hr tkOf (ra_cons (re_var 0) (ra_cons (re_len C.n_len (ra_cons (re_var 1) ra_nil)) ra_nil))))))⟩⟩
def N__law_like : List Str := ["_law_a", "_law_b", "_law_same", "_law_c", "_law_d"]
def m__law_like (F : PF) : MS :=
    (msSeq (msIf (mTst (mIsi [.lst, .tup] (mVar 1))) (msSeq (msAsg (mAndV (mBin dEq (mIsi [.lst] (mVar 0)) (mIsi [.lst] (mVar 1))) (mBin dEq (mIsi [.tup] (mVar 0)) (mIsi [.tup] (mVar 1)))) (mgName 2))
    (msRet (mAndV (mVar 2) (mAndV (mBin dEq (mCall dLen (mCons (mVar 0) mNil)) (mCall dLen (mCons (mVar 1) mNil))) (mCall dAll (mCons (mLc [3, 4] (miZip (mCons (mVar 0) (mCons (mVar 1) mNil))) (mgTup 2 (mgCons (mgName 3) (mgCons (mgName 4) mgNil))) mYes (mCallP F (mCons (mVar 3) (mCons (mVar 4) mNil)))) mNil)))))) msNil)
    (msSeq (msIf (mOr (mTst (mBin (dIsN false) (mVar 0) (mC .non))) (mOr (mTst (mBin (dIsN false) (mVar 1) (mC .non))) (mTst (mBin dNe (mIsi [.bool] (mVar 0)) (mIsi [.bool] (mVar 1)))))) (msRet (mAndV (mBin (dIsN false) (mVar 0) (mC .non)) (mBin (dIsN false) (mVar 1) (mC .non)))) msNil)
    (msRet (mAndV (mBin dEq (mIsi [.int] (mVar 0)) (mIsi [.int] (mVar 1))) (mAndV (mBin dEq (mIsi [.str] (mVar 0)) (mIsi [.str] (mVar 1))) (mBin dEq (mVar 0) (mVar 1)))))))
theorem sc__law_like : FnScope N__law_like ["_law_a", "_law_b"] (defScope s__law_like) := ⟨rfl, rfl, rfl, by decide +kernel, rfl, by decide +kernel, by decide +kernel⟩
def F__law_like_ : Nat → PF
  | 0 => fun _ => none
  | t + 1 => runP N__law_like.length (m__law_like (F__law_like_ t))
def F__law_like : PF := F__law_like_ 30
theorem okr__law_like (C : CtxT P K w mg) (B : CtxB K mg base) : ∀ t, FnP P w K mg base "_law_like" (0 + (t)) 2 (F__law_like_ t) := by
  have sc := sc__law_like
  obtain ⟨f, fd, Fd, g⟩ := C.d__law_like
  intro t
  induction t with
  | zero => exact ⟨⟨f, fd, ["_law_a", "_law_b"], g, Fd.kp, Fd.bindsN (fun _ _ _ _ _ _ us hl => match us, hl with | [_, _], _ => rfl), rfl, fnOk0⟩⟩
  | succ t G =>
    have Z : FnP P w K mg base "_law_like" (0 + t + 1) 2 (F__law_like_ (t + 1)) := ⟨⟨f, fd, ["_law_a", "_law_b"], g, Fd.kp, Fd.bindsN (fun _ _ _ _ _ _ us hl => match us, hl with | [_, _], _ => rfl), rfl, fnP Fd sc fun cdv A outer s H E hr => (rss_cons (rs_if (rt_val (re_isi2 .lst .tup C.n_isinstance C.n_list C.n_tuple (re_var 1))) (rss_cons (rs_set 2 sc.nd (re_and (re_eq hr (re_isi .lst C.n_isinstance C.n_list (re_var 0)) (re_isi .lst C.n_isinstance C.n_list (re_var 1))) (re_one (re_eq hr (re_isi .tup C.n_isinstance C.n_tuple (re_var 0)) (re_isi .tup C.n_isinstance C.n_tuple (re_var 1))))))
    (rss_one (rs_ret (re_and (re_var 2) (re_and (re_eq hr (re_len C.n_len (ra_cons (re_var 0) ra_nil)) (re_len C.n_len (ra_cons (re_var 1) ra_nil))) (re_one (re_all rfl C.n_all (ra_cons (re_lc (own := [("_law_c", 3), ("_law_d", 4)]) rfl sc.nd (ri_zip C.n_zip (ra_cons (re_var 0) (ra_cons (re_var 1) ra_nil))) (blkOk_by (N := N__law_like) (sc := defScope s__law_like) (by decide +kernel)) (by decide) (fun _ _ _ _ _ => (rg_tup (n := 2) rfl (rgs_cons (rg_name 3 sc.nd) (rgs_cons (rg_name 4 sc.nd) rgs_nil)))) (fun _ _ _ _ _ => rts_nil) (fun _ _ _ _ _ => (re_callP G hr takes0 (ra_cons (re_var 3) (ra_cons (re_var 4) ra_nil)) (hk := by omega)))) ra_nil)))))))) rss_nil)
    (rss_cons (rs_if (rt_bool (rw_or (rt_is (re_var 0) re_non) (rw_or (rt_is (re_var 1) re_non) (rw_or1 (rt_ne hr (re_isi .bool C.n_isinstance C.n_bool (re_var 0)) (re_isi .bool C.n_isinstance C.n_bool (re_var 1))))))) (rss_one (rs_ret (re_and (re_is (re_var 0) re_non) (re_one (re_is (re_var 1) re_non))))) rss_nil)
    (rss_one (rs_ret (re_and (re_eq hr (re_isi .int C.n_isinstance C.n_int (re_var 0)) (re_isi .int C.n_isinstance C.n_int (re_var 1))) (re_and (re_eq hr (re_isi .str C.n_isinstance C.n_str (re_var 0)) (re_isi .str C.n_isinstance C.n_str (re_var 1))) (re_one (re_eq hr (re_var 0) (re_var 1)))))))))⟩⟩
    exact FnP.mono Z (by omega)
theorem ok__law_like (C : CtxT P K w mg) (B : CtxB K mg base) : FnP P w K mg base "_law_like" (31) 2 (F__law_like) := FnP.mono (okr__law_like C B 30) (by decide)
def N__law_bases : List Str := ["_law_e"]
def m__law_bases : MS :=
    (msRet (mLst (mCons (mIsX tb_TableError (mVar 0)) (mCons (mIsX tb_Missing (mVar 0)) (mCons (mIsX tb_NothingLeft (mVar 0)) (mCons (mIsX tb_ValueError (mVar 0)) (mCons (mIsX tb_LookupError (mVar 0)) mNil)))))))
theorem sc__law_bases : FnScope N__law_bases ["_law_e"] (defScope s__law_bases) := ⟨rfl, rfl, rfl, by decide +kernel, rfl, by decide +kernel, by decide +kernel⟩
def F__law_bases : PF := runP N__law_bases.length m__law_bases
theorem ok__law_bases (C : CtxT P K w mg) (B : CtxB K mg base) : FnP P w K mg base "_law_bases" (1) 1 (F__law_bases) := by
  have sc := sc__law_bases
  obtain ⟨f, fd, Fd, g⟩ := C.d__law_bases
  exact ⟨⟨f, fd, ["_law_e"], g, Fd.kp, Fd.bindsN (fun _ _ _ _ _ _ us hl => match us, hl with | [_], _ => rfl), rfl, fnP Fd sc fun cdv A outer s H E hr => (rss_one (rs_ret (re_lst (ra_cons (re_isXo C.g_TableError (ix_TableError C) C.n_isinstance (re_var 0)) (ra_cons (re_isXo C.g_Missing (ix_Missing C) C.n_isinstance (re_var 0)) (ra_cons (re_isXo C.g_NothingLeft (ix_NothingLeft C) C.n_isinstance (re_var 0)) (ra_cons (re_isXb (T := "ValueError") (ix_ValueError C) C.n_isinstance C.n_ValueError (re_var 0)) (ra_cons (re_isXb (T := "LookupError") (ix_LookupError C) C.n_isinstance C.n_LookupError (re_var 0)) ra_nil))))))))⟩⟩
def N__law_far : List Str := ["_law_bag", "_law_near"]
def m__law_far : MS :=
    (msSeq (msAsg (mCallI F__law_pull (mCons (mVar 0) (mCons (mBin dPow (mC (.int 10)) (mC (.int 9))) mNil))) (mgName 1))
    (msRet (mCallI F__law_any (mCons (mVar 0) (mCons (mLst (mCons (mC (.int 0)) (mCons (mC (.int 1)) (mCons (mBin dSub (mC (.int 0)) (mC (.int 1))) (mCons (mC (.int 2)) (mCons (mBin dSub (mC (.int 5)) (mCallI F__law_pull (mCons (mVar 0) (mCons (mC (.int 11)) mNil)))) (mCons (mBin dSub (mVar 1) (mBin dPow (mC (.int 10)) (mC (.int 8)))) (mCons (mBin dSub (mBin dPow (mC (.int 10)) (mC (.int 30))) (mVar 1)) (mCons (mBin dSub (mVar 1) (mBin dPow (mC (.int 10)) (mC (.int 30)))) mNil))))))))) mNil)))))
theorem sc__law_far : FnScope N__law_far ["_law_bag"] (defScope s__law_far) := ⟨rfl, rfl, rfl, by decide +kernel, rfl, by decide +kernel, by decide +kernel⟩
def F__law_far : IF := runI N__law_far.length m__law_far
theorem ok__law_far (C : CtxT P K w mg) (B : CtxB K mg base) : FnI P w K mg base "_law_far" (3) 1 (F__law_far) := by
  have sc := sc__law_far
  have G__law_any := ok__law_any (P := P) (w := w) (base := base) C B
  have G__law_pull := ok__law_pull (P := P) (w := w) (base := base) C B
  obtain ⟨f, fd, Fd, g⟩ := C.d__law_far
  exact ⟨⟨f, fd, ["_law_bag"], g, Fd.kp, Fd.bindsN (fun _ _ _ _ _ _ us hl => match us, hl with | [_], _ => rfl), rfl, fnI Fd sc fun cdv A outer s H E hr => (rss_cons (rs_set 1 sc.nd (re_callI G__law_pull hr tkOf (ra_cons (re_var 0) (ra_cons (re_pow re_int re_int) ra_nil))))
    (rss_one (rs_ret (re_callI G__law_any hr tkOf (ra_cons (re_var 0) (ra_cons (re_lst (ra_cons re_int (ra_cons re_int (ra_cons (re_sub re_int re_int) (ra_cons re_int (ra_cons (re_sub re_int (re_callI G__law_pull hr tkOf (ra_cons (re_var 0) (ra_cons re_int ra_nil)))) (ra_cons (re_sub (re_var 1) (re_pow re_int re_int)) (ra_cons (re_sub (re_pow re_int re_int) (re_var 1)) (ra_cons (re_sub (re_var 1) (re_pow re_int re_int)) ra_nil))))))))) ra_nil))))))⟩⟩
def N_law : List Str := ["_law_script", "_law_bag", "_law_found", "_law_bare", "_law_most", "_law_a", "_law_rows", "_law_named", "_law_indexed", "_law_paths", "_law_called", "_law_three", "_law_wide", "_law_full", "_law_failed", "_law_key", "_law_pair", "_law_e", "_law_code"]
def me_law_0 : M D :=
    (mBin dEq (mCallP F__law_bases (mCons (mVar 17) mNil)) (mLst (mCons (mC (.bl false)) (mCons (mC (.bl true)) (mCons (mC (.bl false)) (mCons (mC (.bl false)) (mCons (mC (.bl true)) mNil)))))))
def me_law_1 : M D :=
    (mBin dEq (mCallP F__law_bases (mCons (mVar 17) mNil)) (mLst (mCons (mC (.bl true)) (mCons (mC (.bl false)) (mCons (mC (.bl false)) (mCons (mC (.bl true)) (mCons (mC (.bl false)) mNil)))))))
def me_law_2 : M D :=
    (mCallP F__law_like (mCons (mFldX cl_code "code" (mVar 17)) (mCons (mVar 18) mNil)))
def me_law_3 : M D :=
    (mCallP F__law_like (mCons (mLst (mCons (mFldX cl_code "code" (mVar 17)) (mCons (mFldX cl_path "path" (mVar 17)) mNil))) (mCons (mLst (mCons (mVar 18) (mCons (mTup (mCons (mC (.int 1)) (mCons (mC (.int 2)) mNil))) mNil))) mNil)))
def me_law_4 : M D :=
    (mCallP F__law_like (mCons (mLst (mCons (mFldX cl_code "code" (mVar 17)) (mCons (mFldX cl_name "name" (mVar 17)) mNil))) (mCons (mLst (mCons (mVar 18) (mCons (mVar 5) mNil))) mNil)))
def me_law_5 : M D :=
    (mCallP F__law_like (mCons (mLst (mCons (mFldX cl_code "code" (mVar 17)) (mCons (mFldX cl_given "given" (mVar 17)) mNil))) (mCons (mLst (mCons (mVar 18) (mCons (mVar 5) mNil))) mNil)))
def me_law_6 : M D :=
    (mCallP F__law_like (mCons (mLst (mCons (mFldX cl_code "code" (mVar 17)) (mCons (mFldX cl_index "index" (mVar 17)) mNil))) (mCons (mLst (mCons (mVar 18) (mCons (mVar 5) mNil))) mNil)))
def m_law : MS :=
    (msSeq (msAsg (mCallI F__law_draws (mCons (mVar 0) mNil)) (mgName 1))
    (msSeq (msAsg (mTup (mCons (mCallI F__law_any (mCons (mVar 1) (mCons (mLst (mCons (mCallI F__law_far (mCons (mVar 1) mNil)) (mCons (mC (.str [108, 97, 116, 101])) (mCons (mC .non) mNil)))) mNil))) (mCons (mLst (mCons (mTup (mCons (mC (.int 1)) mNil)) (mCons (mTup (mCons (mC (.int 2)) mNil)) (mCons (mTup (mCons (mBin dAdd (mC (.int 4)) (mCallI F__law_pull (mCons (mVar 1) (mCons (mC (.int 9)) mNil)))) mNil)) mNil)))) mNil))) (mgTup 2 (mgCons (mgName 5) (mgCons (mgName 6) mgNil))))
    (msSeq (msAsg (mCallP F__law_given (mCons (mVar 5) mNil)) (mgTup 4 (mgCons (mgName 7) (mgCons (mgName 8) (mgCons (mgName 9) (mgCons (mgName 10) mgNil))))))
    (msSeq (msAsg (mBin dAdd (mLc [17, 18] (miL (mVar 7)) (mgTup 2 (mgCons (mgName 17) (mgCons (mgName 18) mgNil))) mYes me_law_5) (mLc [17, 18] (miL (mVar 8)) (mgTup 2 (mgCons (mgName 17) (mgCons (mgName 18) mgNil))) mYes me_law_6)) (mgName 2))
    (msSeq (msAsg (mBin dAdd (mBin dAdd (mVar 2) (mLc [17, 18] (miL (mVar 9)) (mgTup 2 (mgCons (mgName 17) (mgCons (mgName 18) mgNil))) mYes me_law_3)) (mLc [17, 18] (miL (mVar 10)) (mgTup 2 (mgCons (mgName 17) (mgCons (mgName 18) mgNil))) mYes me_law_4)) (mgName 2))
    (msSeq (msIf (mNot (mTst (mCall dAll (mCons (mVar 2) mNil)))) (msRet (mC (.bl false))) msNil)
    (msSeq (msAsg (mLst (mCons (mTup (mCons (mNewX "InvalidColumns" none [73, 110, 118, 97, 108, 105, 100, 67, 111, 108, 117, 109, 110, 115] mNil) (mCons (mC (.str [73, 110, 118, 97, 108, 105, 100, 67, 111, 108, 117, 109, 110, 115])) mNil))) (mCons (mTup (mCons (mNewX "InvalidValue" none [73, 110, 118, 97, 108, 105, 100, 86, 97, 108, 117, 101] mNil) (mCons (mC (.str [73, 110, 118, 97, 108, 105, 100, 86, 97, 108, 117, 101])) mNil))) (mCons (mTup (mCons (mNewX "InvalidArguments" none [73, 110, 118, 97, 108, 105, 100, 65, 114, 103, 117, 109, 101, 110, 116, 115] mNil) (mCons (mC (.str [73, 110, 118, 97, 108, 105, 100, 65, 114, 103, 117, 109, 101, 110, 116, 115])) mNil))) mNil)))) (mgName 3))
    (msSeq (msAsg (mBin dAdd (mVar 3) (mLst (mCons (mTup (mCons (mNewX "NotOpen" none [78, 111, 116, 79, 112, 101, 110] mNil) (mCons (mC (.str [78, 111, 116, 79, 112, 101, 110])) mNil))) (mCons (mTup (mCons (mNewX "ColumnsDiffer" none [67, 111, 108, 117, 109, 110, 115, 68, 105, 102, 102, 101, 114] mNil) (mCons (mC (.str [67, 111, 108, 117, 109, 110, 115, 68, 105, 102, 102, 101, 114])) mNil))) (mCons (mTup (mCons (mNewX "InvalidText" none [73, 110, 118, 97, 108, 105, 100, 84, 101, 120, 116] mNil) (mCons (mC (.str [73, 110, 118, 97, 108, 105, 100, 84, 101, 120, 116])) mNil))) (mCons (mTup (mCons (mNewX "NothingLeft" none [78, 111, 116, 104, 105, 110, 103, 76, 101, 102, 116] mNil) (mCons (mC (.str [78, 111, 116, 104, 105, 110, 103, 76, 101, 102, 116])) mNil))) mNil)))))) (mgName 3))
    (msSeq (msIf (mNot (mTst (mCall dAll (mCons (mLc [17, 18] (miL (mVar 3)) (mgTup 2 (mgCons (mgName 17) (mgCons (mgName 18) mgNil))) mYes me_law_2) mNil)))) (msRet (mC (.bl false))) msNil)
    (msSeq (msAsg (mTup (mCons (mNewX "NotCarried" (some "witness") [78, 111, 116, 67, 97, 114, 114, 105, 101, 100] (mCons (mVar 6) mNil)) (mCons (mNewX "TooWide" (some "most") [84, 111, 111, 87, 105, 100, 101] (mCons (mVar 5) mNil)) (mCons (mNewX "Full" (some "limit") [70, 117, 108, 108] (mCons (mVar 5) mNil)) (mCons (mNewX "Failed" (some "word") [70, 97, 105, 108, 101, 100] (mCons (mVar 5) mNil)) (mCons (mNewX "UnknownKey" (some "key") [85, 110, 107, 110, 111, 119, 110, 75, 101, 121] (mCons (mVar 5) mNil)) mNil)))))) (mgTup 5 (mgCons (mgName 11) (mgCons (mgName 12) (mgCons (mgName 13) (mgCons (mgName 14) (mgCons (mgName 15) mgNil)))))))
    (msSeq (msAsg (mLst (mCons (mFldX cl_code "code" (mVar 11)) (mCons (mFldX cl_witness "witness" (mVar 11)) (mCons (mFldX cl_code "code" (mVar 12)) (mCons (mFldX cl_most "most" (mVar 12)) (mCons (mFldX cl_code "code" (mVar 13)) (mCons (mFldX cl_limit "limit" (mVar 13)) (mCons (mFldX cl_code "code" (mVar 14)) (mCons (mFldX cl_word "word" (mVar 14)) (mCons (mFldX cl_code "code" (mVar 15)) (mCons (mFldX cl_key "key" (mVar 15)) mNil))))))))))) (mgName 2))
    (msSeq (msIf (mNot (mTst (mCallP F__law_like (mCons (mVar 2) (mCons (mLst (mCons (mC (.str [78, 111, 116, 67, 97, 114, 114, 105, 101, 100])) (mCons (mVar 6) (mCons (mC (.str [84, 111, 111, 87, 105, 100, 101])) (mCons (mVar 5) (mCons (mC (.str [70, 117, 108, 108])) (mCons (mVar 5) (mCons (mC (.str [70, 97, 105, 108, 101, 100])) (mCons (mVar 5) (mCons (mC (.str [85, 110, 107, 110, 111, 119, 110, 75, 101, 121])) (mCons (mVar 5) mNil))))))))))) mNil))))) (msRet (mC (.bl false))) msNil)
    (msSeq (msAsg (mBin dAdd (mLc [16] (miL (mBin dAdd (mBin dAdd (mBin dAdd (mBin dAdd (mVar 7) (mVar 8)) (mVar 9)) (mSl (mVar 10) mNoP (mSmP (mC (.int 2))))) (mSl (mVar 3) mNoP (mSmP (mC (.int 6)))))) (mgName 16) mYes (mBin dIx (mVar 16) (mC (.int 0)))) (mLst (mCons (mVar 11) (mCons (mVar 12) (mCons (mVar 13) (mCons (mVar 14) mNil)))))) (mgName 4))
    (msSeq (msIf (mNot (mTst (mCall dAll (mCons (mLc [17] (miL (mVar 4)) (mgName 17) mYes me_law_1) mNil)))) (msRet (mC (.bl false))) msNil)
    (msSeq (msIf (mNot (mTst (mCall dAll (mCons (mLc [17] (miT (mTup (mCons (mBin dIx (mBin dIx (mVar 10) (mC (.int 2))) (mC (.int 0))) (mCons (mVar 15) mNil)))) (mgName 17) mYes me_law_0) mNil)))) (msRet (mC (.bl false))) msNil)
    (msSeq (msIf (mOr (mTst (mBin dNe (mCallP F__law_bases (mCons (mBin dIx (mBin dIx (mVar 3) (mC (.int 6))) (mC (.int 0))) mNil)) (mLst (mCons (mC (.bl false)) (mCons (mC (.bl false)) (mCons (mC (.bl true)) (mCons (mC (.bl false)) (mCons (mC (.bl true)) mNil)))))))) (mNot (mTst (mIsX tb_IndexError (mBin dIx (mBin dIx (mVar 3) (mC (.int 6))) (mC (.int 0))))))) (msRet (mC (.bl false))) msNil)
    (msRet (mAndV (mNotV (mIsX tb_InvalidCount (mBin dIx (mBin dIx (mVar 7) (mC (.int 0))) (mC (.int 0))))) (mAndV (mNotV (mIsX tb_InvalidName (mBin dIx (mBin dIx (mVar 10) (mC (.int 0))) (mC (.int 0))))) (mNotV (mIsX tb_InvalidName (mVar 14))))))))))))))))))))))
theorem sc_law : FnScope N_law ["_law_script"] (defScope s_law) := ⟨rfl, rfl, rfl, by decide +kernel, rfl, by decide +kernel, by decide +kernel⟩
def F_law : IF := runI N_law.length m_law
theorem ok_law (C : CtxT P K w mg) : ∃ f fd, mg "law" = some (.ref f) ∧ (∀ (s : Shared) (u : Value), BindsTo s fd ⟨[u], []⟩ [("_law_script", u)]) ∧ ∀ base : Heap, CtxB K mg base → FnOk P w K mg base (L2.CX P w) 32 f fd ["_law_script"] (SpI K mg 1 F_law) := by
  have sc := sc_law
  obtain ⟨f, fd, Fd, g⟩ := C.d_law
  refine ⟨f, fd, g, fun s u => FunD.bindsA (ps := ["_law_script"]) Fd (fun _ _ _ _ _ _ us hl => match us, hl with | [_], _ => rfl) s [u] rfl, fun base B => ?_⟩
  have G__law_any := ok__law_any (P := P) (w := w) (base := base) C B
  have G__law_bases := ok__law_bases (P := P) (w := w) (base := base) C B
  have G__law_draws := ok__law_draws (P := P) (w := w) (base := base) C B
  have G__law_far := ok__law_far (P := P) (w := w) (base := base) C B
  have G__law_given := ok__law_given (P := P) (w := w) (base := base) C B
  have G__law_like := ok__law_like (P := P) (w := w) (base := base) C B
  have G__law_pull := ok__law_pull (P := P) (w := w) (base := base) C B
  exact fnI Fd sc fun cdv A outer s H E hr => (rss_cons (rs_set 1 sc.nd (re_callI G__law_draws hr tkOf (ra_cons (re_var 0) ra_nil)))
    (rss_cons (rs_asg (re_tup (ra_cons (re_callI G__law_any hr tkOf (ra_cons (re_var 1) (ra_cons (re_lst (ra_cons (re_callI G__law_far hr tkOf (ra_cons (re_var 1) ra_nil)) (ra_cons (re_str [108, 97, 116, 101]) (ra_cons re_non ra_nil)))) ra_nil))) (ra_cons (re_lst (ra_cons (re_tup (ra_cons re_int ra_nil)) (ra_cons (re_tup (ra_cons re_int ra_nil)) (ra_cons (re_tup (ra_cons (re_add re_int (re_callI G__law_pull hr tkOf (ra_cons (re_var 1) (ra_cons re_int ra_nil)))) ra_nil)) ra_nil)))) ra_nil))) (rg_tup (n := 2) rfl (rgs_cons (rg_name 5 sc.nd) (rgs_cons (rg_name 6 sc.nd) rgs_nil))))
    (rss_cons (rs_asg (re_callP G__law_given hr tkOf (ra_cons (re_var 5) ra_nil)) (rg_tup (n := 4) rfl (rgs_cons (rg_name 7 sc.nd) (rgs_cons (rg_name 8 sc.nd) (rgs_cons (rg_name 9 sc.nd) (rgs_cons (rg_name 10 sc.nd) rgs_nil))))))
    (rss_cons (rs_set 2 sc.nd (re_add (re_lc (own := [("_law_e", 17), ("_law_code", 18)]) rfl sc.nd (ri_list (re_var 7)) (blkOk_by (N := N_law) (sc := defScope s_law) (by decide +kernel)) (by decide) (fun _ _ _ _ _ => (rg_tup (n := 2) rfl (rgs_cons (rg_name 17 sc.nd) (rgs_cons (rg_name 18 sc.nd) rgs_nil)))) (fun _ _ _ _ _ => rts_nil) (fun _ _ _ _ _ => (re_callP G__law_like hr takes0 (ra_cons (re_lst (ra_cons (re_fldX (vf_code C) (re_var 17)) (ra_cons (re_fldX (vf_given C) (re_var 17)) ra_nil))) (ra_cons (re_lst (ra_cons (re_var 18) (ra_cons (re_var 5) ra_nil))) ra_nil))))) (re_lc (own := [("_law_e", 17), ("_law_code", 18)]) rfl sc.nd (ri_list (re_var 8)) (blkOk_by (N := N_law) (sc := defScope s_law) (by decide +kernel)) (by decide) (fun _ _ _ _ _ => (rg_tup (n := 2) rfl (rgs_cons (rg_name 17 sc.nd) (rgs_cons (rg_name 18 sc.nd) rgs_nil)))) (fun _ _ _ _ _ => rts_nil) (fun _ _ _ _ _ => (re_callP G__law_like hr takes0 (ra_cons (re_lst (ra_cons (re_fldX (vf_code C) (re_var 17)) (ra_cons (re_fldX (vf_index C) (re_var 17)) ra_nil))) (ra_cons (re_lst (ra_cons (re_var 18) (ra_cons (re_var 5) ra_nil))) ra_nil)))))))
    (rss_cons (rs_set 2 sc.nd (re_add (re_add (re_var 2) (re_lc (own := [("_law_e", 17), ("_law_code", 18)]) rfl sc.nd (ri_list (re_var 9)) (blkOk_by (N := N_law) (sc := defScope s_law) (by decide +kernel)) (by decide) (fun _ _ _ _ _ => (rg_tup (n := 2) rfl (rgs_cons (rg_name 17 sc.nd) (rgs_cons (rg_name 18 sc.nd) rgs_nil)))) (fun _ _ _ _ _ => rts_nil) (fun _ _ _ _ _ => (re_callP G__law_like hr takes0 (ra_cons (re_lst (ra_cons (re_fldX (vf_code C) (re_var 17)) (ra_cons (re_fldX (vf_path C) (re_var 17)) ra_nil))) (ra_cons (re_lst (ra_cons (re_var 18) (ra_cons (re_tup (ra_cons re_int (ra_cons re_int ra_nil))) ra_nil))) ra_nil)))))) (re_lc (own := [("_law_e", 17), ("_law_code", 18)]) rfl sc.nd (ri_list (re_var 10)) (blkOk_by (N := N_law) (sc := defScope s_law) (by decide +kernel)) (by decide) (fun _ _ _ _ _ => (rg_tup (n := 2) rfl (rgs_cons (rg_name 17 sc.nd) (rgs_cons (rg_name 18 sc.nd) rgs_nil)))) (fun _ _ _ _ _ => rts_nil) (fun _ _ _ _ _ => (re_callP G__law_like hr takes0 (ra_cons (re_lst (ra_cons (re_fldX (vf_code C) (re_var 17)) (ra_cons (re_fldX (vf_name C) (re_var 17)) ra_nil))) (ra_cons (re_lst (ra_cons (re_var 18) (ra_cons (re_var 5) ra_nil))) ra_nil)))))))
    (rss_cons (rs_if (rt_not (rt_val (re_all rfl C.n_all (ra_cons (re_var 2) ra_nil)))) (rss_one (rs_ret re_bl)) rss_nil)
    (rss_cons (rs_set 3 sc.nd (re_lst (ra_cons (re_tup (ra_cons (re_newX0 (xv_InvalidColumns C) (by decide +kernel) hr) (ra_cons (re_str [73, 110, 118, 97, 108, 105, 100, 67, 111, 108, 117, 109, 110, 115]) ra_nil))) (ra_cons (re_tup (ra_cons (re_newX0 (xv_InvalidValue C) (by decide +kernel) hr) (ra_cons (re_str [73, 110, 118, 97, 108, 105, 100, 86, 97, 108, 117, 101]) ra_nil))) (ra_cons (re_tup (ra_cons (re_newX0 (xv_InvalidArguments C) (by decide +kernel) hr) (ra_cons (re_str [73, 110, 118, 97, 108, 105, 100, 65, 114, 103, 117, 109, 101, 110, 116, 115]) ra_nil))) ra_nil)))))
    (rss_cons (rs_set 3 sc.nd (re_add (re_var 3) (re_lst (ra_cons (re_tup (ra_cons (re_newX0 (xv_NotOpen C) (by decide +kernel) hr) (ra_cons (re_str [78, 111, 116, 79, 112, 101, 110]) ra_nil))) (ra_cons (re_tup (ra_cons (re_newX0 (xv_ColumnsDiffer C) (by decide +kernel) hr) (ra_cons (re_str [67, 111, 108, 117, 109, 110, 115, 68, 105, 102, 102, 101, 114]) ra_nil))) (ra_cons (re_tup (ra_cons (re_newX0 (xv_InvalidText C) (by decide +kernel) hr) (ra_cons (re_str [73, 110, 118, 97, 108, 105, 100, 84, 101, 120, 116]) ra_nil))) (ra_cons (re_tup (ra_cons (re_newX0 (xv_NothingLeft C) (by decide +kernel) hr) (ra_cons (re_str [78, 111, 116, 104, 105, 110, 103, 76, 101, 102, 116]) ra_nil))) ra_nil)))))))
    (rss_cons (rs_if (rt_not (rt_val (re_all rfl C.n_all (ra_cons (re_lc (own := [("_law_e", 17), ("_law_code", 18)]) rfl sc.nd (ri_list (re_var 3)) (blkOk_by (N := N_law) (sc := defScope s_law) (by decide +kernel)) (by decide) (fun _ _ _ _ _ => (rg_tup (n := 2) rfl (rgs_cons (rg_name 17 sc.nd) (rgs_cons (rg_name 18 sc.nd) rgs_nil)))) (fun _ _ _ _ _ => rts_nil) (fun _ _ _ _ _ => (re_callP G__law_like hr takes0 (ra_cons (re_fldX (vf_code C) (re_var 17)) (ra_cons (re_var 18) ra_nil))))) ra_nil)))) (rss_one (rs_ret re_bl)) rss_nil)
    (rss_cons (rs_asg (re_tup (ra_cons (re_newX1 (xv_NotCarried C) (by decide +kernel) hr (ra_cons (re_var 6) ra_nil)) (ra_cons (re_newX1 (xv_TooWide C) (by decide +kernel) hr (ra_cons (re_var 5) ra_nil)) (ra_cons (re_newX1 (xv_Full C) (by decide +kernel) hr (ra_cons (re_var 5) ra_nil)) (ra_cons (re_newX1 (xv_Failed C) (by decide +kernel) hr (ra_cons (re_var 5) ra_nil)) (ra_cons (re_newX1 (xv_UnknownKey C) (by decide +kernel) hr (ra_cons (re_var 5) ra_nil)) ra_nil)))))) (rg_tup (n := 5) rfl (rgs_cons (rg_name 11 sc.nd) (rgs_cons (rg_name 12 sc.nd) (rgs_cons (rg_name 13 sc.nd) (rgs_cons (rg_name 14 sc.nd) (rgs_cons (rg_name 15 sc.nd) rgs_nil)))))))
    (rss_cons (rs_set 2 sc.nd (re_lst (ra_cons (re_fldX (vf_code C) (re_var 11)) (ra_cons (re_fldX (vf_witness C) (re_var 11)) (ra_cons (re_fldX (vf_code C) (re_var 12)) (ra_cons (re_fldX (vf_most C) (re_var 12)) (ra_cons (re_fldX (vf_code C) (re_var 13)) (ra_cons (re_fldX (vf_limit C) (re_var 13)) (ra_cons (re_fldX (vf_code C) (re_var 14)) (ra_cons (re_fldX (vf_word C) (re_var 14)) (ra_cons (re_fldX (vf_code C) (re_var 15)) (ra_cons (re_fldX (vf_key C) (re_var 15)) ra_nil))))))))))))
    (rss_cons (rs_if (rt_not (rt_val (re_callP G__law_like hr tkOf (ra_cons (re_var 2) (ra_cons (re_lst (ra_cons (re_str [78, 111, 116, 67, 97, 114, 114, 105, 101, 100]) (ra_cons (re_var 6) (ra_cons (re_str [84, 111, 111, 87, 105, 100, 101]) (ra_cons (re_var 5) (ra_cons (re_str [70, 117, 108, 108]) (ra_cons (re_var 5) (ra_cons (re_str [70, 97, 105, 108, 101, 100]) (ra_cons (re_var 5) (ra_cons (re_str [85, 110, 107, 110, 111, 119, 110, 75, 101, 121]) (ra_cons (re_var 5) ra_nil))))))))))) ra_nil))))) (rss_one (rs_ret re_bl)) rss_nil)
    (rss_cons (rs_set 4 sc.nd (re_add (re_lc (own := [("_law_pair", 16)]) rfl sc.nd (ri_list (re_add (re_add (re_add (re_add (re_var 7) (re_var 8)) (re_var 9)) (re_slice (re_var 10) ro_none (ro_some re_int))) (re_slice (re_var 3) ro_none (ro_some re_int)))) (blkOk_by (N := N_law) (sc := defScope s_law) (by decide +kernel)) (by decide) (fun _ _ _ _ _ => (rg_name 16 sc.nd)) (fun _ _ _ _ _ => rts_nil) (fun _ _ _ _ _ => (re_ix (re_var 16) re_int))) (re_lst (ra_cons (re_var 11) (ra_cons (re_var 12) (ra_cons (re_var 13) (ra_cons (re_var 14) ra_nil)))))))
    (rss_cons (rs_if (rt_not (rt_val (re_all rfl C.n_all (ra_cons (re_lc (own := [("_law_e", 17)]) rfl sc.nd (ri_list (re_var 4)) (blkOk_by (N := N_law) (sc := defScope s_law) (by decide +kernel)) (by decide) (fun _ _ _ _ _ => (rg_name 17 sc.nd)) (fun _ _ _ _ _ => rts_nil) (fun _ _ _ _ _ => (re_eq hr (re_callP G__law_bases hr takes0 (ra_cons (re_var 17) ra_nil)) (re_lst (ra_cons re_bl (ra_cons re_bl (ra_cons re_bl (ra_cons re_bl (ra_cons re_bl ra_nil))))))))) ra_nil)))) (rss_one (rs_ret re_bl)) rss_nil)
    (rss_cons (rs_if (rt_not (rt_val (re_all rfl C.n_all (ra_cons (re_lc (own := [("_law_e", 17)]) rfl sc.nd (ri_tup (re_tup (ra_cons (re_ix (re_ix (re_var 10) re_int) re_int) (ra_cons (re_var 15) ra_nil)))) (blkOk_by (N := N_law) (sc := defScope s_law) (by decide +kernel)) (by decide) (fun _ _ _ _ _ => (rg_name 17 sc.nd)) (fun _ _ _ _ _ => rts_nil) (fun _ _ _ _ _ => (re_eq hr (re_callP G__law_bases hr takes0 (ra_cons (re_var 17) ra_nil)) (re_lst (ra_cons re_bl (ra_cons re_bl (ra_cons re_bl (ra_cons re_bl (ra_cons re_bl ra_nil))))))))) ra_nil)))) (rss_one (rs_ret re_bl)) rss_nil)
    (rss_cons (rs_if (rt_bool (rw_or (rt_ne hr (re_callP G__law_bases hr tkOf (ra_cons (re_ix (re_ix (re_var 3) re_int) re_int) ra_nil)) (re_lst (ra_cons re_bl (ra_cons re_bl (ra_cons re_bl (ra_cons re_bl (ra_cons re_bl ra_nil))))))) (rw_or1 (rt_not (rt_val (re_isXb (T := "IndexError") (ix_IndexError C) C.n_isinstance C.n_IndexError (re_ix (re_ix (re_var 3) re_int) re_int))))))) (rss_one (rs_ret re_bl)) rss_nil)
    (rss_one (rs_ret (re_and (re_not (re_isXo C.g_InvalidCount (ix_InvalidCount C) C.n_isinstance (re_ix (re_ix (re_var 7) re_int) re_int))) (re_and (re_not (re_isXo C.g_InvalidName (ix_InvalidName C) C.n_isinstance (re_ix (re_ix (re_var 10) re_int) re_int))) (re_one (re_not (re_isXo C.g_InvalidName (ix_InvalidName C) C.n_isinstance (re_var 14))))))))))))))))))))))))
end
end K01
namespace K01
open PySem PySem.Spec PyProof.Rows L2 PD
theorem ctx {K : PySem.W.Frag} {h : Heap} {mg : Str → Option Value} (X : K.In h) (G : h.Ns mainGlobals mg) {w : World} (c4 : SaysG4 fa fn gs dsL fxL xdL sdL tf R.prog.main.file w h K) : @CtxT ⟨lams, []⟩ R.prog K w mg :=
  letI : LamTab := ⟨lams, []⟩
  have c3 := c4.g3
  have c := c3.two
  have gl : ∀ x : Str, .glo x ∈ fa → mg x = some (.ref (He.ga K x)) := fun x hx => He.glo_ok X G (SaysD.facts' c.g.d hx)
  {
  d__law_draws := (fun ⟨fd, F⟩ => ⟨_, fd, F, gl "_law_draws" (by simp [fa])⟩) (SaysD.def' c.g.d (d := dd__law_draws) (by simp [fn]))
  d__law_given := (fun ⟨fd, F⟩ => ⟨_, fd, F, gl "_law_given" (by simp [fa])⟩) (SaysD.def' c.g.d (d := dd__law_given) (by simp [fn]))
  d__law_pull := (fun ⟨fd, F⟩ => ⟨_, fd, F, gl "_law_pull" (by simp [fa])⟩) (SaysD.def' c.g.d (d := dd__law_pull) (by simp [fn]))
  d__law_any := (fun ⟨fd, F⟩ => ⟨_, fd, F, gl "_law_any" (by simp [fa])⟩) (SaysD.def' c.g.d (d := dd__law_any) (by simp [fn]))
  d__law_like := (fun ⟨fd, F⟩ => ⟨_, fd, F, gl "_law_like" (by simp [fa])⟩) (SaysD.def' c.g.d (d := dd__law_like) (by simp [fn]))
  d__law_bases := (fun ⟨fd, F⟩ => ⟨_, fd, F, gl "_law_bases" (by simp [fa])⟩) (SaysD.def' c.g.d (d := dd__law_bases) (by simp [fn]))
  d__law_far := (fun ⟨fd, F⟩ => ⟨_, fd, F, gl "_law_far" (by simp [fa])⟩) (SaysD.def' c.g.d (d := dd__law_far) (by simp [fn]))
  d_law := (fun ⟨fd, F⟩ => ⟨_, fd, F, gl "law" (by simp [fa])⟩) (SaysD.def' c.g.d (d := dd_law) (by simp [fn]))
  n_list := He.free_ok X G (SaysD.facts' c.g.d (f := .free "list") (by simp [fa]))
  n_int := He.free_ok X G (SaysD.facts' c.g.d (f := .free "int") (by simp [fa]))
  n_len := He.free_ok X G (SaysD.facts' c.g.d (f := .free "len") (by simp [fa]))
  n_isinstance := He.free_ok X G (SaysD.facts' c.g.d (f := .free "isinstance") (by simp [fa]))
  n_str := He.free_ok X G (SaysD.facts' c.g.d (f := .free "str") (by simp [fa]))
  n_bool := He.free_ok X G (SaysD.facts' c.g.d (f := .free "bool") (by simp [fa]))
  n_tuple := He.free_ok X G (SaysD.facts' c.g.d (f := .free "tuple") (by simp [fa]))
  n_zip := He.free_ok X G (SaysD.facts' c.g.d (f := .free "zip") (by simp [fa]))
  n_all := He.free_ok X G (SaysD.facts' c.g.d (f := .free "all") (by simp [fa]))
  n_LookupError := He.free_ok X G (SaysD.facts' c.g.d (f := .free "LookupError") (by simp [fa]))
  n_ValueError := He.free_ok X G (SaysD.facts' c.g.d (f := .free "ValueError") (by simp [fa]))
  n_IndexError := He.free_ok X G (SaysD.facts' c.g.d (f := .free "IndexError") (by simp [fa]))
  g_NothingLeft := gl "NothingLeft" (by simp [fa])
  g_Missing := gl "Missing" (by simp [fa])
  g_TableError := gl "TableError" (by simp [fa])
  g_InvalidName := gl "InvalidName" (by simp [fa])
  g_InvalidCount := gl "InvalidCount" (by simp [fa])
  g_UnknownName := gl "UnknownName" (by simp [fa])
  g_WrongKind := gl "WrongKind" (by simp [fa])
  g_DuplicateName := gl "DuplicateName" (by simp [fa])
  g_InvalidStatement := gl "InvalidStatement" (by simp [fa])
  g_InvalidCondition := gl "InvalidCondition" (by simp [fa])
  g_InvalidCommand := gl "InvalidCommand" (by simp [fa])
  g_InvalidLine := gl "InvalidLine" (by simp [fa])
  g_FailsLate := gl "FailsLate" (by simp [fa])
  g_InvalidRule := gl "InvalidRule" (by simp [fa])
  g_InvalidComparison := gl "InvalidComparison" (by simp [fa])
  g_InvalidRow := gl "InvalidRow" (by simp [fa])
  g_InvalidLimit := gl "InvalidLimit" (by simp [fa])
  g_UnknownKey := gl "UnknownKey" (by simp [fa])
  g_Failed := gl "Failed" (by simp [fa])
  g_Full := gl "Full" (by simp [fa])
  g_TooWide := gl "TooWide" (by simp [fa])
  g_NotCarried := gl "NotCarried" (by simp [fa])
  g_InvalidText := gl "InvalidText" (by simp [fa])
  g_ColumnsDiffer := gl "ColumnsDiffer" (by simp [fa])
  g_NotOpen := gl "NotOpen" (by simp [fa])
  g_InvalidArguments := gl "InvalidArguments" (by simp [fa])
  g_InvalidValue := gl "InvalidValue" (by simp [fa])
  g_InvalidColumns := gl "InvalidColumns" (by simp [fa])
  o_UnknownName := c3.fact (f := fx_o_UnknownName) (by simp [fxL])
  i_UnknownName := c3.fact (f := fx_i_UnknownName) (by simp [fxL])
  na_UnknownName := c3.fact (f := fx_na_UnknownName) (by simp [fxL])
  x_UnknownName := c3.defA (d := xd_UnknownName_init) (by simp [xdL])
  o_WrongKind := c3.fact (f := fx_o_WrongKind) (by simp [fxL])
  i_WrongKind := c3.fact (f := fx_i_WrongKind) (by simp [fxL])
  na_WrongKind := c3.fact (f := fx_na_WrongKind) (by simp [fxL])
  x_WrongKind := c3.defA (d := xd_WrongKind_init) (by simp [xdL])
  o_DuplicateName := c3.fact (f := fx_o_DuplicateName) (by simp [fxL])
  i_DuplicateName := c3.fact (f := fx_i_DuplicateName) (by simp [fxL])
  na_DuplicateName := c3.fact (f := fx_na_DuplicateName) (by simp [fxL])
  x_DuplicateName := c3.defA (d := xd_DuplicateName_init) (by simp [xdL])
  o_InvalidStatement := c3.fact (f := fx_o_InvalidStatement) (by simp [fxL])
  i_InvalidStatement := c3.fact (f := fx_i_InvalidStatement) (by simp [fxL])
  na_InvalidStatement := c3.fact (f := fx_na_InvalidStatement) (by simp [fxL])
  x_InvalidStatement := c3.defA (d := xd_InvalidStatement_init) (by simp [xdL])
  o_InvalidCondition := c3.fact (f := fx_o_InvalidCondition) (by simp [fxL])
  i_InvalidCondition := c3.fact (f := fx_i_InvalidCondition) (by simp [fxL])
  na_InvalidCondition := c3.fact (f := fx_na_InvalidCondition) (by simp [fxL])
  x_InvalidCondition := c3.defA (d := xd_InvalidCondition_init) (by simp [xdL])
  o_InvalidCommand := c3.fact (f := fx_o_InvalidCommand) (by simp [fxL])
  i_InvalidCommand := c3.fact (f := fx_i_InvalidCommand) (by simp [fxL])
  na_InvalidCommand := c3.fact (f := fx_na_InvalidCommand) (by simp [fxL])
  x_InvalidCommand := c3.defA (d := xd_InvalidCommand_init) (by simp [xdL])
  o_InvalidLine := c3.fact (f := fx_o_InvalidLine) (by simp [fxL])
  i_InvalidLine := c3.fact (f := fx_i_InvalidLine) (by simp [fxL])
  na_InvalidLine := c3.fact (f := fx_na_InvalidLine) (by simp [fxL])
  x_InvalidLine := c3.defA (d := xd_InvalidLine_init) (by simp [xdL])
  o_FailsLate := c3.fact (f := fx_o_FailsLate) (by simp [fxL])
  i_FailsLate := c3.fact (f := fx_i_FailsLate) (by simp [fxL])
  na_FailsLate := c3.fact (f := fx_na_FailsLate) (by simp [fxL])
  x_FailsLate := c3.defA (d := xd_FailsLate_init) (by simp [xdL])
  o_InvalidRule := c3.fact (f := fx_o_InvalidRule) (by simp [fxL])
  i_InvalidRule := c3.fact (f := fx_i_InvalidRule) (by simp [fxL])
  na_InvalidRule := c3.fact (f := fx_na_InvalidRule) (by simp [fxL])
  x_InvalidRule := c3.defA (d := xd_InvalidRule_init) (by simp [xdL])
  o_InvalidComparison := c3.fact (f := fx_o_InvalidComparison) (by simp [fxL])
  i_InvalidComparison := c3.fact (f := fx_i_InvalidComparison) (by simp [fxL])
  na_InvalidComparison := c3.fact (f := fx_na_InvalidComparison) (by simp [fxL])
  x_InvalidComparison := c3.defA (d := xd_InvalidComparison_init) (by simp [xdL])
  o_InvalidRow := c3.fact (f := fx_o_InvalidRow) (by simp [fxL])
  i_InvalidRow := c3.fact (f := fx_i_InvalidRow) (by simp [fxL])
  na_InvalidRow := c3.fact (f := fx_na_InvalidRow) (by simp [fxL])
  x_InvalidRow := c3.defA (d := xd_InvalidRow_init) (by simp [xdL])
  o_InvalidLimit := c3.fact (f := fx_o_InvalidLimit) (by simp [fxL])
  i_InvalidLimit := c3.fact (f := fx_i_InvalidLimit) (by simp [fxL])
  na_InvalidLimit := c3.fact (f := fx_na_InvalidLimit) (by simp [fxL])
  x_InvalidLimit := c3.defA (d := xd_InvalidLimit_init) (by simp [xdL])
  o_InvalidCount := c3.fact (f := fx_o_InvalidCount) (by simp [fxL])
  i_InvalidCount := c3.fact (f := fx_i_InvalidCount) (by simp [fxL])
  na_InvalidCount := c3.fact (f := fx_na_InvalidCount) (by simp [fxL])
  x_InvalidCount := c3.defA (d := xd_InvalidCount_init) (by simp [xdL])
  o_InvalidName := c3.fact (f := fx_o_InvalidName) (by simp [fxL])
  i_InvalidName := c3.fact (f := fx_i_InvalidName) (by simp [fxL])
  na_InvalidName := c3.fact (f := fx_na_InvalidName) (by simp [fxL])
  x_InvalidName := c3.defA (d := xd_InvalidName_init) (by simp [xdL])
  o_UnknownKey := c3.fact (f := fx_o_UnknownKey) (by simp [fxL])
  i_UnknownKey := c3.fact (f := fx_i_UnknownKey) (by simp [fxL])
  na_UnknownKey := c3.fact (f := fx_na_UnknownKey) (by simp [fxL])
  x_UnknownKey := c3.defA (d := xd_UnknownKey_init) (by simp [xdL])
  o_Failed := c3.fact (f := fx_o_Failed) (by simp [fxL])
  i_Failed := c3.fact (f := fx_i_Failed) (by simp [fxL])
  na_Failed := c3.fact (f := fx_na_Failed) (by simp [fxL])
  x_Failed := c3.defA (d := xd_Failed_init) (by simp [xdL])
  o_Full := c3.fact (f := fx_o_Full) (by simp [fxL])
  i_Full := c3.fact (f := fx_i_Full) (by simp [fxL])
  na_Full := c3.fact (f := fx_na_Full) (by simp [fxL])
  x_Full := c3.defA (d := xd_Full_init) (by simp [xdL])
  o_TooWide := c3.fact (f := fx_o_TooWide) (by simp [fxL])
  i_TooWide := c3.fact (f := fx_i_TooWide) (by simp [fxL])
  na_TooWide := c3.fact (f := fx_na_TooWide) (by simp [fxL])
  x_TooWide := c3.defA (d := xd_TooWide_init) (by simp [xdL])
  o_NotCarried := c3.fact (f := fx_o_NotCarried) (by simp [fxL])
  i_NotCarried := c3.fact (f := fx_i_NotCarried) (by simp [fxL])
  na_NotCarried := c3.fact (f := fx_na_NotCarried) (by simp [fxL])
  x_NotCarried := c3.defA (d := xd_NotCarried_init) (by simp [xdL])
  o_InvalidText := c3.fact (f := fx_o_InvalidText) (by simp [fxL])
  i_InvalidText := c3.fact (f := fx_i_InvalidText) (by simp [fxL])
  x_InvalidText := c3.defA (d := xd_InvalidText_init) (by simp [xdL])
  o_ColumnsDiffer := c3.fact (f := fx_o_ColumnsDiffer) (by simp [fxL])
  i_ColumnsDiffer := c3.fact (f := fx_i_ColumnsDiffer) (by simp [fxL])
  x_ColumnsDiffer := c3.defA (d := xd_ColumnsDiffer_init) (by simp [xdL])
  o_NotOpen := c3.fact (f := fx_o_NotOpen) (by simp [fxL])
  i_NotOpen := c3.fact (f := fx_i_NotOpen) (by simp [fxL])
  x_NotOpen := c3.defA (d := xd_NotOpen_init) (by simp [xdL])
  o_InvalidArguments := c3.fact (f := fx_o_InvalidArguments) (by simp [fxL])
  i_InvalidArguments := c3.fact (f := fx_i_InvalidArguments) (by simp [fxL])
  x_InvalidArguments := c3.defA (d := xd_InvalidArguments_init) (by simp [xdL])
  o_InvalidValue := c3.fact (f := fx_o_InvalidValue) (by simp [fxL])
  i_InvalidValue := c3.fact (f := fx_i_InvalidValue) (by simp [fxL])
  x_InvalidValue := c3.defA (d := xd_InvalidValue_init) (by simp [xdL])
  o_InvalidColumns := c3.fact (f := fx_o_InvalidColumns) (by simp [fxL])
  i_InvalidColumns := c3.fact (f := fx_i_InvalidColumns) (by simp [fxL])
  x_InvalidColumns := c3.defA (d := xd_InvalidColumns_init) (by simp [xdL])
  su_Missing := (c4.sup sd_Missing (by simp [sdL])).1
  sv_Missing := (c4.sup sd_Missing (by simp [sdL])).2
  cf_Missing := c3.fact (f := fx_cf_Missing) (by simp [fxL])
  su_TableError := (c4.sup sd_TableError (by simp [sdL])).1
  sv_TableError := (c4.sup sd_TableError (by simp [sdL])).2
  cf_TableError := c3.fact (f := fx_cf_TableError) (by simp [fxL])
  o_NothingLeft := c3.fact (f := fx_o_NothingLeft) (by simp [fxL])
  i_NothingLeft := c3.fact (f := fx_i_NothingLeft) (by simp [fxL])
  su_NothingLeft := (c4.sup sd_NothingLeft (by simp [sdL])).1
  sv_NothingLeft := (c4.sup sd_NothingLeft (by simp [sdL])).2
  vf_key := c3.fact (f := fx_vf_key) (by simp [fxL])
  vf_code := c3.fact (f := fx_vf_code) (by simp [fxL])
  vf_word := c3.fact (f := fx_vf_word) (by simp [fxL])
  vf_limit := c3.fact (f := fx_vf_limit) (by simp [fxL])
  vf_most := c3.fact (f := fx_vf_most) (by simp [fxL])
  vf_witness := c3.fact (f := fx_vf_witness) (by simp [fxL])
  vf_path := c3.fact (f := fx_vf_path) (by simp [fxL])
  vf_name := c3.fact (f := fx_vf_name) (by simp [fxL])
  vf_given := c3.fact (f := fx_vf_given) (by simp [fxL])
  vf_index := c3.fact (f := fx_vf_index) (by simp [fxL])
  exb_ := c3.fact (f := fx_exb_) (by simp [fxL])
  kt_LookupError := c3.fact (f := fx_kt_LookupError) (by simp [fxL])
  kt_ValueError := c3.fact (f := fx_kt_ValueError) (by simp [fxL])
  kt_NothingLeft := c3.fact (f := fx_kt_NothingLeft) (by simp [fxL])
  kt_Missing := c3.fact (f := fx_kt_Missing) (by simp [fxL])
  kt_TableError := c3.fact (f := fx_kt_TableError) (by simp [fxL])
  kt_InvalidName := c3.fact (f := fx_kt_InvalidName) (by simp [fxL])
  kt_InvalidCount := c3.fact (f := fx_kt_InvalidCount) (by simp [fxL])
  kt_IndexError := c3.fact (f := fx_kt_IndexError) (by simp [fxL])
  top_ := by decide +kernel
  lamE := rfl
  }
theorem fin (math : ∀ ns : List Int, ns.length ≤ 63 → (∀ z ∈ ns, Builtin.Int.intBits z ≤ 1048576) → (∃ h', F_law [.scr (ns.map .int)] [] = some (.ok (.bl true), h')) ∧ ∃ h', F_law [.lst (ns.map .int)] [] = some (.ok (.bl true), h')) :
    PySem.W.WalkO (PySem.W.view R.prog [37]) loose (PySem.W.XL (PySem.W.view R.prog [37]) []) hk.says R.toRowW (HandSHeadRun.topDef R.prog 37) [] (fun f vs => PySem.call f vs) := by
  refine walk_pdT (lams := lams) (l := PySem.Challenge.rw_lookedrows_k01_errors_by_themselves) (n := 63) (k := 32) (x := "_law_script") rfl (by decide) (by kernel_rfl) ⟨rfl, by decide, by decide⟩ ?_ math
  intro w mg fa h Y G hmg0
  obtain ⟨K, KX, c⟩ := Y
  have hmg : mg ("law" : PySem.Str) = some (.ref fa) := by
    have e : (HandSHeadRun.topDef R.prog 37).name = ("law" : PySem.Str) := by kernel_rfl
    rw [← e]
    exact hmg0
  letI : LamTab := ⟨lams, []⟩
  obtain ⟨f, fd, g, hb, hF⟩ := ok_law (P := (PySem.Challenge.rw_lookedrows_k01_errors_by_themselves).prog) (w := w) (ctx KX G c)
  have ef : fa = f := by
    have := hmg.symm.trans g
    cases this
    rfl
  subst ef
  refine ⟨K, fd, tf.map (He.cT K), [], KX, fun p hp => ?_, fun p hp => ?_, fun p hp => ?_, fun p hp => ?_, hb, fun base KB GB TB => hF base ⟨trivial⟩⟩
  · obtain ⟨q, hq, rfl⟩ := List.mem_map.mp hp
    exact c.empty q hq
  · obtain ⟨q, hq, rfl⟩ := List.mem_map.mp hp
    exact c.out q hq
  · obtain ⟨q, hq, rfl⟩ := List.mem_map.mp hp
    exact PySem.W.codeHd_of_K KX (c.hd q hq)
  cases hp
end K01
local macro_rules
  | `(tactic| simp! only [$xs,*] $[$l]?) => `(tactic| simp only [↓PD.seq_ap, ↓PD.var_ap, ↓PD.c_ap, ↓PD.bin_ap, ↓PD.tst_ap, ↓PD.not_ap, ↓PD.and_ap, ↓PD.or_ap, ↓PD.if_ap, ↓PD.andv_ap, ↓PD.orv_ap, ↓PD.notv_ap, ↓PD.nil_ap, ↓PD.cons_ap, ↓PD.tup_ap, ↓PD.lst_ap, ↓PD.call_ap, ↓PD.callP_ap, ↓PD.callI_ap, ↓PD.perm_ap, ↓PD.nop_ap, ↓PD.smp_ap, ↓PD.sl_ap, ↓PD.chain_ap, ↓PD.isi_ap, ↓PD.lc_ap, ↓PD.lstC_ap, ↓PD.mts_ap, ↓PD.yes_ap, ↓PD.il_ap, ↓PD.it_ap, ↓PD.is_ap, ↓PD.ir1_ap, ↓PD.iz_ap, ↓PD.snil_ap, ↓PD.ret_ap, ↓PD.sif_ap, ↓PD.sexpr_ap, ↓PD.bk_ap, ↓PD.ct_ap, ↓PD.asg_ap, ↓PD.for_ap, ↓PD.par_ap, ↓PD.gname_ap, ↓PD.gnil_ap, ↓PD.gcons_ap, ↓PD.gtup_ap, ↓PD.gsub_ap, PD.bR_ok, PD.bR_ex, PD.rt_some, PD.sq_nx, PD.sq_rt, PD.sq_bk, PD.sq_ct, PD.sq_ex, PD.bS_ok, PD.bS_ex, PD.binK1_ap, PD.binK2_ap, PD.tstK_b, PD.notK_ap, PD.andK_t, PD.andK_f, PD.orK_t, PD.orK_f, PD.ifK_t, PD.ifK_f, PD.andV_t, PD.andV_f, PD.orV_t, PD.orV_f, PD.notV_c, PD.consK1_ap, PD.consK2_ap, PD.tupK_ok, PD.lstK_ok, PD.callK_ap, PD.permK_ap, PD.smP_int, PD.slK1_ap, PD.slK2_ap, PD.slK3_ap, PD.sl_lst, PD.sl_scr, PD.sl_tup, PD.chK1_ap, PD.chK2_ap, PD.chK3_t, PD.chK3_f, PD.chK4_ap, PD.isiK_int, PD.isiK_str, PD.isiK_bl, PD.isiK_non, PD.isiK_tup, PD.isiK_lst, PD.mtsK_str, PD.mtsK2_ap, PD.ilK_lst, PD.ilK_scr, PD.itK_tup, PD.isK_str, PD.izK_l, PD.izK_t, PD.retK_ap, PD.sifK_t, PD.sifK_f, PD.sexprK_ap, PD.asgK_ap, PD.bG_ok, PD.forK_ap, PD.parK_ok, PD.gK_ok, PD.subK1_ok, PD.subK2_ok, PD.add_int, PD.sub_int, PD.mod_int, PD.lt_int, PD.le_int, PD.gt_int, PD.ge_int, PD.eq_int, PD.eq_str, PD.eq_bl, PD.eq_is, PD.eq_si, PD.eq_bs, PD.eq_sb, PD.eq_nn, PD.ne_int, PD.ne_str, PD.ne_bl, PD.isn_ap, PD.isN_int, PD.isN_str, PD.isN_bl, PD.isN_tup, PD.isN_lst, PD.isN_non, PD.ix_lst, PD.ix_tup, PD.ix_scr, PD.len_lst, PD.len_tup, PD.int_int, PD.list_lst, PD.list_tup, PD.tuple_lst, PD.tuple_tup, PD.asB_bl, PD.getD0, PD.getDS, PD.set0, PD.setS, PD.at0, PD.atS, PD.map_some', PD.bind_some', List.length_cons, List.length_nil, List.any_cons, List.any_nil, ↓PD.fld_ap, ↓PD.mei_ap, ↓PD.faug_ap, ↓PD.c1_ap, ↓PD.ir2_ap, ↓PD.sfld_ap, PD.fldK_ap, PD.meiK2_ap, PD.c1K_ap, PD.sfldK_ap, PD.sfldK2_ap, ↓PD.ia_ap, ↓PD.ien_ap, ↓PD.sort_ap, ↓PD.lenT_ap, ↓PD.cget_ap, ↓PD.append_ap, ↓PD.app2_ap, ↓PD.par3_ap, ↓PD.lc2_ap, ↓PD.prp_ap, ↓PD.mep_ap, ↓PD.mkp_ap, ↓PD.neg_ap, PD.iaK_lst, PD.iaK_tup, PD.ienK_lst, PD.ienK_tup, PD.cgetK_str, PD.cgetK2_ap, PD.apK2_ap, PD.app2K_ap, PD.app2K2_ap, PD.par3K_ok, PD.max2_ap, PD.augK_int, PD.negK_int, decide_true, decide_false, and_self, Nat.reduceLeDiff, Nat.reduceAdd, if_true, Int.reduceLT, Int.reduceNeg, Int.reducePow, Int.reduceToNat, Int.reduceLE, Nat.reduceLT, Int.reduceAdd, Int.reduceSub, Bool.not_true, Bool.not_false, Int.reduceEq, bne_self_eq_false, Bool.false_bne, Bool.true_bne, Int.reduceBNe, $xs,*] $[$l]?)
namespace K01
open PySem PD
theorem e_like : ∀ t, F__law_like_ t = F_like_ t
  | 0 => rfl
  | t + 1 => by
    unfold F__law_like_ F_like_
    rw [e_like t]; rfl
theorem draws_lst {ns : List Int} (hl : ns.length ≤ 63) : ∃ k, F_draws [.lst (ns.map .int)] [] = some (.ok (.ref 0), [k]) ∧ BagI k := by
  obtain ⟨s', o', e, r0, r1⟩ := draws_loop (x := .lst (ns.map .int)) ns 5648 none (by decide) (by decide)
  refine ⟨bagC (ns.map .int) 0 0 s' 0, ?_, ⟨_, _, _, _, _, rfl, hl, by decide, by decide, r0, r1⟩⟩
  show endA _ (mDraws [some (.lst (ns.map .int)), none, none] []) = _
  have l : (ns.map D.int).length ≤ 63 := by simpa using hl
  simp? only [mDraws, cut63 l, e, lstCK_ok]
  rfl
section
variable {ε : Ev} {h : EH}
def newK (C : Str) (fl : Option Str) (cs : List Nat) (ds : List D) (h1 : EH) : O D := match excFs fl cs ds with
  | some fs => some (.ok (.exc C fs), h1)
  | none => none
theorem newx_ap (C : Str) (fl : Option Str) (cs : List Nat) (a : M (List D)) : mNewX C fl cs a ε h = bR (a ε h) (newK C fl cs) := (rfl)
theorem newK_1 (C f : Str) (cs : List Nat) (d : D) : newK C (some f) cs [d] h = some (.ok (.exc C [(f, d), ("code", .str cs)]), h) := (rfl)
theorem newK_0 (C : Str) (cs : List Nat) : newK C none cs [] h = some (.ok (.exc C [("code", .str cs)]), h) := (rfl)
def fldxK (cl : List Str) (f : Str) (d : D) (h1 : EH) : O D := match d with
  | .exc C fs => if cl.contains C = true then rt (fs.lookup f) h1 else none
  | _ => none
theorem fldx_ap (cl : List Str) (f : Str) (m : M D) : mFldX cl f m ε h = bR (m ε h) (fldxK cl f) := (rfl)
theorem fx_code {cl : List Str} {C f : Str} {d : D} {cs : List Nat} (e : cl.contains C = true) (ne : (("code" : Str) == f) = false) : fldxK cl "code" (.exc C [(f, d), ("code", .str cs)]) h = some (.ok (.str cs), h) := by
  show (if cl.contains C = true then rt (List.lookup ("code" : Str) ([(f, d), ("code", .str cs)] : List (Str × D))) h else none) = _
  rw [if_pos e, List.lookup_cons, ne]
  rfl
theorem fx_code0 {cl : List Str} {C : Str} {cs : List Nat} (e : cl.contains C = true) : fldxK cl "code" (.exc C [("code", .str cs)]) h = some (.ok (.str cs), h) := by
  show (if cl.contains C = true then rt (List.lookup ("code" : Str) ([("code", .str cs)] : List (Str × D))) h else none) = _
  rw [if_pos e]
  rfl
theorem fx_f {cl : List Str} {C f : Str} {d : D} {r : List (Str × D)} (e : cl.contains C = true) : fldxK cl f (.exc C ((f, d) :: r)) h = some (.ok d, h) := by
  show (if cl.contains C = true then rt (List.lookup f ((f, d) :: r)) h else none) = _
  rw [if_pos e, List.lookup_cons, beq_self_eq_true]
  rfl
def isxK (tb : List (Str × Bool)) (d : D) (h1 : EH) : O D := rt (isXd tb d) h1
theorem isx_ap (tb : List (Str × Bool)) (m : M D) : mIsX tb m ε h = bR (m ε h) (isxK tb) := (rfl)
theorem isxK_ok {tb : List (Str × Bool)} {C : Str} {fs : List (Str × D)} {b : Bool} (e : tb.lookup C = some b) : isxK tb (.exc C fs) h = some (.ok (.bl b), h) := by
  show rt ((tb.lookup C).map D.bl) h = _
  rw [e]
  rfl
end
def pth : D := .tup [.int 1, .int 2]
def ex1 (C f : Str) (cs : List Nat) (d : D) : D := .exc C [(f, d), ("code", .str cs)]
def ex0 (C : Str) (cs : List Nat) : D := .exc C [("code", .str cs)]
def pr (C f : Str) (cs : List Nat) (d : D) : D := .tup [ex1 C f cs d, .str cs]
def br (C : Str) (cs : List Nat) : D := .tup [ex0 C cs, .str cs]
def named (a : D) : List D := [pr "InvalidName" "given" [73, 110, 118, 97, 108, 105, 100, 78, 97, 109, 101] a, pr "InvalidCount" "given" [73, 110, 118, 97, 108, 105, 100, 67, 111, 117, 110, 116] a, pr "InvalidLimit" "given" [73, 110, 118, 97, 108, 105, 100, 76, 105, 109, 105, 116] a]
def indexed (a : D) : List D := [pr "InvalidRow" "index" [73, 110, 118, 97, 108, 105, 100, 82, 111, 119] a, pr "InvalidComparison" "index" [73, 110, 118, 97, 108, 105, 100, 67, 111, 109, 112, 97, 114, 105, 115, 111, 110] a, pr "InvalidRule" "index" [73, 110, 118, 97, 108, 105, 100, 82, 117, 108, 101] a, pr "FailsLate" "index" [70, 97, 105, 108, 115, 76, 97, 116, 101] a, pr "InvalidLine" "index" [73, 110, 118, 97, 108, 105, 100, 76, 105, 110, 101] a, pr "InvalidCommand" "index" [73, 110, 118, 97, 108, 105, 100, 67, 111, 109, 109, 97, 110, 100] a]
def pathsL : List D := [pr "InvalidCondition" "path" [73, 110, 118, 97, 108, 105, 100, 67, 111, 110, 100, 105, 116, 105, 111, 110] pth, pr "InvalidStatement" "path" [73, 110, 118, 97, 108, 105, 100, 83, 116, 97, 116, 101, 109, 101, 110, 116] pth]
def called (a : D) : List D := [pr "DuplicateName" "name" [68, 117, 112, 108, 105, 99, 97, 116, 101, 78, 97, 109, 101] a, pr "WrongKind" "name" [87, 114, 111, 110, 103, 75, 105, 110, 100] a, pr "UnknownName" "name" [85, 110, 107, 110, 111, 119, 110, 78, 97, 109, 101] a]
def bare : List D := [br "InvalidColumns" [73, 110, 118, 97, 108, 105, 100, 67, 111, 108, 117, 109, 110, 115], br "InvalidValue" [73, 110, 118, 97, 108, 105, 100, 86, 97, 108, 117, 101], br "InvalidArguments" [73, 110, 118, 97, 108, 105, 100, 65, 114, 103, 117, 109, 101, 110, 116, 115], br "NotOpen" [78, 111, 116, 79, 112, 101, 110], br "ColumnsDiffer" [67, 111, 108, 117, 109, 110, 115, 68, 105, 102, 102, 101, 114], br "InvalidText" [73, 110, 118, 97, 108, 105, 100, 84, 101, 120, 116], br "NothingLeft" [78, 111, 116, 104, 105, 110, 103, 76, 101, 102, 116]]
theorem given_ok {a : D} (ha : noRef a = true) : F__law_given [a] = some (.ok (.tup [.lst (named a), .lst (indexed a), .lst pathsL, .lst (called a)])) := by
  show endP (m__law_given [some a, none, none, none] []) = _
  rw [show m__law_given [some a, none, none, none] [] = some (.rt (.tup [.lst (named a), .lst (indexed a), .lst pathsL, .lst (called a)]), []) from rfl]
  refine endP_ok ?_
  simp [named, indexed, pathsL, called, pr, ex1, pth, noRef, noRef.go, noRef.gf, ha]
def bss (c : Bool) (d : Bool) : D := .lst [.bl c, .bl (!c && !d), .bl d, .bl c, .bl (!c)]
def clsB (c d : Bool) (x : D) : Bool := match x with
  | .exc C _ => (tb_TableError.lookup C == some c) && ((tb_Missing.lookup C == some (!c && !d)) && ((tb_NothingLeft.lookup C == some d) && ((tb_ValueError.lookup C == some c) && (tb_LookupError.lookup C == some (!c)))))
  | _ => false
theorem bases_ok {x : D} {c d : Bool} (e : clsB c d x = true) : F__law_bases [x] = some (.ok (bss c d)) := by
  cases x with
  | exc C fs =>
    simp only [clsB, Bool.and_eq_true, beq_iff_eq] at e
    obtain ⟨e1, e2, e3, e4, e5⟩ := e
    show endP (m__law_bases [some (.exc C fs)] []) = _
    simp! only [m__law_bases, isx_ap, isxK_ok e1, isxK_ok e2, isxK_ok e3, isxK_ok e4, isxK_ok e5]
    exact endP_ok rfl
  | _ => cases e
section
variable {a : D} {h : EH} {s0 s1 s2 s3 s4 s5 s6 s7 s8 s9 s10 s11 s12 s13 s14 s15 s16 s17 s18 : Option D}
theorem okL2 {x y : D} (hx : okD 3 x = true) (hy : okD 3 y = true) : okD 30 (.lst [x, y]) = true := okD_le (t := 4) (by
  show (decide (2 ≤ 16777216) && (okD 3 x && (okD 3 y && true))) = true
  rw [hx, hy]; rfl) (by decide)
theorem like_ok {d : D} (e : okD 30 d = true) : callPK F__law_like [d, d] h = some (.ok (.bl true), h) := by
  refine callPK_ok ?_ ?_
  · exact (congrFun (e_like 30) _).trans (like_refl e)
  · rw [noRef.go, noRef.go, okD_noRef e]; rfl
theorem me5 {C : Str} {cs : List Nat} (h1 : cl_code.contains C = true) (h2 : cl_given.contains C = true) (ha : okD 3 a = true) : me_law_5 [s0, s1, s2, s3, s4, some a, s6, s7, s8, s9, s10, s11, s12, s13, s14, s15, s16, some (ex1 C "given" cs a), some (.str cs)] h = some (.ok (.bl true), h) := by
  have lk := like_ok (h := h) (okL2 (x := .str cs) (y := a) rfl ha)
  simp! only [me_law_5, ex1, fldx_ap, fx_code h1 (show (("code" : Str) == "given") = false from by decide), fx_f h2, lk]
theorem me6 {C : Str} {cs : List Nat} (h1 : cl_code.contains C = true) (h2 : cl_index.contains C = true) (ha : okD 3 a = true) : me_law_6 [s0, s1, s2, s3, s4, some a, s6, s7, s8, s9, s10, s11, s12, s13, s14, s15, s16, some (ex1 C "index" cs a), some (.str cs)] h = some (.ok (.bl true), h) := by
  have lk := like_ok (h := h) (okL2 (x := .str cs) (y := a) rfl ha)
  simp! only [me_law_6, ex1, fldx_ap, fx_code h1 (show (("code" : Str) == "index") = false from by decide), fx_f h2, lk]
theorem me4 {C : Str} {cs : List Nat} (h1 : cl_code.contains C = true) (h2 : cl_name.contains C = true) (ha : okD 3 a = true) : me_law_4 [s0, s1, s2, s3, s4, some a, s6, s7, s8, s9, s10, s11, s12, s13, s14, s15, s16, some (ex1 C "name" cs a), some (.str cs)] h = some (.ok (.bl true), h) := by
  have lk := like_ok (h := h) (okL2 (x := .str cs) (y := a) rfl ha)
  simp! only [me_law_4, ex1, fldx_ap, fx_code h1 (show (("code" : Str) == "name") = false from by decide), fx_f h2, lk]
theorem me3 {C : Str} {cs : List Nat} (h1 : cl_code.contains C = true) (h2 : cl_path.contains C = true)  : me_law_3 [s0, s1, s2, s3, s4, s5, s6, s7, s8, s9, s10, s11, s12, s13, s14, s15, s16, some (ex1 C "path" cs pth), some (.str cs)] h = some (.ok (.bl true), h) := by
  have lk := like_ok (h := h) (okL2 (x := .str cs) (y := pth) rfl rfl)
  unfold pth at lk
  simp! only [me_law_3, ex1, pth, fldx_ap, fx_code h1 (show (("code" : Str) == "path") = false from by decide), fx_f h2, lk]
theorem me2 {C : Str} {cs : List Nat} (h1 : cl_code.contains C = true) : me_law_2 [s0, s1, s2, s3, s4, s5, s6, s7, s8, s9, s10, s11, s12, s13, s14, s15, s16, some (ex0 C cs), some (.str cs)] h = some (.ok (.bl true), h) := by
  have lk := like_ok (h := h) (d := .str cs) rfl
  simp! only [me_law_2, ex0, fldx_ap, fx_code0 h1, lk]
theorem lc2_ok {me : M D} {ds : List D} (l : ds.length ≤ 100) (H : ∀ d ∈ ds, ∃ E c, d = .tup [E, .str c] ∧ me [s0, s1, s2, s3, s4, s5, s6, s7, s8, s9, s10, s11, s12, s13, s14, s15, s16, some E, some (.str c)] h = some (.ok (.bl true), h)) :
    lcK [17, 18] (mgTup 2 (mgCons (mgName 17) (mgCons (mgName 18) mgNil))) mYes me [s0, s1, s2, s3, s4, s5, s6, s7, s8, s9, s10, s11, s12, s13, s14, s15, s16, s17, s18] ds h = some (.ok (.lst (ds.map fun _ => .bl true)), h) := by
  refine lcK_ok (lcL_map (fun _ => .bl true) fun d hd => ?_) (by rw [List.length_map]; omega)
  obtain ⟨E, c, rfl, e⟩ := H d hd
  exact ⟨_, rfl, rfl, e⟩
theorem lc1_ok {me : M D} {ds : List D} (l : ds.length ≤ 100) (H : ∀ d ∈ ds, me [s0, s1, s2, s3, s4, s5, s6, s7, s8, s9, s10, s11, s12, s13, s14, s15, s16, some d, s18] h = some (.ok (.bl true), h)) :
    lcK [17] (mgName 17) mYes me [s0, s1, s2, s3, s4, s5, s6, s7, s8, s9, s10, s11, s12, s13, s14, s15, s16, s17, s18] ds h = some (.ok (.lst (ds.map fun _ => .bl true)), h) :=
  lcK_ok (lcL_map (fun _ => .bl true) fun d hd => ⟨_, rfl, rfl, H d hd⟩) (by rw [List.length_map]; omega)
def hdD : D → D
  | .tup (x :: _) => x
  | d => d
theorem lc0_ok {ds : List D} (l : ds.length ≤ 100) (H : ∀ d ∈ ds, ∃ E c, d = .tup [E, .str c]) :
    lcK [16] (mgName 16) mYes (mBin dIx (mVar 16) (mC (.int 0))) [s0, s1, s2, s3, s4, s5, s6, s7, s8, s9, s10, s11, s12, s13, s14, s15, s16, s17, s18] ds h = some (.ok (.lst (ds.map hdD)), h) := by
  refine lcK_ok (lcL_map hdD fun d hd => ?_) (by rw [List.length_map]; omega)
  obtain ⟨E, c, rfl⟩ := H d hd
  exact ⟨_, rfl, rfl, rfl⟩
theorem l5 (ha : okD 3 a = true) : lcK [17, 18] (mgTup 2 (mgCons (mgName 17) (mgCons (mgName 18) mgNil))) mYes me_law_5 [s0, s1, s2, s3, s4, some a, s6, s7, s8, s9, s10, s11, s12, s13, s14, s15, s16, s17, s18] (named a) h = some (.ok (.lst [.bl true, .bl true, .bl true]), h) :=
  lc2_ok (by show 3 ≤ 100; decide) fun d hd => by
    simp only [named, List.mem_cons, List.not_mem_nil, or_false] at hd
    rcases hd with rfl | rfl | rfl <;> exact ⟨_, _, rfl, me5 (by decide +kernel) (by decide +kernel) ha⟩
theorem l6 (ha : okD 3 a = true) : lcK [17, 18] (mgTup 2 (mgCons (mgName 17) (mgCons (mgName 18) mgNil))) mYes me_law_6 [s0, s1, s2, s3, s4, some a, s6, s7, s8, s9, s10, s11, s12, s13, s14, s15, s16, s17, s18] (indexed a) h = some (.ok (.lst [.bl true, .bl true, .bl true, .bl true, .bl true, .bl true]), h) :=
  lc2_ok (by show 6 ≤ 100; decide) fun d hd => by
    simp only [indexed, List.mem_cons, List.not_mem_nil, or_false] at hd
    rcases hd with rfl | rfl | rfl | rfl | rfl | rfl <;> exact ⟨_, _, rfl, me6 (by decide +kernel) (by decide +kernel) ha⟩
theorem l4 (ha : okD 3 a = true) : lcK [17, 18] (mgTup 2 (mgCons (mgName 17) (mgCons (mgName 18) mgNil))) mYes me_law_4 [s0, s1, s2, s3, s4, some a, s6, s7, s8, s9, s10, s11, s12, s13, s14, s15, s16, s17, s18] (called a) h = some (.ok (.lst [.bl true, .bl true, .bl true]), h) :=
  lc2_ok (by show 3 ≤ 100; decide) fun d hd => by
    simp only [called, List.mem_cons, List.not_mem_nil, or_false] at hd
    rcases hd with rfl | rfl | rfl <;> exact ⟨_, _, rfl, me4 (by decide +kernel) (by decide +kernel) ha⟩
theorem l3 : lcK [17, 18] (mgTup 2 (mgCons (mgName 17) (mgCons (mgName 18) mgNil))) mYes me_law_3 [s0, s1, s2, s3, s4, s5, s6, s7, s8, s9, s10, s11, s12, s13, s14, s15, s16, s17, s18] pathsL h = some (.ok (.lst [.bl true, .bl true]), h) :=
  lc2_ok (by show 2 ≤ 100; decide) fun d hd => by
    simp only [pathsL, List.mem_cons, List.not_mem_nil, or_false] at hd
    rcases hd with rfl | rfl <;> exact ⟨_, _, rfl, me3 (by decide +kernel) (by decide +kernel)⟩
theorem l2 : lcK [17, 18] (mgTup 2 (mgCons (mgName 17) (mgCons (mgName 18) mgNil))) mYes me_law_2 [s0, s1, s2, s3, s4, s5, s6, s7, s8, s9, s10, s11, s12, s13, s14, s15, s16, s17, s18] bare h = some (.ok (.lst [.bl true, .bl true, .bl true, .bl true, .bl true, .bl true, .bl true]), h) :=
  lc2_ok (by show 7 ≤ 100; decide) fun d hd => by
    simp only [bare, List.mem_cons, List.not_mem_nil, or_false] at hd
    rcases hd with rfl | rfl | rfl | rfl | rfl | rfl | rfl <;> exact ⟨_, _, rfl, me2 (by decide +kernel)⟩
end
def q1 (a : D) : List D := named a ++ indexed a
def q2 (a : D) : List D := q1 a ++ pathsL
def q3 (a : D) : List D := q2 a ++ (called a).take 2
def q4 (a : D) : List D := q3 a ++ bare.take 6
def lastL (a rw : D) : List D := [ex1 "NotCarried" "witness" [78, 111, 116, 67, 97, 114, 114, 105, 101, 100] rw, ex1 "TooWide" "most" [84, 111, 111, 87, 105, 100, 101] a, ex1 "Full" "limit" [70, 117, 108, 108] a, ex1 "Failed" "word" [70, 97, 105, 108, 101, 100] a]
def most (a rw : D) : List D := (q4 a).map hdD ++ lastL a rw
theorem most_cls (a rw : D) : (most a rw).all (clsB true false) = true := by kernel_rfl
theorem most_noRef {a rw : D} (ha : noRef a = true) (hr : noRef rw = true) : (most a rw).all noRef = true := by
  simp [most, q4, q3, q2, q1, named, indexed, pathsL, called, bare, lastL, pr, br, ex1, ex0, hdD, pth, noRef, noRef.go, noRef.gf, ha, hr]
section
variable {a rw : D} {h : EH} {s0 s1 s2 s3 s4 s5 s6 s7 s8 s9 s10 s11 s12 s13 s14 s15 s16 s17 s18 : Option D}
theorem basesK {x : D} {c d : Bool} (e : clsB c d x = true) (n : noRef x = true) : callPK F__law_bases [x] h = some (.ok (bss c d), h) := callPK_ok (bases_ok e) (by rw [noRef.go, n]; rfl)
theorem me1 {x : D} (e : clsB true false x = true) (n : noRef x = true) : me_law_1 [s0, s1, s2, s3, s4, s5, s6, s7, s8, s9, s10, s11, s12, s13, s14, s15, s16, some x, s18] h = some (.ok (.bl true), h) := by
  have b := basesK (h := h) e n
  have q : dEq h (bss true false) (.lst [.bl true, .bl false, .bl false, .bl true, .bl false]) = some (.bl true) := by rfl
  simp! only [me_law_1, b, q]
theorem me0 {x : D} (e : clsB false false x = true) (n : noRef x = true) : me_law_0 [s0, s1, s2, s3, s4, s5, s6, s7, s8, s9, s10, s11, s12, s13, s14, s15, s16, some x, s18] h = some (.ok (.bl true), h) := by
  have b := basesK (h := h) e n
  have q : dEq h (bss false false) (.lst [.bl false, .bl true, .bl false, .bl false, .bl true]) = some (.bl true) := by rfl
  simp! only [me_law_0, b, q]
theorem l1 (ha : noRef a = true) (hr : noRef rw = true) : lcK [17] (mgName 17) mYes me_law_1 [s0, s1, s2, s3, s4, s5, s6, s7, s8, s9, s10, s11, s12, s13, s14, s15, s16, s17, s18] (most a rw) h = some (.ok (.lst [.bl true, .bl true, .bl true, .bl true, .bl true, .bl true, .bl true, .bl true, .bl true, .bl true, .bl true, .bl true, .bl true, .bl true, .bl true, .bl true, .bl true, .bl true, .bl true, .bl true, .bl true, .bl true, .bl true]), h) :=
  lc1_ok (by show 23 ≤ 100; decide) fun d hd => me1 (List.all_eq_true.mp (most_cls a rw) d hd) (List.all_eq_true.mp (most_noRef ha hr) d hd)
theorem l16 : lcK [16] (mgName 16) mYes (mBin dIx (mVar 16) (mC (.int 0))) [s0, s1, s2, s3, s4, s5, s6, s7, s8, s9, s10, s11, s12, s13, s14, s15, s16, s17, s18] (q4 a) h = some (.ok (.lst ((q4 a).map hdD)), h) :=
  lc0_ok (by show 19 ≤ 100; decide) fun d hd => by
    simp only [q4, q3, q2, q1, named, indexed, pathsL, called, bare, pr, br, List.take_succ_cons, List.take_zero, List.cons_append, List.nil_append, List.append_assoc, List.mem_cons, List.not_mem_nil, or_false] at hd
    rcases hd with rfl | rfl | rfl | rfl | rfl | rfl | rfl | rfl | rfl | rfl | rfl | rfl | rfl | rfl | rfl | rfl | rfl | rfl | rfl <;> exact ⟨_, _, rfl⟩
end
theorem far_ok {k : Cell} (hk : BagI k) (t : EH) : ∃ (i : Int) (k' : Cell), F__law_far [.ref 0] (k :: t) = some (.ok (.int i), k' :: t) ∧ BagI k' := by
  obtain ⟨n, k1, e1, n0, n1, hk1⟩ := pull_ok hk (n := 1000000000) (by decide) (by decide) t
  obtain ⟨m, k2, e2, m0, m1, hk2⟩ := pull_ok hk1 (n := 11) (by decide) (by decide) t
  obtain ⟨d, k3, e3, hd, hk3⟩ := any_lst hk2 (ds := [.int 0, .int 1, .int (-1), .int 2, .int (5 - m), .int (n - 100000000), .int (1000000000000000000000000000000 - n), .int (n - 1000000000000000000000000000000)]) (by simp) (by simp) (by simp [noRef]) t
  have key : ∃ i : Int, d = .int i := by
    simp only [List.mem_cons, List.not_mem_nil, or_false] at hd
    rcases hd with rfl | rfl | rfl | rfl | rfl | rfl | rfl | rfl <;> exact ⟨_, rfl⟩
  obtain ⟨i, rfl⟩ := key
  refine ⟨i, k3, ?_, hk3⟩
  have e1' : F__law_pull [.ref 0, .int 1000000000] (k :: t) = some (.ok (.int n), k1 :: t) := e1
  have e2' : F__law_pull [.ref 0, .int 11] (k1 :: t) = some (.ok (.int m), k2 :: t) := e2
  have e3' : F__law_any [.ref 0, .lst [.int 0, .int 1, .int (-1), .int 2, .int (5 - m), .int (n - 100000000), .int (1000000000000000000000000000000 - n), .int (n - 1000000000000000000000000000000)]] (k2 :: t) = some (.ok (.int i), k3 :: t) := e3
  show endI _ (m__law_far [some (.ref 0), none] (k :: t)) = _
  have p9 : ∀ h : EH, dPow h (.int 10) (.int 9) = some (.int 1000000000) := fun h => pow_c (by decide) (by decide)
  have p8 : ∀ h : EH, dPow h (.int 10) (.int 8) = some (.int 100000000) := fun h => pow_c (by decide) (by decide)
  simp? only [m__law_far, p9, p8, p10_30, e1', e2', e3']
  exact endI_ok rfl rfl
theorem run_of {x : D} {k : Cell} (e0 : PD.F_draws [x] [] = some (.ok (.ref 0), [k])) (hk : BagI k) : ∃ h', F_law [x] [] = some (.ok (.bl true), h') := by
  obtain ⟨i, k1, e1, hk1⟩ := far_ok hk []
  obtain ⟨a, k2, e2, hd, hk2⟩ := any_lst hk1 (ds := [.int i, .str [108, 97, 116, 101], .non]) (by simp) (by simp) (by simp [noRef]) []
  obtain ⟨p, k3, e3, p0, p1, hk3⟩ := pull_ok hk2 (n := 9) (by decide) (by decide) []
  have ha : okD 3 a = true := by
    simp only [List.mem_cons, List.not_mem_nil, or_false] at hd
    rcases hd with rfl | rfl | rfl <;> rfl
  obtain ⟨rw', hrw⟩ : ∃ r : D, r = .lst [.tup [.int 1], .tup [.int 2], .tup [.int (4 + p)]] := ⟨_, rfl⟩
  have hr : okD 3 rw' = true := by rw [hrw]; rfl
  have na := okD_noRef ha
  have nr := okD_noRef hr
  have e0' : F__law_draws [x] [] = some (.ok (.ref 0), [k]) := e0
  have e1' : F__law_far [.ref 0] [k] = some (.ok (.int i), [k1]) := e1
  have e2' : F__law_any [.ref 0, .lst [.int i, .str [108, 97, 116, 101], .non]] [k1] = some (.ok a, [k2]) := e2
  have e3' : F__law_pull [.ref 0, .int 9] [k2] = some (.ok (.int p), [k3]) := e3
  have eg := callPK_ok (h := [k3]) (given_ok na) (by rw [noRef.go, na]; rfl)
  have d1 : dAdd [k3] (.lst [.bl true, .bl true, .bl true]) (.lst [.bl true, .bl true, .bl true, .bl true, .bl true, .bl true]) = some (.lst [.bl true, .bl true, .bl true, .bl true, .bl true, .bl true, .bl true, .bl true, .bl true]) := by rfl
  have d2 : dAdd [k3] (.lst [.bl true, .bl true, .bl true, .bl true, .bl true, .bl true, .bl true, .bl true, .bl true]) (.lst [.bl true, .bl true]) = some (.lst [.bl true, .bl true, .bl true, .bl true, .bl true, .bl true, .bl true, .bl true, .bl true, .bl true, .bl true]) := by rfl
  have d3 : dAdd [k3] (.lst [.bl true, .bl true, .bl true, .bl true, .bl true, .bl true, .bl true, .bl true, .bl true, .bl true, .bl true]) (.lst [.bl true, .bl true, .bl true]) = some (.lst [.bl true, .bl true, .bl true, .bl true, .bl true, .bl true, .bl true, .bl true, .bl true, .bl true, .bl true, .bl true, .bl true, .bl true]) := by rfl
  have al14 : dAll [k3] [.lst [.bl true, .bl true, .bl true, .bl true, .bl true, .bl true, .bl true, .bl true, .bl true, .bl true, .bl true, .bl true, .bl true, .bl true]] = some (.bl true) := by rfl
  have al7 : dAll [k3] [.lst [.bl true, .bl true, .bl true, .bl true, .bl true, .bl true, .bl true]] = some (.bl true) := by rfl
  have al23 : dAll [k3] [.lst [.bl true, .bl true, .bl true, .bl true, .bl true, .bl true, .bl true, .bl true, .bl true, .bl true, .bl true, .bl true, .bl true, .bl true, .bl true, .bl true, .bl true, .bl true, .bl true, .bl true, .bl true, .bl true, .bl true]] = some (.bl true) := by rfl
  have al2 : dAll [k3] [.lst [.bl true, .bl true]] = some (.bl true) := by rfl
  have db : dAdd [k3] (.lst [.tup [.exc "InvalidColumns" [("code", .str [73, 110, 118, 97, 108, 105, 100, 67, 111, 108, 117, 109, 110, 115])], .str [73, 110, 118, 97, 108, 105, 100, 67, 111, 108, 117, 109, 110, 115]], .tup [.exc "InvalidValue" [("code", .str [73, 110, 118, 97, 108, 105, 100, 86, 97, 108, 117, 101])], .str [73, 110, 118, 97, 108, 105, 100, 86, 97, 108, 117, 101]], .tup [.exc "InvalidArguments" [("code", .str [73, 110, 118, 97, 108, 105, 100, 65, 114, 103, 117, 109, 101, 110, 116, 115])], .str [73, 110, 118, 97, 108, 105, 100, 65, 114, 103, 117, 109, 101, 110, 116, 115]]]) (.lst [.tup [.exc "NotOpen" [("code", .str [78, 111, 116, 79, 112, 101, 110])], .str [78, 111, 116, 79, 112, 101, 110]], .tup [.exc "ColumnsDiffer" [("code", .str [67, 111, 108, 117, 109, 110, 115, 68, 105, 102, 102, 101, 114])], .str [67, 111, 108, 117, 109, 110, 115, 68, 105, 102, 102, 101, 114]], .tup [.exc "InvalidText" [("code", .str [73, 110, 118, 97, 108, 105, 100, 84, 101, 120, 116])], .str [73, 110, 118, 97, 108, 105, 100, 84, 101, 120, 116]], .tup [.exc "NothingLeft" [("code", .str [78, 111, 116, 104, 105, 110, 103, 76, 101, 102, 116])], .str [78, 111, 116, 104, 105, 110, 103, 76, 101, 102, 116]]]) = some (.lst bare) := by rfl
  have okL : okD 30 (.lst [.str [78, 111, 116, 67, 97, 114, 114, 105, 101, 100], rw', .str [84, 111, 111, 87, 105, 100, 101], a, .str [70, 117, 108, 108], a, .str [70, 97, 105, 108, 101, 100], a, .str [85, 110, 107, 110, 111, 119, 110, 75, 101, 121], a]) = true := okD_le (t := 4) (by
    show (decide (10 ≤ 16777216) && (true && (okD 3 rw' && (true && (okD 3 a && (true && (okD 3 a && (true && (okD 3 a && (true && (okD 3 a && true))))))))))) = true
    rw [ha, hr]; rfl) (by decide)
  have lk := like_ok (h := [k3]) okL
  have c2 : cutD (called a) none (some 2) = (called a).take 2 := by rfl
  have c6 : cutD bare none (some 6) = bare.take 6 := by rfl
  have x1 : dAdd [k3] (.lst (named a)) (.lst (indexed a)) = some (.lst (q1 a)) := by rfl
  have x2 : dAdd [k3] (.lst (q1 a)) (.lst pathsL) = some (.lst (q2 a)) := by rfl
  have x3 : dAdd [k3] (.lst (q2 a)) (.lst ((called a).take 2)) = some (.lst (q3 a)) := by rfl
  have x4 : dAdd [k3] (.lst (q3 a)) (.lst (bare.take 6)) = some (.lst (q4 a)) := by rfl
  have x5 : dAdd [k3] (.lst ((q4 a).map hdD)) (.lst [.exc "NotCarried" [("witness", rw'), ("code", .str [78, 111, 116, 67, 97, 114, 114, 105, 101, 100])], .exc "TooWide" [("most", a), ("code", .str [84, 111, 111, 87, 105, 100, 101])], .exc "Full" [("limit", a), ("code", .str [70, 117, 108, 108])], .exc "Failed" [("word", a), ("code", .str [70, 97, 105, 108, 101, 100])]]) = some (.lst (most a rw')) := by rfl
  have i2 : dIx [k3] (.lst (called a)) (.int 2) = some (.tup [.exc "UnknownName" [("name", a), ("code", .str [85, 110, 107, 110, 111, 119, 110, 78, 97, 109, 101])], .str [85, 110, 107, 110, 111, 119, 110, 78, 97, 109, 101]]) := by rfl
  have i0 : dIx [k3] (.lst (called a)) (.int 0) = some (.tup [.exc "DuplicateName" [("name", a), ("code", .str [68, 117, 112, 108, 105, 99, 97, 116, 101, 78, 97, 109, 101])], .str [68, 117, 112, 108, 105, 99, 97, 116, 101, 78, 97, 109, 101]]) := by rfl
  have n0 : dIx [k3] (.lst (named a)) (.int 0) = some (.tup [.exc "InvalidName" [("given", a), ("code", .str [73, 110, 118, 97, 108, 105, 100, 78, 97, 109, 101])], .str [73, 110, 118, 97, 108, 105, 100, 78, 97, 109, 101]]) := by rfl
  have b6 : dIx [k3] (.lst bare) (.int 6) = some (.tup [.exc "NothingLeft" [("code", .str [78, 111, 116, 104, 105, 110, 103, 76, 101, 102, 116])], .str [78, 111, 116, 104, 105, 110, 103, 76, 101, 102, 116]]) := by rfl
  have b7 : callPK F__law_bases [.exc "NothingLeft" [("code", .str [78, 111, 116, 104, 105, 110, 103, 76, 101, 102, 116])]] [k3] = some (.ok (.lst [.bl false, .bl false, .bl true, .bl false, .bl true]), [k3]) := basesK (c := false) (d := true) (by decide +kernel) (by rfl)
  have b8 : dNe [k3] (.lst [.bl false, .bl false, .bl true, .bl false, .bl true]) (.lst [.bl false, .bl false, .bl true, .bl false, .bl true]) = some (.bl false) := by rfl
  have t1 : isxK tb_IndexError (.exc "NothingLeft" [("code", .str [78, 111, 116, 104, 105, 110, 103, 76, 101, 102, 116])]) [k3] = some (.ok (.bl true), [k3]) := isxK_ok (by decide +kernel)
  have t2 : isxK tb_InvalidCount (.exc "InvalidName" [("given", a), ("code", .str [73, 110, 118, 97, 108, 105, 100, 78, 97, 109, 101])]) [k3] = some (.ok (.bl false), [k3]) := isxK_ok (by decide +kernel)
  have t3 : isxK tb_InvalidName (.exc "DuplicateName" [("name", a), ("code", .str [68, 117, 112, 108, 105, 99, 97, 116, 101, 78, 97, 109, 101])]) [k3] = some (.ok (.bl false), [k3]) := isxK_ok (by decide +kernel)
  have t4 : isxK tb_InvalidName (.exc "Failed" [("word", a), ("code", .str [70, 97, 105, 108, 101, 100])]) [k3] = some (.ok (.bl false), [k3]) := isxK_ok (by decide +kernel)
  have ly : ∀ {s0 s1 s2 s3 s4 s5 s6 s7 s8 s9 s10 s11 s12 s13 s14 s15 s16 s17 s18 : Option D}, lcK [17] (mgName 17) mYes me_law_0 [s0, s1, s2, s3, s4, s5, s6, s7, s8, s9, s10, s11, s12, s13, s14, s15, s16, s17, s18] [.exc "UnknownName" [("name", a), ("code", .str [85, 110, 107, 110, 111, 119, 110, 78, 97, 109, 101])], .exc "UnknownKey" [("key", a), ("code", .str [85, 110, 107, 110, 111, 119, 110, 75, 101, 121])]] [k3] = some (.ok (.lst [.bl true, .bl true]), [k3]) := fun {s0 s1 s2 s3 s4 s5 s6 s7 s8 s9 s10 s11 s12 s13 s14 s15 s16 s17 s18} => lc1_ok (by show 2 ≤ 100; decide) fun d hd => by
    simp only [List.mem_cons, List.not_mem_nil, or_false] at hd
    rcases hd with rfl | rfl
    · exact me0 (by kernel_rfl) (by simp [noRef, noRef.gf, na])
    · exact me0 (by kernel_rfl) (by simp [noRef, noRef.gf, na])
  have fNotCarriedc : fldxK cl_code "code" (.exc "NotCarried" [("witness", rw'), ("code", .str [78, 111, 116, 67, 97, 114, 114, 105, 101, 100])]) [k3] = some (.ok (.str [78, 111, 116, 67, 97, 114, 114, 105, 101, 100]), [k3]) := fx_code (by decide +kernel) (by decide)
  have fNotCarriedf : fldxK cl_witness "witness" (.exc "NotCarried" [("witness", rw'), ("code", .str [78, 111, 116, 67, 97, 114, 114, 105, 101, 100])]) [k3] = some (.ok rw', [k3]) := fx_f (by decide +kernel)
  have fTooWidec : fldxK cl_code "code" (.exc "TooWide" [("most", a), ("code", .str [84, 111, 111, 87, 105, 100, 101])]) [k3] = some (.ok (.str [84, 111, 111, 87, 105, 100, 101]), [k3]) := fx_code (by decide +kernel) (by decide)
  have fTooWidef : fldxK cl_most "most" (.exc "TooWide" [("most", a), ("code", .str [84, 111, 111, 87, 105, 100, 101])]) [k3] = some (.ok a, [k3]) := fx_f (by decide +kernel)
  have fFullc : fldxK cl_code "code" (.exc "Full" [("limit", a), ("code", .str [70, 117, 108, 108])]) [k3] = some (.ok (.str [70, 117, 108, 108]), [k3]) := fx_code (by decide +kernel) (by decide)
  have fFullf : fldxK cl_limit "limit" (.exc "Full" [("limit", a), ("code", .str [70, 117, 108, 108])]) [k3] = some (.ok a, [k3]) := fx_f (by decide +kernel)
  have fFailedc : fldxK cl_code "code" (.exc "Failed" [("word", a), ("code", .str [70, 97, 105, 108, 101, 100])]) [k3] = some (.ok (.str [70, 97, 105, 108, 101, 100]), [k3]) := fx_code (by decide +kernel) (by decide)
  have fFailedf : fldxK cl_word "word" (.exc "Failed" [("word", a), ("code", .str [70, 97, 105, 108, 101, 100])]) [k3] = some (.ok a, [k3]) := fx_f (by decide +kernel)
  have fUnknownKeyc : fldxK cl_code "code" (.exc "UnknownKey" [("key", a), ("code", .str [85, 110, 107, 110, 111, 119, 110, 75, 101, 121])]) [k3] = some (.ok (.str [85, 110, 107, 110, 111, 119, 110, 75, 101, 121]), [k3]) := fx_code (by decide +kernel) (by decide)
  have fUnknownKeyf : fldxK cl_key "key" (.exc "UnknownKey" [("key", a), ("code", .str [85, 110, 107, 110, 111, 119, 110, 75, 101, 121])]) [k3] = some (.ok a, [k3]) := fx_f (by decide +kernel)
  refine ⟨[], ?_⟩
  show endI 0 (m_law [some x, none, none, none, none, none, none, none, none, none, none, none, none, none, none, none, none, none, none] []) = _
  have run : m_law [some x, none, none, none, none, none, none, none, none, none, none, none, none, none, none, none, none, none, none] [] = some (.rt (.bl true), [k3]) := by
    unfold m_law
    rw [seq_ap, show msAsg (mCallI F__law_draws (mCons (mVar 0) mNil)) (mgName 1) [some x, none, none, none, none, none, none, none, none, none, none, none, none, none, none, none, none, none, none] [] = some (.nx [some x, some (.ref 0), none, none, none, none, none, none, none, none, none, none, none, none, none, none, none, none, none], [k]) by simp! only [e0'], sq_nx]
    rw [seq_ap, show msAsg (mTup _) _ [some x, some (.ref 0), none, none, none, none, none, none, none, none, none, none, none, none, none, none, none, none, none] [k] = some (.nx [some x, some (.ref 0), none, none, none, some a, some rw', none, none, none, none, none, none, none, none, none, none, none, none], [k3]) by simp! only [e1', e2', e3', hrw], sq_nx]
    simp! only [eg, l5 ha, l6 ha, l3, l4 ha, d1, d2, d3, al14, al7, al23, al2, newx_ap, newK_0, newK_1, db, l2, fldx_ap, fNotCarriedc, fNotCarriedf, fTooWidec, fTooWidef, fFullc, fFullf, fFailedc, fFailedf, fUnknownKeyc, fUnknownKeyf, lk, c2, c6, x1, x2, x3, x4, l16, x5, l1 na nr, i2, i0, n0, b6, b7, b8, ly, isx_ap, t1, t2, t3, t4, atl0, atl1, atl2]
  rw [run]
  unfold endI trim frzI frz1I
  rfl
theorem math (ns : List Int) (h1 : ns.length ≤ 63) (h2 : ∀ z ∈ ns, Builtin.Int.intBits z ≤ 1048576) : (∃ h', F_law [.scr (ns.map .int)] [] = some (.ok (.bl true), h')) ∧ ∃ h', F_law [.lst (ns.map .int)] [] = some (.ok (.bl true), h') := by
  obtain ⟨k, e, hk⟩ := draws_ok h1
  obtain ⟨k', e', hk'⟩ := draws_lst h1
  exact ⟨run_of e hk, run_of e' hk'⟩
end K01
open PySem PySem.W PySem.Calls PyProof.Rows
theorem PySem.Challenge.cw_lookedrows_k01_errors_by_themselves_holds : PySem.Challenge.rw_lookedrows_k01_errors_by_themselves.Holds := by
  w_on; o_law
  refine HandSHeadRun.head_any (r := OpenLaw.row PySem.Challenge.rw_lookedrows_k01_errors_by_themselves) (q := view (OpenLaw.row PySem.Challenge.rw_lookedrows_k01_errors_by_themselves).prog [37]) (H := K01.hk) (ob := K01.ob) (M := 20000) (loose := K01.loose) (d := HandSHeadRun.topDef (OpenLaw.row PySem.Challenge.rw_lookedrows_k01_errors_by_themselves).prog 37) (kwd := []) K01.ob_eq
    (by kernel_rfl) (fun s => by kernel_rfl) K01.run (by kernel_rfl) (by kernel_rfl) (by kernel_rfl) (by rfl) (by first | assumption | decide +kernel) (by decide +kernel) ⟨rfl, rfl, rfl, rfl, rfl, by decide +kernel⟩ ?hw ?hc
  case hw => w_witness2
  case hc => exact K01.fin K01.math
