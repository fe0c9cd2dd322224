import PyProof.Rows.All
import Wide.All
import OpenK.AllK
import Wide.FinOn
import HandS.ForMost
import HandS.ForExc
import HandS.Head0
import HandS.Head1
import HandS.Head2
import HandS.HeadEnd
import HandS.HeadHook1
import HandS.HeadHook2
import HandS.HeadHook3
import HandS.HeadNt
import HandS.HeadHook4
import HandS.ExcField
import HandS.ExcInit
import KE.KSuper
import HandS.WordsExc
import PySem.Challenge.RW_lookedrows_k16_rows_put_in_and_taken_out
import KE.KDflt
import HandS.Lambda
import HandS.IsInst
import HandS.Deep
import HandS.Wide
import HandS.Codes
import HandS.TupAny
import HandS.Walk
import HandS.Zip
import HandS.RaiseMore
import HandS.CallSlots
import HandS.Defaults
import HandS.EndBits
import HandS.StrMore
import HandS.FStr
import HandS.TupLe
import HandS.Text
import HandS.Star
import HandS.Dict
import HandS.ListItems
import HandS.Property
import HandS.SetTxt0
import HandS.SetFor
import HandS.Strs
import HandS.SortInts
import PyProof.Rows.SortStr
import KE.KSortAsk
import KE.GoesNew
import HandS.Style
import KE.KExcSuper
import HandS.ExcSuper
import HandS.ClsMeth
import HandS.HotCalls
import KE.KTryMore
import HandS.EndTab
import PyProof.InstNe
import HandS.OwnEq
import HandS.TupMul
import PyProof.FactsLen
import PyProof.CallFns
import KE.KFmtOwn
import HandS.GenList
import HandS.SortKw
import HandS.MakeKwOnly
import KE.KSortKeyAny
import KE.KExcInit
import HandS.ExcIs
import KE.KExcIs
import PyProof.SeqRoads
import HandS.TupSets
import KE.IntTextLaws
set_option Elab.async false
set_option linter.all false
set_option maxRecDepth 100000
set_option maxHeartbeats 4000000
namespace PD
open PySem PySem.Spec PyProof.Rows L2
/-- plain data -/
inductive D where
  | non | bl (b : Bool) | int (i : Int) | str (cs : List Nat)
  | tup (ds : List D) | lst (ds : List D)
  /-- a dict: keys of one sign or number (false), tuples of such (true) -/
  | dic (t : Bool) (kvs : List (List Key × D))
  | obj (C : Str) (fs : List (Str × D))
  | ref (n : Nat)
  /-- the law's script -/
  | scr (ds : List D)
  /-- a lambda of the text, with what it captured -/
  | fn (i : Nat) (caps : List D)
  /-- an exception -/
  | exc (C : Str) (fs : List (Str × D))
def clsBody : Stmt → List Stmt
  | .ClassDef _ _ _ body _ _ _ _ _ _ _ => body
  | _ => []
def toS (z : List Nat) : Str := ⟨z.toArray⟩
mutual
def dB (K : PySem.W.Frag) : D → Value → Bool
  | .non, .none => true
  | .bl b, .bool c => b == c
  | .int i, .int j _ => decide (i = j)
  | .str cs, .str y _ => decide (y.cps.toList = cs)
  | .tup ds, .ref a => (match K.lookup a with
    | some ⟨.type c, _, .seq its _, _⟩ => decide (c = "tuple") && (decide (its.size ≤ sizeLine) && dBs K ds its.toList)
    | _ => false)
  | .scr ds, .ref a => (match K.lookup a with
    | some ⟨.type c, none, .seq its _, _⟩ => decide (c = "list") && (decide (its.size ≤ sizeLine) && dBs K ds its.toList)
    | _ => false)
  | _, _ => false
def dBs (K : PySem.W.Frag) : List D → List Value → Bool
  | [], [] => true
  | d :: ds, u :: us => dB K d u && dBs K ds us
  | _, _ => false
end
def gloB (K : PySem.W.Frag) (x : Str) (d : D) : Bool := match PySem.W.nsIn K mainGlobals x with
  | some (some u) => dB K d u
  | _ => false
abbrev AlG : Type := He.AlD × Bool
def obsG (fa : List He.Fa) (fn : List He.DefD) (gs : List (Str × D)) (K : PySem.W.Frag) : AlG := (He.obsD fa fn K, gs.all fun p => gloB K p.1 p.2)
def valG (fn : List He.DefD) : AlG := (He.valD fn, true)
def SaysG (fa : List He.Fa) (fn : List He.DefD) (gs : List (Str × D)) (K : PySem.W.Frag) : Prop := obsG fa fn gs K = valG fn
def entB (K : PySem.W.Frag) : List (List Nat × D) → List DictEntry → Bool
  | [], [] => true
  | p :: r, e :: l => (match e.key with
    | .str y _ => decide (y.cps.toList = p.1)
    | _ => false) && (dB K p.2 e.val && entB K r l)
  | _, _ => false
def dicB (K : PySem.W.Frag) (x : Str) (kvs : List (List Nat × D)) : Bool := match PySem.W.nsIn K mainGlobals x with
  | some (some (.ref d)) => (match K.lookup d with
    | some ⟨_, _, .dict es _, _⟩ => entB K kvs es.toList
    | _ => false)
  | _ => false
abbrev DicD : Type := Str × List (List Nat × D)
abbrev AlG2 : Type := AlG × (Bool × List (Option (List (Option (Str × Int)))))
def obsG2 (fa : List He.Fa) (fn : List He.DefD) (gs : List (Str × D)) (ds : List DicD) (K : PySem.W.Frag) : AlG2 := (obsG fa fn gs K, ds.all (fun p => dicB K p.1 p.2), ds.map fun p => He.dicW K (He.ga K p.1))
def valG2 (fn : List He.DefD) (ds : List DicD) (w : World) : AlG2 := (valG fn, true, ds.map fun p => some (He.keysIn w.params (p.2.map fun q => toS q.1)))
def SaysG2 (fa : List He.Fa) (fn : List He.DefD) (gs : List (Str × D)) (ds : List DicD) (w : World) (K : PySem.W.Frag) : Prop := obsG2 fa fn gs ds K = valG2 fn ds w
abbrev AlG3 : Type := AlG2 × (Bool × List He.FnW)
abbrev FactB : Type := PySem.W.Frag → Bool
def obsG3 (fa : List He.Fa) (fn : List He.DefD) (gs : List (Str × D)) (ds : List DicD) (fx : List FactB) (xd : List He5.DefA) (K : PySem.W.Frag) : AlG3 := (obsG2 fa fn gs ds K, (fx.all (fun f => f K)) && xd.all (fun d => d.ok K), xd.map fun d => He5.fnA K (d.at_ K))
def valG3 (fn : List He.DefD) (ds : List DicD) (xd : List He5.DefA) (w : World) : AlG3 := (valG2 fn ds w, true, xd.map He5.DefA.val)
def SaysG3 (fa : List He.Fa) (fn : List He.DefD) (gs : List (Str × D)) (ds : List DicD) (fx : List FactB) (xd : List He5.DefA) (w : World) (K : PySem.W.Frag) : Prop := obsG3 fa fn gs ds fx xd K = valG3 fn ds xd w
def oexB (K : PySem.W.Frag) (C : Addr) : Bool := (match K.lookup C with
  | some ⟨.type t, _, .cls cd, sl⟩ => decide (t = "type") && (match cd.mro, sl.toList with
    | .ref C' :: bm, [_, _, _, _, some (.builtin n), _] => decide (C' = C) && (decide (n = "ValueError.__new__") && (!cd.hasDel && (cd.hasDict && PySem.HandSPX.refsVE bm)))
    | _, _ => false)
  | _ => false) && (decide (PySem.W.findIn K (.ref C) "__setattr__" = some (some (.builtin "object.__setattr__"))) && (decide (PySem.W.subIn K (.ref C) (.type "BaseException") = some true) && (decide (PySem.W.typeIn K (.ref C) = some (.type "type")) && PySem.W.keepIn K (.ref C))))
def overB (K : PySem.W.Frag) (T C : Addr) : Bool := oexB K C && (decide (PySem.W.ks_superIn K C T "__init__" = some (some (.builtin "ValueError.__init__"))) && (decide (PySem.W.mroIn K C (.ref T) = some true) && (decide (PySem.W.subIn K (.ref C) (.type "ValueError") = some true) && decide (PySem.W.findIn K (.ref C) "code" = some none))))
def initB (K : PySem.W.Frag) (C : Addr) : Bool := decide (PySem.W.findIn K (.ref C) "__init__" = some (some (.ref (He.ma K C "__init__")))) && decide (PySem.W.typeIn K (.ref (He.ma K C "__init__")) = some (.type "function"))
def noB (K : PySem.W.Frag) (C : Addr) (f : Str) : Bool := decide (PySem.W.findIn K (.ref C) f = some none)
/-- a def whose closure has names -/
abbrev FnC : Type := Option (Str × Str × Arguments × FuncBody × Scope × Addr × List Str × Addr)
def fnC (K : PySem.W.Frag) (a : Addr) : FnC := match K.lookup a with
  | some ⟨_, _, .func fd, _⟩ => some (fd.name, fd.qualname, fd.params, fd.body, fd.scope, fd.globals, fd.closure.map (·.1), fd.builtins)
  | _ => none
/-- an __init__ that says super(): its class, its text -/
structure SupD where
  C : Str
  qual : Str
  params : Arguments
  body : List Stmt
  scope : Scope
def SupD.at_ (K : PySem.W.Frag) (d : SupD) : Addr := He.ma K (He.ga K d.C) "__init__"
def SupD.val (d : SupD) : FnC := some ("__init__", d.qual, d.params, .stmts d.body, d.scope, mainGlobals, ["__class__"], builtinsNs)
def supB (K : PySem.W.Frag) (file0 : Str) (d : SupD) : Bool := (match K.lookup (d.at_ K) with
  | some ⟨_, _, .func fd, _⟩ => (match fd.code with
    | .ref cda => PySem.W.codeIn K (.ref cda) d.qual && (match K.lookup cda with
      | some ⟨_, _, .fields vs, _⟩ => (match (vs[2]? : Option Value) with
        | some (.str file _) => file0 == file
        | _ => false)
      | _ => false)
    | _ => false) && ((match fd.closure with
    | [(_, cc)] => (match K.lookup cc with
      | some ⟨_, _, .cell (some (.ref T)), _⟩ => decide (T = He.ga K d.C)
      | _ => false)
    | _ => false) && (match fd.defaults, fd.kwdefaults with
      | .none, .none => true
      | _, _ => false))
  | _ => false) && ((PySem.W.clsIn K (He.ga K d.C)).isSome && (decide (PySem.W.nsIn K mainGlobals "super" = some none) && decide (PySem.W.nsIn K cStatics "thirdparty.any" = some none)))
abbrev AlG4 : Type := AlG3 × (Bool × List FnC)
def obsG4 (fa : List He.Fa) (fn : List He.DefD) (gs : List (Str × D)) (ds : List DicD) (fx : List FactB) (xd : List He5.DefA) (sd : List SupD) (tf : List He.Defn) (file0 : Str) (g : Addr → Option Obj) (K : PySem.W.Frag) : AlG4 := (obsG3 fa fn gs ds fx xd K, (sd.all (fun d => supB K file0 d)) && He.tabsB g tf K, sd.map fun d => fnC K (d.at_ K))
def valG4 (fn : List He.DefD) (ds : List DicD) (xd : List He5.DefA) (sd : List SupD) (w : World) : AlG4 := (valG3 fn ds xd w, true, sd.map SupD.val)
structure SaysG4 (fa : List He.Fa) (fn : List He.DefD) (gs : List (Str × D)) (ds : List DicD) (fx : List FactB) (xd : List He5.DefA) (sd : List SupD) (tf : List He.Defn) (file0 : Str) (w : World) (h : Heap) (K : PySem.W.Frag) : Prop where
  g3 : SaysG3 fa fn gs ds fx xd w K
  sup : ∀ d ∈ sd, supB K file0 d = true ∧ fnC K (d.at_ K) = d.val
  hd : ∀ p ∈ tf, PySem.W.codeHdIn K (He.cT K p).1 (He.cT K p).2 = true
  out : ∀ p ∈ tf, K.lookup (He.cT K p).2 = none
  empty : ∀ p ∈ tf, h.get? (He.cT K p).2 = some { cls := .none, data := .fields #[] }
end PD
namespace PD
open PySem PySem.Spec PyProof.Rows L2
/-- the class C is caught by the tuple xs, "code" and fl are no names of its classes -/
def tryB (K : PySem.W.Frag) (xs : List Str) (fl : List Str) (C : Str) : Bool := decide (PySem.W.exmAny K (.ref (He.ga K C)) (xs.map fun x => .ref (He.ga K x)) = some true) && (xfB K (He.ga K C) && (noB K (He.ga K C) "code" && fl.all fun f => noB K (He.ga K C) f))
/-- T.__init__ as T's own -/
def clsvB (K : PySem.W.Frag) (T : Addr) : Bool := PySem.W.readsIn K T (.type "type") && (decide (PySem.W.specialIn K (.ref T) "__getattribute__" = some (some (.builtin "type.__getattribute__"))) &&
  ((match PySem.W.findCls K (.ref T) (.type "type") "__init__" with
    | some (.val (.ref f)) => decide (f = He.ma K T "__init__")
    | _ => false) && (decide (PySem.W.typeIn K (.ref (He.ma K T "__init__")) = some (.type "function")) && PySem.W.keepIn K (.ref (He.ma K T "__init__")))))
end PD
namespace PD
open PySem PySem.Spec PyProof.Rows L2
/-- isinstance(x, C) may be asked -/
def isoB (K : PySem.W.Frag) (C : Str) : Bool := decide (PySem.W.findIn K (.ref (He.ga K C)) "__class__" = some (some (.builtin "object.__class__"))) && (decide (PySem.W.specialIn K (.builtin "object.__class__") "__get__" = some (some (.builtin "getset_descriptor.__get__"))) &&
  (decide (PySem.W.takesIn K (.builtin "object.__class__") = some true) && decide (PySem.W.mroIn K (He.ga K C) (.type "object") = some true)))
end PD
namespace PD
open PySem PySem.Spec PyProof.Rows L2
def noPos : Pos := ⟨0, 0, 0, 0⟩
def bodyOf : Stmt → List Stmt
  | .For _ _ b _ _ => b
  | .While _ b _ _ => b
  | .If _ b _ _ => b
  | _ => []
def valOf : Stmt → Expr
  | .Assign _ v _ => v
  | .Return (some v) _ => v
  | .Expr v _ => v
  | .If t _ _ _ => t
  | _ => .Constant .none 0 noPos
def kidsOf : Expr → List Expr
  | .List es _ => es
  | .Tuple es _ _ => es
  | .Call _ es _ _ => es
  | .BoolOp _ es _ => es
  | .Compare a _ cs _ => a :: cs
  | .UnaryOp _ a _ => [a]
  | .BinOp a _ b _ => [a, b]
  | .Subscript a b _ => [a, b]
  | _ => []
def lamArgs : Expr → Arguments
  | .Lambda a _ _ _ => a
  | _ => ⟨[], [], none, [], [], none, []⟩
def lamBody : Expr → Expr
  | .Lambda _ b _ _ => b
  | e => e
def lamScope : Expr → Scope
  | .Lambda _ _ s _ => s
  | _ => { kind := .function, names := [], isGenerator := false, isCoroutine := false }
def stAt (l : List Stmt) (i : Nat) : Stmt := l.getD i (.Pass noPos)
def exAt (l : List Expr) (i : Nat) : Expr := l.getD i (.Constant .none 0 noPos)
theorem run_join3 {α β β' γ γ' δ : Type} {X : Option α} {p : α → β} {q : α → β'} {a : α → γ} {b : α → γ'} {c : α → δ} {z : β} {y : β'} {u : γ} {v : γ'} {t : δ} (h1 : X.map (fun s => (p s, q s, a s)) = some (z, y, u)) (h2 : X.map (fun s => (p s, q s, b s)) = some (z, y, v)) (hc : ∀ s, a s = u → b s = v → c s = t) :
    X.map (fun s => (p s, q s, c s)) = some (z, y, t) := by
  cases X with
  | none => cases h1
  | some s =>
    have e1 := Option.some.inj h1
    have e2 := Option.some.inj h2
    have g1 : p s = z := congrArg (fun r => r.1) e1
    have g2 : q s = y := congrArg (fun r => r.2.1) e1
    have g3 : a s = u := congrArg (fun r => r.2.2) e1
    have g4 : b s = v := congrArg (fun r => r.2.2) e2
    show some (p s, q s, c s) = _
    rw [g1, g2, hc s g3 g4]
end PD
namespace PD
open PySem PySem.Spec PyProof.Rows L2
def plainO (g : Addr → Option Obj) : Value → Bool
  | .ref a => (match g a with
    | some ⟨_, _, .func _, _⟩ => false
    | some ⟨_, _, .cls _, _⟩ => false
    | some ⟨_, _, .fields _, _⟩ => false
    | _ => true)
  | _ => false
def entS (ok : List Str) (g : Addr → Option Obj) (e : DictEntry) : List Addr := match e.key with
  | .str y _ => if ok.contains y || plainO g e.val then He.refV e.val else []
  | _ => He.refV e.val
def refsS (ok : List Str) (g : Addr → Option Obj) (o : Obj) : List Addr := match o.data with
  | .dict es _ => es.toList.flatMap (entS ok g)
  | _ => He.refsD o
def growS (ok : List Str) (g : Addr → Option Obj) (as : List Addr) : List Addr := (as ++ as.flatMap fun a => match g a with
  | some o => refsS ok g o
  | none => []).eraseDups
def asS_ (ok : List Str) (g : Addr → Option Obj) : Nat → List Addr
  | 0 => [mainGlobals]
  | n + 1 => growS ok g (asS_ ok g n)
def asX (ok : List Str) (n : Nat) (g : Addr → Option Obj) : List Addr := asS_ ok g n ++ [cStatics]
section
variable {L : (Addr → Option Obj) → List Addr} {fa : List He.Fa} {fn : List He.DefD} {gs : List (Str × D)} {ds : List DicD} {fx : List FactB} {xd : List He5.DefA} {sd : List SupD} {tf : List He.Defn} {file0 : Str} {w : World} {h : Heap}
def obsGG6 (L : (Addr → Option Obj) → List Addr) (fa : List He.Fa) (fn : List He.DefD) (gs : List (Str × D)) (ds : List DicD) (fx : List FactB) (xd : List He5.DefA) (sd : List SupD) (tf : List He.Defn) (file0 : Str) (g : Addr → Option Obj) : AlG4 := obsG4 fa fn gs ds fx xd sd tf file0 g (He.frT g (L g))
theorem saysG6_of (e : obsGG6 L fa fn gs ds fx xd sd tf file0 h.get? = valG4 fn ds xd sd w) : SaysG4 fa fn gs ds fx xd sd tf file0 w h (He.frT h.get? (L h.get?)) := by
  have e1 : obsG3 fa fn gs ds fx xd (He.frT h.get? (L h.get?)) = valG3 fn ds xd w := congrArg (fun z : AlG4 => z.1) e
  have e2 : ((sd.all (fun d => supB (He.frT h.get? (L h.get?)) file0 d)) && He.tabsB h.get? tf (He.frT h.get? (L h.get?))) = true := congrArg (fun z : AlG4 => z.2.1) e
  have e3 : (sd.map fun d => fnC (He.frT h.get? (L h.get?)) (d.at_ (He.frT h.get? (L h.get?)))) = sd.map SupD.val := congrArg (fun z : AlG4 => z.2.2) e
  obtain ⟨h1, h2⟩ := Bool.and_eq_true_iff.mp e2
  have key : ∀ p ∈ tf, PySem.W.codeHdIn (He.frT h.get? (L h.get?)) (He.cT (He.frT h.get? (L h.get?)) p).1 (He.cT (He.frT h.get? (L h.get?)) p).2 = true ∧ ∃ o, h.get? (He.cT (He.frT h.get? (L h.get?)) p).2 = some o ∧ He.emptyTab o = true := fun p hp => by
    obtain ⟨h3, h4⟩ := Bool.and_eq_true_iff.mp (List.all_eq_true.mp h2 p hp)
    refine ⟨h3, ?_⟩
    cases q : h.get? (He.cT (He.frT h.get? (L h.get?)) p).2 with
    | none => rw [q] at h4; cases h4
    | some o => rw [q] at h4; exact ⟨o, rfl, h4⟩
  exact ⟨e1, fun d hd => ⟨List.all_eq_true.mp h1 d hd, List.map_inj_left.mp e3 d hd⟩, fun p hp => (key p hp).1, fun p hp => by
    obtain ⟨_, o, q, z⟩ := key p hp
    exact He.frT_none q z, fun p hp => by
    obtain ⟨_, o, q, z⟩ := key p hp
    rw [q, He.emptyTab_eq z]⟩
def hookG6 (L : (Addr → Option Obj) → List Addr) (fa : List He.Fa) (fn : List He.DefD) (gs : List (Str × D)) (ds : List DicD) (fx : List FactB) (xd : List He5.DefA) (sd : List SupD) (tf : List He.Defn) (file0 : Str) : PySem.W.Hook where
  α := AlG4
  obs := fun s => obsGG6 L fa fn gs ds fx xd sd tf file0 s.heap.get?
  val := fun w => valG4 fn ds xd sd w
  says := fun w h => ∃ K : PySem.W.Frag, K.In h ∧ SaysG4 fa fn gs ds fx xd sd tf file0 w h K
  of := fun _ _ e => ⟨_, He.frT_in, saysG6_of e⟩
  keeps := fun _ _ _ ⟨K, hK, c⟩ k => ⟨K, PySem.W.Frag.In.keeps hK k, ⟨c.g3, c.sup, c.hd, c.out, fun p hp => k _ _ (c.empty p hp)⟩⟩
theorem obsGG6_eq {g : Addr → Option Obj} {s : Shared} (h : ∀ a, g a = s.heap.get? a) : obsGG6 L fa fn gs ds fx xd sd tf file0 g = (hookG6 L fa fn gs ds fx xd sd tf file0).obs s := by
  have e : g = s.heap.get? := funext h
  rw [e] <;> rfl
end
theorem obs_join6 {L : (Addr → Option Obj) → List Addr} {fa : List He.Fa} {fn : List He.DefD} {gs : List (Str × D)} {ds : List DicD} {fx : List FactB} {xd : List He5.DefA} {sd : List SupD} {tf : List He.Defn} {f : Str} {w : World} {g : Addr → Option Obj}
    (h1 : obsGG6 L fa fn gs ds [] [] [] [] f g = valG4 fn ds [] [] w) (h2 : obsGG6 L [] [] [] [] fx xd sd tf f g = valG4 [] [] xd sd w) : obsGG6 L fa fn gs ds fx xd sd tf f g = valG4 fn ds xd sd w := by
  have e1 := congrArg (fun z : AlG4 => z.1.1) h1
  have e2 := congrArg (fun z : AlG4 => z.1.2) h2
  have e3 := congrArg (fun z : AlG4 => z.2) h2
  exact Prod.ext (Prod.ext e1 e2) e3
end PD
namespace PX
open PySem PySem.Spec PyProof.Rows L2
end PX
namespace PD
open PySem PySem.Spec PyProof.Rows L2 PX
end PD
namespace PD
open PySem
/-- the values of a call's keywords -/
def kwOf : Expr → List Expr
  | .Call _ _ ks _ => ks.map fun k => match k with
    | ⟨_, v, _⟩ => v
  | _ => []
end PD
namespace PD
open PySem PySem.Spec PyProof.Rows L2
/-- the class stands first in its own order -/
def mroB (K : PySem.W.Frag) (C : Str) : Bool := match PySem.W.clsIn K (He.ga K C) with
  | some cd => (match cd.mro with
    | .ref a :: _ => decide (a = He.ga K C)
    | _ => false)
  | none => false
end PD
namespace K16
open PySem PySem.Spec PyProof.Rows L2 PD
def top (i : Nat) : Stmt := PySem.Challenge.pw_lookedrows_k16_rows_put_in_and_taken_out.main.body.getD i (.Pass ⟨0, 0, 0, 0⟩)
def g_LETTERS : D := (.str [97, 98, 99, 100, 101, 102, 103, 104, 105, 106, 107, 108, 109, 110, 111, 112, 113, 114, 115, 116, 117, 118, 119, 120, 121, 122])
def g_RESERVED : D := (.tup [(.str [97, 110, 100]), (.str [102, 111, 117, 110, 100]), (.str [107, 101, 121]), (.str [110, 101, 120, 116]), (.str [110, 111, 116]), (.str [111, 114]), (.str [111, 119, 110]), (.str [115, 101, 116]), (.str [116, 114, 117, 101]), (.str [119, 104, 101, 114, 101])])
abbrev s_law : Stmt := top 32
abbrev s_Table_init : Stmt := (clsBody (top 18)).getD 0 (.Pass ⟨0, 0, 0, 0⟩)
abbrev s_is_listed : Stmt := top 13
abbrev s_is_name : Stmt := top 11
abbrev s_all_columns : Stmt := top 14
abbrev s_is_integer : Stmt := top 12
abbrev s_is_row : Stmt := top 16
abbrev s_checked_rows : Stmt := top 17
abbrev s_Table_add : Stmt := (clsBody (top 18)).getD 6 (.Pass ⟨0, 0, 0, 0⟩)
abbrev s__law_draws : Stmt := top 21
abbrev s__law_pull : Stmt := top 22
abbrev s__law_any : Stmt := top 23
abbrev s__law_reserved : Stmt := top 27
abbrev s__law_new_names : Stmt := top 28
abbrev s__law_some_columns : Stmt := top 31
abbrev s__law_near : Stmt := top 29
abbrev s__law_rows : Stmt := top 30
abbrev s__law_mixed : Stmt := top 24
abbrev s__law_like : Stmt := top 25
abbrev s_Table_rows : Stmt := (clsBody (top 18)).getD 3 (.Pass ⟨0, 0, 0, 0⟩)
abbrev s__law_try : Stmt := top 26
abbrev s_Table_eq : Stmt := (clsBody (top 18)).getD 10 (.Pass ⟨0, 0, 0, 0⟩)
abbrev s_Table_len : Stmt := (clsBody (top 18)).getD 9 (.Pass ⟨0, 0, 0, 0⟩)
abbrev s_Table_sub : Stmt := (clsBody (top 18)).getD 7 (.Pass ⟨0, 0, 0, 0⟩)
abbrev s__law_field : Stmt := top 20
abbrev s_InvalidColumns_init : Stmt := (clsBody (top 4)).getD 0 (.Pass ⟨0, 0, 0, 0⟩)
abbrev s_InvalidRow_init : Stmt := (clsBody (top 5)).getD 0 (.Pass ⟨0, 0, 0, 0⟩)
abbrev s_TableError_init : Stmt := (clsBody (top 2)).getD 0 (.Pass ⟨0, 0, 0, 0⟩)
def lamE0 : Expr := (exAt (kidsOf (exAt (kidsOf (exAt (kidsOf (valOf (stAt (bodyOf (stAt (bodyOf (stAt (defBody s_law) 1)) 11)) 4))) 0)) 0)) 0)
def lamE1 : Expr := (exAt (kwOf (valOf (stAt (defBody s_Table_init) 1))) 0)
def dd_is_listed : He.DefD := ⟨("is_listed", none), "is_listed", "is_listed", defArgs s_is_listed, defBody s_is_listed, defScope s_is_listed, [], []⟩
def dd_is_name : He.DefD := ⟨("is_name", none), "is_name", "is_name", defArgs s_is_name, defBody s_is_name, defScope s_is_name, [], []⟩
def dd_all_columns : He.DefD := ⟨("all_columns", none), "all_columns", "all_columns", defArgs s_all_columns, defBody s_all_columns, defScope s_all_columns, [], []⟩
def dd_is_integer : He.DefD := ⟨("is_integer", none), "is_integer", "is_integer", defArgs s_is_integer, defBody s_is_integer, defScope s_is_integer, [], []⟩
def dd_is_row : He.DefD := ⟨("is_row", none), "is_row", "is_row", defArgs s_is_row, defBody s_is_row, defScope s_is_row, [], []⟩
def dd_checked_rows : He.DefD := ⟨("checked_rows", none), "checked_rows", "checked_rows", defArgs s_checked_rows, defBody s_checked_rows, defScope s_checked_rows, [], []⟩
def dd_Table_init : He.DefD := ⟨("Table", some "__init__"), "__init__", "Table.__init__", defArgs s_Table_init, defBody s_Table_init, defScope s_Table_init, [.adr (He.dflAt ("Table", some "__init__") 0)], []⟩
def fx_q_Table_init_rows : FactB := fun K => dB K (.tup []) (.ref (He.dflAt ("Table", some "__init__") 0 K))
def dd_Table_add : He.DefD := ⟨("Table", some "__add__"), "__add__", "Table.__add__", defArgs s_Table_add, defBody s_Table_add, defScope s_Table_add, [], []⟩
def dd__law_draws : He.DefD := ⟨("_law_draws", none), "_law_draws", "_law_draws", defArgs s__law_draws, defBody s__law_draws, defScope s__law_draws, [], []⟩
def dd__law_pull : He.DefD := ⟨("_law_pull", none), "_law_pull", "_law_pull", defArgs s__law_pull, defBody s__law_pull, defScope s__law_pull, [], []⟩
def dd__law_any : He.DefD := ⟨("_law_any", none), "_law_any", "_law_any", defArgs s__law_any, defBody s__law_any, defScope s__law_any, [], []⟩
def dd__law_reserved : He.DefD := ⟨("_law_reserved", none), "_law_reserved", "_law_reserved", defArgs s__law_reserved, defBody s__law_reserved, defScope s__law_reserved, [], []⟩
def dd__law_new_names : He.DefD := ⟨("_law_new_names", none), "_law_new_names", "_law_new_names", defArgs s__law_new_names, defBody s__law_new_names, defScope s__law_new_names, [], []⟩
def dd__law_some_columns : He.DefD := ⟨("_law_some_columns", none), "_law_some_columns", "_law_some_columns", defArgs s__law_some_columns, defBody s__law_some_columns, defScope s__law_some_columns, [], []⟩
def dd__law_near : He.DefD := ⟨("_law_near", none), "_law_near", "_law_near", defArgs s__law_near, defBody s__law_near, defScope s__law_near, [], []⟩
def dd__law_rows : He.DefD := ⟨("_law_rows", none), "_law_rows", "_law_rows", defArgs s__law_rows, defBody s__law_rows, defScope s__law_rows, [], []⟩
def dd__law_mixed : He.DefD := ⟨("_law_mixed", none), "_law_mixed", "_law_mixed", defArgs s__law_mixed, defBody s__law_mixed, defScope s__law_mixed, [], []⟩
def dd__law_like : He.DefD := ⟨("_law_like", none), "_law_like", "_law_like", defArgs s__law_like, defBody s__law_like, defScope s__law_like, [], []⟩
def dd_Table_rows : He.DefD := ⟨("Table", some "rows"), "rows", "Table.rows", defArgs s_Table_rows, defBody s_Table_rows, defScope s_Table_rows, [], []⟩
def dd__law_try : He.DefD := ⟨("_law_try", none), "_law_try", "_law_try", defArgs s__law_try, defBody s__law_try, defScope s__law_try, [], []⟩
def dd_Table_eq : He.DefD := ⟨("Table", some "__eq__"), "__eq__", "Table.__eq__", defArgs s_Table_eq, defBody s_Table_eq, defScope s_Table_eq, [], []⟩
def dd_Table_len : He.DefD := ⟨("Table", some "__len__"), "__len__", "Table.__len__", defArgs s_Table_len, defBody s_Table_len, defScope s_Table_len, [], []⟩
def dd_Table_sub : He.DefD := ⟨("Table", some "__sub__"), "__sub__", "Table.__sub__", defArgs s_Table_sub, defBody s_Table_sub, defScope s_Table_sub, [], []⟩
def dd_law : He.DefD := ⟨("law", none), "law", "law", defArgs s_law, defBody s_law, defScope s_law, [], []⟩
def dd__law_field : He.DefD := ⟨("_law_field", none), "_law_field", "_law_field", defArgs s__law_field, defBody s__law_field, defScope s__law_field, [], []⟩
def xd_InvalidColumns_init : He5.DefA := { at_ := fun K => He.ma K (He.ga K "InvalidColumns") "__init__", name := "__init__", qual := "InvalidColumns.__init__", params := defArgs s_InvalidColumns_init, body := defBody s_InvalidColumns_init, scope := defScope s_InvalidColumns_init }
def fx_o_InvalidColumns : FactB := fun K => overB K (He.ga K "TableError") (He.ga K "InvalidColumns")
def fx_i_InvalidColumns : FactB := fun K => initB K (He.ga K "InvalidColumns")
def fx_t_InvalidColumns : FactB := fun K => tryB K ["TableError", "Missing", "NothingLeft"] ["index"] "InvalidColumns"
def xd_InvalidRow_init : He5.DefA := { at_ := fun K => He.ma K (He.ga K "InvalidRow") "__init__", name := "__init__", qual := "InvalidRow.__init__", params := defArgs s_InvalidRow_init, body := defBody s_InvalidRow_init, scope := defScope s_InvalidRow_init }
def fx_o_InvalidRow : FactB := fun K => overB K (He.ga K "TableError") (He.ga K "InvalidRow")
def fx_i_InvalidRow : FactB := fun K => initB K (He.ga K "InvalidRow")
def fx_na_InvalidRow : FactB := fun K => noB K (He.ga K "InvalidRow") "index"
def fx_t_InvalidRow : FactB := fun K => tryB K ["TableError", "Missing", "NothingLeft"] ["index"] "InvalidRow"
def sd_TableError : SupD := ⟨"TableError", "TableError.__init__", defArgs s_TableError_init, defBody s_TableError_init, defScope s_TableError_init⟩
def fx_cf_TableError : FactB := fun K => clsvB K (He.ga K "TableError")
def fx_mro_Table : FactB := fun K => mroB K "Table"
def fx_iso_Table : FactB := fun K => isoB K "Table"
def fn : List He.DefD := [dd_is_listed, dd_is_name, dd_all_columns, dd_is_integer, dd_is_row, dd_checked_rows, dd_Table_init, dd_Table_add, dd__law_draws, dd__law_pull, dd__law_any, dd__law_reserved, dd__law_new_names, dd__law_some_columns, dd__law_near, dd__law_rows, dd__law_mixed, dd__law_like, dd_Table_rows, dd__law_try, dd_Table_eq, dd_Table_len, dd_Table_sub, dd_law, dd__law_field]
def fa : List He.Fa := [.glo "is_listed", .glo "is_name", .glo "all_columns", .glo "is_integer", .glo "is_row", .glo "checked_rows", .glo "_law_draws", .glo "_law_pull", .glo "_law_any", .glo "_law_reserved", .glo "_law_new_names", .glo "_law_some_columns", .glo "_law_near", .glo "_law_rows", .glo "_law_mixed", .glo "_law_like", .glo "_law_try", .glo "law", .glo "_law_field", .glo "Table", .glo "TableError", .glo "Missing", .glo "NothingLeft", .glo "InvalidColumns", .glo "InvalidRow", .free "isinstance", .free "list", .free "tuple", .free "all", .free "len", .free "str", .free "set", .free "bool", .free "int", .free "enumerate", .free "sorted", .free "range", .free "zip", .cls "Table", .noat "Table" "all_names", .noat "Table" "own_rows", .mkr "Table", .meth "Table" "__add__", .meth "Table" "rows", .meth "Table" "__eq__", .meth "Table" "__len__", .meth "Table" "__sub__"]
def gs : List (Str × D) := [("LETTERS", g_LETTERS), ("RESERVED", g_RESERVED)]
def dsL : List DicD := []
def fx_tb_0_1 : FactB := fun K => !decide ((He.cT K ("law", none)).2 = (He.cT K ("Table", some "__init__")).2)
def fxL : List FactB := [fx_q_Table_init_rows, fx_o_InvalidColumns, fx_i_InvalidColumns, fx_t_InvalidColumns, fx_o_InvalidRow, fx_i_InvalidRow, fx_na_InvalidRow, fx_t_InvalidRow, fx_cf_TableError, fx_mro_Table, fx_iso_Table, fx_tb_0_1]
def xdL : List He5.DefA := [xd_InvalidColumns_init, xd_InvalidRow_init]
def sdL : List SupD := [sd_TableError]
def tf : List He.Defn := [("law", none), ("Table", some "__init__")]
abbrev R : PySem.W.OpenRow := PySem.W.OpenLaw.row PySem.Challenge.rw_lookedrows_k16_rows_put_in_and_taken_out
def okn0 : List Str := ["is_listed", "is_name", "all_columns", "is_integer", "is_row", "checked_rows", "_law_draws", "_law_pull", "_law_any", "_law_reserved", "_law_new_names", "_law_some_columns", "_law_near", "_law_rows", "_law_mixed", "_law_like", "_law_try", "law", "_law_field", "Table", "TableError", "Missing", "NothingLeft", "InvalidColumns", "InvalidRow", "LETTERS", "RESERVED", "__init__", "__add__", "rows"]
def okn1 : List Str := ["__eq__", "__len__", "__sub__", "__ne__", "super"]
def L6 : (Addr → Option Obj) → List Addr := asX (okn0 ++ okn1) 6
def hk : PySem.W.Hook := hookG6 L6 fa fn gs dsL fxL xdL sdL tf R.prog.main.file
def ob (s : PySem.W.SharedT) : AlG4 := obsGG6 L6 fa fn gs dsL fxL xdL sdL tf R.prog.main.file (HandSHeadRun.getT s)
theorem ob_eq (s : PySem.W.SharedT) : ob s = hk.obs s.abs := obsGG6_eq (HandSHeadRun.getT_eq s)
def loose0 : List Str := ["_wall", "TableError", "Missing", "InvalidColumns", "InvalidRow", "UnknownKey", "NothingLeft", "LETTERS", "RESERVED", "is_name", "is_integer", "is_listed", "all_columns", "is_row", "checked_rows", "Table", "_law_field", "_law_draws", "_law_pull", "_law_any", "_law_mixed", "_law_like", "_law_try", "_law_reserved", "_law_new_names", "_law_near", "_law_rows", "_law_some_columns"]
abbrev loose : List Str := loose0
def hkA : PySem.W.Hook := hookG6 L6 fa fn gs dsL [] [] [] [] R.prog.main.file
def obA (s : PySem.W.SharedT) : AlG4 := obsGG6 L6 fa fn gs dsL [] [] [] [] R.prog.main.file (HandSHeadRun.getT s)
def hkB : PySem.W.Hook := hookG6 L6 [] [] [] [] fxL xdL sdL tf R.prog.main.file
def obB (s : PySem.W.SharedT) : AlG4 := obsGG6 L6 [] [] [] [] fxL xdL sdL tf R.prog.main.file (HandSHeadRun.getT s)
end K16
namespace K16
open PySem PySem.Spec PyProof.Rows L2 PD
theorem run0A (w : World) : HandSHeadRun.RunEq R (PySem.W.view R.prog [32]) hkA obA 20000 loose (w.withFollow "special-get-raises" false) := fun os => by kernel_rfl
theorem run0B (w : World) : HandSHeadRun.RunEq R (PySem.W.view R.prog [32]) hkB obB 20000 loose (w.withFollow "special-get-raises" false) := fun os => by kernel_rfl
theorem run1A (w : World) : HandSHeadRun.RunEq R (PySem.W.view R.prog [32]) hkA obA 20000 loose (w.withFollow "special-get-raises" true) := fun os => by kernel_rfl
theorem run1B (w : World) : HandSHeadRun.RunEq R (PySem.W.view R.prog [32]) hkB obB 20000 loose (w.withFollow "special-get-raises" true) := fun os => by kernel_rfl
theorem runJ {w : World} (h1 : HandSHeadRun.RunEq R (PySem.W.view R.prog [32]) hkA obA 20000 loose w) (h2 : HandSHeadRun.RunEq R (PySem.W.view R.prog [32]) hkB obB 20000 loose w) : HandSHeadRun.RunEq R (PySem.W.view R.prog [32]) hk ob 20000 loose w := fun os => run_join3 (h1 os) (h2 os) fun s ha hb => obs_join6 ha hb
theorem run (w : World) : HandSHeadRun.RunEq R (PySem.W.view R.prog [32]) hk ob 20000 loose w := PySem.W.byRow2 "special-get-raises" (P := fun w => HandSHeadRun.RunEq R (PySem.W.view R.prog [32]) hk ob 20000 loose w) (fun w => runJ (run0A w) (run0B w)) (fun w => runJ (run1A w) (run1B w)) w
end K16
namespace PD
open PySem PySem.Spec PyProof.Rows L2
/-- the text of a lambda; caps: the names that it captures -/
structure LamD where
  qual : Str
  params : Arguments
  body : Expr
  scope : Scope
  caps : List Str
  /-- it has a parameter with the default 0 -/
  df : Bool
/-- the law's lambdas; the tables of code objects of the defs that make them, with the name of what they make -/
class LamTab where
  lam : Nat → LamD
  T : List (Addr × Str)
variable [LamTab]
/-- where one stands: the written part, the module's names, what is not to be touched, the cells' addresses, the heap -/
structure RC where
  K : PySem.W.Frag
  mg : Str → Option Value
  B : Addr → Prop
  ρ : List Addr
  H : Hp
def RC.fr (c : RC) (a : Addr) : Prop := ¬ c.B a ∧ a ∉ c.ρ
/-- the tables are right -/
def RC.tabs (c : RC) : Prop := ∀ p ∈ LamTab.T, LamX.TabS c.H p.1 p.2
structure MgX where
  mg : Str → Option Value
  tabs : Prop
structure MgX.Le (a b : MgX) : Prop where
  e : a.mg = b.mg
  t : b.tabs → a.tabs
theorem MgX.Le.trans {a b d : MgX} (x : MgX.Le a b) (y : MgX.Le b d) : MgX.Le a d := ⟨x.e.trans y.e, fun h => x.t (y.t h)⟩
def RC.mgx (c : RC) : MgX := ⟨c.mg, c.tabs⟩
/-- the module's names are mg, the tables are right -/
abbrev MgE (c : RC) (mg : Str → Option Value) : Prop := MgX.Le c.mgx ⟨mg, True⟩
theorem MgX.Le.e' {c c' : RC} (h : MgX.Le c'.mgx c.mgx) : c'.mg = c.mg := h.e
theorem MgX.Le.mge {c : RC} {mg : Str → Option Value} (h : MgE c mg) : c.mg = mg := h.e
abbrev RC.put (c : RC) (p : Addr) (o : HO) : RC := { c with H := upd c.H p o }
/-- a list that stands locked, or in the written part -/
def ScrL (K : PySem.W.Frag) (H : Hp) (a : Addr) (xs : List V) : Prop := (∃ o, H a = some (.frz o (.lst xs))) ∨
    ∃ (o : Obj) (its : Array Value) (n : Nat), K.lookup a = some o ∧ o.cls = .type "list" ∧ o.dict = none ∧ o.data = .seq its n ∧ its.size ≤ sizeLine ∧ Vals xs its.toList
theorem ScrL.sq {K : PySem.W.Frag} {H : Hp} {a : Addr} {xs : List V} (h : ScrL K H a xs) : SqL K H a xs := by
  rcases h with h | h
  · exact .inl (.inr h)
  · exact .inr h
/-- the dict's pairs -/
def isDic (t : Bool) (o : HO) (zs : List (List Key × V)) : Prop := (t = false ∧ ∃ ys : List (Key × V), o = .dK ys ∧ zs = ys.map fun p => ([p.1], p.2)) ∨ (t = true ∧ o = .dT zs)
theorem isDic.tbl {t : Bool} {o : HO} {zs : List (List Key × V)} (h : isDic t o zs) : ∀ ps, o ≠ .tbl ps := fun ps e => by
  subst e
  rcases h with ⟨_, _, e, _⟩ | ⟨_, e⟩ <;> cases e
theorem isDic.tup {t : Bool} {o : HO} {zs : List (List Key × V)} (h : isDic t o zs) : ∀ xs, o ≠ .tup xs := fun ps e => by
  subst e
  rcases h with ⟨_, _, e, _⟩ | ⟨_, e⟩ <;> cases e
theorem isDic.frz {t : Bool} {o : HO} {zs : List (List Key × V)} (h : isDic t o zs) : ∀ a b, o ≠ .frz a b := fun a b e => by
  subst e
  rcases h with ⟨_, _, e, _⟩ | ⟨_, e⟩ <;> cases e
theorem isDic.lst {t : Bool} {o : HO} {zs : List (List Key × V)} (h : isDic t o zs) : ∀ xs, o ≠ .lst xs := fun ps e => by
  subst e
  rcases h with ⟨_, _, e, _⟩ | ⟨_, e⟩ <;> cases e
/-- the closure has the captured names alone, each with a cell of its own -/
def ClOk (caps : List Str) (cl : List (Str × Addr)) : Prop := (∀ y b, cl.lookup y = some b → y ∈ caps) ∧ ∀ y y' b, cl.lookup y = some b → cl.lookup y' = some b → y = y'
def lamHO (l : LamD) (cl : List (Str × Addr)) (dV : Value) (c' f : Addr) : HO := .ext fun h => ClOk l.caps cl ∧ ∃ doc pm ctv, h.get? f = some (PySem.W.kdv_obj "<lambda>" l.qual l.params (.expr l.body) l.scope cl dV doc pm c' ctv)
def celHO (b : Addr) (o : Obj) : HO := .ext fun h => h.get? b = some o
/-- the tuple of the default -/
def DfR (H : Hp) (fr : Addr → Prop) (df : Bool) (dV : Value) : Prop := (df = false ∧ dV = .none) ∨ (df = true ∧ ∃ (dt : Addr) (t : Tok), dV = .ref dt ∧ H dt = some (celHO dt (PySem.W.kdv_tup [.int 0 t])) ∧ fr dt)
/-- the captured cells -/
inductive CapsR (H : Hp) (cl : List (Str × Addr)) (fr : Addr → Prop) (df : Bool) (dV : Value) : List Str → List V → Prop
  | nil : DfR H fr df dV → CapsR H cl fr df dV [] []
  | cons {y : Str} {ys : List Str} {b : Addr} {o : Obj} {u : Value} {v : V} {vs : List V} : cl.lookup y = some b → H b = some (celHO b o) → fr b → o.data = .cell (some u) → RelV v u → CapsR H cl fr df dV ys vs → CapsR H cl fr df dV (y :: ys) (v :: vs)
theorem CapsR.imp {H H' : Hp} {cl : List (Str × Addr)} {fr fr' : Addr → Prop} {df : Bool} {dV : Value} (k : ∀ b o, H b = some (celHO b o) → fr b → H' b = some (celHO b o) ∧ fr' b) : ∀ {ys : List Str} {vs : List V}, CapsR H cl fr df dV ys vs → CapsR H' cl fr' df dV ys vs
  | _, _, .nil (.inl h) => .nil (.inl h)
  | _, _, .nil (.inr ⟨h, dt, t, e, h1, h2⟩) => .nil (.inr ⟨h, dt, t, e, (k _ _ h1 h2).1, (k _ _ h1 h2).2⟩)
  | _, _, .cons h1 h2 h3 h4 h5 t => .cons h1 (k _ _ h2 h3).1 (k _ _ h2 h3).2 h4 h5 (t.imp k)
/-- an exception's object -/
def excHO (a Ca d : Addr) : HO := .ext fun h => ∃ o vs, h.get? a = some o ∧ o.cls = .ref Ca ∧ o.dict = some d ∧ o.data = .fields vs
theorem lamHO_tbl {l : LamD} {cl : List (Str × Addr)} {dV : Value} {c' f : Addr} (ps : Array Value) : lamHO l cl dV c' f ≠ .tbl ps := fun z => by
  unfold lamHO at z
  cases z
theorem celHO_tbl {b : Addr} {o : Obj} (ps : Array Value) : celHO b o ≠ .tbl ps := fun z => by
  unfold celHO at z
  cases z
theorem excHO_tbl {a Ca d : Addr} (ps : Array Value) : excHO a Ca d ≠ .tbl ps := fun z => by
  unfold excHO at z
  cases z
mutual
inductive Rep (c : RC) : D → V → Prop
  | non : Rep c .non .non
  | bl (b : Bool) : Rep c (.bl b) (.bl b)
  | int (i : Int) : Rep c (.int i) (.int i)
  | str (cs : List Nat) : Rep c (.str cs) (.str ⟨cs.toArray⟩)
  | tup {a : Addr} {ds : List D} {xs : List V} : SqT c.K c.H a xs → Reps c ds xs → Rep c (.tup ds) (.ref a)
  | lst {a : Addr} {ds : List D} {xs : List V} : c.H a = some (.lst xs) → c.fr a → Reps c ds xs → Rep c (.lst ds) (.ref a)
  | scr {a : Addr} {ds : List D} {xs : List V} : ScrL c.K c.H a xs → Reps c ds xs → Rep c (.scr ds) (.ref a)
  | obj {a Ca dx : Addr} {C : Str} {fs : List (Str × D)} {vs : List (Str × V)} : c.mg C = some (.ref Ca) → c.H a = some (.ins Ca dx vs) → c.fr a → RepF c fs vs → Rep c (.obj C fs) (.ref a)
  | ref {n : Nat} {a : Addr} : c.ρ[n]? = some a → Rep c (.ref n) (.ref a)
  | fn {f c' : Addr} {i : Nat} {cl : List (Str × Addr)} {dV : Value} {caps : List D} {vs : List V} : c.H f = some (lamHO (LamTab.lam i) cl dV c' f) → c.fr f → c.H c' = some (LamX.CodeO c' (LamTab.lam i).qual) → c.fr c' → CapsR c.H cl c.fr (LamTab.lam i).df dV (LamTab.lam i).caps vs → Reps c caps vs → Rep c (.fn i caps) (.ref f)
  | exc {a Ca dx : Addr} {C : Str} {fs : List (Str × D)} {vs : List (Str × V)} : c.mg C = some (.ref Ca) → c.H a = some (excHO a Ca dx) → c.fr a → c.H dx = some (.xd vs) → c.fr dx → RepF c fs vs → Rep c (.exc C fs) (.ref a)
  | dic {a : Addr} {t : Bool} {o : HO} {kvs : List (List Key × D)} {zs : List (List Key × V)} : c.H a = some o → isDic t o zs → c.fr a → RepP c kvs zs → Rep c (.dic t kvs) (.ref a)
inductive Reps (c : RC) : List D → List V → Prop
  | nil : Reps c [] []
  | cons {d : D} {ds : List D} {v : V} {vs : List V} : Rep c d v → Reps c ds vs → Reps c (d :: ds) (v :: vs)
inductive RepP (c : RC) : List (List Key × D) → List (List Key × V) → Prop
  | nil : RepP c [] []
  | cons {f : List Key} {d : D} {ds : List (List Key × D)} {v : V} {vs : List (List Key × V)} : Rep c d v → RepP c ds vs → RepP c ((f, d) :: ds) ((f, v) :: vs)
inductive RepF (c : RC) : List (Str × D) → List (Str × V) → Prop
  | nil : RepF c [] []
  | cons {f : Str} {d : D} {ds : List (Str × D)} {v : V} {vs : List (Str × V)} : Rep c d v → RepF c ds vs → RepF c ((f, d) :: ds) ((f, v) :: vs)
end
/-- later: what is not a cell stays -/
structure RC.Le (c c' : RC) : Prop where
  K : c'.K = c.K
  mg : MgX.Le c'.mgx c.mgx
  B : ∀ a, c.B a → c'.B a
  Bn : ∀ a, c'.B a → c.B a ∨ c.H a = none
  dom : ∀ a o, c.H a = some o → ∃ o', c'.H a = some o'
  pre : ∀ (n : Nat) (a : Addr), c.ρ[n]? = some a → c'.ρ[n]? = some a
  keep : ∀ a o, c.H a = some o → (∀ ps, o ≠ .tbl ps) → a ∉ c.ρ → c'.H a = some o ∧ a ∉ c'.ρ
  tup : ∀ a xs, Rd c.H a (.tup xs) → Rd c'.H a (.tup xs)
  frz : ∀ a o u, c.H a = some (.frz o u) → c'.H a = some (.frz o u)
theorem RC.Le.refl (c : RC) : c.Le c := ⟨rfl, ⟨rfl, fun h => h⟩, fun _ h => h, fun _ h => .inl h, fun _ o h => ⟨o, h⟩, fun _ _ h => h, fun _ _ h _ n => ⟨h, n⟩, fun _ _ h => h, fun _ _ _ h => h⟩
theorem RC.Le.trans {a b c : RC} (x : a.Le b) (y : b.Le c) : a.Le c :=
  ⟨y.K.trans x.K, y.mg.trans x.mg, fun p h => y.B p (x.B p h), fun p h => (by
    rcases y.Bn p h with h | h
    · exact x.Bn p h
    · cases q : a.H p with
      | none => exact .inr rfl
      | some o =>
        obtain ⟨o', e⟩ := x.dom p o q
        rw [h] at e
        cases e), fun p o h => let ⟨o', e⟩ := x.dom p o h; y.dom p o' e, fun n p h => y.pre n p (x.pre n p h), fun p o h t n => let ⟨h1, n1⟩ := x.keep p o h t n; y.keep p o h1 t n1, fun p xs h => y.tup p xs (x.tup p xs h), fun p o u h => y.frz p o u (x.frz p o u h)⟩
theorem RC.Le.fr {c c' : RC} (l : c.Le c') {a : Addr} {o : HO} (h : c.H a = some o) (ht : ∀ ps, o ≠ .tbl ps) (f : c.fr a) : c'.fr a :=
  ⟨fun z => (l.Bn a z).elim f.1 fun q => (by rw [h] at q; cases q), (l.keep a o h ht f.2).2⟩
theorem RC.Le.lstH {c c' : RC} (l : c.Le c') {a : Addr} {xs : List V} (h : c.H a = some (.lst xs)) (f : c.fr a) : c'.H a = some (.lst xs) ∧ c'.fr a :=
  ⟨(l.keep a _ h (fun _ z => by cases z) f.2).1, l.fr h (fun _ z => by cases z) f⟩
theorem RC.Le.scrL {c c' : RC} (l : c.Le c') {a : Addr} {xs : List V} (h : ScrL c.K c.H a xs) : ScrL c'.K c'.H a xs := by
  rcases h with ⟨o, h⟩ | h
  · exact .inl ⟨o, l.frz a o _ h⟩
  · rw [l.K]; exact .inr h
theorem RC.Le.sqT {c c' : RC} (l : c.Le c') {a : Addr} {xs : List V} (h : SqT c.K c.H a xs) : SqT c'.K c'.H a xs := by
  rcases h with h | h
  · exact .inl (l.tup a xs h)
  · rw [l.K]; exact .inr h
/-- later, but for what is not to be touched -/
structure RC.LeW (c c' : RC) : Prop where
  K : c'.K = c.K
  mg : c'.mg = c.mg
  Bn : ∀ a, c'.B a → c.B a ∨ c.H a = none
  pre : ∀ (n : Nat) (a : Addr), c.ρ[n]? = some a → c'.ρ[n]? = some a
  dom : ∀ a o, c.H a = some o → ∃ o', c'.H a = some o'
  keep : ∀ a o, c.H a = some o → (∀ ps, o ≠ .tbl ps) → ¬ c.B a → a ∉ c.ρ → c'.H a = some o ∧ a ∉ c'.ρ
  tup : ∀ a xs, Rd c.H a (.tup xs) → Rd c'.H a (.tup xs)
  frz : ∀ a o u, c.H a = some (.frz o u) → c'.H a = some (.frz o u)
theorem RC.Le.toW {c c' : RC} (l : c.Le c') : c.LeW c' := ⟨l.K, l.mg.e, l.Bn, l.pre, l.dom, fun a o h t _ n => l.keep a o h t n, l.tup, l.frz⟩
theorem RC.LeW.trans {a b c : RC} (x : a.LeW b) (y : b.LeW c) : a.LeW c :=
  ⟨y.K.trans x.K, y.mg.trans x.mg, fun p h => (by
    rcases y.Bn p h with h | h
    · exact x.Bn p h
    · cases q : a.H p with
      | none => exact .inr rfl
      | some o =>
        obtain ⟨o', e⟩ := x.dom p o q
        rw [h] at e
        cases e), fun n p h => y.pre n p (x.pre n p h), fun p o h => let ⟨o', e⟩ := x.dom p o h; y.dom p o' e, fun p o h t nb n => (by
    obtain ⟨h1, n1⟩ := x.keep p o h t nb n
    refine y.keep p o h1 t (fun z => ?_) n1
    rcases x.Bn p z with q | q
    · exact nb q
    · rw [h] at q; cases q), fun p xs h => y.tup p xs (x.tup p xs h), fun p o u h => y.frz p o u (x.frz p o u h)⟩
theorem RC.LeW.fr {c c' : RC} (l : c.LeW c') {a : Addr} {o : HO} (h : c.H a = some o) (ht : ∀ ps, o ≠ .tbl ps) (f : c.fr a) : c'.fr a :=
  ⟨fun z => (l.Bn a z).elim f.1 fun q => (by rw [h] at q; cases q), (l.keep a o h ht f.1 f.2).2⟩
theorem RC.LeW.lstH {c c' : RC} (l : c.LeW c') {a : Addr} {xs : List V} (h : c.H a = some (.lst xs)) (f : c.fr a) : c'.H a = some (.lst xs) ∧ c'.fr a :=
  ⟨(l.keep a _ h (fun _ z => by cases z) f.1 f.2).1, l.fr h (fun _ z => by cases z) f⟩
theorem RC.LeW.scrL {c c' : RC} (l : c.LeW c') {a : Addr} {xs : List V} (h : ScrL c.K c.H a xs) : ScrL c'.K c'.H a xs := by
  rcases h with ⟨o, h⟩ | h
  · exact .inl ⟨o, l.frz a o _ h⟩
  · rw [l.K]; exact .inr h
theorem RC.LeW.sqT {c c' : RC} (l : c.LeW c') {a : Addr} {xs : List V} (h : SqT c.K c.H a xs) : SqT c'.K c'.H a xs := by
  rcases h with h | h
  · exact .inl (l.tup a xs h)
  · rw [l.K]; exact .inr h
mutual
theorem Rep.leW {c c' : RC} (l : c.LeW c') : ∀ {d : D} {v : V}, Rep c d v → Rep c' d v
  | _, _, .non => .non
  | _, _, .bl b => .bl b
  | _, _, .int i => .int i
  | _, _, .str cs => .str cs
  | _, _, .tup h r => .tup (l.sqT h) (Reps.leW l r)
  | _, _, .lst h f r => .lst (l.lstH h f).1 (l.lstH h f).2 (Reps.leW l r)
  | _, _, .scr h r => .scr (l.scrL h) (Reps.leW l r)
  | _, _, .obj m h f r => .obj (by rw [l.mg]; exact m) (l.keep _ _ h (fun _ z => by cases z) f.1 f.2).1 (l.fr h (fun _ z => by cases z) f) (RepF.leW l r)
  | _, _, .ref h => .ref (l.pre _ _ h)
  | _, _, .dic h i f r => .dic (l.keep _ _ h i.tbl f.1 f.2).1 i (l.fr h i.tbl f) (RepP.leW l r)
  | _, _, .fn h f h2 f2 cr r => .fn (l.keep _ _ h lamHO_tbl f.1 f.2).1 (l.fr h lamHO_tbl f) (l.keep _ _ h2 LamX.codeO_ne f2.1 f2.2).1 (l.fr h2 LamX.codeO_ne f2) (cr.imp fun b o hb fb => ⟨(l.keep _ _ hb celHO_tbl fb.1 fb.2).1, l.fr hb celHO_tbl fb⟩) (Reps.leW l r)
  | _, _, .exc m h f h2 f2 r => .exc (by rw [l.mg]; exact m) (l.keep _ _ h excHO_tbl f.1 f.2).1 (l.fr h excHO_tbl f) (l.keep _ _ h2 (fun _ z => by cases z) f2.1 f2.2).1 (l.fr h2 (fun _ z => by cases z) f2) (RepF.leW l r)
theorem Reps.leW {c c' : RC} (l : c.LeW c') : ∀ {ds : List D} {vs : List V}, Reps c ds vs → Reps c' ds vs
  | _, _, .nil => .nil
  | _, _, .cons h t => .cons (Rep.leW l h) (Reps.leW l t)
theorem RepP.leW {c c' : RC} (l : c.LeW c') : ∀ {ds : List (List Key × D)} {vs : List (List Key × V)}, RepP c ds vs → RepP c' ds vs
  | _, _, .nil => .nil
  | _, _, .cons h t => .cons (Rep.leW l h) (RepP.leW l t)
theorem RepF.leW {c c' : RC} (l : c.LeW c') : ∀ {ds : List (Str × D)} {vs : List (Str × V)}, RepF c ds vs → RepF c' ds vs
  | _, _, .nil => .nil
  | _, _, .cons h t => .cons (Rep.leW l h) (RepF.leW l t)
end
mutual
theorem Rep.le {c c' : RC} (l : c.Le c') : ∀ {d : D} {v : V}, Rep c d v → Rep c' d v
  | _, _, .non => .non
  | _, _, .bl b => .bl b
  | _, _, .int i => .int i
  | _, _, .str cs => .str cs
  | _, _, .tup h r => .tup (l.sqT h) (Reps.le l r)
  | _, _, .lst h f r => .lst (l.lstH h f).1 (l.lstH h f).2 (Reps.le l r)
  | _, _, .scr h r => .scr (l.scrL h) (Reps.le l r)
  | _, _, .obj m h f r => .obj (by rw [l.mg.e']; exact m) (l.keep _ _ h (fun _ z => by cases z) f.2).1 (l.fr h (fun _ z => by cases z) f) (RepF.le l r)
  | _, _, .ref h => .ref (l.pre _ _ h)
  | _, _, .dic h i f r => .dic (l.keep _ _ h i.tbl f.2).1 i (l.fr h i.tbl f) (RepP.le l r)
  | _, _, .fn h f h2 f2 cr r => .fn (l.keep _ _ h lamHO_tbl f.2).1 (l.fr h lamHO_tbl f) (l.keep _ _ h2 LamX.codeO_ne f2.2).1 (l.fr h2 LamX.codeO_ne f2) (cr.imp fun b o hb fb => ⟨(l.keep _ _ hb celHO_tbl fb.2).1, l.fr hb celHO_tbl fb⟩) (Reps.le l r)
  | _, _, .exc m h f h2 f2 r => .exc (by rw [l.mg.e']; exact m) (l.keep _ _ h excHO_tbl f.2).1 (l.fr h excHO_tbl f) (l.keep _ _ h2 (fun _ z => by cases z) f2.2).1 (l.fr h2 (fun _ z => by cases z) f2) (RepF.le l r)
theorem Reps.le {c c' : RC} (l : c.Le c') : ∀ {ds : List D} {vs : List V}, Reps c ds vs → Reps c' ds vs
  | _, _, .nil => .nil
  | _, _, .cons h t => .cons (Rep.le l h) (Reps.le l t)
theorem RepP.le {c c' : RC} (l : c.Le c') : ∀ {ds : List (List Key × D)} {vs : List (List Key × V)}, RepP c ds vs → RepP c' ds vs
  | _, _, .nil => .nil
  | _, _, .cons h t => .cons (Rep.le l h) (RepP.le l t)
theorem RepF.le {c c' : RC} (l : c.Le c') : ∀ {ds : List (Str × D)} {vs : List (Str × V)}, RepF c ds vs → RepF c' ds vs
  | _, _, .nil => .nil
  | _, _, .cons h t => .cons (Rep.le l h) (RepF.le l t)
end
theorem Reps.length {c : RC} : ∀ {ds : List D} {vs : List V}, Reps c ds vs → ds.length = vs.length
  | _, _, .nil => rfl
  | _, _, .cons _ t => by rw [List.length_cons, List.length_cons, t.length]
theorem Reps.get {c : RC} : ∀ {ds : List D} {vs : List V} {i : Nat} {d : D}, Reps c ds vs → ds[i]? = some d → ∃ v, vs[i]? = some v ∧ Rep c d v
  | _, _, _, _, .nil, e => by simp at e
  | _, _, 0, d, .cons h _, e => by simp at e; subst e; exact ⟨_, rfl, h⟩
  | _, _, i + 1, d, .cons _ t, e => by
    obtain ⟨v, h1, h2⟩ := Reps.get (i := i) t (by simpa using e)
    exact ⟨v, by simpa using h1, h2⟩
theorem Reps.getV {c : RC} : ∀ {ds : List D} {vs : List V} {i : Nat} {v : V}, Reps c ds vs → vs[i]? = some v → ∃ d, ds[i]? = some d ∧ Rep c d v
  | _, _, _, _, .nil, e => by simp at e
  | _, _, 0, d, .cons h _, e => by simp at e; subst e; exact ⟨_, rfl, h⟩
  | _, _, i + 1, d, .cons _ t, e => by
    obtain ⟨v, h1, h2⟩ := Reps.getV (i := i) t (by simpa using e)
    exact ⟨v, by simpa using h1, h2⟩
theorem Reps.append {c : RC} : ∀ {ds es : List D} {vs us : List V}, Reps c ds vs → Reps c es us → Reps c (ds ++ es) (vs ++ us)
  | _, _, _, _, .nil, s => s
  | _, _, _, _, .cons h t, s => .cons h (t.append s)
theorem Reps.take {c : RC} : ∀ {ds : List D} {vs : List V} (n : Nat), Reps c ds vs → Reps c (ds.take n) (vs.take n)
  | _, _, 0, _ => .nil
  | _, _, _ + 1, .nil => .nil
  | _, _, n + 1, .cons h t => .cons h (t.take n)
theorem Reps.drop {c : RC} : ∀ {ds : List D} {vs : List V} (n : Nat), Reps c ds vs → Reps c (ds.drop n) (vs.drop n)
  | _, _, 0, r => r
  | _, _, _ + 1, .nil => .nil
  | _, _, n + 1, .cons _ t => t.drop n
theorem Reps.set {c : RC} {d : D} {v : V} (r : Rep c d v) : ∀ {ds : List D} {vs : List V} (n : Nat), Reps c ds vs → Reps c (ds.set n d) (vs.set n v)
  | _, _, _, .nil => .nil
  | _, _, 0, .cons _ t => .cons r t
  | _, _, n + 1, .cons h t => .cons h (t.set r n)
theorem RepF.look {c : RC} {f : Str} : ∀ {ds : List (Str × D)} {vs : List (Str × V)} {d : D}, RepF c ds vs → ds.lookup f = some d → ∃ v, vs.lookup f = some v ∧ Rep c d v
  | _, _, _, .nil, e => by simp at e
  | _, _, d, .cons (f := g) h t, e => by
    rw [List.lookup_cons] at e ⊢
    cases q : f == g with
    | true => rw [q] at e; cases e; exact ⟨_, rfl, h⟩
    | false => rw [q] at e; exact t.look e
theorem RepF.lookN {c : RC} {f : Str} : ∀ {ds : List (Str × D)} {vs : List (Str × V)}, RepF c ds vs → ds.lookup f = none → vs.lookup f = none
  | _, _, .nil, e => by simp
  | _, _, .cons (f := g) h t, e => by
    rw [List.lookup_cons] at e ⊢
    cases q : f == g with
    | true => rw [q] at e; cases e
    | false => rw [q] at e; exact t.lookN e
theorem RepF.length {c : RC} : ∀ {ds : List (Str × D)} {vs : List (Str × V)}, RepF c ds vs → ds.length = vs.length
  | _, _, .nil => rfl
  | _, _, .cons _ t => by rw [List.length_cons, List.length_cons, t.length]
/-- a field is stored -/
def putD (f : Str) (d : D) : List (Str × D) → List (Str × D)
  | [] => [(f, d)]
  | (g, e) :: r => if g = f then (g, d) :: r else (g, e) :: putD f d r
inductive Cell where
  | lst (ds : List D)
  | dic (t : Bool) (kvs : List (List Key × D))
  | obj (C : Str) (fs : List (Str × D))
abbrev EH := List Cell
def CellR (c : RC) : Cell → Addr → Prop
  | .lst ds, a => ∃ xs, c.H a = some (.lst xs) ∧ Reps c ds xs
  | .dic t kvs, a => ∃ o zs, c.H a = some o ∧ isDic t o zs ∧ RepP c kvs zs
  | .obj C fs, a => ∃ Ca dx vs, c.mg C = some (.ref Ca) ∧ c.H a = some (.ins Ca dx vs) ∧ RepF c fs vs
structure SR (c : RC) (h : EH) : Prop where
  len : c.ρ.length = h.length
  nd : c.ρ.Nodup
  cells : ∀ (n : Nat) (a : Addr) (k : Cell), c.ρ[n]? = some a → h[n]? = some k → CellR c k a
  nb : ∀ a ∈ c.ρ, ¬ c.B a
  bt : ∀ a, c.B a → ∃ o, c.H a = some o
theorem CellR.le {c c' : RC} (l : c.Le c') {k : Cell} {a : Addr} (h : c'.H a = c.H a) (r : CellR c k a) : CellR c' k a := by
  cases k with
  | lst ds => obtain ⟨xs, e, q⟩ := r; exact ⟨xs, h.trans e, q.le l⟩
  | dic t kvs => obtain ⟨o, zs, e, i, q⟩ := r; exact ⟨o, zs, h.trans e, i, q.le l⟩
  | obj C fs => obtain ⟨Ca, dx, vs, m, e, q⟩ := r; exact ⟨Ca, dx, vs, by rw [l.mg.e']; exact m, h.trans e, q.le l⟩
theorem CellR.ex {c : RC} {k : Cell} {a : Addr} (r : CellR c k a) : ∃ o, c.H a = some o := by
  cases k with
  | lst ds => obtain ⟨xs, e, q⟩ := r; exact ⟨_, e⟩
  | dic t kvs => obtain ⟨o, zs, e, i, q⟩ := r; exact ⟨_, e⟩
  | obj C fs => obtain ⟨Ca, dx, vs, m, e, q⟩ := r; exact ⟨_, e⟩
theorem SR.ex {c : RC} {h : EH} (s : SR c h) {a : Addr} (ha : a ∈ c.ρ) : ∃ o, c.H a = some o := by
  obtain ⟨n, hn, e⟩ := List.mem_iff_getElem.mp ha
  have h1 : c.ρ[n]? = some a := by rw [List.getElem?_eq_getElem hn, e]
  have hn' : n < h.length := by rw [← s.len]; exact hn
  exact (s.cells n a _ h1 (List.getElem?_eq_getElem hn')).ex
theorem codeO_ext {H H' : Hp} {P : Addr} {q : Str} (t : LamX.TabS H P q) (h1 : H' P = H P) (h2 : ∀ a, H a = some (LamX.CodeO a q) → H' a = some (LamX.CodeO a q)) : LamX.TabS H' P q := by
  obtain ⟨ps, k1, k2, k3⟩ := t
  refine ⟨ps, h1.trans k1, k2, fun pos cv hc => ?_⟩
  obtain ⟨c, e1, e2⟩ := k3 pos cv hc
  exact ⟨c, e1, h2 c e2⟩
/-- at a stands no table, no code object -/
def NoTab (H : Hp) (a : Addr) : Prop := (∀ ps, H a ≠ some (.tbl ps)) ∧ ∀ q, H a ≠ some (LamX.CodeO a q)
theorem tabs_upd {c : RC} {p : Addr} {o : HO} {ρ : List Addr} {B : Addr → Prop} (h : NoTab c.H p) : c.tabs → ({ c with ρ := ρ, B := B, H := upd c.H p o } : RC).tabs := fun t q hq =>
  codeO_ext (t q hq) (by
    obtain ⟨ps, k1, _⟩ := t q hq
    exact upd_ne (fun z => h.1 ps (by rw [← z]; exact k1))) fun a e => (upd_ne (fun z => h.2 q.2 (by rw [← z]; exact e))).trans e
theorem noTab_none {H : Hp} {a : Addr} (h : H a = none) : NoTab H a := ⟨fun _ z => (by rw [h] at z; cases z), fun _ z => (by rw [h] at z; cases z)⟩
theorem noTab_of {H : Hp} {a : Addr} {o : HO} (h : H a = some o) (h1 : ∀ ps, o ≠ .tbl ps) (h2 : ∀ φ, o ≠ .ext φ) : NoTab H a := ⟨fun ps z => (by rw [h] at z; exact h1 ps (Option.some.inj z)), fun q z => (by rw [h] at z; exact h2 _ (Option.some.inj z))⟩
theorem CellR.noTab {c : RC} {k : Cell} {a : Addr} (r : CellR c k a) : NoTab c.H a := by
  cases k with
  | lst ds => obtain ⟨xs, e, q⟩ := r; exact noTab_of e (fun _ z => by cases z) (fun _ z => by cases z)
  | dic t kvs =>
    obtain ⟨o, zs, e, i, q⟩ := r
    refine noTab_of e i.tbl fun φ z => ?_
    subst z
    rcases i with ⟨_, _, z, _⟩ | ⟨_, z⟩ <;> cases z
  | obj C fs => obtain ⟨Ca, dx, vs, m, e, q⟩ := r; exact noTab_of e (fun _ z => by cases z) (fun _ z => by cases z)
theorem SR.noTab {c : RC} {h : EH} (s : SR c h) {n : Nat} {a : Addr} (hn : c.ρ[n]? = some a) : NoTab c.H a := by
  have hn' : n < h.length := by rw [← s.len]; exact (List.getElem?_eq_some_iff.mp hn).1
  exact (s.cells n a _ hn (List.getElem?_eq_getElem hn')).noTab
/-- a new object -/
theorem SR.new {c : RC} {h : EH} {p : Addr} {o : HO} (s : SR c h) (hp : c.H p = none) : c.Le (c.put p o) ∧ SR (c.put p o) h ∧ (c.put p o).fr p := by
  have np : p ∉ c.ρ := fun z => by
    obtain ⟨o, e⟩ := s.ex z
    rw [hp] at e; cases e
  have ne : ∀ a o, c.H a = some o → a ≠ p := fun a o e z => by rw [z, hp] at e; cases e
  have l : c.Le (c.put p o) := by
    refine ⟨rfl, ⟨rfl, tabs_upd (noTab_none hp)⟩, fun _ h => h, fun _ h => .inl h, fun a u e => ⟨u, (upd_ne (ne a u e)).trans e⟩, fun _ _ h => h, fun a u e _ n => ⟨(upd_ne (ne a u e)).trans e, n⟩, fun a xs e => ?_, fun a o u e => (upd_ne (ne a _ e)).trans e⟩
    rcases e with e | ⟨u, e⟩
    · exact .inl ((upd_ne (ne a _ e)).trans e)
    · exact .inr ⟨u, (upd_ne (ne a _ e)).trans e⟩
  refine ⟨l, ⟨s.len, s.nd, fun n a k e1 e2 => ?_, s.nb, fun a b => ?_⟩, fun b => ?_, np⟩
  · have r := s.cells n a k e1 e2
    obtain ⟨u, e⟩ := r.ex
    exact r.le l (upd_ne (ne a u e))
  · obtain ⟨u, e⟩ := s.bt a b
    exact ⟨u, (upd_ne (ne a u e)).trans e⟩
  · obtain ⟨u, e⟩ := s.bt p b
    rw [hp] at e; cases e
/-- the cell n is written -/
theorem SR.write {c : RC} {h : EH} {n : Nat} {a : Addr} {o : HO} {k : Cell} (s : SR c h) (hn : c.ρ[n]? = some a) (hnt : ∀ xs, ¬ Rd c.H a (.tup xs)) (hnf : ∀ o u, c.H a ≠ some (.frz o u)) (hk : ∀ c', c.Le c' → c'.H a = some o → CellR c' k a) :
    c.Le (c.put a o) ∧ SR (c.put a o) (h.set n k) := by
  have ha : a ∈ c.ρ := List.mem_of_getElem? hn
  have l : c.Le (c.put a o) := by
    refine ⟨rfl, ⟨rfl, tabs_upd (s.noTab hn)⟩, fun _ h => h, fun _ h => .inl h, fun b u e => ?_, fun _ _ h => h, fun b u e _ nb => ⟨?_, nb⟩, fun b xs e => ?_, fun b o u e => (upd_ne (show b ≠ a from fun z => hnf o u (by rw [← z]; exact e))).trans e⟩
    · by_cases z : b = a
      · exact ⟨o, by rw [z]; exact upd_same⟩
      · exact ⟨u, (upd_ne z).trans e⟩
    · exact (upd_ne (show b ≠ a from fun z => nb (by rw [z]; exact ha))).trans e
    · have nb : b ≠ a := fun z => hnt xs (z ▸ e)
      rcases e with e | ⟨u, e⟩
      · exact .inl ((upd_ne nb).trans e)
      · exact .inr ⟨u, (upd_ne nb).trans e⟩
  refine ⟨l, ⟨by rw [List.length_set]; exact s.len, s.nd, fun m b k' e1 e2 => ?_, s.nb, fun b hb => ?_⟩⟩
  · by_cases hm : m = n
    · subst hm
      have : b = a := by
        have e1' : c.ρ[m]? = some b := e1
        rw [hn] at e1'
        exact (Option.some.inj e1').symm
      subst this
      have hlt : m < h.length := by
        rw [← s.len]; exact (List.getElem?_eq_some_iff.mp hn).1
      rw [List.getElem?_set_self hlt] at e2
      cases e2
      exact hk _ l upd_same
    · rw [List.getElem?_set_ne (Ne.symm hm)] at e2
      have nb : b ≠ a := fun z => hm (by
        subst z
        obtain ⟨h1, e1'⟩ := List.getElem?_eq_some_iff.mp e1
        obtain ⟨h2, e2'⟩ := List.getElem?_eq_some_iff.mp hn
        exact (List.getElem_inj s.nd).mp (e1'.trans e2'.symm))
      exact (s.cells m b k' e1 e2).le l (upd_ne nb)
  · obtain ⟨u, e⟩ := s.bt b hb
    exact ⟨u, (upd_ne (show b ≠ a from fun z => s.nb a ha (by rw [← z]; exact hb))).trans e⟩
abbrev Ev := List (Option D)
structure EnvR (c : RC) (ε : Ev) (σ : L2.St) : Prop where
  len : ε.length = σ.length
  at_ : ∀ (i : Nat) (d : D), ε[i]? = some (some d) → ∃ v, σ[i]? = some (some v) ∧ Rep c d v
theorem EnvR.le {c c' : RC} (l : c.Le c') {ε : Ev} {σ : L2.St} (r : EnvR c ε σ) : EnvR c' ε σ :=
  ⟨r.len, fun i d e => let ⟨v, h1, h2⟩ := r.at_ i d e; ⟨v, h1, h2.le l⟩⟩
theorem EnvR.set {c : RC} {ε : Ev} {σ : L2.St} (r : EnvR c ε σ) {d : D} {v : V} (rv : Rep c d v) (i : Nat) : EnvR c (ε.set i (some d)) (σ.set i (some v)) := by
  refine ⟨by rw [List.length_set, List.length_set]; exact r.len, fun j e h => ?_⟩
  by_cases hj : i = j
  · subst hj
    have hi : i < ε.length := by
      have := (List.getElem?_eq_some_iff.mp h).1
      rwa [List.length_set] at this
    rw [List.getElem?_set_self hi] at h
    cases h
    exact ⟨v, by rw [List.getElem?_set_self (by rw [← r.len]; exact hi)], rv⟩
  · rw [List.getElem?_set_ne hj] at h
    obtain ⟨w, h1, h2⟩ := r.at_ j e h
    exact ⟨w, by rw [List.getElem?_set_ne hj]; exact h1, h2⟩
end PD
namespace PD
open PySem PySem.Spec PyProof.Rows L2
variable [LamTab]
structure Ex where
  cls : Str
  fs : List (Str × D)
inductive R (α : Type) where
  | ok (a : α)
  | ex (e : Ex)
abbrev O (α : Type) := Option (R α × EH)
def ExR (c : RC) (e : Ex) (cls : Value) (dx : Option Addr) : Prop := ∃ Ca d vs, cls = .ref Ca ∧ c.mg e.cls = some (.ref Ca) ∧ dx = some d ∧ c.H d = some (.xd vs) ∧ c.fr d ∧ RepF c e.fs vs
def bR {α β : Type} (x : O α) (f : α → EH → O β) : O β := match x with
  | some (.ok a, h) => f a h
  | some (.ex e, h) => some (.ex e, h)
  | none => none
theorem bR_ok {α β : Type} (a : α) (h : EH) (f : α → EH → O β) : bR (some (.ok a, h)) f = f a h := (rfl)
theorem bR_ex {α β : Type} (e : Ex) (h : EH) (f : α → EH → O β) : bR (some (.ex e, h)) f = some (.ex e, h) := (rfl)
/-- a value, the cells as they are -/
def rt {α : Type} (x : Option α) (h : EH) : O α := match x with
  | some a => some (.ok a, h)
  | none => none
theorem rt_some {α : Type} (a : α) (h : EH) : rt (some a) h = some (.ok a, h) := (rfl)
abbrev M (α : Type) := Ev → EH → O α
/-- what is wanted of an exception -/
def Px {α : Type} (W : WX) (c : RC) (σ : L2.St) (r : R α) (h' : EH) : Prop := ∀ x, r = .ex x → ∀ c' cls dx, c.Le c' → SR c' h' → ExR c' x cls dx → W cls dx σ c'.H
theorem Px.le {α : Type} {W : WX} {c c1 : RC} {σ : L2.St} {r : R α} {h' : EH} (p : Px W c σ r h') (l : c.Le c1) : Px W c1 σ r h' := fun x e c' cls dx l' s q => p x e c' cls dx (l.trans l') s q
theorem Px.ok {α : Type} {W : WX} {c : RC} {σ : L2.St} {a : α} {h' : EH} : Px W c σ (.ok a) h' := fun _ e => nomatch e
/-- the reading of a mirror -/
def tX {α β : Type} (Rl : RC → α → β → Prop) (K : PySem.W.Frag) (mg : Str → Option Value) (W : WX) (m : M α) : L2.St → Hp → (β → Hp → Prop) → Prop := fun σ H Q =>
  ∃ (c : RC) (ε : Ev) (h : EH) (r : R α) (h' : EH), c.K = K ∧ MgE c mg ∧ c.H = H ∧ SR c h ∧ EnvR c ε σ ∧ m ε h = some (r, h') ∧ Px W c σ r h' ∧
    ∀ a, r = .ok a → ∀ c' b, c.Le c' → SR c' h' → Rl c' a b → Q b c'.H
theorem tX.bind {α β γ : Type} {Rl : RC → α → β → Prop} {K : PySem.W.Frag} {mg : Str → Option Value} {W : WX} {m : M α} {k : α → EH → O γ} {c : RC} {ε : Ev} {h h' : EH} {r : R γ} {σ : L2.St} {Q : β → Hp → Prop}
    (hK : c.K = K) (hm : MgE c mg) (sr : SR c h) (er : EnvR c ε σ) (e : bR (m ε h) k = some (r, h')) (px : Px W c σ r h')
    (go : ∀ a h1 c1 b, k a h1 = some (r, h') → c.Le c1 → SR c1 h1 → Rl c1 a b → Q b c1.H) : tX Rl K mg W m σ c.H Q := by
  cases q : m ε h with
  | none => rw [q] at e; cases e
  | some z =>
    obtain ⟨r1, h1⟩ := z
    cases r1 with
    | ok a =>
      rw [q] at e
      exact ⟨c, ε, h, .ok a, h1, hK, hm, rfl, sr, er, q, Px.ok, fun a' ea c1 b l s rb => by cases ea; exact go a h1 c1 b e l s rb⟩
    | ex x =>
      rw [q] at e
      cases e
      exact ⟨c, ε, h, .ex x, _, hK, hm, rfl, sr, er, q, fun y ey => px y (by cases ey; rfl), fun a' ea => nomatch ea⟩
/-- the last step -/
theorem tX.last {α β : Type} {Rl : RC → α → β → Prop} {K : PySem.W.Frag} {mg : Str → Option Value} {W : WX} {m : M α} {c : RC} {ε : Ev} {h h' : EH} {r : R α} {σ : L2.St} {Q : β → Hp → Prop}
    (hK : c.K = K) (hm : MgE c mg) (sr : SR c h) (er : EnvR c ε σ) (e : m ε h = some (r, h')) (px : Px W c σ r h')
    (go : ∀ a, r = .ok a → ∀ c' b, c.Le c' → SR c' h' → Rl c' a b → Q b c'.H) : tX Rl K mg W m σ c.H Q := ⟨c, ε, h, r, h', hK, hm, rfl, sr, er, e, px, go⟩
abbrev tE := tX Rep
abbrev tT := tX (fun (_ : RC) (a b : Bool) => a = b)
abbrev tA := tX Reps
abbrev RE (X : Cx) (W : WX) (e : Expr) (m : M D) : Prop := PE X e (tE X.K X.mg W m)
abbrev RT (X : Cx) (W : WX) (e : Expr) (m : M Bool) : Prop := PT X e (tT X.K X.mg W m)
abbrev RW (X : Cx) (W : WX) (e : Expr) (m : M Bool) : Prop := PW X e (tT X.K X.mg W m)
abbrev RA (X : Cx) (W : WX) (es : List Expr) (m : M (List D)) : Prop := PA X es (tA X.K X.mg W m)
theorem pe_imp {X : Cx} {e : Expr} {t t' : TE} (h : PE X e t) (k : ∀ σ H Q, t' σ H Q → t σ H Q) : PE X e t' := ⟨fun pins s σ H Q I q => h.run pins s σ H Q I (k σ H Q q)⟩
theorem pt_imp {X : Cx} {e : Expr} {t t' : TT} (h : PT X e t) (k : ∀ σ H Q, t' σ H Q → t σ H Q) : PT X e t' := ⟨fun pins s σ H Q I q => h.run pins s σ H Q I (k σ H Q q)⟩
theorem pw_imp {X : Cx} {e : Expr} {t t' : TT} (h : PW X e t) (k : ∀ σ H Q, t' σ H Q → t σ H Q) : PW X e t' := ⟨fun wh pins s σ H Q I q => h.run wh pins s σ H Q I (k σ H Q q)⟩
theorem pa_imp {X : Cx} {es : List Expr} {t t' : TA} (h : PA X es t) (k : ∀ σ H Q, t' σ H Q → t σ H Q) : PA X es t' := ⟨fun pos pins s σ H Q I q => h.run pos pins s σ H Q I (k σ H Q q)⟩
def mVar (i : Nat) : M D := fun ε h => rt (ε.getD i none) h
def mC (d : D) : M D := fun _ h => some (.ok d, h)
section
variable {X : Cx} {W : WX}
theorem re_var (i : Nat) {x : Str} {pos : Pos} (hN : X.N[i]? = some x := by rfl) (hv : Vis X.env.scope x := by first | exact Or.inl rfl | exact Or.inr (Or.inl rfl) | exact Or.inr (Or.inr rfl)) (hd : (x == ("__debug__" : Str)) = false := by decide)
    (hcd : (x == ("__classdict__" : Str)) = false := by decide) : RE X W (.Name x pos) (mVar i) := by
  refine pe_imp (pe_var hN hv hd hcd) fun σ H Q h => ?_
  obtain ⟨c, ε, h, r, h', hK, hm, rfl, sr, er, e, px, go⟩ := h
  cases q : ε.getD i none with
  | none => rw [mVar, q] at e; cases e
  | some d =>
    rw [mVar, q] at e
    cases e
    have q2 : ε[i]? = some (some d) := by
      rw [List.getD_eq_getElem?_getD] at q
      cases z : ε[i]? with
      | none => rw [z] at q; cases q
      | some y => rw [z] at q; exact congrArg some q
    obtain ⟨v, h1, h2⟩ := er.at_ i d q2
    exact ⟨v, h1, go d rfl c v (.refl c) sr h2⟩
theorem re_c {e : Expr} {d : D} {v : V} (h : PE X e (tC v)) (r : ∀ c : RC, c.K = X.K → MgE c X.mg → Rep c d v) : RE X W e (mC d) := by
  refine pe_imp h fun σ H Q h => ?_
  obtain ⟨c, ε, h, r', h', hK, hm, rfl, sr, er, e, px, go⟩ := h
  cases e
  exact go d rfl c v (.refl c) sr (r c hK hm)
theorem re_int {i j pos} : RE X W (.Constant (.int i) j pos) (mC (.int i)) := re_c pe_int fun _ _ _ => .int i
theorem re_bl {b j pos} : RE X W (.Constant (.bool b) j pos) (mC (.bl b)) := re_c pe_bl fun _ _ _ => .bl b
theorem re_non {j pos} : RE X W (.Constant .none j pos) (mC .non) := re_c pe_non fun _ _ _ => .non
theorem re_str (cs : List Nat) {x j pos} (e : x.cps.toList = cs := by decide +kernel) : RE X W (.Constant (.str x) j pos) (mC (.str cs)) := re_c pe_str fun _ _ _ => by
  subst e
  exact .str x.cps.toList
/-- a constant of the module -/
def GlobC (K : PySem.W.Frag) (mg : Str → Option Value) (x : Str) (d : D) : Prop := ∃ u v, mg x = some u ∧ RelV v u ∧ ∀ c : RC, c.K = K → MgE c mg → Rep c d v
theorem re_glob {x : Str} {d : D} {pos : Pos} (g : GlobC X.K X.mg x d) (hg : Gl X x := by rfl) (hd : (x == ("__debug__" : Str)) = false := by decide) : RE X W (.Name x pos) (mC d) := by
  obtain ⟨u, v, hm, r, rp⟩ := g
  exact re_c (pe_glob hg hm r hd) rp
def OpS (K : PySem.W.Frag) (mg : Str → Option Value) (r : R2) (f : EH → D → D → Option D) : Prop := ∀ (c : RC) (h : EH) (x y : V) (dx dy d : D) (Q : VK), c.K = K → MgE c mg → SR c h → Rep c dx x → Rep c dy y → f h dx dy = some d →
  (∀ c' v, c.Le c' → SR c' h → Rep c' d v → Q v c'.H) → r x y c.H Q
def mBin (f : EH → D → D → Option D) (a b : M D) : M D := fun ε h => bR (a ε h) fun x h1 => bR (b ε h1) fun y h2 => rt (f h2 x y) h2
theorem top_of {K : PySem.W.Frag} {mg : Str → Option Value} {r : R2} {f : EH → D → D → Option D} {a b : M D} (hs : OpS K mg r f) {σ : L2.St} {H : Hp} {Q : VK} (h : tE K mg W (mBin f a b) σ H Q) : tOp r (tE K mg W a) (tE K mg W b) σ H Q := by
  obtain ⟨c, ε, h, r', h', hK, hm, rfl, sr, er, e, px, go⟩ := h
  unfold tOp
  refine tX.bind hK hm sr er e px fun dx h1 c1 x e1 l1 s1 r1 => ?_
  refine tX.bind (l1.K.trans hK) (l1.mg.trans hm) s1 (er.le l1) e1 (px.le l1) fun dy h2 c2 y e2 l2 s2 r2 => ?_
  cases q : f h2 dx dy with
  | none => rw [q] at e2; cases e2
  | some d =>
    rw [q] at e2
    cases e2
    exact hs c2 _ x y dx dy d Q ((l2.K.trans l1.K).trans hK) ((l2.mg.trans l1.mg).trans hm) s2 (r1.le l2) r2 q fun c' v l3 s3 r3 => go d rfl c' v ((l1.trans l2).trans l3) s3 r3
theorem re_bin {op : Operator} {r : R2} {f : EH → D → D → Option D} {a b : Expr} {ma mb : M D} {pos : Pos} (ho : OpR X (binaryOp op) r) (hs : OpS X.K X.mg r f) (ha : RE X W a ma) (hb : RE X W b mb) : RE X W (.BinOp a op b pos) (mBin f ma mb) :=
  pe_imp (pe_op ho ha hb) fun _ _ _ h => top_of hs h
theorem re_cmp {op : CmpOp} {r : R2} {f : EH → D → D → Option D} {a b : Expr} {ma mb : M D} {pos : Pos} (ho : OpR X (compareOp op) r) (hs : OpS X.K X.mg r f) (ha : RE X W a ma) (hb : RE X W b mb) (hmk : behindInMarks op b = false) : RE X W (.Compare a [op] [b] pos) (mBin f ma mb) :=
  pe_imp (pe_cmpR ho ha hb hmk) fun _ _ _ h => top_of hs h
/-- a bool as a test -/
def asB (d : D) : Option Bool := match d with
  | .bl b => some b
  | _ => none
def mTst (m : M D) : M Bool := fun ε h => bR (m ε h) fun x h1 => rt (asB x) h1
theorem tB_of {K : PySem.W.Frag} {mg : Str → Option Value} {m : M D} {σ : L2.St} {H : Hp} {Q : Bool → Hp → Prop} (h : tT K mg W (mTst m) σ H Q) : tE K mg W m σ H fun x H1 => ∃ c, x = .bl c ∧ Q c H1 := by
  obtain ⟨c, ε, h, r', h', hK, hm, rfl, sr, er, e, px, go⟩ := h
  refine tX.bind hK hm sr er e px fun dx h1 c1 x e1 l1 s1 r1 => ?_
  cases r1 with
  | bl b => cases e1; exact ⟨b, rfl, go b rfl c1 b l1 s1 rfl⟩
  | _ => cases e1
theorem tx_imp {α β : Type} {Rl : RC → α → β → Prop} {K : PySem.W.Frag} {mg : Str → Option Value} {m : M α} {σ : L2.St} {H : Hp} {Q Q' : β → Hp → Prop} (h : tX Rl K mg W m σ H Q) (k : ∀ b H, Q b H → Q' b H) : tX Rl K mg W m σ H Q' := by
  obtain ⟨c, ε, h, r', h', hK, hm, rfl, sr, er, e, px, go⟩ := h
  exact ⟨c, ε, h, r', h', hK, hm, rfl, sr, er, e, px, fun a ea c' b l s r => k _ _ (go a ea c' b l s r)⟩
theorem rt_cmp {op : CmpOp} {r : R2} {f : EH → D → D → Option D} {a b : Expr} {ma mb : M D} {pos : Pos} (ho : OpR X (compareOp op) r) (hs : OpS X.K X.mg r f) (ha : RE X W a ma) (hb : RE X W b mb) (hmk : behindInMarks op b = false) : RT X W (.Compare a [op] [b] pos) (mTst (mBin f ma mb)) :=
  pt_imp (pt_cmpR ho ha hb hmk) fun σ H Q h => top_of hs (tB_of h)
theorem rt_val {e : Expr} {m : M D} (h : RE X W e m) (he : ∀ whole, isTrue e X.env whole = (do let v ← whole; standAt e.pos; holding [v] (truthy v)) := by intro _; rfl) : RT X W e (mTst m) :=
  pt_imp (pt_val h he) fun σ H Q h => tB_of h
def mNot (a : M Bool) : M Bool := fun ε h => bR (a ε h) fun b h1 => some (.ok (!b), h1)
def mAnd (a b : M Bool) : M Bool := fun ε h => bR (a ε h) fun x h1 => if x = true then b ε h1 else some (.ok false, h1)
def mOr (a b : M Bool) : M Bool := fun ε h => bR (a ε h) fun x h1 => if x = true then some (.ok true, h1) else b ε h1
def mIf {α : Type} (t : M Bool) (a b : M α) : M α := fun ε h => bR (t ε h) fun x h1 => if x = true then a ε h1 else b ε h1
theorem rt_not {a : Expr} {ma : M Bool} {pos : Pos} (ha : RT X W a ma) : RT X W (.UnaryOp .Not a pos) (mNot ma) := by
  refine pt_imp (pt_not ha) fun σ H Q h => ?_
  obtain ⟨c, ε, h, r', h', hK, hm, rfl, sr, er, e, px, go⟩ := h
  unfold tNot
  refine tX.bind hK hm sr er e px fun x h1 c1 b e1 l1 s1 r1 => ?_
  cases e1
  subst r1
  exact go _ rfl c1 _ l1 s1 rfl
theorem rw_and1 {a : Expr} {ma : M Bool} {pos : Pos} (ha : RT X W a ma) : RW X W (.BoolOp .And [a] pos) ma := pw_and1 ha
theorem rw_or1 {a : Expr} {ma : M Bool} {pos : Pos} (ha : RT X W a ma) : RW X W (.BoolOp .Or [a] pos) ma := pw_or1 ha
theorem rw_and {a b : Expr} {rest : List Expr} {ma mb : M Bool} {pos : Pos} (ha : RT X W a ma) (hb : RW X W (.BoolOp .And (b :: rest) pos) mb) : RW X W (.BoolOp .And (a :: b :: rest) pos) (mAnd ma mb) := by
  refine pw_imp (pw_and ha hb) fun σ H Q h => ?_
  obtain ⟨c, ε, h, r', h', hK, hm, rfl, sr, er, e, px, go⟩ := h
  unfold tAnd
  refine tX.bind hK hm sr er e px fun x h1 c1 b e1 l1 s1 r1 => ?_
  subst r1
  cases x with
  | true => exact tX.last (l1.K.trans hK) (l1.mg.trans hm) s1 (er.le l1) e1 (px.le l1) fun a ea c' b l s r => go a ea c' b (l1.trans l) s r
  | false => cases e1; exact go _ rfl c1 _ l1 s1 rfl
theorem rw_or {a b : Expr} {rest : List Expr} {ma mb : M Bool} {pos : Pos} (ha : RT X W a ma) (hb : RW X W (.BoolOp .Or (b :: rest) pos) mb) : RW X W (.BoolOp .Or (a :: b :: rest) pos) (mOr ma mb) := by
  refine pw_imp (pw_or ha hb) fun σ H Q h => ?_
  obtain ⟨c, ε, h, r', h', hK, hm, rfl, sr, er, e, px, go⟩ := h
  unfold tOr
  refine tX.bind hK hm sr er e px fun x h1 c1 b e1 l1 s1 r1 => ?_
  subst r1
  cases x with
  | false => exact tX.last (l1.K.trans hK) (l1.mg.trans hm) s1 (er.le l1) e1 (px.le l1) fun a ea c' b l s r => go a ea c' b (l1.trans l) s r
  | true => cases e1; exact go _ rfl c1 _ l1 s1 rfl
theorem rt_bool {e : Expr} {m : M Bool} (h : RW X W e m) : RT X W e m := PW.pt h
/-- .. as values -/
def mAndV (a b : M D) : M D := fun ε h => bR (a ε h) fun x h1 => match x with
  | .bl true => b ε h1
  | .bl false => some (.ok (.bl false), h1)
  | _ => none
def mOrV (a b : M D) : M D := fun ε h => bR (a ε h) fun x h1 => match x with
  | .bl true => some (.ok (.bl true), h1)
  | .bl false => b ε h1
  | _ => none
def mNotV (a : M D) : M D := fun ε h => bR (a ε h) fun x h1 => match x with
  | .bl b => some (.ok (.bl (!b)), h1)
  | _ => none
theorem re_one {op} {a : Expr} {ma : M D} {pos : Pos} (ha : RE X W a ma) : RE X W (.BoolOp op [a] pos) ma := pe_one ha
theorem re_and {a b : Expr} {rest : List Expr} {ma mb : M D} {pos : Pos} (ha : RE X W a ma) (hb : RE X W (.BoolOp .And (b :: rest) pos) mb) : RE X W (.BoolOp .And (a :: b :: rest) pos) (mAndV ma mb) := by
  refine pe_imp (pe_and ha hb) fun σ H Q h => ?_
  obtain ⟨c, ε, h, r', h', hK, hm, rfl, sr, er, e, px, go⟩ := h
  unfold tAndV
  refine tX.bind hK hm sr er e px fun x h1 c1 b e1 l1 s1 r1 => ?_
  cases r1 with
  | bl k =>
    cases k with
    | true => exact ⟨true, rfl, tX.last (l1.K.trans hK) (l1.mg.trans hm) s1 (er.le l1) e1 (px.le l1) fun a ea c' b l s r => go a ea c' b (l1.trans l) s r⟩
    | false => cases e1; exact ⟨false, rfl, go _ rfl c1 _ l1 s1 (.bl false)⟩
  | _ => cases e1
theorem re_not {a : Expr} {ma : M D} {pos : Pos} (ha : RE X W a ma) : RE X W (.UnaryOp .Not a pos) (mNotV ma) := by
  refine pe_imp (pe_not ha) fun σ H Q h => ?_
  obtain ⟨c, ε, h, r', h', hK, hm, rfl, sr, er, e, px, go⟩ := h
  unfold tNotV
  refine tX.bind hK hm sr er e px fun x h1 c1 b e1 l1 s1 r1 => ?_
  cases r1 with
  | bl k => cases e1; exact ⟨k, rfl, go _ rfl c1 _ l1 s1 (.bl _)⟩
  | _ => cases e1
theorem re_if {t a b : Expr} {mt : M Bool} {ma mb : M D} {pos : Pos} (ht : RT X W t mt) (ha : RE X W a ma) (hb : RE X W b mb) : RE X W (.IfExp t a b pos) (mIf mt ma mb) := by
  refine pe_imp (pe_ifExp ht ha hb) fun σ H Q h => ?_
  obtain ⟨c, ε, h, r', h', hK, hm, rfl, sr, er, e, px, go⟩ := h
  unfold tIf
  refine tX.bind hK hm sr er e px fun x h1 c1 b e1 l1 s1 r1 => ?_
  subst r1
  cases x with
  | true => exact tX.last (l1.K.trans hK) (l1.mg.trans hm) s1 (er.le l1) e1 (px.le l1) fun a ea c' b l s r => go a ea c' b (l1.trans l) s r
  | false => exact tX.last (l1.K.trans hK) (l1.mg.trans hm) s1 (er.le l1) e1 (px.le l1) fun a ea c' b l s r => go a ea c' b (l1.trans l) s r
def mNil : M (List D) := fun _ h => some (.ok [], h)
def mCons (a : M D) (b : M (List D)) : M (List D) := fun ε h => bR (a ε h) fun x h1 => bR (b ε h1) fun xs h2 => some (.ok (x :: xs), h2)
theorem ra_nil : RA X W [] mNil := by
  refine pa_imp pa_nil fun σ H Q h => ?_
  obtain ⟨c, ε, h, r', h', hK, hm, rfl, sr, er, e, px, go⟩ := h
  cases e
  exact go _ rfl c _ (.refl c) sr .nil
theorem ra_cons {e : Expr} {es : List Expr} {me : M D} {m : M (List D)} (ha : RE X W e me) (hr : RA X W es m) (hs : starEach (e :: es) X.env = (false, eval e X.env) :: starEach es X.env := by rfl) : RA X W (e :: es) (mCons me m) := by
  refine pa_imp (pa_cons ha hr hs) fun σ H Q h => ?_
  obtain ⟨c, ε, h, r', h', hK, hm, rfl, sr, er, e, px, go⟩ := h
  unfold tCons
  refine tX.bind hK hm sr er e px fun x h1 c1 b e1 l1 s1 r1 => ?_
  refine tX.bind (l1.K.trans hK) (l1.mg.trans hm) s1 (er.le l1) e1 (px.le l1) fun xs h2 c2 ys e2 l2 s2 r2 => ?_
  cases e2
  exact go _ rfl c2 _ (l1.trans l2) s2 (.cons (r1.le l2) r2)
def szL {α : Type} (ds : List α) (d : D) : Option D := if ds.length ≤ sizeLine then some d else none
def mTup (m : M (List D)) : M D := fun ε h => bR (m ε h) fun ds h1 => rt (szL ds (.tup ds)) h1
def mLst (m : M (List D)) : M D := fun ε h => bR (m ε h) fun ds h1 => rt (szL ds (.lst ds)) h1
theorem szL_some {α : Type} {ds : List α} {d e : D} (h : szL ds d = some e) : ds.length ≤ sizeLine ∧ e = d := by
  unfold szL at h
  split at h
  · exact ⟨by assumption, (Option.some.inj h).symm⟩
  · cases h
theorem re_tup {es : List Expr} {m : M (List D)} {x1 pos} (h : RA X W es m) : RE X W (.Tuple es x1 pos) (mTup m) := by
  refine pe_imp (pe_tup h) fun σ H Q h => ?_
  obtain ⟨c, ε, h, r', h', hK, hm, rfl, sr, er, e, px, go⟩ := h
  unfold tTup
  refine tX.bind hK hm sr er e px fun ds h1 c1 xs e1 l1 s1 r1 => ?_
  cases q : szL ds (.tup ds) with
  | none => rw [q] at e1; cases e1
  | some d =>
    rw [q] at e1
    cases e1
    obtain ⟨hz, rfl⟩ := szL_some q
    refine ⟨by rw [← r1.length]; exact hz, fun p hp => ?_⟩
    obtain ⟨l2, s2, f2⟩ := s1.new (o := .tup xs) hp
    exact go _ rfl _ _ (l1.trans l2) s2 (.tup (.inl (.inl upd_same)) (r1.le l2))
theorem re_lst {es : List Expr} {m : M (List D)} {pos} (h : RA X W es m) : RE X W (.List es pos) (mLst m) := by
  refine pe_imp (pe_lst h) fun σ H Q h => ?_
  obtain ⟨c, ε, h, r', h', hK, hm, rfl, sr, er, e, px, go⟩ := h
  unfold tLst
  refine tX.bind hK hm sr er e px fun ds h1 c1 xs e1 l1 s1 r1 => ?_
  cases q : szL ds (.lst ds) with
  | none => rw [q] at e1; cases e1
  | some d =>
    rw [q] at e1
    cases e1
    obtain ⟨hz, rfl⟩ := szL_some q
    refine ⟨by rw [← r1.length]; exact hz, fun p hp => ?_⟩
    obtain ⟨l2, s2, f2⟩ := s1.new (o := .lst xs) hp
    exact go _ rfl _ _ (l1.trans l2) s2 (.lst upd_same f2 (r1.le l2))
end
end PD
namespace PD
open PySem PySem.Spec PyProof.Rows L2
variable [LamTab]
/-- one's own list -/
def asO (h : EH) (d : D) : Option (List D) := match d with
  | .lst ds => some ds
  | .ref n => match h[n]? with
    | some (.lst ds) => some ds
    | _ => none
  | _ => none
/-- a list -/
def asL (h : EH) (d : D) : Option (List D) := match d with
  | .scr ds => some ds
  | d => asO h d
/-- a list or a tuple -/
def asS (h : EH) (d : D) : Option (List D) := match d with
  | .tup ds => some ds
  | d => asL h d
theorem asO_ok {c : RC} {h : EH} {d : D} {ds : List D} {v : V} (s : SR c h) (r : Rep c d v) (e : asO h d = some ds) : ∃ a xs, v = .ref a ∧ c.H a = some (.lst xs) ∧ Reps c ds xs := by
  cases r with
  | lst h1 f r => cases e; exact ⟨_, _, rfl, h1, r⟩
  | @ref n a hn =>
    unfold asO at e
    cases q : h[n]? with
    | none => simp only [q] at e; cases e
    | some k =>
      have cr := s.cells n a k hn q
      cases k with
      | lst es =>
        simp only [q] at e
        cases e
        obtain ⟨xs, e1, e2⟩ := cr
        exact ⟨a, xs, rfl, e1, e2⟩
      | _ => simp only [q] at e; cases e
  | _ => cases e
theorem asL_ok {c : RC} {h : EH} {d : D} {ds : List D} {v : V} (s : SR c h) (r : Rep c d v) (e : asL h d = some ds) : ∃ a xs, v = .ref a ∧ SqL c.K c.H a xs ∧ Reps c ds xs := by
  cases r with
  | scr h1 r => cases e; exact ⟨_, _, rfl, h1.sq, r⟩
  | lst h1 f r => cases e; exact ⟨_, _, rfl, .inl (.inl h1), r⟩
  | ref hn => obtain ⟨a, xs, e1, e2, e3⟩ := asO_ok s (.ref hn) e; exact ⟨a, xs, e1, .inl (.inl e2), e3⟩
  | _ => cases e
theorem asS_ok {c : RC} {h : EH} {d : D} {ds : List D} {v : V} (s : SR c h) (r : Rep c d v) (e : asS h d = some ds) : ∃ a xs, v = .ref a ∧ (SqL c.K c.H a xs ∨ SqT c.K c.H a xs) ∧ Reps c ds xs := by
  cases r with
  | tup h1 r => cases e; exact ⟨_, _, rfl, .inr h1, r⟩
  | scr h1 r => cases e; exact ⟨_, _, rfl, .inl h1.sq, r⟩
  | lst h1 f r => obtain ⟨a, xs, e1, e2, e3⟩ := asL_ok s (.lst h1 f r) e; exact ⟨a, xs, e1, .inl e2, e3⟩
  | ref hn => obtain ⟨a, xs, e1, e2, e3⟩ := asL_ok s (.ref hn) e; exact ⟨a, xs, e1, .inl e2, e3⟩
  | _ => cases e
/-- a new object's place: what one may say behind it -/
theorem put_ok {c : RC} {h : EH} (s : SR c h) {Q : VK} {d : D} {o : HO} (go : ∀ c' v, c.Le c' → SR c' h → Rep c' d v → Q v c'.H) (r : ∀ p, c.H p = none → c.Le (c.put p o) → (c.put p o).fr p → Rep (c.put p o) d (.ref p)) : ∀ p, c.H p = none → Q (.ref p) (upd c.H p o) := fun p hp => by
  obtain ⟨l, s', f⟩ := s.new (o := o) hp
  exact go _ _ l s' (r p hp l f)
theorem put_lst {c : RC} {h : EH} (s : SR c h) {Q : VK} {ds : List D} {xs : List V} (go : ∀ c' v, c.Le c' → SR c' h → Rep c' (.lst ds) v → Q v c'.H) (r : Reps c ds xs) : ∀ p, c.H p = none → Q (.ref p) (upd c.H p (.lst xs)) :=
  put_ok s go fun _ _ l f => .lst upd_same f (r.le l)
theorem put_tup {c : RC} {h : EH} (s : SR c h) {Q : VK} {ds : List D} {xs : List V} (go : ∀ c' v, c.Le c' → SR c' h → Rep c' (.tup ds) v → Q v c'.H) (r : Reps c ds xs) : ∀ p, c.H p = none → Q (.ref p) (upd c.H p (.tup xs)) :=
  put_ok s go fun _ _ l f => .tup (.inl (.inl upd_same)) (r.le l)
section
variable {K : PySem.W.Frag} {mg : Str → Option Value}
theorem OpS.or {r r' : R2} {f g : EH → D → D → Option D} (h : OpS K mg r f) (h' : OpS K mg r' g) : OpS K mg (fun x y H Q => r x y H Q ∨ r' x y H Q) (fun h x y => (f h x y).or (g h x y)) := by
  intro c eh x y dx dy d Q hK hm sr rx ry e go
  dsimp only at e
  cases q : f eh dx dy with
  | some z => rw [q] at e; cases e; exact .inl (h c eh x y dx dy _ Q hK hm sr rx ry q go)
  | none => rw [q] at e; exact .inr (h' c eh x y dx dy d Q hK hm sr rx ry e go)
def dI2 (f : Int → Int → Option D) : EH → D → D → Option D := fun _ x y => match x, y with
  | .int i, .int j => f i j
  | _, _ => none
theorem ops_I0 (g : Int → Int → Int) : OpS K mg (rI0 fun i j => .int (g i j)) (dI2 fun i j => some (.int (g i j))) := by
  intro c eh x y dx dy d Q hK hm sr rx ry e go
  cases rx with
  | int i =>
    cases ry with
    | int j => cases e; exact ⟨i, j, rfl, rfl, go c _ (.refl c) sr (.int _)⟩
    | _ => cases e
  | _ => cases e
theorem ops_B0 (g : Int → Int → Bool) : OpS K mg (rI0 fun i j => .bl (g i j)) (dI2 fun i j => some (.bl (g i j))) := by
  intro c eh x y dx dy d Q hK hm sr rx ry e go
  cases rx with
  | int i =>
    cases ry with
    | int j => cases e; exact ⟨i, j, rfl, rfl, go c _ (.refl c) sr (.bl _)⟩
    | _ => cases e
  | _ => cases e
theorem ops_IC (C : Int → Int → Prop) [∀ i j, Decidable (C i j)] (g : Int → Int → Int) : OpS K mg (rI C fun i j => .int (g i j)) (dI2 fun i j => if C i j then some (.int (g i j)) else none) := by
  intro c eh x y dx dy d Q hK hm sr rx ry e go
  cases rx with
  | int i =>
    cases ry with
    | int j =>
      have e' : (if C i j then some (D.int (g i j)) else none) = some d := e
      by_cases hc : C i j
      · rw [if_pos hc] at e'; cases e'; exact ⟨i, j, rfl, rfl, hc, go c _ (.refl c) sr (.int _)⟩
      · rw [if_neg hc] at e'; cases e'
    | _ => cases e
  | _ => cases e
instance (i j : Int) : Decidable (CMul i j) := by unfold CMul; infer_instance
instance (i j : Int) : Decidable (CDiv i j) := by unfold CDiv; infer_instance
instance (i j : Int) : Decidable (CPow i j) := by unfold CPow; infer_instance
def dCatS (_ : EH) (x y : D) : Option D := match x, y with
  | .str a, .str b => if a.length + b.length ≤ sizeLine then some (.str (a ++ b)) else none
  | _, _ => none
theorem ops_catS : OpS K mg (fun x y H Q => ∃ i j, x = V.str i ∧ y = V.str j ∧ i.length + j.length ≤ sizeLine ∧ Q (.str (i ++ j)) H) dCatS := by
  intro c eh x y dx dy d Q hK hm sr rx ry e go
  cases rx with
  | str a =>
    cases ry with
    | str b =>
      have e' : (if a.length + b.length ≤ sizeLine then some (D.str (a ++ b)) else none) = some d := e
      by_cases hc : a.length + b.length ≤ sizeLine
      · rw [if_pos hc] at e'
        cases e'
        refine ⟨_, _, rfl, rfl, by simpa [Str.length] using hc, ?_⟩
        have ee : (⟨a.toArray⟩ : Str) ++ (⟨b.toArray⟩ : Str) = ⟨(a ++ b).toArray⟩ := by
          show (⟨a.toArray ++ b.toArray⟩ : Str) = _
          simp
        rw [ee]
        exact go c _ (.refl c) sr (.str _)
      · rw [if_neg hc] at e'; cases e'
    | _ => cases e
  | _ => cases e
def dCatL (h : EH) (x y : D) : Option D := match asO h x with
  | some a => (match asO h y with
    | some b => if a.length + b.length ≤ sizeLine then some (.lst (a ++ b)) else none
    | none => none)
  | none => none
theorem ops_catL : OpS K mg rCat dCatL := by
  intro c eh x y dx dy d Q hK hm sr rx ry e go
  unfold dCatL at e
  cases q : asO eh dx with
  | none => rw [q] at e; cases e
  | some a =>
    rw [q] at e
    dsimp only at e
    cases q2 : asO eh dy with
    | none => rw [q2] at e; cases e
    | some b =>
      rw [q2] at e
      dsimp only at e
      by_cases hc : a.length + b.length ≤ sizeLine
      · rw [if_pos hc] at e
        cases e
        obtain ⟨l, xs, rfl, h1, r1⟩ := asO_ok sr rx q
        obtain ⟨m, ys, rfl, h2, r2⟩ := asO_ok sr ry q2
        exact ⟨l, m, xs, ys, rfl, rfl, h1, h2, by rw [← r1.length, ← r2.length]; exact hc, put_lst sr go (r1.append r2)⟩
      · rw [if_neg hc] at e; cases e
def dCatT (_ : EH) (x y : D) : Option D := match x, y with
  | .tup a, .tup b => if a.length + b.length ≤ sizeLine then some (.tup (a ++ b)) else none
  | _, _ => none
theorem ops_catT : OpS K mg (rCatA K) dCatT := by
  intro c eh x y dx dy d Q hK hm sr rx ry e go
  subst hK
  cases rx with
  | @tup a1 ds1 xs1 h1 r1 =>
    cases ry with
    | @tup a2 ds2 xs2 h2 r2 =>
      have e' : (if ds1.length + ds2.length ≤ sizeLine then some (D.tup (ds1 ++ ds2)) else none) = some d := e
      by_cases hc : ds1.length + ds2.length ≤ sizeLine
      · rw [if_pos hc] at e'
        cases e'
        have q1 := r1.length
        have q2 := r2.length
        refine ⟨_, _, _, _, rfl, rfl, h1, h2, by omega, fun z => ?_, fun _ z => ?_, fun _ _ => put_tup sr go (r1.append r2)⟩
        · subst z
          cases r1
          exact go c _ (.refl c) sr (.tup h2 r2)
        · subst z
          cases r2
          rw [List.append_nil] at go
          exact go c _ (.refl c) sr (.tup h1 r1)
      · rw [if_neg hc] at e'; cases e'
    | _ => cases e
  | _ => cases e
end
def toPD : D → Option PyData
  | .non => some .none
  | .bl b => some (.bool b)
  | .int i => some (.int i)
  | .str cs => some (.str ⟨cs.toArray⟩)
  | .tup ds => (go ds).map .tuple
  | .lst ds => (go ds).map .list
  | _ => none
where go : List D → Option (List PyData)
  | [] => some []
  | d :: ds => match toPD d, go ds with
    | some x, some xs => some (x :: xs)
    | _, _ => none
mutual
theorem toPD_ok {c : RC} : ∀ {d : D} {v : V} {p : PyData}, Rep c d v → toPD d = some p → Dp c.K c.H v p
  | _, _, p, .non, e => by cases e; exact .non
  | _, _, p, .bl b, e => by cases e; exact .bl b
  | _, _, p, .int i, e => by cases e; exact .int i
  | _, _, p, .str cs, e => by cases e; exact .str _
  | .tup ds, _, p, .tup h r, e => by
    rw [toPD] at e
    cases q : toPD.go ds with
    | none => rw [q] at e; cases e
    | some ps => rw [q] at e; cases e; exact .tup h (toPDs_ok r q)
  | .lst ds, _, p, .lst h f r, e => by
    rw [toPD] at e
    cases q : toPD.go ds with
    | none => rw [q] at e; cases e
    | some ps => rw [q] at e; cases e; exact .lst (.inl (.inl h)) (toPDs_ok r q)
  | _, _, p, .obj _ _ _ _, e => by cases e
  | _, _, p, .dic _ _ _ _, e => by cases e
  | _, _, p, .ref _, e => by cases e
  | _, _, p, .scr _ _, e => by cases e
theorem toPDs_ok {c : RC} : ∀ {ds : List D} {vs : List V} {ps : List PyData}, Reps c ds vs → toPD.go ds = some ps → DpAll c.K c.H vs ps
  | _, _, ps, .nil, e => by cases e; exact .nil
  | d :: ds, _, ps, .cons h t, e => by
    rw [toPD.go] at e
    cases q1 : toPD d with
    | none => rw [q1] at e; cases e
    | some x =>
      cases q2 : toPD.go ds with
      | none => rw [q1, q2] at e; cases e
      | some xs => rw [q1, q2] at e; cases e; exact .cons (toPD_ok h q1) (toPDs_ok t q2)
end
/-- two data compared -/
def dEqv (x y : D) : Option Bool := match toPD x, toPD y with
  | some p, some q => if SeqAt.shaped p = true ∧ SeqAt.shaped q = true then some (PyData.eqv p q) else none
  | _, _ => none
def dEqD (neg : Bool) : EH → D → D → Option D := fun _ x y => (dEqv x y).map fun b => .bl (neg != b)
section
variable {K : PySem.W.Frag} {mg : Str → Option Value}
theorem dEqv_ok {c : RC} {x y : D} {v u : V} {b : Bool} (rx : Rep c x v) (ry : Rep c y u) (e : dEqv x y = some b) : ∃ d e, Dp c.K c.H v d ∧ Dp c.K c.H u e ∧ SeqAt.shaped d = true ∧ SeqAt.shaped e = true ∧ PyData.eqv d e = b := by
  unfold dEqv at e
  cases q1 : toPD x with
  | none => rw [q1] at e; cases e
  | some p =>
    cases q2 : toPD y with
    | none => rw [q1, q2] at e; cases e
    | some q =>
      rw [q1, q2] at e
      have e' : (if SeqAt.shaped p = true ∧ SeqAt.shaped q = true then some (PyData.eqv p q) else none) = some b := e
      by_cases hc : SeqAt.shaped p = true ∧ SeqAt.shaped q = true
      · rw [if_pos hc] at e'
        exact ⟨p, q, toPD_ok rx q1, toPD_ok ry q2, hc.1, hc.2, Option.some.inj e'⟩
      · rw [if_neg hc] at e'; cases e'
theorem ops_eqD : OpS K mg (rEqD K) (dEqD false) := by
  intro c eh x y dx dy d Q hK hm sr rx ry e go
  subst hK
  unfold dEqD at e
  cases q : dEqv dx dy with
  | none => rw [q] at e; cases e
  | some b =>
    rw [q] at e
    obtain ⟨p, r, h1, h2, h3, h4, h5⟩ := dEqv_ok rx ry q
    cases e
    exact ⟨p, r, h1, h2, h3, h4, by rw [h5]; exact go c _ (.refl c) sr (by cases b <;> exact .bl _)⟩
theorem ops_neD : OpS K mg (rNeD K) (dEqD true) := by
  intro c eh x y dx dy d Q hK hm sr rx ry e go
  subst hK
  unfold dEqD at e
  cases q : dEqv dx dy with
  | none => rw [q] at e; cases e
  | some b =>
    rw [q] at e
    obtain ⟨p, r, h1, h2, h3, h4, h5⟩ := dEqv_ok rx ry q
    cases e
    exact ⟨p, r, h1, h2, h3, h4, by rw [h5]; exact go c _ (.refl c) sr (by cases b <;> exact .bl _)⟩
/-- scalars, without a look at their signs -/
def scalD : D → D → Option Bool
  | .non, .non => some true | .non, .int _ => some false | .int _, .non => some false | .non, .bl _ => some false | .bl _, .non => some false | .non, .str _ => some false | .str _, .non => some false
  | .int a, .int b => some (decide (a = b)) | .bl a, .bl b => some (decide (a = b)) | .str a, .str b => some (decide (a = b))
  | .int _, .str _ => some false | .str _, .int _ => some false | .bl _, .str _ => some false | .str _, .bl _ => some false
  | _, _ => none
theorem scalD_ok {c : RC} {x y : D} {v u : V} {b : Bool} (rx : Rep c x v) (ry : Rep c y u) (e : scalD x y = some b) : scal v u = true ∧ decide (v = u) = b := by
  cases rx <;> cases ry <;> first
    | (cases e; done)
    | (cases e; exact ⟨rfl, by simp⟩)
theorem ops_eqS : OpS K mg rEq (fun _ x y => (scalD x y).map D.bl) := by
  intro c eh x y dx dy d Q hK hm sr rx ry e go
  dsimp only at e
  cases q : scalD dx dy with
  | none => rw [q] at e; cases e
  | some b =>
    rw [q] at e
    cases e
    obtain ⟨h1, h2⟩ := scalD_ok rx ry q
    exact ⟨h1, by rw [h2]; exact go c _ (.refl c) sr (.bl b)⟩
theorem ops_neS : OpS K mg rNe (fun _ x y => (scalD x y).map fun b => D.bl (!b)) := by
  intro c eh x y dx dy d Q hK hm sr rx ry e go
  dsimp only at e
  cases q : scalD dx dy with
  | none => rw [q] at e; cases e
  | some b =>
    rw [q] at e
    cases e
    obtain ⟨h1, h2⟩ := scalD_ok rx ry q
    exact ⟨h1, by rw [h2]; exact go c _ (.refl c) sr (.bl _)⟩
def dEq : EH → D → D → Option D := fun h x y => ((scalD x y).map D.bl).or (dEqD false h x y)
def dNe : EH → D → D → Option D := fun h x y => ((scalD x y).map fun b => D.bl (!b)).or (dEqD true h x y)
end
end PD
namespace PD
open PySem PySem.Spec PyProof.Rows L2
variable [LamTab]
def flatD : D → Bool
  | .non => true
  | .bl _ => true
  | .int _ => true
  | .str _ => true
  | _ => false
def eqF : D → D → Bool
  | .non, .non => true
  | .bl a, .bl b => a == b
  | .bl a, .int b => (if a then 1 else 0) == b
  | .int a, .bl b => a == (if b then 1 else 0)
  | .int a, .int b => a == b
  | .str a, .str b => a == b
  | _, _ => false
theorem flat_ok {c : RC} {d : D} {v : V} (r : Rep c d v) : flatV v = flatD d := by cases r <;> rfl
theorem eqF_ok {c : RC} {d e : D} {v u : V} (r : Rep c d v) (q : Rep c e u) : eqV v u = eqF d e := by
  cases r <;> cases q <;> first
    | rfl
    | (rename_i a b
       show ((⟨a.toArray⟩ : Str) == ⟨b.toArray⟩) = (a == b)
       rw [Bool.eq_iff_iff]
       simp)
theorem flats_ok {c : RC} : ∀ {ds : List D} {vs : List V}, Reps c ds vs → vs.all flatV = ds.all flatD
  | _, _, .nil => rfl
  | _, _, .cons h t => by rw [List.all_cons, List.all_cons, flat_ok h, flats_ok t]
theorem inV_ok {c : RC} {x : D} {v : V} (r : Rep c x v) : ∀ {ds : List D} {vs : List V}, Reps c ds vs → inV v vs = ds.any fun y => eqF y x
  | _, _, .nil => rfl
  | _, _, .cons h t => by
    have ih := inV_ok r t
    unfold inV at ih ⊢
    rw [List.any_cons, List.any_cons, ih, eqF_ok h r]
def dIn (neg : Bool) (h : EH) (x y : D) : Option D := match asS h y with
  | some ds => if flatD x = true ∧ ds.all flatD = true then some (.bl (neg != ds.any fun z => eqF z x)) else none
  | none => none
def dInS (neg : Bool) (_ : EH) (x y : D) : Option D := match x, y with
  | .str a, .str z => (match a with
    | [c] => some (.bl (neg != decide (c ∈ z)))
    | _ => none)
  | _, _ => none
section
variable {K : PySem.W.Frag} {mg : Str → Option Value}
theorem ops_in (neg : Bool) : OpS K mg (rIn K neg) (dIn neg) := by
  intro c eh x y dx dy d Q hK hm sr rx ry e go
  subst hK
  unfold dIn at e
  cases q : asS eh dy with
  | none => rw [q] at e; cases e
  | some ds =>
    rw [q] at e
    dsimp only at e
    obtain ⟨a, xs, rfl, h1, r1⟩ := asS_ok sr ry q
    by_cases hc : flatD dx = true ∧ ds.all flatD = true
    · rw [if_pos hc] at e
      cases e
      refine ⟨a, xs, rfl, h1, (flat_ok rx).trans hc.1, (flats_ok r1).trans hc.2, ?_⟩
      rw [inV_ok rx r1]
      cases neg
      · exact go c _ (.refl c) sr (by simpa using Rep.bl _)
      · exact go c _ (.refl c) sr (by simpa using Rep.bl _)
    · rw [if_neg hc] at e; cases e
theorem ops_inS : OpS K mg (fun x y H Q => ∃ (c : Nat) (z : Str), x = V.str ⟨#[c]⟩ ∧ y = V.str z ∧ Q (.bl (decide (c ∈ z.cps.toList))) H) (dInS false) := by
  intro c eh x y dx dy d Q hK hm sr rx ry e go
  cases rx with
  | str a =>
    cases ry with
    | str b =>
      match a, e with
      | [k], e =>
        cases e
        exact ⟨k, _, rfl, rfl, go c _ (.refl c) sr (by simpa using Rep.bl _)⟩
    | _ => cases e
  | _ => cases e
theorem ops_ninS : OpS K mg (fun x y H Q => ∃ (c : Nat) (z : Str), x = V.str ⟨#[c]⟩ ∧ y = V.str z ∧ Q (.bl (!decide (c ∈ z.cps.toList))) H) (dInS true) := by
  intro c eh x y dx dy d Q hK hm sr rx ry e go
  cases rx with
  | str a =>
    cases ry with
    | str b =>
      match a, e with
      | [k], e =>
        cases e
        exact ⟨k, _, rfl, rfl, go c _ (.refl c) sr (by simpa using Rep.bl _)⟩
    | _ => cases e
  | _ => cases e
/-- is None, is not None -/
def isNon : D → Bool
  | .non => true
  | _ => false
def dIsN (neg : Bool) (_ : EH) (x y : D) : Option D := match y with
  | .non => some (.bl (neg != isNon x))
  | _ => none
theorem isNon_ok {c : RC} {d : D} {v : V} (r : Rep c d v) : decide (v = .non) = isNon d := by cases r <;> simp [isNon]
theorem ops_isN : OpS K mg (fun x y H Q => y = .non ∧ Q (.bl (decide (x = .non))) H) (dIsN false) := by
  intro c eh x y dx dy d Q hK hm sr rx ry e go
  cases ry with
  | non => cases e; exact ⟨rfl, by rw [isNon_ok rx]; exact go c _ (.refl c) sr (by simpa using Rep.bl _)⟩
  | _ => cases e
theorem atI_map {c : RC} {ds : List D} {xs : List V} {i : Int} {d : D} (r : Reps c ds xs) (e : atI ds i = some d) : ∃ v, atI xs i = some v ∧ Rep c d v := by
  unfold atI at e ⊢
  rw [← r.length]
  cases q : ixN ds.length i with
  | none => rw [q] at e; cases e
  | some j => rw [q] at e; exact r.get e
def dIx (h : EH) (x y : D) : Option D := match y with
  | .int i => (match x with
    | .str z => if z.length ≤ sizeLine then (atI z i).map fun k => .str [k] else none
    | x => match asS h x with
      | some ds => atI ds i
      | none => none)
  | _ => none
theorem ops_ix : OpS K mg (rIx K) dIx := by
  intro c eh x y dx dy d Q hK hm sr rx ry e go
  subst hK
  cases ry with
  | int i =>
    have fin : ∀ ds, asS eh dx = some ds → atI ds i = some d → rIx c.K x (.int i) c.H Q := fun ds q e => by
      obtain ⟨a, xs, rfl, h1, r1⟩ := asS_ok sr rx q
      obtain ⟨v, h2, r2⟩ := atI_map r1 e
      rcases h1 with h1 | h1
      · exact .inl ⟨a, xs, i, v, rfl, rfl, h1, h2, go c v (.refl c) sr r2⟩
      · exact .inr (.inl ⟨a, xs, i, v, rfl, rfl, h1, h2, go c v (.refl c) sr r2⟩)
    cases rx with
    | str z =>
      have e' : (if z.length ≤ sizeLine then (atI z i).map fun k => D.str [k] else none) = some d := e
      by_cases hc : z.length ≤ sizeLine
      · rw [if_pos hc] at e'
        cases q : atI z i with
        | none => rw [q] at e'; cases e'
        | some k =>
          rw [q] at e'
          cases e'
          exact .inr (.inr ⟨_, i, k, rfl, rfl, by simpa [Str.length] using hc, by simpa using q, go c _ (.refl c) sr (.str [k])⟩)
      · rw [if_neg hc] at e'; cases e'
    | @tup a ds xs h1 r1 => exact fin ds rfl e
    | @lst a ds xs h1 f r1 => exact fin ds rfl e
    | @scr a ds xs h1 r1 => exact fin ds rfl e
    | @ref n a hn =>
      cases q : asS eh (.ref n) with
      | none => unfold dIx at e; simp only [q] at e; cases e
      | some ds => unfold dIx at e; simp only [q] at e; exact fin ds q e
    | _ => cases e
  | _ => cases e
end
def cutD {α : Type} (xs : List α) (lo hi : Option Int) : List α := (xs.drop (HT.sIx xs.length 0 lo)).take (HT.sIx xs.length xs.length hi - HT.sIx xs.length 0 lo)
def mNoP : M (Option Int) := fun _ h => some (.ok none, h)
def mSmP (m : M D) : M (Option Int) := fun ε h => bR (m ε h) fun x h1 => match x with
  | .int i => some (.ok (some i), h1)
  | _ => none
def tO (K : PySem.W.Frag) (mg : Str → Option Value) (W : WX) := tX (α := Option Int) (fun (_ : RC) a b => a = b) K mg W
abbrev RO (X : Cx) (W : WX) (e : Option Expr) (m : M (Option Int)) : Prop := PO X e (tO X.K X.mg W m)
theorem po_imp {X : Cx} {e : Option Expr} {t t' : TO} (h : PO X e t) (k : ∀ σ H Q, t' σ H Q → t σ H Q) : PO X e t' := ⟨fun pins s σ H Q I q => h.run pins s σ H Q I (k σ H Q q)⟩
def dSl (h : EH) (x : D) (lo hi : Option Int) : Option D := match x with
  | .str z => if z.length ≤ sizeLine then some (.str (cutD z lo hi)) else none
  | .tup ds => some (.tup (cutD ds lo hi))
  | x => match asL h x with
    | some ds => some (.lst (cutD ds lo hi))
    | none => none
def mSl (a : M D) (lo hi : M (Option Int)) : M D := fun ε h => bR (a ε h) fun x h1 => bR (lo ε h1) fun l h2 => bR (hi ε h2) fun u h3 => rt (dSl h3 x l u) h3
section
variable {X : Cx} {W : WX}
theorem ro_none : RO X W none mNoP := by
  refine po_imp po_none fun σ H Q h => ?_
  obtain ⟨c, ε, h, r', h', hK, hm, rfl, sr, er, e, px, go⟩ := h
  cases e
  exact go _ rfl c _ (.refl c) sr rfl
theorem ro_some {e : Expr} {m : M D} (h : RE X W e m) : RO X W (some e) (mSmP m) := by
  refine po_imp (po_some h) fun σ H Q h => ?_
  obtain ⟨c, ε, h, r', h', hK, hm, rfl, sr, er, e, px, go⟩ := h
  unfold tPart
  refine tX.bind hK hm sr er e px fun x h1 c1 b e1 l1 s1 r1 => ?_
  cases r1 with
  | int i => cases e1; exact ⟨i, rfl, go _ rfl c1 _ l1 s1 rfl⟩
  | _ => cases e1
end
end PD
namespace PD
open PySem PySem.Spec PyProof.Rows L2
variable [LamTab]
section
variable {X : Cx} {W : WX}
theorem cutV_reps {c : RC} {ds : List D} {xs : List V} (r : Reps c ds xs) (lo hi : Option Int) : Reps c (cutD ds lo hi) (cutV xs lo hi) := by
  unfold cutD cutV
  rw [← r.length]
  exact (r.drop _).take _
theorem cutS_cutD (z : List Nat) (lo hi : Option Int) : cutS ⟨z.toArray⟩ lo hi = ⟨(cutD z lo hi).toArray⟩ := by
  unfold cutS cutD
  simp [Str.length]
theorem re_slice {a : Expr} {lo hi : Option Expr} {ma : M D} {ml mh : M (Option Int)} {p2 pos : Pos} (ha : RE X W a ma) (hl : RO X W lo ml) (hh : RO X W hi mh) : RE X W (.Subscript a (.Slice lo hi none p2) pos) (mSl ma ml mh) := by
  refine pe_imp (pe_slice (sl_list.or (sl_tupA.or sl_str)) ha hl hh) fun σ H Q h => ?_
  obtain ⟨c, ε, h, r', h', hK, hm, rfl, sr, er, e, px, go⟩ := h
  unfold tSl
  refine tX.bind hK hm sr er e px fun x h1 c1 v e1 l1 s1 r1 => ?_
  refine tX.bind (l1.K.trans hK) (l1.mg.trans hm) s1 (er.le l1) e1 (px.le l1) fun lo' h2 c2 lo2 e2 l2 s2 r2 => ?_
  refine tX.bind ((l2.K.trans l1.K).trans hK) ((l2.mg.trans l1.mg).trans hm) s2 ((er.le l1).le l2) e2 ((px.le l1).le l2) fun hi' h3 c3 hi2 e3 l3 s3 r3 => ?_
  subst r2 r3
  have r1' := (r1.le l2).le l3
  have hK3 : c3.K = X.K := ((l3.K.trans l2.K).trans l1.K).trans hK
  cases q : dSl h3 x lo' hi' with
  | none => rw [q] at e3; cases e3
  | some d =>
    rw [q] at e3
    cases e3
    have go' : ∀ c' v, c3.Le c' → SR c' _ → Rep c' d v → Q v c'.H := fun c' v l s r => go d rfl c' v (((l1.trans l2).trans l3).trans l) s r
    have fin : ∀ ds, asL _ x = some ds → some (D.lst (cutD ds lo' hi')) = some d → rSlL X.K v lo' hi' c3.H Q := fun ds q e => by
      cases e
      obtain ⟨a, xs, rfl, h1, r1⟩ := asL_ok s3 r1' q
      exact ⟨a, xs, rfl, (by rw [← hK3]; exact h1), put_lst s3 go' (cutV_reps r1 lo' hi')⟩
    cases r1' with
    | str z =>
      have e' : (if z.length ≤ sizeLine then some (D.str (cutD z lo' hi')) else none) = some d := q
      by_cases hc : z.length ≤ sizeLine
      · rw [if_pos hc] at e'
        cases e'
        exact .inr (.inr ⟨_, rfl, by simpa [Str.length] using hc, by rw [cutS_cutD]; exact go' c3 _ (.refl c3) s3 (.str _)⟩)
      · rw [if_neg hc] at e'; cases e'
    | @tup a ds xs k1 k2 =>
      cases q
      refine .inr (.inl ⟨a, xs, rfl, by rw [← hK3]; exact k1, fun hw => ?_, fun _ => put_tup s3 go' (cutV_reps k2 lo' hi')⟩)
      have ez : cutD ds lo' hi' = ds := by
        unfold cutD
        rw [k2.length, hw.1, hw.2, List.drop_zero, Nat.sub_zero, List.take_of_length_le (by rw [k2.length]; exact Nat.le_refl _)]
      exact go' c3 _ (.refl c3) s3 (by rw [ez]; exact .tup k1 k2)
    | @lst a ds xs k1 k2 k3 => exact .inl (fin ds rfl q)
    | @scr a ds xs k1 k2 => exact .inl (fin ds rfl q)
    | @ref n a hn =>
      have q' : (match asL h' (D.ref n) with
        | some ds => some (D.lst (cutD ds lo' hi'))
        | none => none) = some d := q
      cases q2 : asL h' (D.ref n) with
      | none => rw [q2] at q'; cases q'
      | some ds => rw [q2] at q'; exact .inl (fin ds q2 q')
    | _ => cases q
def CallS (K : PySem.W.Frag) (mg : Str → Option Value) (r : List V → Hp → VK → Prop) (f : EH → List D → Option D) : Prop := ∀ (c : RC) (h : EH) (xs : List V) (ds : List D) (d : D) (Q : VK), c.K = K → MgE c mg → SR c h → Reps c ds xs → f h ds = some d →
  (∀ c' v, c.Le c' → SR c' h → Rep c' d v → Q v c'.H) → r xs c.H Q
def mCall (f : EH → List D → Option D) (a : M (List D)) : M D := fun ε h => bR (a ε h) fun xs h1 => rt (f h1 xs) h1
theorem tcb_of {K : PySem.W.Frag} {mg : Str → Option Value} {r : List V → Hp → VK → Prop} {f : EH → List D → Option D} {a : M (List D)} (hs : CallS K mg r f) {σ : L2.St} {H : Hp} {Q : VK} (h : tE K mg W (mCall f a) σ H Q) : tCB r (tA K mg W a) σ H Q := by
  obtain ⟨c, ε, h, r', h', hK, hm, rfl, sr, er, e, px, go⟩ := h
  unfold tCB
  refine tX.bind hK hm sr er e px fun ds h1 c1 xs e1 l1 s1 r1 => ?_
  cases q : f h1 ds with
  | none => rw [q] at e1; cases e1
  | some d =>
    rw [q] at e1
    cases e1
    exact hs c1 _ xs ds d Q (l1.K.trans hK) (l1.mg.trans hm) s1 r1 q fun c' v l s r => go d rfl c' v (l1.trans l) s r
variable {e : Expr} {es : List Expr} {x : Str} {p pos : Pos} {ma : M (List D)} {id : String} {T : String} {r : List V → Hp → VK → Prop} {f : EH → List D → Option D}
theorem re_callB (hc : CallR X (.builtin id) r) (hs : CallS X.K X.mg r f) (hm : X.mg x = none) (ha : RA X W (e :: es) ma) (hv : bootBuiltins x = some (.builtin id) := by decide +kernel) (hg : Gl X x := by rfl) (hn : x ≠ "__name__" := by decide) (hdb : (x == ("__debug__" : Str)) = false := by decide)
    (he : starEach (e :: es) X.env = (false, eval e X.env) :: starEach es X.env := by rfl) (hpl : (backTo pos (starEach es X.env)).any (·.1) = false := by rfl) : RE X W (.Call (.Name x p) (e :: es) [] pos) (mCall f ma) :=
  pe_imp (pe_callB hc hg hm hv ha hn hdb he hpl) fun _ _ _ h => tcb_of hs h
theorem re_callTy (hc : CallR X (.type T) r) (hs : CallS X.K X.mg r f) (hm : X.mg x = none) (ha : RA X W (e :: es) ma) (hv : bootBuiltins x = some (.type T) := by decide +kernel) (hg : Gl X x := by rfl) (hn : x ≠ "__name__" := by decide) (hdb : (x == ("__debug__" : Str)) = false := by decide)
    (he : starEach (e :: es) X.env = (false, eval e X.env) :: starEach es X.env := by rfl) (hpl : (backTo pos (starEach es X.env)).any (·.1) = false := by rfl) : RE X W (.Call (.Name x p) (e :: es) [] pos) (mCall f ma) :=
  pe_imp (pe_callTy hc hg hm hv ha hn hdb he hpl) fun _ _ _ h => tcb_of hs h
end
section
variable {K : PySem.W.Frag} {mg : Str → Option Value}
def dLen1 (h : EH) (d : D) : Option D := match d with
  | .str z => if z.length ≤ sizeLine then some (.int z.length) else none
  | d => (match asS h d with
    | some xs => some (.int xs.length)
    | none => none)
def dLen (h : EH) (ds : List D) : Option D := match ds with
  | [d] => dLen1 h d
  | _ => none
theorem cs_len : CallS K mg (fun xs H Q => ∃ x n, xs = [x] ∧ LenV K x H n ∧ Q (.int n) H) dLen := by
  intro c eh xs ds d Q hK hm sr rx e go
  subst hK
  match ds, rx, e with
  | [d0], .cons r0 .nil, e =>
    have fin : ∀ v xs, Rep c d0 v → asS eh d0 = some xs → d = .int xs.length → ∃ x n, [v] = [x] ∧ LenV c.K x c.H n ∧ Q (.int n) c.H := fun v xs r0 q eq => by
      subst eq
      obtain ⟨a, ys, rfl, h1, r1⟩ := asS_ok sr r0 q
      refine ⟨_, ys.length, rfl, ?_, ?_⟩
      · rcases h1 with h1 | h1
        · exact .inl ⟨ys, h1, rfl⟩
        · exact .inr ⟨ys, h1, rfl⟩
      · rw [← r1.length]; exact go c _ (.refl c) sr (.int _)
    cases r0 with
    | str z =>
      have e' : (if z.length ≤ sizeLine then some (D.int z.length) else none) = some d := e
      by_cases hc : z.length ≤ sizeLine
      · rw [if_pos hc] at e'
        cases e'
        exact ⟨_, z.length, rfl, ⟨by simpa [Str.length] using hc, by simp [Str.length]⟩, go c _ (.refl c) sr (.int _)⟩
      · rw [if_neg hc] at e'; cases e'
    | @tup a ds xs h1 r1 => exact fin _ ds (.tup h1 r1) rfl (by cases e; rfl)
    | @lst a ds xs h1 f r1 => exact fin _ ds (.lst h1 f r1) rfl (by cases e; rfl)
    | @scr a ds xs h1 r1 => exact fin _ ds (.scr h1 r1) rfl (by cases e; rfl)
    | @ref n a hn =>
      have e' : (match asS eh (D.ref n) with
        | some xs => some (D.int xs.length)
        | none => none) = some d := e
      cases q : asS eh (.ref n) with
      | none => rw [q] at e'; cases e'
      | some ds => rw [q] at e'; exact fin _ ds (.ref hn) q (by cases e'; rfl)
    | _ => cases e
  | [], _, e => cases e
  | _ :: _ :: _, _, e => cases e
def dInt1 (d : D) : Option D := match d with
  | .int i => some (.int i)
  | .bl k => some (.int (if k then 1 else 0))
  | .str z => if z.length ≤ 640 then (PySem.intText? ⟨z.toArray⟩).map .int else none
  | _ => none
def dInt (_ : EH) (ds : List D) : Option D := match ds with
  | [d] => dInt1 d
  | _ => none
theorem cs_int : CallS K mg (fun xs H Q => ((∃ i, xs = [.int i] ∧ Q (.int i) H) ∨ ∃ k, xs = [.bl k] ∧ Q (.int (if k then 1 else 0)) H) ∨ (∃ a n, xs = [.str a] ∧ PySem.intText? a = some n ∧ a.length ≤ 640 ∧ Q (.int n) H)) dInt := by
  intro c eh xs ds d Q hK hm sr rx e go
  match ds, rx, e with
  | [d0], .cons r0 .nil, e =>
    cases r0 with
    | int i => cases e; exact .inl (.inl ⟨i, rfl, go c _ (.refl c) sr (.int _)⟩)
    | bl k => cases e; exact .inl (.inr ⟨k, rfl, go c _ (.refl c) sr (.int _)⟩)
    | str z =>
      have e' : (if z.length ≤ 640 then (PySem.intText? ⟨z.toArray⟩).map D.int else none) = some d := e
      by_cases hc : z.length ≤ 640
      · rw [if_pos hc] at e'
        cases q : PySem.intText? ⟨z.toArray⟩ with
        | none => rw [q] at e'; cases e'
        | some n => rw [q] at e'; cases e'; exact .inr ⟨_, n, rfl, q, by simpa [Str.length] using hc, go c _ (.refl c) sr (.int _)⟩
      · rw [if_neg hc] at e'; cases e'
    | _ => cases e
  | [], _, e => cases e
  | _ :: _ :: _, _, e => cases e
def dList (h : EH) (ds : List D) : Option D := match ds with
  | [d] => (match asS h d with
    | some xs => some (.lst xs)
    | none => none)
  | _ => none
theorem cs_list : CallS K mg (fun xs H Q => ∃ p ys, xs = [.ref p] ∧ (SqL K H p ys ∨ SqT K H p ys) ∧ ∀ l, H l = none → Q (.ref l) (upd H l (.lst ys))) dList := by
  intro c eh xs ds d Q hK hm sr rx e go
  subst hK
  match ds, rx, e with
  | [d0], .cons r0 .nil, e =>
    cases q : asS eh d0 with
    | none => unfold dList at e; simp only [q] at e; cases e
    | some xs =>
      unfold dList at e
      simp only [q] at e
      cases e
      obtain ⟨a, ys, rfl, h1, r1⟩ := asS_ok sr r0 q
      exact ⟨a, ys, rfl, h1, put_lst sr go r1⟩
  | [], _, e => cases e
  | _ :: _ :: _, _, e => cases e
def dTuple (h : EH) (ds : List D) : Option D := match ds with
  | [d] => (match asS h d with
    | some xs => some (.tup xs)
    | none => none)
  | _ => none
theorem cs_tuple : CallS K mg (fun xs H Q => ∃ p ys, xs = [.ref p] ∧ ((SqL K H p ys ∧ ∀ l, H l = none → Q (.ref l) (upd H l (.tup ys))) ∨ (SqT K H p ys ∧ Q (.ref p) H))) dTuple := by
  intro c eh xs ds d Q hK hm sr rx e go
  subst hK
  match ds, rx, e with
  | [d0], .cons r0 .nil, e =>
    cases q : asS eh d0 with
    | none => unfold dTuple at e; simp only [q] at e; cases e
    | some xs =>
      unfold dTuple at e
      simp only [q] at e
      cases e
      obtain ⟨a, ys, rfl, h1, r1⟩ := asS_ok sr r0 q
      rcases h1 with h1 | h1
      · exact ⟨a, ys, rfl, .inl ⟨h1, put_tup sr go r1⟩⟩
      · exact ⟨a, ys, rfl, .inr ⟨h1, go c _ (.refl c) sr (.tup h1 r1)⟩⟩
  | [], _, e => cases e
  | _ :: _ :: _, _, e => cases e
def asBs : List D → Option (List Bool)
  | [] => some []
  | .bl b :: ds => (asBs ds).map (b :: ·)
  | _ :: _ => none
theorem asBs_ok {c : RC} : ∀ {ds : List D} {xs : List V} {bs : List Bool}, Reps c ds xs → asBs ds = some bs → xs = bs.map V.bl
  | _, _, bs, .nil, e => by cases e; rfl
  | _, _, bs, .cons h t, e => by
    cases h with
    | bl b =>
      unfold asBs at e
      rename_i ds vs
      cases q : asBs ds with
      | none => rw [q] at e; cases e
      | some cs => rw [q] at e; cases e; rw [asBs_ok t q]; rfl
    | _ => cases e
def dAll (h : EH) (ds : List D) : Option D := match ds with
  | [d] => (match asL h d with
    | some xs => (asBs xs).map fun bs => .bl (bs.all id)
    | none => none)
  | _ => none
def dAny (h : EH) (ds : List D) : Option D := match ds with
  | [d] => (match asL h d with
    | some xs => (asBs xs).map fun bs => .bl (bs.any id)
    | none => none)
  | _ => none
theorem cs_all : CallS K mg (rAll K) dAll := by
  intro c eh xs ds d Q hK hm sr rx e go
  subst hK
  match ds, rx, e with
  | [d0], .cons r0 .nil, e =>
    cases q : asL eh d0 with
    | none => unfold dAll at e; simp only [q] at e; cases e
    | some xs =>
      unfold dAll at e
      simp only [q] at e
      obtain ⟨a, ys, rfl, h1, r1⟩ := asL_ok sr r0 q
      cases q2 : asBs xs with
      | none => rw [q2] at e; cases e
      | some bs => rw [q2] at e; cases e; exact ⟨a, bs, rfl, by rw [← asBs_ok r1 q2]; exact h1, go c _ (.refl c) sr (.bl _)⟩
  | [], _, e => cases e
  | _ :: _ :: _, _, e => cases e
end
end PD
namespace PD
open PySem PySem.Spec PyProof.Rows L2
variable [LamTab]
inductive RS where
  | nx (ε : Ev)
  | rt (d : D)
  | bk (ε : Ev)
  | ct (ε : Ev)
  | ex (e : Ex) (ε : Ev)
abbrev MS := Ev → EH → Option (RS × EH)
/-- what is wanted of a statement's end -/
def Fin (W : WX) (D : Ends) (c : RC) (r : RS) (h' : EH) : Prop := match r with
  | .nx ε' => ∀ c' σ', c.Le c' → SR c' h' → EnvR c' ε' σ' → D.nx σ' c'.H
  | .rt d => ∀ c' v, c.Le c' → SR c' h' → Rep c' d v → D.rt v c'.H
  | .bk ε' => ∀ c' σ', c.Le c' → SR c' h' → EnvR c' ε' σ' → D.bk σ' c'.H
  | .ct ε' => ∀ c' σ', c.Le c' → SR c' h' → EnvR c' ε' σ' → D.ct σ' c'.H
  | .ex e ε' => ∀ c' σ' cls dx, c.Le c' → SR c' h' → EnvR c' ε' σ' → ExR c' e cls dx → W cls dx σ' c'.H
theorem Fin.le {W : WX} {D : Ends} {c c1 : RC} {r : RS} {h' : EH} (f : Fin W D c r h') (l : c.Le c1) : Fin W D c1 r h' := by
  cases r with
  | nx ε' => exact fun c' σ' l' => f c' σ' (l.trans l')
  | rt d => exact fun c' v l' => f c' v (l.trans l')
  | bk ε' => exact fun c' σ' l' => f c' σ' (l.trans l')
  | ct ε' => exact fun c' σ' l' => f c' σ' (l.trans l')
  | ex e ε' => exact fun c' σ' cls dx l' => f c' σ' cls dx (l.trans l')
def tS (K : PySem.W.Frag) (mg : Str → Option Value) (W : WX) (m : MS) : TS := fun D σ H =>
  ∃ (c : RC) (ε : Ev) (h : EH) (r : RS) (h' : EH), c.K = K ∧ MgE c mg ∧ c.H = H ∧ SR c h ∧ EnvR c ε σ ∧ m ε h = some (r, h') ∧ Fin W D c r h'
abbrev RSt (X : Cx) (W : WX) (st : Stmt) (m : MS) : Prop := PS X st (tS X.K X.mg W m)
abbrev RSs (X : Cx) (W : WX) (sts : List Stmt) (m : MS) : Prop := PSs X sts (tS X.K X.mg W m)
theorem ps_imp {X : Cx} {st : Stmt} {t t' : TS} (h : PS X st t) (k : ∀ D σ H, t' D σ H → t D σ H) : PS X st t' := ⟨fun pins s σ H D I q => h.run pins s σ H D I (k D σ H q)⟩
theorem pss_imp {X : Cx} {st : List Stmt} {t t' : TS} (h : PSs X st t) (k : ∀ D σ H, t' D σ H → t D σ H) : PSs X st t' := ⟨fun pins s σ H D I q => h.run pins s σ H D I (k D σ H q)⟩
/-- an expression, then a statement's end -/
def bS {α : Type} (x : O α) (ε : Ev) (f : α → EH → Option (RS × EH)) : Option (RS × EH) := match x with
  | some (.ok a, h) => f a h
  | some (.ex e, h) => some (.ex e ε, h)
  | none => none
theorem tX.stm {α β : Type} {Rl : RC → α → β → Prop} {K : PySem.W.Frag} {mg : Str → Option Value} {W : WX} {m : M α} {k : α → EH → Option (RS × EH)} {c : RC} {ε : Ev} {h h' : EH} {r : RS} {σ : L2.St} {D : Ends} {Q : β → Hp → Prop}
    (hK : c.K = K) (hm : MgE c mg) (sr : SR c h) (er : EnvR c ε σ) (e : bS (m ε h) ε k = some (r, h')) (fin : Fin W D c r h')
    (go : ∀ a h1 c1 b, k a h1 = some (r, h') → c.Le c1 → SR c1 h1 → Rl c1 a b → Q b c1.H) : tX Rl K mg W m σ c.H Q := by
  cases q : m ε h with
  | none => rw [q] at e; cases e
  | some z =>
    obtain ⟨r1, h1⟩ := z
    cases r1 with
    | ok a =>
      rw [q] at e
      exact ⟨c, ε, h, .ok a, h1, hK, hm, rfl, sr, er, q, Px.ok, fun a' ea c1 b l s rb => by cases ea; exact go a h1 c1 b e l s rb⟩
    | ex x =>
      rw [q] at e
      cases e
      exact ⟨c, ε, h, .ex x, _, hK, hm, rfl, sr, er, q, fun y ey c' cls dx l s xr => by cases ey; exact fin c' σ cls dx l s (er.le l) xr, fun a' ea => nomatch ea⟩
section
variable {X : Cx} {W : WX}
def msNil : MS := fun ε h => some (.nx ε, h)
def msSeq (a b : MS) : MS := fun ε h => match a ε h with
  | some (.nx ε1, h1) => b ε1 h1
  | some (r, h1) => some (r, h1)
  | none => none
theorem rss_nil : RSs X W [] msNil := by
  refine pss_imp pss_nil fun D σ H h => ?_
  obtain ⟨c, ε, h, r, h', hK, hm, rfl, sr, er, e, fin⟩ := h
  cases e
  exact fin c σ (.refl c) sr er
theorem seq_of {K : PySem.W.Frag} {mg : Str → Option Value} {m1 m2 : MS} {D : Ends} {σ : L2.St} {H : Hp} (h : tS K mg W (msSeq m1 m2) D σ H) : tSeq (tS K mg W m1) (tS K mg W m2) D σ H := by
  obtain ⟨c, ε, h, r, h', hK, hm, rfl, sr, er, e, fin⟩ := h
  unfold msSeq at e
  cases q : m1 ε h with
  | none => rw [q] at e; cases e
  | some z =>
    obtain ⟨r1, h1⟩ := z
    rw [q] at e
    refine ⟨c, ε, h, r1, h1, hK, hm, rfl, sr, er, q, ?_⟩
    cases r1 with
    | nx ε1 => exact fun c' σ' l s en => ⟨c', ε1, h1, r, h', l.K.trans hK, l.mg.trans hm, rfl, s, en, e, fin.le l⟩
    | rt d => cases e; exact fin
    | bk ε' => cases e; exact fin
    | ct ε' => cases e; exact fin
    | ex x ε' => cases e; exact fin
theorem rss_cons {st : Stmt} {rest : List Stmt} {m1 m2 : MS} (h1 : RSt X W st m1) (h2 : RSs X W rest m2) : RSs X W (st :: rest) (msSeq m1 m2) :=
  pss_imp (pss_cons h1 h2) fun _ _ _ h => seq_of h
theorem rss_one {st : Stmt} {m : MS} (h : RSt X W st m) : RSs X W [st] m := pss_one h
def msRet (a : M D) : MS := fun ε h => bS (a ε h) ε fun d h1 => some (.rt d, h1)
theorem rs_ret {e : Expr} {m : M D} {pos : Pos} (he : RE X W e m) : RSt X W (.Return (some e) pos) (msRet m) := by
  refine ps_imp (ps_ret he) fun D σ H h => ?_
  obtain ⟨c, ε, h, r, h', hK, hm, rfl, sr, er, e, fin⟩ := h
  unfold tRet
  refine tX.stm hK hm sr er e fin fun d h1 c1 v e1 l1 s1 r1 => ?_
  cases e1
  exact fin c1 v l1 s1 r1
def msIf (t : M Bool) (a b : MS) : MS := fun ε h => bS (t ε h) ε fun k h1 => if k = true then a ε h1 else b ε h1
theorem rs_if {t : Expr} {a b : List Stmt} {mt : M Bool} {ma mb : MS} {pos : Pos} (ht : RT X W t mt) (ha : RSs X W a ma) (hb : RSs X W b mb) : RSt X W (.If t a b pos) (msIf mt ma mb) := by
  refine ps_imp (ps_if ht ha hb) fun D σ H h => ?_
  obtain ⟨c, ε, h, r, h', hK, hm, rfl, sr, er, e, fin⟩ := h
  unfold tIfS
  refine tX.stm hK hm sr er e fin fun k h1 c1 v e1 l1 s1 r1 => ?_
  subst r1
  cases k with
  | true => exact ⟨c1, ε, h1, r, h', l1.K.trans hK, l1.mg.trans hm, rfl, s1, er.le l1, e1, fin.le l1⟩
  | false => exact ⟨c1, ε, h1, r, h', l1.K.trans hK, l1.mg.trans hm, rfl, s1, er.le l1, e1, fin.le l1⟩
def msExpr (a : M D) : MS := fun ε h => bS (a ε h) ε fun _ h1 => some (.nx ε, h1)
theorem rs_expr {e : Expr} {m : M D} {pos : Pos} (he : RE X W e m) (hs : swapsWith e none pos.line X.env = pure false := by rfl) : RSt X W (.Expr e pos) (msExpr m) := by
  refine ps_imp (ps_expr he hs) fun D σ H h => ?_
  obtain ⟨c, ε, h, r, h', hK, hm, rfl, sr, er, e, fin⟩ := h
  unfold tDrop
  refine tX.stm hK hm sr er e fin fun k h1 c1 v e1 l1 s1 r1 => ?_
  cases e1
  exact fin c1 σ l1 s1 (er.le l1)
def msBk : MS := fun ε h => some (.bk ε, h)
def msCt : MS := fun ε h => some (.ct ε, h)
abbrev MG := D → Ev → EH → Option (Ev × EH)
abbrev MGs := List D → Ev → EH → Option (Ev × EH)
/-- the slots but S are as they were -/
structure Save (S : List Nat) (σ σ' : L2.St) : Prop where
  len : σ'.length = σ.length
  at_ : ∀ i, i ∉ S → σ'[i]? = σ[i]?
theorem Save.refl {S : List Nat} {σ : L2.St} : Save S σ σ := ⟨rfl, fun _ _ => rfl⟩
def tG (K : PySem.W.Frag) (mg : Str → Option Value) (S : List Nat) (m : MG) : TG := fun v σ H Q => ∃ (c : RC) (d : D) (ε : Ev) (h : EH) (ε' : Ev) (h' : EH), c.K = K ∧ MgE c mg ∧ c.H = H ∧ SR c h ∧ Rep c d v ∧ EnvR c ε σ ∧ m d ε h = some (ε', h') ∧ ∀ c' σ', c.Le c' → SR c' h' → EnvR c' ε' σ' → Save S σ σ' → Q σ' c'.H
def tGs (K : PySem.W.Frag) (mg : Str → Option Value) (S : List Nat) (m : MGs) : TGs := fun vs σ H Q => ∃ (c : RC) (ds : List D) (ε : Ev) (h : EH) (ε' : Ev) (h' : EH), c.K = K ∧ MgE c mg ∧ c.H = H ∧ SR c h ∧ Reps c ds vs ∧ EnvR c ε σ ∧ m ds ε h = some (ε', h') ∧ ∀ c' σ', c.Le c' → SR c' h' → EnvR c' ε' σ' → Save S σ σ' → Q σ' c'.H
abbrev RG (X : Cx) (tg : Expr) (S : List Nat) (m : MG) : Prop := PG X tg (tG X.K X.mg S m)
abbrev RGs (X : Cx) (tgs : List Expr) (S : List Nat) (m : MGs) : Prop := PGs X tgs (tGs X.K X.mg S m)
theorem pg_imp {X : Cx} {tg : Expr} {t t' : TG} (h : PG X tg t) (k : ∀ v σ H Q, t' v σ H Q → t v σ H Q) : PG X tg t' := ⟨fun pins s σ H v u Q I r q => h.run pins s σ H v u Q I r (k v σ H Q q)⟩
theorem pgs_imp {X : Cx} {tg : List Expr} {t t' : TGs} (h : PGs X tg t) (k : ∀ v σ H Q, t' v σ H Q → t v σ H Q) : PGs X tg t' := ⟨fun pins s σ H v u Q I r q => h.run pins s σ H v u Q I r (k v σ H Q q)⟩
def mgName (i : Nat) : MG := fun d ε h => some (ε.set i (some d), h)
theorem rg_name (i : Nat) {x : Str} {pos : Pos} (hN : X.N.Nodup) (hi : X.N[i]? = some x := by rfl) (hx : Loc X.env.scope x := by first | exact Or.inl rfl | exact Or.inr rfl) (hf : X.fn x = true ∨ X.env.scope.names.lookup x = some .local := by first | exact .inl rfl | exact .inr rfl | assumption) : RG X (.Name x pos) [i] (mgName i) := by
  refine pg_imp (pg_name hN hi hx hf) fun v σ H Q h => ?_
  obtain ⟨c, d, ε, h, ε', h', hK, hm, rfl, sr, rv, er, e, go⟩ := h
  cases e
  exact go c _ (.refl c) sr (er.set rv i) ⟨List.length_set, fun j hj => List.getElem?_set_ne (fun z => hj (by simp [z]))⟩
def mgNil : MGs := fun ds ε h => match ds with
  | [] => some (ε, h)
  | _ :: _ => none
def mgCons (a : MG) (b : MGs) : MGs := fun ds ε h => match ds with
  | [] => none
  | d :: r => match a d ε h with
    | some (ε1, h1) => b r ε1 h1
    | none => none
theorem rgs_nil : RGs X [] [] mgNil := by
  refine pgs_imp pgs_nil fun vs σ H Q h => ?_
  obtain ⟨c, ds, ε, h, ε', h', hK, hm, rfl, sr, rv, er, e, go⟩ := h
  cases rv with
  | nil => cases e; exact ⟨rfl, go c σ (.refl c) sr er .refl⟩
  | cons _ _ => cases e
theorem rgs_cons {e : Expr} {es : List Expr} {S T : List Nat} {a : MG} {b : MGs} (h1 : RG X e S a) (h2 : RGs X es T b) (hs : (assignEach (e :: es) X.env).map (·.2) = assign e X.env :: (assignEach es X.env).map (·.2) := by rfl) : RGs X (e :: es) (S ++ T) (mgCons a b) := by
  refine pgs_imp (pgs_cons h1 h2 hs) fun vs σ H Q h => ?_
  obtain ⟨c, ds, ε, h, ε', h', hK, hm, rfl, sr, rv, er, e, go⟩ := h
  cases rv with
  | nil => cases e
  | @cons d ds v vs r t =>
    have e' : (match a d ε h with
      | some (ε1, h1) => b ds ε1 h1
      | none => none) = some (ε', h') := e
    cases q : a d ε h with
    | none => rw [q] at e'; cases e'
    | some z =>
      obtain ⟨ε1, h1⟩ := z
      rw [q] at e'
      exact ⟨v, vs, rfl, c, d, ε, h, ε1, h1, hK, hm, rfl, sr, r, er, q, fun c' σ' l s en sv => ⟨c', ds, ε1, h1, ε', h', l.K.trans hK, l.mg.trans hm, rfl, s, t.le l, en, e', fun c2 σ2 l2 s2 en2 sv2 => go c2 σ2 (l.trans l2) s2 en2
        ⟨sv2.len.trans sv.len, fun i hi => (sv2.at_ i fun z => hi (List.mem_append_right _ z)).trans (sv.at_ i fun z => hi (List.mem_append_left _ z))⟩⟩⟩
/-- (a, b, ..) = a tuple of that length -/
def mgTup (n : Nat) (ms : MGs) : MG := fun d ε h => match d with
  | .tup ds => if ds.length = n then ms ds ε h else none
  | _ => none
theorem rg_tup {es : List Expr} {k : Nat} {S : List Nat} {ms : MGs} {pos : Pos} {n : Nat} (hc : X.calm = true) (h : RGs X es S ms) (hn : (assignEach es X.env).length = n := by rfl) (hst : (assignEach es X.env).findIdx? (·.1) = none := by rfl) : RG X (.Tuple es k pos) S (mgTup n ms) := by
  refine pg_imp (pg_tup hc h hn hst) fun v σ H Q h => ?_
  obtain ⟨c, d, ε, h, ε', h', hK, hm, rfl, sr, rv, er, e, go⟩ := h
  cases rv with
  | @tup a ds xs k1 k2 =>
    have e' : (if ds.length = n then ms ds ε h else none) = some (ε', h') := e
    by_cases hl : ds.length = n
    · rw [if_pos hl] at e'
      exact ⟨a, xs, rfl, by rw [← hK]; exact k1, by rw [← k2.length]; exact hl, c, ds, ε, h, ε', h', hK, hm, rfl, sr, k2, er, e', go⟩
    · rw [if_neg hl] at e'; cases e'
  | _ => cases e
/-- o[i] = v, o a list cell -/
def putL (h : EH) (o i v : D) : Option EH := match o, i with
  | .ref n, .int k => (match h[n]? with
    | some (.lst ds) => (match ixN ds.length k with
      | some j => some (h.set n (.lst (ds.set j v)))
      | none => none)
    | _ => none)
  | _, _ => none
def mgSub (o i : M D) : MG := fun v ε h => match o ε h with
  | some (.ok x, h1) => (match i ε h1 with
    | some (.ok y, h2) => (putL h2 x y v).map fun h3 => (ε, h3)
    | _ => none)
  | _ => none
theorem rg_sub {o i : Expr} {mo mi : M D} {pos : Pos} {W : WX} (ho : RE X W o mo) (hi : RE X W i mi)
    (ha : ∀ v, assign (.Subscript o i pos) X.env v = (do
      let ov ← holding [v] (eval o X.env)
      let iv ← holding [v, ov] (eval i X.env)
      standAt pos
      holding [v, ov, iv] (setItem ov iv v)
      release [v, ov, iv] []) := by intro _; rfl) : RG X (.Subscript o i pos) [] (mgSub mo mi) := by
  refine pg_imp (pg_sub ho hi set_list ha) fun v σ H Q h => ?_
  obtain ⟨c, d, ε, h, ε', h', hK, hm, rfl, sr, rv, er, e, go⟩ := h
  unfold mgSub at e
  cases q : mo ε h with
  | none => rw [q] at e; cases e
  | some z =>
    obtain ⟨r1, h1⟩ := z
    cases r1 with
    | ex x => rw [q] at e; cases e
    | ok x =>
      rw [q] at e
      dsimp only at e
      refine ⟨c, ε, h, .ok x, h1, hK, hm, rfl, sr, er, q, Px.ok, fun x' ex c1 ov l1 s1 r1 => ?_⟩
      cases ex
      cases q2 : mi ε h1 with
      | none => rw [q2] at e; cases e
      | some z =>
        obtain ⟨r2, h2⟩ := z
        cases r2 with
        | ex x => rw [q2] at e; cases e
        | ok y =>
          rw [q2] at e
          dsimp only at e
          refine ⟨c1, ε, h1, .ok y, h2, l1.K.trans hK, l1.mg.trans hm, rfl, s1, er.le l1, q2, Px.ok, fun y' ey c2 iv l2 s2 r2 => ?_⟩
          cases ey
          cases q3 : putL h2 x y d with
          | none => rw [q3] at e; cases e
          | some h3 =>
            rw [q3] at e
            cases e
            cases r2 with
            | int k =>
              have r1' := r1.le l2
              cases r1' with
              | @ref n a hn =>
                unfold putL at q3
                dsimp only at q3
                cases q4 : h2[n]? with
                | none => rw [q4] at q3; cases q3
                | some cl =>
                  rw [q4] at q3
                  cases cl with
                  | lst ds =>
                    dsimp only at q3
                    obtain ⟨xs, e1, e2⟩ := s2.cells n a _ hn q4
                    cases q5 : ixN ds.length k with
                    | none => rw [q5] at q3; cases q3
                    | some j =>
                      rw [q5] at q3
                      cases q3
                      refine ⟨a, xs, k, j, rfl, rfl, e1, by rw [← e2.length]; exact q5, ?_⟩
                      have rv2 : Rep c2 d v := (rv.le l1).le l2
                      obtain ⟨l3, s3⟩ := s2.write (o := .lst (xs.set j v)) (k := .lst (ds.set j d)) hn (fun ys z => by
                        rcases z with z | ⟨u, z⟩ <;> rw [e1] at z <;> cases z) (fun o u z => by rw [e1] at z; cases z) fun c' l' eh => ⟨_, eh, (e2.le l').set (rv2.le l') j⟩
                      exact go _ σ ((l1.trans l2).trans l3) s3 (((er.le l1).le l2).le l3) .refl
                  | _ => cases q3
              | _ => cases q3
            | _ => cases x <;> cases q3
def bG (x : Option (Ev × EH)) : Option (RS × EH) := x.map fun z => (.nx z.1, z.2)
def msAsg (a : M D) (g : MG) : MS := fun ε h => bS (a ε h) ε fun d h1 => bG (g d ε h1)
theorem asg_of {K : PySem.W.Frag} {mg : Str → Option Value} {a : M D} {g : MG} {S : List Nat} {D : Ends} {σ : L2.St} {H : Hp} (h : tS K mg W (msAsg a g) D σ H) : tAsg (tE K mg W a) (tG K mg S g) D σ H := by
  obtain ⟨c, ε, h, r, h', hK, hm, rfl, sr, er, e, fin⟩ := h
  unfold tAsg
  refine tX.stm hK hm sr er e fin fun d h1 c1 v e1 l1 s1 r1 => ?_
  cases q : g d ε h1 with
  | none => rw [q] at e1; cases e1
  | some z =>
    obtain ⟨ε2, h2⟩ := z
    rw [q] at e1
    cases e1
    exact ⟨c1, d, ε, h1, ε2, _, l1.K.trans hK, l1.mg.trans hm, rfl, s1, r1, er.le l1, q, fun c' σ' l s en _ => fin c' σ' (l1.trans l) s en⟩
theorem rs_asg {tg e : Expr} {m : M D} {g : MG} {S : List Nat} {pos : Pos} (he : RE X W e m) (hg : RG X tg S g) (hs : swapsWithSole [tg] e pos.line X.env = pure false := by rfl) (hw : swappedStores [tg] e X.env = pure none := by rfl)
    (h1 : (assignEach [tg] X.env).map (·.2) = [assign tg X.env] := by rfl) : RSt X W (.Assign [tg] e pos) (msAsg m g) := ps_imp (ps_asg he hg hs hw h1) fun _ _ _ h => asg_of h
theorem rs_set (i : Nat) {x : Str} {e : Expr} {m : M D} {pos pos' : Pos} (hN : X.N.Nodup) (he : RE X W e m) (hi : X.N[i]? = some x := by rfl) (hx : Loc X.env.scope x := by first | exact Or.inl rfl | exact Or.inr rfl) (hs : swapsWith e (some (.Name x pos')) pos.line X.env = pure false := by rfl)
    (hf : X.fn x = true ∨ X.env.scope.names.lookup x = some .local := by first | exact .inl rfl | exact .inr rfl | assumption) : RSt X W (.Assign [.Name x pos'] e pos) (msAsg m (mgName i)) := by
  refine ps_imp (ps_set hN hi hx he hs hf) fun D σ H h => ?_
  obtain ⟨c, ε, h, r, h', hK, hm, rfl, sr, er, e, fin⟩ := h
  unfold tAsg
  refine tX.stm hK hm sr er e fin fun d h1 c1 v e1 l1 s1 r1 => ?_
  cases e1
  exact fin c1 _ l1 s1 ((er.le l1).set r1 i)
/-- a, b = x, y with plain local names -/
def msPar (i j : Nat) (m : M (List D)) : MS := fun ε h => bS (m ε h) ε fun ds h1 => match ds with
  | [d, e] => some (.nx ((ε.set i (some d)).set j (some e)), h1)
  | _ => none
end
end PD
namespace PD
open PySem PySem.Spec PyProof.Rows L2
variable [LamTab]
/-- the walk J gives ds -/
def WalkR (c : RC) (ds : List D) (J : It) : Prop := ∃ (G : Hp → Prop) (Y : Nat → Hp → V → Hp → Prop), Walk J ds.length G Y ∧ (∀ c', c.LeW c' → G c'.H) ∧
  ∀ (i : Nat) (x : V) (c' : RC) (h : EH) (H' : Hp), c.LeW c' → SR c' h → Y i c'.H x H' → ∃ c'', c''.H = H' ∧ c'.Le c'' ∧ SR c'' h ∧ ∃ d, ds[i]? = some d ∧ Rep c'' d x
theorem WalkR.le {c c1 : RC} {ds : List D} {J : It} (w : WalkR c ds J) (l : c.Le c1) : WalkR c1 ds J := by
  obtain ⟨G, Y, hw, hG, hY⟩ := w
  exact ⟨G, Y, hw, fun c' l' => hG c' (l.toW.trans l'), fun i x c' h H' l' => hY i x c' h H' (l.toW.trans l')⟩
def tI (K : PySem.W.Frag) (mg : Str → Option Value) (W : WX) (m : M (List D)) : TI := tX WalkR K mg W m
abbrev RI (X : Cx) (W : WX) (tg it : Expr) (m : M (List D)) : Prop := PI X tg it (tI X.K X.mg W m)
theorem pi_imp {X : Cx} {tg it : Expr} {t t' : TI} (h : PI X tg it t) (k : ∀ σ H Q, t' σ H Q → t σ H Q) : PI X tg it t' := ⟨fun pins s σ H R I q => h.run pins s σ H R I (k σ H R q)⟩
theorem walkR_list {c : RC} {a : Addr} {ds : List D} {xs : List V} (h : ∀ c', c.LeW c' → SqL c.K c'.H a xs) (r : Reps c ds xs) : WalkR c ds (Itl c.K a) := by
  refine ⟨fun H => SqL c.K H a xs, YAt xs, ?_, h, fun i x c' h H' l s y => ?_⟩
  · rw [r.length]; exact walk_list
  · obtain ⟨rfl, e⟩ := y
    obtain ⟨d, h1, h2⟩ := (r.leW l).getV e
    exact ⟨c', rfl, .refl c', s, d, h1, h2⟩
theorem walkR_tup {c : RC} {a : Addr} {ds : List D} {xs : List V} (h : SqT c.K c.H a xs) (r : Reps c ds xs) : WalkR c ds (Itt c.K a) := by
  refine ⟨fun H => SqT c.K H a xs, YAt xs, ?_, fun c' l => by rw [← l.K]; exact l.sqT h, fun i x c' h H' l s y => ?_⟩
  · rw [r.length]; exact walk_tup
  · obtain ⟨rfl, e⟩ := y
    obtain ⟨d, h1, h2⟩ := (r.leW l).getV e
    exact ⟨c', rfl, .refl c', s, d, h1, h2⟩
def miL (a : M D) : M (List D) := fun ε h => bR (a ε h) fun x h1 => match x with
  | .lst ds => some (.ok ds, h1)
  | .scr ds => some (.ok ds, h1)
  | _ => none
def miT (a : M D) : M (List D) := fun ε h => bR (a ε h) fun x h1 => match x with
  | .tup ds => some (.ok ds, h1)
  | _ => none
def miS (a : M D) : M (List D) := fun ε h => bR (a ε h) fun x h1 => match x with
  | .str z => some (.ok (z.map fun c => .str [c]), h1)
  | _ => none
section
variable {X : Cx} {W : WX} {tg : Expr}
theorem ri_list {e : Expr} {m : M D} (he : RE X W e m) : RI X W tg e (miL m) := by
  refine pi_imp (pi_list he) fun σ H R h => ?_
  obtain ⟨c, ε, h, r, h', hK, hm, rfl, sr, er, e, px, go⟩ := h
  unfold iList
  refine tX.bind hK hm sr er e px fun d h1 c1 v e1 l1 s1 r1 => ?_
  cases r1 with
  | @lst a ds xs k1 k2 k3 =>
    cases e1
    refine ⟨a, rfl, ⟨xs, .inl (.inl k1)⟩, go _ rfl c1 _ l1 s1 ?_⟩
    rw [← hK, ← l1.K]
    exact walkR_list (fun c' l => .inl (.inl (l.lstH k1 k2).1)) k3
  | @scr a ds xs k1 k2 =>
    cases e1
    refine ⟨a, rfl, ⟨xs, by rw [← hK, ← l1.K]; exact k1.sq⟩, go _ rfl c1 _ l1 s1 ?_⟩
    rw [← hK, ← l1.K]
    exact walkR_list (fun c' l => by rw [← l.K]; exact (l.scrL k1).sq) k2
  | _ => cases e1
theorem ri_tup {e : Expr} {m : M D} (he : RE X W e m) : RI X W tg e (miT m) := by
  refine pi_imp (pi_tup he) fun σ H R h => ?_
  obtain ⟨c, ε, h, r, h', hK, hm, rfl, sr, er, e, px, go⟩ := h
  unfold iTup
  refine tX.bind hK hm sr er e px fun d h1 c1 v e1 l1 s1 r1 => ?_
  cases r1 with
  | @tup a ds xs k1 k2 =>
    cases e1
    refine ⟨a, rfl, ⟨xs, by rw [← hK, ← l1.K]; exact k1⟩, go _ rfl c1 _ l1 s1 ?_⟩
    rw [← hK, ← l1.K]
    exact walkR_tup k1 k2
  | _ => cases e1
theorem ri_str {e : Expr} {m : M D} (he : RE X W e m) : RI X W tg e (miS m) := by
  refine pi_imp (pi_str he) fun σ H R h => ?_
  obtain ⟨c, ε, h, r, h', hK, hm, rfl, sr, er, e, px, go⟩ := h
  unfold iStr
  refine tX.bind hK hm sr er e px fun d h1 c1 v e1 l1 s1 r1 => ?_
  cases r1 with
  | str z =>
    cases e1
    refine ⟨_, rfl, go _ rfl c1 _ l1 s1 ⟨fun _ => True, fun i H v H' => H' = H ∧ ∃ c, (⟨z.toArray⟩ : Str).cps[i]? = some c ∧ v = .str ⟨#[c]⟩, ?_, fun _ _ => trivial, fun i x c' h H' l s y => ?_⟩⟩
    · have w := walk_str (z := (⟨z.toArray⟩ : Str))
      rw [List.length_map]
      exact w
    · obtain ⟨rfl, k, h1, rfl⟩ := y
      refine ⟨c', rfl, .refl c', s, .str [k], ?_, .str [k]⟩
      have h1' : z[i]? = some k := by simpa using h1
      rw [List.getElem?_map, h1']
      rfl
  | _ => cases e1
/-- range(n) -/
def rngD (lo : Int) (n : Nat) : List D := (List.range n).map fun i => .int (lo + (i : Nat))
def miR1 (a : M (List D)) : M (List D) := fun ε h => bR (a ε h) fun xs h1 => match xs with
  | [.int j] => if -(2 ^ 62) ≤ j ∧ j < 2 ^ 62 then some (.ok (rngD 0 j.toNat), h1) else none
  | _ => none
def miR2 (a : M (List D)) : M (List D) := fun ε h => bR (a ε h) fun xs h1 => match xs with
  | [.int i, .int j] => if -(2 ^ 62) ≤ i ∧ i < 2 ^ 62 ∧ -(2 ^ 62) ≤ j ∧ j < 2 ^ 62 then some (.ok (rngD i (j - i).toNat), h1) else none
  | _ => none
theorem walkR_range {c : RC} (lo : Int) (n : Nat) : WalkR c (rngD lo n) (Itr lo n) := by
  refine ⟨fun _ => True, fun i H x H' => i < n ∧ H' = H ∧ x = .int (lo + (i : Nat)), ?_, fun _ _ => trivial, fun i x c' h H' l s y => ?_⟩
  · have w := walk_range (lo := lo) (n := n)
    have e : (rngD lo n).length = n := by simp [rngD]
    rw [e]
    exact ⟨w.goes, w.stops, fun i H x H' hi g y => (show i < n ∧ H' = H ∧ x = .int (lo + (i : Nat)) from ⟨hi, w.yields i H x H' hi g y⟩)⟩
  · obtain ⟨hi, rfl, rfl⟩ := y
    refine ⟨c', rfl, .refl c', s, .int (lo + (i : Nat)), ?_, .int _⟩
    unfold rngD
    rw [List.getElem?_map, List.getElem?_range hi]
    rfl
theorem ri_range1 {a : Expr} {ma : M (List D)} {p pos : Pos} (hm : X.mg "range" = none) (ha : RA X W [a] ma) (hg : Gl X "range" := by rfl) (hs : starEach [a] X.env = [(false, eval a X.env)] := by rfl) : RI X W tg (.Call (.Name "range" p) [a] [] pos) (miR1 ma) := by
  refine pi_imp (pi_range1 hg hm ha hs) fun σ H R h => ?_
  obtain ⟨c, ε, h, r, h', hK, hm, rfl, sr, er, e, px, go⟩ := h
  unfold iRng1
  refine tX.bind hK hm sr er e px fun ds h1 c1 vs e1 l1 s1 r1 => ?_
  cases r1 with
  | nil => cases e1
  | cons q t =>
    cases q with
    | int j =>
      cases t with
      | nil =>
        have e' : (if -(2 ^ 62) ≤ j ∧ j < 2 ^ 62 then some (PD.R.ok (rngD 0 j.toNat), h1) else none) = some (r, h') := e1
        by_cases hc : -(2 ^ 62) ≤ j ∧ j < 2 ^ 62
        · rw [if_pos hc] at e'
          cases e'
          exact ⟨j, rfl, hc.1, hc.2, go _ rfl c1 _ l1 s1 (walkR_range 0 j.toNat)⟩
        · rw [if_neg hc] at e'; cases e'
      | cons _ _ => cases e1
    | _ => cases e1
/-- pairs, each a new tuple -/
theorem walkR_pair {c : RC} {J : It} {G : Hp → Prop} {f g : Nat → Option V} {ds : List D} (w : Walk J ds.length G (YPair f g)) (hG : ∀ c', c.LeW c' → G c'.H)
    (hd : ∀ (i : Nat) (x y : V) (c' : RC), c.LeW c' → f i = some x → g i = some y → ∃ d e, ds[i]? = some (.tup [d, e]) ∧ Rep c' d x ∧ Rep c' e y) : WalkR c ds J := by
  refine ⟨G, _, w, hG, fun i v c' h H' l s y => ?_⟩
  obtain ⟨T, x, z, rfl, hT, rfl, h1, h2⟩ := y
  obtain ⟨d, e, e1, r1, r2⟩ := hd i x z c' l h1 h2
  obtain ⟨l', s', f'⟩ := s.new (o := .tup [x, z]) hT
  exact ⟨c'.put T (.tup [x, z]), rfl, l', s', _, e1, .tup (.inl (.inl upd_same)) (.cons (r1.le l') (.cons (r2.le l') .nil))⟩
def zipD (as bs : List D) : List D := (as.zip bs).map fun p => .tup [p.1, p.2]
def miZip (a : M (List D)) : M (List D) := fun ε h => bR (a ε h) fun xs h1 => match xs with
  | [x, y] => (match x, y with
    | .lst as, .lst bs => some (.ok (zipD as bs), h1)
    | .tup as, .tup bs => some (.ok (zipD as bs), h1)
    | _, _ => none)
  | _ => none
theorem zip_at {c : RC} {as bs : List D} {xs ys : List V} (ra : Reps c as xs) (rb : Reps c bs ys) (i : Nat) (x y : V) (c' : RC) (l : c.LeW c') (e1 : xs[i]? = some x) (e2 : ys[i]? = some y) : ∃ d e, (zipD as bs)[i]? = some (.tup [d, e]) ∧ Rep c' d x ∧ Rep c' e y := by
  obtain ⟨d, h1, r1⟩ := ra.getV e1
  obtain ⟨e, h2, r2⟩ := rb.getV e2
  refine ⟨d, e, ?_, r1.leW l, r2.leW l⟩
  unfold zipD
  rw [List.getElem?_map, List.getElem?_zip_eq_some.mpr (show as[i]? = some (d, e).1 ∧ bs[i]? = some (d, e).2 from ⟨h1, h2⟩)]
  rfl
theorem ri_zip {e e2 : Expr} {ma : M (List D)} {p pos tpos : Pos} {elts : List Expr} {kk : Nat} (hm : X.mg "zip" = none) (ha : RA X W [e, e2] ma) (hg : Gl X "zip" := by rfl)
    (hs : starEach [e, e2] X.env = (false, eval e X.env) :: starEach [e2] X.env := by rfl) (hpl : (backTo pos (starEach [e2] X.env)).any (·.1) = false := by rfl) : RI X W (.Tuple elts kk tpos) (.Call (.Name "zip" p) [e, e2] [] pos) (miZip ma) := by
  refine pi_imp (RZ.pi_zipA hg hm ha hs hpl) fun σ H R h => ?_
  obtain ⟨c, ε, h, r, h', hK, hm, rfl, sr, er, e, px, go⟩ := h
  unfold RZ.iZipA
  refine tX.bind hK hm sr er e px fun ds h1 c1 vs e1 l1 s1 r1 => ?_
  have hK1 : c1.K = X.K := l1.K.trans hK
  match ds, r1, e1 with
  | [d1, d2], .cons q1 (.cons q2 .nil), e1 =>
    cases q1 with
    | @lst a as xs k1 k2 k3 =>
      cases q2 with
      | @lst b bs ys j1 j2 j3 =>
        cases e1
        refine ⟨a, b, xs, ys, rfl, .inl ⟨.inl (.inl k1), .inl (.inl j1), go _ rfl c1 _ l1 s1 (walkR_pair (G := fun H => SqL X.K H a xs ∧ SqL X.K H b ys) (walk_zip ?_) (fun c' l => ⟨.inl (.inl (l.lstH k1 k2).1), .inl (.inl (l.lstH j1 j2).1)⟩) (zip_at k3 j3))⟩⟩
        simp [zipD, k3.length, j3.length]
      | _ => cases e1
    | @tup a as xs k1 k2 =>
      cases q2 with
      | @tup b bs ys j1 j2 =>
        cases e1
        have w : Walk (RZ.ItzT X.K a b) (zipD as bs).length (fun H => SqT X.K H a xs ∧ SqT X.K H b ys) (YPair (fun i => xs[i]?) (fun i => ys[i]?)) := by
          have en : (zipD as bs).length = min xs.length ys.length := by simp [zipD, k2.length, j2.length]
          rw [en]
          refine ⟨fun i _ hi q => ?_, fun _ q => ⟨xs, ys, q.1, q.2, by omega⟩, fun i H v H' _ q y => ?_⟩
          · have h1 : i < xs.length := by omega
            have h2 : i < ys.length := by omega
            exact ⟨xs, ys, xs[i], ys[i], q.1, q.2, by simp [h1], by simp [h2]⟩
          · obtain ⟨T, x, z, h1, h2, h3, h4, h5⟩ := y
            exact ⟨T, x, z, h1, h2, h3, h4 xs q.1, h5 ys q.2⟩
        refine ⟨a, b, xs, ys, rfl, .inr ⟨by rw [← hK1]; exact k1, by rw [← hK1]; exact j1, go _ rfl c1 _ l1 s1 (walkR_pair w (fun c' l => ?_) (zip_at k2 j2))⟩⟩
        rw [← hK1, ← l.K]
        exact ⟨l.sqT k1, l.sqT j1⟩
      | _ => cases e1
    | _ => cases e1
  | [], _, e1 => cases e1
  | [_], _, e1 => cases e1
  | _ :: _ :: _ :: _, _, e1 => cases e1
def enumD (as : List D) : List D := as.zipIdx.map fun p => .tup [.int (p.2 : Nat), p.1]
def forL (g : MG) (b : MS) : List D → Ev → EH → Option (RS × EH)
  | [], ε, h => some (.nx ε, h)
  | d :: ds, ε, h => match g d ε h with
    | none => none
    | some (ε1, h1) => match b ε1 h1 with
      | some (.nx ε2, h2) => forL g b ds ε2 h2
      | some (.ct ε2, h2) => forL g b ds ε2 h2
      | some (.bk ε2, h2) => some (.nx ε2, h2)
      | some (.rt d, h2) => some (.rt d, h2)
      | some (.ex e ε2, h2) => some (.ex e ε2, h2)
      | none => none
def msFor (it : M (List D)) (g : MG) (b : MS) : MS := fun ε h => bS (it ε h) ε fun ds h1 => forL g b ds ε h1
theorem rs_for {iter : Expr} {body : List Stmt} {mi : M (List D)} {g : MG} {S : List Nat} {b : MS} {pos : Pos} (hp : PassesOwn (model X.prog X.w) X.A X.env X.xe) (hc : X.calm = true) (hi : RI X W tg iter mi) (hg : RG X tg S g) (hb : RSs X W body b)
    (hs : ∀ x, foldedSetIterable iter X.env x = pure x := by intro _; rfl) : RSt X W (.For tg iter body [] pos) (msFor mi g b) := by
  refine ps_imp (ps_for hp hc hi hg hb hs) fun D σ H h => ?_
  obtain ⟨c, ε, h, r, h', hK, hm, rfl, sr, er, e, fin⟩ := h
  unfold tFor
  refine tX.stm hK hm sr er e fin fun ds h1 c1 J e1 l1 s1 r1 => ?_
  obtain ⟨G, Y, hw, hG, hY⟩ := r1
  have hK1 := l1.K.trans hK
  have hm1 := l1.mg.trans hm
  refine for_it hw (fun i σ H => ∃ c2 ε2 h2, c1.Le c2 ∧ c2.H = H ∧ SR c2 h2 ∧ EnvR c2 ε2 σ ∧ forL g b (ds.drop i) ε2 h2 = some (r, h')) ⟨c1, ε, h1, .refl c1, rfl, s1, er.le l1, by simpa using e1⟩ ?_ ?_ ?_
  · rintro i σ H hi ⟨c2, ε2, h2, l2, rfl, _⟩
    exact hG c2 l2.toW
  · rintro i x σ H H' hi ⟨c2, ε2, h2, l2, rfl, s2, en2, e2⟩ y
    obtain ⟨c3, rfl, l3, s3, d, hd, rd⟩ := hY i x c2 h2 H' l2.toW s2 y
    have hdr : ds.drop i = d :: ds.drop (i + 1) := by
      rw [List.drop_eq_getElem_cons hi]
      have : ds[i] = d := by
        have := List.getElem?_eq_getElem hi
        rw [this] at hd
        exact Option.some.inj hd
      rw [this]
    rw [hdr] at e2
    unfold forL at e2
    cases q : g d ε2 h2 with
    | none => rw [q] at e2; cases e2
    | some z =>
      obtain ⟨ε3, h3⟩ := z
      rw [q] at e2
      dsimp only at e2
      refine ⟨c3, d, ε2, h2, ε3, h3, ((l3.K.trans l2.K).trans hK1), ((l3.mg.trans l2.mg).trans hm1), rfl, s3, rd, en2.le l3, q, fun c4 σ4 l4 s4 en4 _ => ?_⟩
      have L4 := (l2.trans l3).trans l4
      cases q2 : b ε3 h3 with
      | none => rw [q2] at e2; cases e2
      | some z =>
        obtain ⟨rb, h5⟩ := z
        rw [q2] at e2
        refine ⟨c4, ε3, h3, rb, h5, L4.K.trans hK1, L4.mg.trans hm1, rfl, s4, en4, q2, ?_⟩
        cases rb with
        | nx ε5 => exact fun c5 σ5 l5 s5 en5 => ⟨c5, ε5, h5, L4.trans l5, rfl, s5, en5, e2⟩
        | ct ε5 => exact fun c5 σ5 l5 s5 en5 => ⟨c5, ε5, h5, L4.trans l5, rfl, s5, en5, e2⟩
        | bk ε5 => cases e2; exact (fin.le (l1.trans L4))
        | rt d5 => cases e2; exact (fin.le (l1.trans L4))
        | ex x5 ε5 => cases e2; exact (fin.le (l1.trans L4))
  · rintro σ H ⟨c2, ε2, h2, l2, rfl, s2, en2, e2⟩
    rw [List.drop_length] at e2
    cases e2
    exact fin c2 σ (l1.trans l2) s2 en2
end
end PD
namespace PD
open PySem PySem.Spec PyProof.Rows L2
variable [LamTab]
/-- nothing is let out -/
abbrev W0 : WX := fun _ _ _ _ => False
def wipeE (ε : Ev) : List Nat → Ev
  | [] => ε
  | i :: r => (wipeE ε r).set i none
theorem wipe_envR {c : RC} : ∀ (vs : List Nat) {ε : Ev} {σ : L2.St}, EnvR c ε σ → EnvR c (wipeE ε vs) (wipe σ vs)
  | [], _, _, r => r
  | i :: vs, ε, σ, r => by
    have ih := wipe_envR vs r
    unfold wipeE wipe
    refine ⟨by rw [List.length_set, List.length_set]; exact ih.len, fun j d h => ?_⟩
    by_cases hj : i = j
    · subst hj
      have hi : i < (wipeE ε vs).length := by
        have := (List.getElem?_eq_some_iff.mp h).1
        rwa [List.length_set] at this
      rw [List.getElem?_set_self hi] at h
      cases h
    · rw [List.getElem?_set_ne hj] at h
      rw [List.getElem?_set_ne hj]
      exact ih.at_ j d h
theorem wipe_in {i : Nat} : ∀ {vs : List Nat} {σ : L2.St}, i ∈ vs → i < σ.length → (wipe σ vs)[i]? = some none
  | v :: vs, σ, hi, hl => by
    unfold wipe
    by_cases e : v = i
    · subst e
      rw [List.getElem?_set_self (by rw [wipe_length]; exact hl)]
    · rw [List.getElem?_set_ne e]
      exact wipe_in ((List.mem_cons.mp hi).resolve_left fun z => e z.symm) hl
theorem wipe_save {S vs : List Nat} {σ σ' : L2.St} (s : Save S (wipe σ vs) σ') (h : ∀ i ∈ S, i ∈ vs) : wipe σ' vs = wipe σ vs := by
  have hl : σ'.length = σ.length := by rw [s.len, wipe_length]
  refine List.ext_getElem? fun i => ?_
  by_cases hi : i ∈ vs
  · by_cases hb : i < σ.length
    · rw [wipe_in hi (by rw [hl]; exact hb), wipe_in hi hb]
    · rw [List.getElem?_eq_none (by rw [wipe_length, hl]; omega), List.getElem?_eq_none (by rw [wipe_length]; omega)]
  · rw [wipe_out hi, s.at_ i fun z => hi (h i z)]
/-- the tests of a clause -/
abbrev RTs (X : Cx) (W : WX) (ifs : List Expr) (m : M Bool) : Prop := PTs X ifs (tT X.K X.mg W m)
def mYes : M Bool := fun _ h => some (.ok true, h)
theorem pts_imp {X : Cx} {ifs : List Expr} {t t' : TT} (h : PTs X ifs t) (k : ∀ σ H Q, t' σ H Q → t σ H Q) : PTs X ifs t' := ⟨fun pins s σ H Q I q => h.run pins s σ H Q I (k σ H Q q)⟩
theorem rts_nil {X : Cx} {W : WX} : RTs X W [] mYes := by
  refine pts_imp pts_nil fun σ H Q h => ?_
  obtain ⟨c, ε, h, r, h', hK, hm, rfl, sr, er, e, px, go⟩ := h
  cases e
  exact go _ rfl c _ (.refl c) sr rfl
theorem rts_one {X : Cx} {W : WX} {e : Expr} {m : M Bool} (h : RT X W e m) : RTs X W [e] m := pts_one h
/-- the items of a comprehension; nothing is raised within -/
def lcL (g : MG) (t : M Bool) (e : M D) : List D → Ev → EH → Option (List D × EH)
  | [], _, h => some ([], h)
  | d :: ds, ε, h => match g d ε h with
    | none => none
    | some (ε1, h1) => match t ε1 h1 with
      | some (.ok true, h2) => (match e ε1 h2 with
        | some (.ok y, h3) => (match lcL g t e ds ε h3 with
          | some (ys, h4) => some (y :: ys, h4)
          | none => none)
        | _ => none)
      | some (.ok false, h2) => lcL g t e ds ε h2
      | _ => none
def okL (x : Option (List D × EH)) : O D := match x with
  | some (ds, h) => if ds.length ≤ sizeLine then some (.ok (.lst ds), h) else none
  | none => none
def mLc (vs : List Nat) (it : M (List D)) (g : MG) (t : M Bool) (e : M D) : M D := fun ε h => bR (it ε h) fun ds h1 => okL (lcL g t e ds (wipeE ε vs) h1)
/-- other things not to be touched -/
abbrev RC.av (c : RC) (B : Addr → Prop) : RC := { c with B := B }
mutual
theorem Rep.fewer {c : RC} {B : Addr → Prop} (hB : ∀ a, B a → c.B a) : ∀ {d : D} {v : V}, Rep c d v → Rep (c.av B) d v
  | _, _, .non => .non
  | _, _, .bl b => .bl b
  | _, _, .int i => .int i
  | _, _, .str cs => .str cs
  | _, _, .tup h r => .tup h (Reps.fewer hB r)
  | _, _, .lst h f r => .lst h ⟨fun z => f.1 (hB _ z), f.2⟩ (Reps.fewer hB r)
  | _, _, .scr h r => .scr h (Reps.fewer hB r)
  | _, _, .obj m h f r => .obj m h ⟨fun z => f.1 (hB _ z), f.2⟩ (RepF.fewer hB r)
  | _, _, .dic h i f r => .dic h i ⟨fun z => f.1 (hB _ z), f.2⟩ (RepP.fewer hB r)
  | _, _, .fn h f h2 f2 cr r => .fn h ⟨fun z => f.1 (hB _ z), f.2⟩ h2 ⟨fun z => f2.1 (hB _ z), f2.2⟩ (cr.imp fun b o hb fb => ⟨hb, fun z => fb.1 (hB _ z), fb.2⟩) (Reps.fewer hB r)
  | _, _, .exc m h f h2 f2 r => .exc m h ⟨fun z => f.1 (hB _ z), f.2⟩ h2 ⟨fun z => f2.1 (hB _ z), f2.2⟩ (RepF.fewer hB r)
  | _, _, .ref h => .ref h
theorem Reps.fewer {c : RC} {B : Addr → Prop} (hB : ∀ a, B a → c.B a) : ∀ {ds : List D} {vs : List V}, Reps c ds vs → Reps (c.av B) ds vs
  | _, _, .nil => .nil
  | _, _, .cons h t => .cons (Rep.fewer hB h) (Reps.fewer hB t)
theorem RepP.fewer {c : RC} {B : Addr → Prop} (hB : ∀ a, B a → c.B a) : ∀ {ds : List (List Key × D)} {vs : List (List Key × V)}, RepP c ds vs → RepP (c.av B) ds vs
  | _, _, .nil => .nil
  | _, _, .cons h t => .cons (Rep.fewer hB h) (RepP.fewer hB t)
theorem RepF.fewer {c : RC} {B : Addr → Prop} (hB : ∀ a, B a → c.B a) : ∀ {ds : List (Str × D)} {vs : List (Str × V)}, RepF c ds vs → RepF (c.av B) ds vs
  | _, _, .nil => .nil
  | _, _, .cons h t => .cons (Rep.fewer hB h) (RepF.fewer hB t)
end
/-- c before the list at p was laid, c' with the list not to be touched -/
structure Over (c c' : RC) (p : Addr) : Prop where
  le : c.Le c'
  Bp : c'.B p
  new : c.H p = none
  bt : ∀ a, c.B a → ∃ o, c.H a = some o
theorem Over.step {c c' c'' : RC} {p : Addr} (o : Over c c' p) (l : c'.Le c'') : Over c c'' p := ⟨o.le.trans l, l.B p o.Bp, o.new, o.bt⟩
/-- back: the list is one's own -/
theorem Over.back {c c' : RC} {p : Addr} (o : Over c c' p) : c.Le (c'.av c.B) := ⟨o.le.K, o.le.mg, fun _ h => h, fun _ h => .inl h, o.le.dom, o.le.pre, o.le.keep, o.le.tup, o.le.frz⟩
theorem Over.ne {c c' : RC} {p : Addr} (o : Over c c' p) {a : Addr} {u : HO} (h : c.H a = some u) : a ≠ p := fun z => by
  rw [z, o.new] at h; cases h
theorem Over.sr {c c' : RC} {p : Addr} {h : EH} (o : Over c c' p) (s : SR c' h) : SR (c'.av c.B) h :=
  ⟨s.len, s.nd, fun n a k e1 e2 => (by
    have r := s.cells n a k e1 e2
    cases k with
    | lst ds => obtain ⟨xs, h1, h2⟩ := r; exact ⟨xs, h1, h2.fewer o.le.B⟩
    | dic t kvs => obtain ⟨ob, zs, h1, h3, h2⟩ := r; exact ⟨ob, zs, h1, h3, h2.fewer o.le.B⟩
    | obj C fs => obtain ⟨Ca, dx, vs, h0, h1, h2⟩ := r; exact ⟨Ca, dx, vs, h0, h1, h2.fewer o.le.B⟩), fun a ha hb => s.nb a ha (o.le.B a hb), fun a hb => s.bt a (o.le.B a hb)⟩
mutual
theorem Rep.more {c : RC} {p : Addr} {xs : List V} (hp : c.H p = none) : ∀ {d : D} {v : V}, Rep c d v → Rep { c with B := fun a => c.B a ∨ a = p, H := upd c.H p (.lst xs) } d v
  | _, _, .non => .non
  | _, _, .bl b => .bl b
  | _, _, .int i => .int i
  | _, _, .str cs => .str cs
  | _, _, .tup (a := a) (xs := ys) h r => .tup (by
      rcases h with (h | ⟨u, h⟩) | h
      · exact .inl (.inl ((upd_ne (show a ≠ p from fun z => by rw [z, hp] at h; cases h)).trans h))
      · exact .inl (.inr ⟨u, (upd_ne (show a ≠ p from fun z => by rw [z, hp] at h; cases h)).trans h⟩)
      · exact .inr h) (Reps.more hp r)
  | _, _, .lst (a := a) h f r => by
      have ne : a ≠ p := fun z => by rw [z, hp] at h; cases h
      exact .lst ((upd_ne ne).trans h) ⟨fun z => z.elim f.1 ne, f.2⟩ (Reps.more hp r)
  | _, _, .scr (a := a) h r => .scr (by
      rcases h with ⟨u, h⟩ | h
      · exact .inl ⟨u, (upd_ne (show a ≠ p from fun z => by rw [z, hp] at h; cases h)).trans h⟩
      · exact .inr h) (Reps.more hp r)
  | _, _, .obj (a := a) m h f r => by
      have ne : a ≠ p := fun z => by rw [z, hp] at h; cases h
      exact .obj m ((upd_ne ne).trans h) ⟨fun z => z.elim f.1 ne, f.2⟩ (RepF.more hp r)
  | _, _, .dic (a := a) h i f r => by
      have ne : a ≠ p := fun z => by rw [z, hp] at h; cases h
      exact .dic ((upd_ne ne).trans h) i ⟨fun z => z.elim f.1 ne, f.2⟩ (RepP.more hp r)
  | _, _, .fn h f h2 f2 cr r => by
      have ne : ∀ {a : Addr} {o : HO}, c.H a = some o → a ≠ p := fun e z => by rw [z, hp] at e; cases e
      exact .fn ((upd_ne (ne h)).trans h) ⟨fun z => z.elim f.1 (ne h), f.2⟩ ((upd_ne (ne h2)).trans h2) ⟨fun z => z.elim f2.1 (ne h2), f2.2⟩ (cr.imp fun b o hb fb => ⟨(upd_ne (ne hb)).trans hb, fun z => z.elim fb.1 (ne hb), fb.2⟩) (Reps.more hp r)
  | _, _, .exc m h f h2 f2 r => by
      have ne : ∀ {a : Addr} {o : HO}, c.H a = some o → a ≠ p := fun e z => by rw [z, hp] at e; cases e
      exact .exc m ((upd_ne (ne h)).trans h) ⟨fun z => z.elim f.1 (ne h), f.2⟩ ((upd_ne (ne h2)).trans h2) ⟨fun z => z.elim f2.1 (ne h2), f2.2⟩ (RepF.more hp r)
  | _, _, .ref h => .ref h
theorem Reps.more {c : RC} {p : Addr} {xs : List V} (hp : c.H p = none) : ∀ {ds : List D} {vs : List V}, Reps c ds vs → Reps { c with B := fun a => c.B a ∨ a = p, H := upd c.H p (.lst xs) } ds vs
  | _, _, .nil => .nil
  | _, _, .cons h t => .cons (Rep.more hp h) (Reps.more hp t)
theorem RepP.more {c : RC} {p : Addr} {xs : List V} (hp : c.H p = none) : ∀ {ds : List (List Key × D)} {vs : List (List Key × V)}, RepP c ds vs → RepP { c with B := fun a => c.B a ∨ a = p, H := upd c.H p (.lst xs) } ds vs
  | _, _, .nil => .nil
  | _, _, .cons h t => .cons (Rep.more hp h) (RepP.more hp t)
theorem RepF.more {c : RC} {p : Addr} {xs : List V} (hp : c.H p = none) : ∀ {ds : List (Str × D)} {vs : List (Str × V)}, RepF c ds vs → RepF { c with B := fun a => c.B a ∨ a = p, H := upd c.H p (.lst xs) } ds vs
  | _, _, .nil => .nil
  | _, _, .cons h t => .cons (Rep.more hp h) (RepF.more hp t)
end
/-- the start -/
theorem Over.start {c : RC} {h : EH} {p : Addr} {xs : List V} (s : SR c h) (hp : c.H p = none) : Over c { c with B := fun a => c.B a ∨ a = p, H := upd c.H p (.lst xs) } p ∧ SR { c with B := fun a => c.B a ∨ a = p, H := upd c.H p (.lst xs) } h := by
  have np : p ∉ c.ρ := fun z => by
    obtain ⟨o, e⟩ := s.ex z
    rw [hp] at e; cases e
  have ne : ∀ a o, c.H a = some o → a ≠ p := fun a o e z => by rw [z, hp] at e; cases e
  refine ⟨⟨⟨rfl, ⟨rfl, tabs_upd (noTab_none hp)⟩, fun _ h => .inl h, fun a h => h.imp id fun z => by rw [z]; exact hp, fun a u e => ⟨u, (upd_ne (ne a u e)).trans e⟩, fun _ _ h => h, fun a u e _ n => ⟨(upd_ne (ne a u e)).trans e, n⟩, fun a ys e => ?_, fun a o u e => (upd_ne (ne a _ e)).trans e⟩, .inr rfl, hp, s.bt⟩, ⟨s.len, s.nd, fun n a k e1 e2 => ?_, fun a ha z => z.elim (s.nb a ha) fun z => np (z ▸ ha), fun a hb => ?_⟩⟩
  · rcases e with e | ⟨u, e⟩
    · exact .inl ((upd_ne (ne a _ e)).trans e)
    · exact .inr ⟨u, (upd_ne (ne a _ e)).trans e⟩
  · have r := s.cells n a k e1 e2
    cases k with
    | lst ds => obtain ⟨ys, h1, h2⟩ := r; exact ⟨ys, (upd_ne (ne a _ h1)).trans h1, h2.more hp⟩
    | dic t kvs => obtain ⟨ob, zs, h1, h3, h2⟩ := r; exact ⟨ob, zs, (upd_ne (ne a _ h1)).trans h1, h3, h2.more hp⟩
    | obj C fs => obtain ⟨Ca, dx, vs, h0, h1, h2⟩ := r; exact ⟨Ca, dx, vs, h0, (upd_ne (ne a _ h1)).trans h1, h2.more hp⟩
  · rcases hb with hb | rfl
    · obtain ⟨u, e⟩ := s.bt a hb
      exact ⟨u, (upd_ne (ne a u e)).trans e⟩
    · exact ⟨_, upd_same⟩
mutual
theorem Rep.putB {c : RC} {p : Addr} {xs ys : List V} (hB : c.B p) (hp : c.H p = some (.lst xs)) : ∀ {d : D} {v : V}, Rep c d v → Rep (c.put p (.lst ys)) d v
  | _, _, .non => .non
  | _, _, .bl b => .bl b
  | _, _, .int i => .int i
  | _, _, .str cs => .str cs
  | _, _, .tup (a := a) h r => .tup (by
      rcases h with (h | ⟨u, h⟩) | h
      · exact .inl (.inl ((upd_ne (show a ≠ p from fun z => by rw [z, hp] at h; cases h)).trans h))
      · exact .inl (.inr ⟨u, (upd_ne (show a ≠ p from fun z => by rw [z, hp] at h; cases h)).trans h⟩)
      · exact .inr h) (Reps.putB hB hp r)
  | _, _, .lst (a := a) h f r => by
      have ne : a ≠ p := fun z => f.1 (z ▸ hB)
      exact .lst ((upd_ne ne).trans h) f (Reps.putB hB hp r)
  | _, _, .scr (a := a) h r => .scr (by
      rcases h with ⟨u, h⟩ | h
      · exact .inl ⟨u, (upd_ne (show a ≠ p from fun z => by rw [z, hp] at h; cases h)).trans h⟩
      · exact .inr h) (Reps.putB hB hp r)
  | _, _, .obj (a := a) m h f r => by
      have ne : a ≠ p := fun z => f.1 (z ▸ hB)
      exact .obj m ((upd_ne ne).trans h) f (RepF.putB hB hp r)
  | _, _, .dic (a := a) h i f r => by
      have ne : a ≠ p := fun z => f.1 (z ▸ hB)
      exact .dic ((upd_ne ne).trans h) i f (RepP.putB hB hp r)
  | _, _, .fn h f h2 f2 cr r => by
      have ne : ∀ {a : Addr}, c.fr a → a ≠ p := fun f z => f.1 (z ▸ hB)
      exact .fn ((upd_ne (ne f)).trans h) f ((upd_ne (ne f2)).trans h2) f2 (cr.imp fun b o hb fb => ⟨(upd_ne (ne fb)).trans hb, fb⟩) (Reps.putB hB hp r)
  | _, _, .exc m h f h2 f2 r => by
      have ne : ∀ {a : Addr}, c.fr a → a ≠ p := fun f z => f.1 (z ▸ hB)
      exact .exc m ((upd_ne (ne f)).trans h) f ((upd_ne (ne f2)).trans h2) f2 (RepF.putB hB hp r)
  | _, _, .ref h => .ref h
theorem Reps.putB {c : RC} {p : Addr} {xs ys : List V} (hB : c.B p) (hp : c.H p = some (.lst xs)) : ∀ {ds : List D} {vs : List V}, Reps c ds vs → Reps (c.put p (.lst ys)) ds vs
  | _, _, .nil => .nil
  | _, _, .cons h t => .cons (Rep.putB hB hp h) (Reps.putB hB hp t)
theorem RepP.putB {c : RC} {p : Addr} {xs ys : List V} (hB : c.B p) (hp : c.H p = some (.lst xs)) : ∀ {ds : List (List Key × D)} {vs : List (List Key × V)}, RepP c ds vs → RepP (c.put p (.lst ys)) ds vs
  | _, _, .nil => .nil
  | _, _, .cons h t => .cons (Rep.putB hB hp h) (RepP.putB hB hp t)
theorem RepF.putB {c : RC} {p : Addr} {xs ys : List V} (hB : c.B p) (hp : c.H p = some (.lst xs)) : ∀ {ds : List (Str × D)} {vs : List (Str × V)}, RepF c ds vs → RepF (c.put p (.lst ys)) ds vs
  | _, _, .nil => .nil
  | _, _, .cons h t => .cons (Rep.putB hB hp h) (RepF.putB hB hp t)
end
theorem Over.putB {c c' : RC} {h : EH} {p : Addr} {xs ys : List V} (o : Over c c' p) (s : SR c' h) (hp : c'.H p = some (.lst xs)) : Over c (c'.put p (.lst ys)) p ∧ SR (c'.put p (.lst ys)) h := by
  have hB : c'.B p := o.Bp
  refine ⟨⟨⟨o.le.K, ⟨o.le.mg.e, fun t => tabs_upd (ρ := c'.ρ) (B := c'.B) (noTab_of hp (fun _ z => by cases z) fun _ z => by cases z) (o.le.mg.t t)⟩, o.le.B, o.le.Bn, fun a u e => ?_, o.le.pre, fun a u e t n => ?_, fun a zs e => ?_, fun a u w e => (upd_ne (show a ≠ p from o.ne e)).trans (o.le.frz a u w e)⟩, o.Bp, o.new, o.bt⟩, ⟨s.len, s.nd, fun n a k e1 e2 => ?_, s.nb, fun a hb => ?_⟩⟩
  · obtain ⟨u', h1⟩ := o.le.dom a u e
    exact ⟨u', (upd_ne (o.ne e)).trans h1⟩
  · obtain ⟨h1, n1⟩ := o.le.keep a u e t n
    exact ⟨(upd_ne (o.ne e)).trans h1, n1⟩
  · rcases o.le.tup a zs e with e' | ⟨u, e'⟩
    · exact .inl ((upd_ne (show a ≠ p from fun z => by rw [z, hp] at e'; cases e')).trans e')
    · exact .inr ⟨u, (upd_ne (show a ≠ p from fun z => by rw [z, hp] at e'; cases e')).trans e'⟩
  · have r := s.cells n a k e1 e2
    have ne : a ≠ p := fun z => s.nb a (List.mem_of_getElem? e1) (z ▸ hB)
    cases k with
    | lst ds => obtain ⟨zs, h1, h2⟩ := r; exact ⟨zs, (upd_ne ne).trans h1, h2.putB hB hp⟩
    | dic t kvs => obtain ⟨ob, zs, h1, h3, h2⟩ := r; exact ⟨ob, zs, (upd_ne ne).trans h1, h3, h2.putB hB hp⟩
    | obj C fs => obtain ⟨Ca, dx, vs, h0, h1, h2⟩ := r; exact ⟨Ca, dx, vs, h0, (upd_ne ne).trans h1, h2.putB hB hp⟩
  · by_cases e : a = p
    · exact ⟨_, by rw [e]; exact upd_same⟩
    · obtain ⟨u, q⟩ := s.bt a hb
      exact ⟨u, (upd_ne e).trans q⟩
theorem EnvR.putB {c : RC} {p : Addr} {xs ys : List V} (hB : c.B p) (hp : c.H p = some (.lst xs)) {ε : Ev} {σ : L2.St} (r : EnvR c ε σ) : EnvR (c.put p (.lst ys)) ε σ := ⟨r.len, fun i d e => let ⟨v, h1, h2⟩ := r.at_ i d e; ⟨v, h1, h2.putB hB hp⟩⟩
theorem EnvR.more {c : RC} {p : Addr} {xs : List V} (hp : c.H p = none) {ε : Ev} {σ : L2.St} (r : EnvR c ε σ) : EnvR { c with B := fun a => c.B a ∨ a = p, H := upd c.H p (.lst xs) } ε σ := ⟨r.len, fun i d e => let ⟨v, h1, h2⟩ := r.at_ i d e; ⟨v, h1, h2.more hp⟩⟩
theorem lc_of {K : PySem.W.Frag} {mg : Str → Option Value} {W : WX} {mi : M (List D)} {g : MG} {S vs : List Nat} {t : M Bool} {el : M D} {σ : L2.St} {H : Hp} {Q : VK} (hS : ∀ i ∈ S, i ∈ vs) (h : tE K mg W (mLc vs mi g t el) σ H Q) :
    tLc (tI K mg W mi) (tG K mg S g) (tT K mg W0 t) (tE K mg W0 el) vs σ H Q := by
  obtain ⟨c, ε, h, r, h', hK, hm, rfl, sr, er, e, px, go⟩ := h
  unfold tLc
  refine tX.bind hK hm sr er e px fun ds h1 c1 J e1 l1 s1 r1 => ?_
  intro p hp
  obtain ⟨G, Y, hw, hG, hY⟩ := r1
  have hK1 := l1.K.trans hK
  have hm1 := l1.mg.trans hm
  cases q : lcL g t el ds (wipeE ε vs) h1 with
  | none => rw [q] at e1; cases e1
  | some z =>
    obtain ⟨all, hE⟩ := z
    rw [q] at e1
    have e1' : (if all.length ≤ sizeLine then some (PD.R.ok (D.lst all), hE) else none) = some (r, h') := e1
    by_cases hz : all.length ≤ sizeLine
    · rw [if_pos hz] at e1'
      cases e1'
      obtain ⟨o2, s2⟩ := Over.start (xs := []) s1 hp
      refine lc_it hw (fun i H => ∃ c2 h2 acc xs rest, Over c1 c2 p ∧ c2.H = H ∧ SR c2 h2 ∧ H p = some (.lst xs) ∧ Reps c2 acc xs ∧ EnvR c2 (wipeE ε vs) (wipe σ vs) ∧ lcL g t el (ds.drop i) (wipeE ε vs) h2 = some (rest, h') ∧ acc ++ rest = all) ?_ ?_ ?_ ?_
      · exact ⟨_, h1, [], [], all, o2, rfl, s2, upd_same, .nil, EnvR.more hp (wipe_envR vs (er.le l1)), q, rfl⟩
      · rintro i H hi ⟨c2, h2, acc, xs, rest, o, rfl, _⟩
        exact hG c2 o.le.toW
      · rintro i x H H' hi ⟨c2, h2, acc, xs, rest, o, rfl, s, hxs, racc, en, e2, ea⟩ y
        obtain ⟨c3, rfl, l3, s3, d, hd, rd⟩ := hY i x c2 h2 H' o.le.toW s y
        have hdr : ds.drop i = d :: ds.drop (i + 1) := by
          rw [List.drop_eq_getElem_cons hi]
          have : ds[i] = d := by
            have := List.getElem?_eq_getElem hi
            rw [this] at hd
            exact Option.some.inj hd
          rw [this]
        rw [hdr] at e2
        unfold lcL at e2
        have o3 := o.step l3
        have p3 := (l3.keep p _ hxs (fun _ z => by cases z) fun z => s.nb p z o.Bp).1
        have hK3 : c3.K = K := o3.le.K.trans hK1
        have hm3 : MgE c3 mg := o3.le.mg.trans hm1
        cases q2 : g d (wipeE ε vs) h2 with
        | none => rw [q2] at e2; cases e2
        | some z =>
          obtain ⟨ε3, h3⟩ := z
          rw [q2] at e2
          dsimp only at e2
          refine ⟨c3, d, wipeE ε vs, h2, ε3, h3, hK3, hm3, rfl, s3, rd, en.le l3, q2, fun c4 σ4 l4 s4 en4 sv => ⟨wipe_save sv hS, ?_⟩⟩
          have o4 := o3.step l4
          have p4 := (l4.keep p _ p3 (fun _ z => by cases z) fun z => s3.nb p z o3.Bp).1
          have hK4 : c4.K = K := o4.le.K.trans hK1
          have hm4 : MgE c4 mg := o4.le.mg.trans hm1
          cases q3 : t ε3 h3 with
          | none => rw [q3] at e2; cases e2
          | some z =>
            obtain ⟨rb, h5⟩ := z
            rw [q3] at e2
            cases rb with
            | ex x5 => cases e2
            | ok b =>
              refine ⟨c4, ε3, h3, .ok b, h5, hK4, hm4, rfl, s4, en4, q3, Px.ok, fun b' eb c5 b'' l5 s5 rb => ?_⟩
              cases eb
              subst rb
              have o5 := o4.step l5
              have p5 := (l5.keep p _ p4 (fun _ z => by cases z) fun z => s4.nb p z o4.Bp).1
              have en5 : EnvR c5 (wipeE ε vs) (wipe σ vs) := ((en.le l3).le l4).le l5
              have racc5 := ((racc.le l3).le l4).le l5
              cases b with
              | false =>
                rw [if_neg Bool.false_ne_true]
                exact ⟨c5, h5, acc, xs, rest, o5, rfl, s5, p5, racc5, en5, e2, ea⟩
              | true =>
                rw [if_pos rfl]
                dsimp only at e2
                cases q4 : el ε3 h5 with
                | none => rw [q4] at e2; cases e2
                | some z =>
                  obtain ⟨ry, h6⟩ := z
                  rw [q4] at e2
                  cases ry with
                  | ex x6 => cases e2
                  | ok y0 =>
                    dsimp only at e2
                    refine ⟨c5, ε3, h5, .ok y0, h6, o5.le.K.trans hK1, o5.le.mg.trans hm1, rfl, s5, en4.le l5, q4, Px.ok, fun y' ey c6 yv l6 s6 ry => ?_⟩
                    cases ey
                    have o6 := o5.step l6
                    have p6 := (l6.keep p _ p5 (fun _ z => by cases z) fun z => s5.nb p z o5.Bp).1
                    cases q5 : lcL g t el (ds.drop (i + 1)) (wipeE ε vs) h6 with
                    | none => rw [q5] at e2; cases e2
                    | some z =>
                      obtain ⟨ys, h7⟩ := z
                      rw [q5] at e2
                      cases e2
                      have hlen : xs.length < sizeLine := by
                        rw [← racc.length]
                        have := congrArg List.length ea
                        simp only [List.length_append, List.length_cons] at this
                        omega
                      refine ⟨xs, p6, hlen, ?_⟩
                      obtain ⟨o7, s7⟩ := o6.putB (ys := xs ++ [yv]) s6 p6
                      exact ⟨_, h6, acc ++ [y0], xs ++ [yv], ys, o7, rfl, s7, upd_same, ((racc5.le l6).append (.cons ry .nil)).putB o6.Bp p6, (en5.le l6).putB o6.Bp p6, q5, by rw [List.append_assoc]; exact ea⟩
      · rintro H ⟨c2, h2, acc, xs, rest, o, rfl, s, hxs, racc, en, e2, ea⟩
        rw [List.drop_length] at e2
        cases e2
        rw [List.append_nil] at ea
        subst ea
        refine go _ rfl (c2.av c1.B) _ (l1.trans o.back) (o.sr s) (.lst hxs ⟨fun z => ?_, fun z => s.nb p z o.Bp⟩ (racc.fewer o.le.B))
        obtain ⟨u, eu⟩ := o.bt p z
        rw [o.new] at eu; cases eu
    · rw [if_neg hz] at e1'; cases e1'
section
variable {X : Cx} {W : WX}
theorem re_lc {elt tg iter : Expr} {ifs : List Expr} {scope : Scope} {own : List (Str × Nat)} {pos : Pos} {mi : M (List D)} {g : MG} {S : List Nat} {t : M Bool} {e : M D} (hc : X.calm = true) (hN : X.N.Nodup) (hi : RI X W tg iter mi) (ok : BlkOk X.N X.env.scope scope own) (hS : ∀ i ∈ S, i ∈ own.map (·.2))
    (hg : ∀ (s : Shared) (H : Hp) (C : Addr) (cl : List (Str × Addr)) (fp : List Addr), RG (X.blk s H scope (compEnvC scope cl C X.env) fp) tg S g) (ht : ∀ (s : Shared) (H : Hp) (C : Addr) (cl : List (Str × Addr)) (fp : List Addr), RTs (X.blk s H scope (compEnvC scope cl C X.env) fp) W0 ifs t)
    (he : ∀ (s : Shared) (H : Hp) (C : Addr) (cl : List (Str × Addr)) (fp : List Addr), RE (X.blk s H scope (compEnvC scope cl C X.env) fp) W0 elt e) (hs : ∀ x, foldedSetIterable iter X.env x = pure x := by intro _; rfl) :
    RE X W (.ListComp elt [⟨tg, iter, ifs, 0⟩] scope pos) (mLc (own.map (·.2)) mi g t e) := by
  refine pe_imp (pe_lc (g := tG X.K X.mg S g) (tt := tT X.K X.mg W0 t) (te := tE X.K X.mg W0 e) hc hN hi ok hg ht he hs) fun σ H Q h => ?_
  exact lc_of hS h
end
end PD
namespace PD
open PySem PySem.Spec PyProof.Rows L2
variable [LamTab]
def noRef : D → Bool
  | .ref _ => false
  | .tup ds => go ds
  | .lst ds => go ds
  | .scr ds => go ds
  | .obj _ fs => gf fs
  | .dic _ kvs => gp kvs
  | .fn _ ds => go ds
  | .exc _ fs => gf fs
  | _ => true
where
  go : List D → Bool
  | [] => true
  | d :: ds => noRef d && go ds
  gf : List (Str × D) → Bool
  | [] => true
  | (_, d) :: ds => noRef d && gf ds
  gp : List (List Key × D) → Bool
  | [] => true
  | (_, d) :: ds => noRef d && gp ds
/-- the cells forgotten, other things not to be touched -/
abbrev RC.bare (c : RC) (B : Addr → Prop) : RC := { c with ρ := [], B := B }
mutual
theorem Rep.bare {c : RC} {B : Addr → Prop} (hB : ∀ a, B a → c.B a ∨ a ∈ c.ρ) : ∀ {d : D} {v : V}, Rep c d v → noRef d = true → Rep (c.bare B) d v
  | _, _, .non, _ => .non
  | _, _, .bl b, _ => .bl b
  | _, _, .int i, _ => .int i
  | _, _, .str cs, _ => .str cs
  | .tup ds, _, .tup h r, e => .tup h (Reps.bare hB r (by rw [noRef] at e; exact e))
  | .lst ds, _, .lst h f r, e => .lst h ⟨fun z => (hB _ z).elim f.1 f.2, List.not_mem_nil⟩ (Reps.bare hB r (by rw [noRef] at e; exact e))
  | .scr ds, _, .scr h r, e => .scr h (Reps.bare hB r (by rw [noRef] at e; exact e))
  | .obj C fs, _, .obj m h f r, e => .obj m h ⟨fun z => (hB _ z).elim f.1 f.2, List.not_mem_nil⟩ (RepF.bare hB r (by rw [noRef] at e; exact e))
  | .dic t kvs, _, .dic h i f r, e => .dic h i ⟨fun z => (hB _ z).elim f.1 f.2, List.not_mem_nil⟩ (RepP.bare hB r (by rw [noRef] at e; exact e))
  | .fn i ds, _, .fn h f k f2 cr r, e => .fn h ⟨fun z => (hB _ z).elim f.1 f.2, List.not_mem_nil⟩ k ⟨fun z => (hB _ z).elim f2.1 f2.2, List.not_mem_nil⟩ (cr.imp fun b o hb fb => ⟨hb, fun z => (hB _ z).elim fb.1 fb.2, List.not_mem_nil⟩) (Reps.bare hB r (by rw [noRef] at e; exact e))
  | .exc C fs, _, .exc m h f h2 f2 r, e => .exc m h ⟨fun z => (hB _ z).elim f.1 f.2, List.not_mem_nil⟩ h2 ⟨fun z => (hB _ z).elim f2.1 f2.2, List.not_mem_nil⟩ (RepF.bare hB r (by rw [noRef] at e; exact e))
  | _, _, .ref h, e => by cases e
theorem Reps.bare {c : RC} {B : Addr → Prop} (hB : ∀ a, B a → c.B a ∨ a ∈ c.ρ) : ∀ {ds : List D} {vs : List V}, Reps c ds vs → noRef.go ds = true → Reps (c.bare B) ds vs
  | _, _, .nil, _ => .nil
  | _, _, .cons h t, e => by
    rw [noRef.go, Bool.and_eq_true] at e
    exact .cons (Rep.bare hB h e.1) (Reps.bare hB t e.2)
theorem RepP.bare {c : RC} {B : Addr → Prop} (hB : ∀ a, B a → c.B a ∨ a ∈ c.ρ) : ∀ {ds : List (List Key × D)} {vs : List (List Key × V)}, RepP c ds vs → noRef.gp ds = true → RepP (c.bare B) ds vs
  | _, _, .nil, _ => .nil
  | _, _, .cons h t, e => by
    rw [noRef.gp, Bool.and_eq_true] at e
    exact .cons (Rep.bare hB h e.1) (RepP.bare hB t e.2)
theorem RepF.bare {c : RC} {B : Addr → Prop} (hB : ∀ a, B a → c.B a ∨ a ∈ c.ρ) : ∀ {ds : List (Str × D)} {vs : List (Str × V)}, RepF c ds vs → noRef.gf ds = true → RepF (c.bare B) ds vs
  | _, _, .nil, _ => .nil
  | _, _, .cons h t, e => by
    rw [noRef.gf, Bool.and_eq_true] at e
    exact .cons (Rep.bare hB h e.1) (RepF.bare hB t e.2)
end
mutual
theorem Rep.unbare {c : RC} {ρ : List Addr} {B : Addr → Prop} (h1 : ∀ a ∈ ρ, c.B a) (h2 : ∀ a, B a → c.B a) (h0 : c.ρ = []) : ∀ {d : D} {v : V}, Rep c d v → Rep { c with ρ := ρ, B := B } d v
  | _, _, .non => .non
  | _, _, .bl b => .bl b
  | _, _, .int i => .int i
  | _, _, .str cs => .str cs
  | _, _, .tup h r => .tup h (Reps.unbare h1 h2 h0 r)
  | _, _, .lst h f r => .lst h ⟨fun z => f.1 (h2 _ z), fun z => f.1 (h1 _ z)⟩ (Reps.unbare h1 h2 h0 r)
  | _, _, .scr h r => .scr h (Reps.unbare h1 h2 h0 r)
  | _, _, .obj m h f r => .obj m h ⟨fun z => f.1 (h2 _ z), fun z => f.1 (h1 _ z)⟩ (RepF.unbare h1 h2 h0 r)
  | _, _, .dic h i f r => .dic h i ⟨fun z => f.1 (h2 _ z), fun z => f.1 (h1 _ z)⟩ (RepP.unbare h1 h2 h0 r)
  | _, _, .fn h f k f2 cr r => .fn h ⟨fun z => f.1 (h2 _ z), fun z => f.1 (h1 _ z)⟩ k ⟨fun z => f2.1 (h2 _ z), fun z => f2.1 (h1 _ z)⟩ (cr.imp fun b o hb fb => ⟨hb, fun z => fb.1 (h2 _ z), fun z => fb.1 (h1 _ z)⟩) (Reps.unbare h1 h2 h0 r)
  | _, _, .exc m h f k f2 r => .exc m h ⟨fun z => f.1 (h2 _ z), fun z => f.1 (h1 _ z)⟩ k ⟨fun z => f2.1 (h2 _ z), fun z => f2.1 (h1 _ z)⟩ (RepF.unbare h1 h2 h0 r)
  | _, _, .ref h => by rw [h0] at h; simp at h
theorem Reps.unbare {c : RC} {ρ : List Addr} {B : Addr → Prop} (h1 : ∀ a ∈ ρ, c.B a) (h2 : ∀ a, B a → c.B a) (h0 : c.ρ = []) : ∀ {ds : List D} {vs : List V}, Reps c ds vs → Reps { c with ρ := ρ, B := B } ds vs
  | _, _, .nil => .nil
  | _, _, .cons h t => .cons (Rep.unbare h1 h2 h0 h) (Reps.unbare h1 h2 h0 t)
theorem RepP.unbare {c : RC} {ρ : List Addr} {B : Addr → Prop} (h1 : ∀ a ∈ ρ, c.B a) (h2 : ∀ a, B a → c.B a) (h0 : c.ρ = []) : ∀ {ds : List (List Key × D)} {vs : List (List Key × V)}, RepP c ds vs → RepP { c with ρ := ρ, B := B } ds vs
  | _, _, .nil => .nil
  | _, _, .cons h t => .cons (Rep.unbare h1 h2 h0 h) (RepP.unbare h1 h2 h0 t)
theorem RepF.unbare {c : RC} {ρ : List Addr} {B : Addr → Prop} (h1 : ∀ a ∈ ρ, c.B a) (h2 : ∀ a, B a → c.B a) (h0 : c.ρ = []) : ∀ {ds : List (Str × D)} {vs : List (Str × V)}, RepF c ds vs → RepF { c with ρ := ρ, B := B } ds vs
  | _, _, .nil => .nil
  | _, _, .cons h t => .cons (Rep.unbare h1 h2 h0 h) (RepF.unbare h1 h2 h0 t)
end
/-- freeze -/
def frz1 (h : EH) (d : D) : Option D := match d with
  | .ref n => (match h[n]? with
    | some (.lst ds) => if noRef.go ds = true then some (.lst ds) else none
    | some (.obj C fs) => if noRef.gf fs = true then some (.obj C fs) else none
    | some (.dic t kvs) => if noRef.gp kvs = true then some (.dic t kvs) else none
    | _ => none)
  | d => if noRef d = true then some d else none
def frzL (h : EH) : List D → Option (List D)
  | [] => some []
  | d :: ds => match frz1 h d, frzL h ds with
    | some x, some xs => some (x :: xs)
    | _, _ => none
def frz (h : EH) (d : D) : Option D := match d with
  | .tup ds => (frzL h ds).map .tup
  | .lst ds => (frzL h ds).map .lst
  | d => frz1 h d
theorem frz1_ok {c : RC} {h : EH} {B : Addr → Prop} {d e : D} {v : V} (s : SR c h) (hB : ∀ a, B a → c.B a) (r : Rep c d v) (q : frz1 h d = some e) : Rep (c.bare B) e v := by
  have hB' : ∀ a, B a → c.B a ∨ a ∈ c.ρ := fun a z => .inl (hB a z)
  have fin : (if noRef d = true then some d else none) = some e → Rep (c.bare B) e v := fun q => by
    by_cases hc : noRef d = true
    · rw [if_pos hc] at q; cases q; exact r.bare hB' hc
    · rw [if_neg hc] at q; cases q
  cases r with
  | @ref n a hn =>
    unfold frz1 at q
    dsimp only at q
    cases q2 : h[n]? with
    | none => rw [q2] at q; cases q
    | some k =>
      rw [q2] at q
      have cr := s.cells n a k hn q2
      have nb : ¬ B a := fun z => s.nb a (List.mem_of_getElem? hn) (hB a z)
      cases k with
      | lst ds =>
        dsimp only at q
        by_cases hc : noRef.go ds = true
        · rw [if_pos hc] at q
          cases q
          obtain ⟨xs, e1, e2⟩ := cr
          exact .lst e1 ⟨nb, List.not_mem_nil⟩ (e2.bare hB' hc)
        · rw [if_neg hc] at q; cases q
      | dic t kvs =>
        dsimp only at q
        by_cases hc : noRef.gp kvs = true
        · rw [if_pos hc] at q
          cases q
          obtain ⟨o, zs, e1, e3, e2⟩ := cr
          exact .dic e1 e3 ⟨nb, List.not_mem_nil⟩ (e2.bare hB' hc)
        · rw [if_neg hc] at q; cases q
      | obj C fs =>
        dsimp only at q
        by_cases hc : noRef.gf fs = true
        · rw [if_pos hc] at q
          cases q
          obtain ⟨Ca, dx, vs, e0, e1, e2⟩ := cr
          exact .obj e0 e1 ⟨nb, List.not_mem_nil⟩ (e2.bare hB' hc)
        · rw [if_neg hc] at q; cases q
  | _ => exact fin q
theorem frzL_ok {c : RC} {h : EH} {B : Addr → Prop} (s : SR c h) (hB : ∀ a, B a → c.B a) : ∀ {ds es : List D} {vs : List V}, Reps c ds vs → frzL h ds = some es → Reps (c.bare B) es vs
  | _, _, _, .nil, q => by cases q; exact .nil
  | d :: ds, es, _, .cons r t, q => by
    unfold frzL at q
    cases q1 : frz1 h d with
    | none => rw [q1] at q; cases q
    | some x =>
      cases q2 : frzL h ds with
      | none => rw [q1, q2] at q; cases q
      | some xs => rw [q1, q2] at q; cases q; exact .cons (frz1_ok s hB r q1) (frzL_ok s hB t q2)
theorem frz_ok {c : RC} {h : EH} {B : Addr → Prop} {d e : D} {v : V} (s : SR c h) (hB : ∀ a, B a → c.B a) (r : Rep c d v) (q : frz h d = some e) : Rep (c.bare B) e v := by
  cases r with
  | @tup a ds xs k1 k2 =>
    have q' : (frzL h ds).map D.tup = some e := q
    cases q1 : frzL h ds with
    | none => rw [q1] at q'; cases q'
    | some es => rw [q1] at q'; cases q'; exact .tup k1 (frzL_ok s hB k2 q1)
  | @lst a ds xs k1 k2 k3 =>
    have q' : (frzL h ds).map D.lst = some e := q
    cases q1 : frzL h ds with
    | none => rw [q1] at q'; cases q'
    | some es => rw [q1] at q'; cases q'; exact .lst k1 ⟨fun z => k2.1 (hB _ z), List.not_mem_nil⟩ (frzL_ok s hB k3 q1)
  | non => exact frz1_ok s hB .non q
  | bl b => exact frz1_ok s hB (.bl b) q
  | int i => exact frz1_ok s hB (.int i) q
  | str cs => exact frz1_ok s hB (.str cs) q
  | obj m k1 k2 k3 => exact frz1_ok s hB (.obj m k1 k2 k3) q
  | dic k1 k2 k3 k4 => exact frz1_ok s hB (.dic k1 k2 k3 k4) q
  | fn k1 k2 k3 k4 k5 k6 => exact frz1_ok s hB (.fn k1 k2 k3 k4 k5 k6) q
  | exc k1 k2 k3 k4 k5 k6 => exact frz1_ok s hB (.exc k1 k2 k3 k4 k5 k6) q
  | ref hn => exact frz1_ok s hB (.ref hn) q
  | scr k1 k2 => exact frz1_ok s hB (.scr k1 k2) q
abbrev PF := List D → Option (R D)
/-- a body run over no cells -/
def startE (n : Nat) (ds : List D) : Ev := ds.map some ++ List.replicate (n - ds.length) none
def endP (x : Option (RS × EH)) : Option (R D) := match x with
  | some (.rt d, h) => (frz h d).map .ok
  | some (.nx _, _) => some (.ok .non)
  | some (.ex e _, _) => if noRef.gf e.fs = true then some (.ex e) else none
  | _ => none
def runP (n : Nat) (m : MS) : PF := fun ds => endP (m (startE n ds) [])
def SpP (K : PySem.W.Frag) (mg : Str → Option Value) (n : Nat) (F : PF) : Sp := fun vs H Q E => ∃ (c : RC) (ds : List D) (r : R D), c.K = K ∧ MgE c mg ∧ c.H = H ∧ c.ρ = [] ∧ (∀ a, c.B a → ∃ o, H a = some o) ∧ Reps c ds vs ∧ ds.length = n ∧ F ds = some r ∧
  (∀ d, r = .ok d → ∀ c' v, c.Le c' → c'.ρ = [] → Rep c' d v → Q v c'.H) ∧ (∀ e, r = .ex e → ∀ c' cls dx, c.Le c' → c'.ρ = [] → ExR c' e cls dx → E cls dx c'.H)
theorem SR.nil {c : RC} (h : c.ρ = []) (bt : ∀ a, c.B a → ∃ o, c.H a = some o) : SR c [] :=
  ⟨by rw [h]; rfl, by rw [h]; exact List.nodup_nil, fun n a k e => by rw [h] at e; simp at e, fun a e => by rw [h] at e; simp at e, bt⟩
theorem start_envR {c : RC} {ds : List D} {vs : List V} {N : List Str} (r : Reps c ds vs) : EnvR c (startE N.length ds) (L2.start N vs) := by
  refine ⟨by simp [startE, L2.start, r.length], fun i d e => ?_⟩
  unfold startE at e
  unfold L2.start
  by_cases hi : i < ds.length
  · rw [List.getElem?_append_left (by simpa using hi), List.getElem?_map] at e
    rw [List.getElem?_append_left (by rw [List.length_map, ← r.length]; exact hi), List.getElem?_map]
    cases q : ds[i]? with
    | none => rw [q] at e; cases e
    | some d' =>
      rw [q] at e
      cases e
      obtain ⟨v, h1, h2⟩ := r.get q
      exact ⟨v, by rw [h1]; rfl, h2⟩
  · rw [List.getElem?_append_right (by simp; omega)] at e
    exfalso
    rw [List.getElem?_replicate] at e
    split at e <;> cases e
/-- what one has of a pure def -/
structure FnP (P : Program) (w : World) (K : PySem.W.Frag) (mg : Str → Option Value) (base : Heap) (x : Str) (k n : Nat) (F : PF) : Prop where
  ex : ∃ (f : Addr) (fd : FuncData) (ps : List Str), mg x = some (.ref f) ∧ PySem.W.keepIn K (.ref f) = true ∧ Binds K fd ps [] ∧ ps.length = n ∧ FnOk P w K mg base (L2.CX P w) k f fd ps (SpP K mg n F)
section
variable {P : Program} {w : World} {K : PySem.W.Frag} {mg : Str → Option Value} {base : Heap}
theorem body_of {N : List Str} {m : MS} {vs : List V} {H : Hp} {Q : VK} {E : XK} {n : Nat} (h : SpP K mg n (runP N.length m) vs H Q E) : tS K mg (fun cls d _ H' => E cls d H') m { nx := fun _ H' => Q .non H', rt := Q } (L2.start N vs) H := by
  obtain ⟨c, ds, r, hK, hm, rfl, hρ, bt, rv, hn, e, go, gx⟩ := h
  have sr := SR.nil hρ bt
  unfold runP at e
  cases q : m (startE N.length ds) [] with
  | none => rw [q] at e; cases e
  | some z =>
    obtain ⟨rs, h'⟩ := z
    rw [q] at e
    have back : ∀ c', c.Le c' → c.Le (c'.bare c.B) := fun c' l => ⟨l.K, l.mg, fun _ h => h, fun _ h => .inl h, l.dom, fun n a e => by rw [hρ] at e; simp at e, fun a o e t n => ⟨(l.keep a o e t n).1, List.not_mem_nil⟩, l.tup, l.frz⟩
    refine ⟨c, startE N.length ds, [], rs, h', hK, hm, rfl, sr, start_envR rv, q, ?_⟩
    cases rs with
    | nx ε' =>
      cases e
      exact fun c' σ' l s en => go _ rfl (c'.bare c.B) _ (back c' l) rfl .non
    | rt d =>
      have e' : (frz h' d).map R.ok = some r := e
      cases q2 : frz h' d with
      | none => rw [q2] at e'; cases e'
      | some d' =>
        rw [q2] at e'
        cases e'
        exact fun c' v l s rd => go _ rfl (c'.bare c.B) v (back c' l) rfl (frz_ok s l.B rd q2)
    | bk ε' => cases e
    | ct ε' => cases e
    | ex x ε' =>
      have e' : (if noRef.gf x.fs = true then some (R.ex x) else none) = some r := e
      by_cases hc : noRef.gf x.fs = true
      · rw [if_pos hc] at e'
        cases e'
        refine fun c' σ' cls dx l s en xr => gx _ rfl (c'.bare c.B) cls dx (back c' l) rfl ?_
        obtain ⟨Ca, d, vs, h1, h2, h3, h4, h5, h6⟩ := xr
        exact ⟨Ca, d, vs, h1, h2, h3, h4, ⟨fun z => h5.1 (l.B _ z), List.not_mem_nil⟩, h6.bare (fun a z => .inl (l.B a z)) hc⟩
      · rw [if_neg hc] at e'; cases e'
theorem fnP {x qual : Str} {params : Arguments} {body : List Stmt} {scope : Scope} {f : Addr} {fd : FuncData} {N ps : List Str} {k : Nat} {m : MS} {dvs : List V} {kws : List (Str × V)} (F : FunD K x qual params body scope dvs kws f fd) (S : FnScope N ps scope)
    (hb : ∀ (cdv : Value) (A : Around) (outer : List Env) (s : Shared) (H : Hp) (E : XK), Room k (A.deeper (envOfC qual scope s.heap.objs.size f cdv)) → RSs (cxOf (L2.CX P w) P w K mg base N qual scope f cdv A outer s H E) (fun cls d _ H' => E cls d H') body m) :
    FnOk P w K mg base (L2.CX P w) (k + 1) f fd ps (SpP K mg ps.length (runP N.length m)) := by
  refine F.ok S (fun vs H Q E h => ?_) (fun cdv A outer s H vs Q E hr h => ⟨_, hb cdv A outer s H E hr, body_of h⟩)
  obtain ⟨c, ds, r, _, _, _, _, _, rv, hn, _⟩ := h
  rw [← rv.length, hn]
end
/-- a gives lists of n -/
def ArN (n : Nat) (a : M (List D)) : Prop := ∀ ε h ds h', a ε h = some (.ok ds, h') → ds.length = n
theorem ar_nil : ArN 0 mNil := fun ε h ds h' e => by cases e; rfl
theorem ar_cons {n : Nat} {a : M D} {b : M (List D)} (hb : ArN n b) : ArN (n + 1) (mCons a b) := fun ε h ds h' e => by
  unfold mCons at e
  cases q : a ε h with
  | none => rw [q] at e; cases e
  | some z =>
    obtain ⟨r1, h1⟩ := z
    rw [q] at e
    cases r1 with
    | ex x => cases e
    | ok x =>
      rw [bR_ok] at e
      cases q2 : b ε h1 with
      | none => rw [q2] at e; cases e
      | some z =>
        obtain ⟨r2, h2⟩ := z
        rw [q2] at e
        cases r2 with
        | ex x => cases e
        | ok xs => cases e; exact congrArg Nat.succ (hb _ _ _ _ q2)
def mCallP (F : PF) (a : M (List D)) : M D := fun ε h => bR (a ε h) fun ds h1 => if noRef.go ds = true then (F ds).map fun r => (r, h1) else none
section
variable {X : Cx} {W : WX}
theorem callP_of {K : PySem.W.Frag} {mg : Str → Option Value} {n : Nat} {F : PF} {a : M (List D)} {σ : L2.St} {H : Hp} {Q : VK} (hn : ArN n a) (h : tE K mg W (mCallP F a) σ H Q) :
    tCallSD (SpP K mg n F) [] (fun σ cls d H' => W cls d σ H') (tA K mg W a) σ H Q := by
  obtain ⟨c, ε, h, r, h', hK, hm, rfl, sr, er, e, px, go⟩ := h
  unfold tCallSD
  cases q : a ε h with
  | none => rw [mCallP, q] at e; cases e
  | some z =>
    obtain ⟨ra, h1⟩ := z
    rw [mCallP, q] at e
    cases ra with
    | ex x =>
      cases e
      exact ⟨c, ε, h, .ex x, _, hK, hm, rfl, sr, er, q, fun y ey => px y (by cases ey; rfl), fun a' ea => nomatch ea⟩
    | ok ds =>
      refine ⟨c, ε, h, .ok ds, h1, hK, hm, rfl, sr, er, q, Px.ok, fun ds' eds c1 vs l1 s1 r1 => ?_⟩
      cases eds
      have e' : (if noRef.go ds = true then (F ds).map fun r => (r, h1) else none) = some (r, h') := e
      by_cases hc : noRef.go ds = true
      · rw [if_pos hc] at e'
        cases q2 : F ds with
        | none => rw [q2] at e'; cases e'
        | some r2 =>
          rw [q2] at e'
          cases e'
          rw [List.append_nil]
          have hK1 := l1.K.trans hK
          have hm1 := l1.mg.trans hm
          -- the callee's view: our cells are not to be touched
          have r1' : Reps (c1.bare fun a => c1.B a ∨ a ∈ c1.ρ) ds vs := r1.bare (fun _ z => z) hc
          have back : ∀ c', (c1.bare fun a => c1.B a ∨ a ∈ c1.ρ).Le c' → c1.Le { c' with ρ := c1.ρ, B := c1.B } ∧ SR { c' with ρ := c1.ρ, B := c1.B } h' := fun c' l => by
            have l2 : c1.Le { c' with ρ := c1.ρ, B := c1.B } := ⟨l.K, l.mg, fun _ h => h, fun _ h => .inl h, l.dom, fun _ _ h => h, fun a o e t n => ⟨(l.keep a o e t List.not_mem_nil).1, n⟩, l.tup, l.frz⟩
            refine ⟨l2, s1.len, s1.nd, fun n a k e1 e2 => ?_, s1.nb, fun a hb => ?_⟩
            · have cr := s1.cells n a k e1 e2
              obtain ⟨o, eo⟩ := cr.ex
              refine cr.le l2 ?_
              have nt : ∀ ps, o ≠ .tbl ps := fun ps z => by
                subst z
                cases k with
                | lst ds => obtain ⟨xs, h1, _⟩ := cr; rw [eo] at h1; cases h1
                | dic t kvs => obtain ⟨o', zs, h1, h3, _⟩ := cr; rw [eo] at h1; cases h1; exact h3.tbl _ rfl
                | obj C fs => obtain ⟨_, _, _, _, h1, _⟩ := cr; rw [eo] at h1; cases h1
              exact (l.keep a o eo nt List.not_mem_nil).1.trans eo.symm
            · obtain ⟨o, eo⟩ := s1.bt a hb
              exact l.dom a o eo
          refine ⟨c1.bare fun a => c1.B a ∨ a ∈ c1.ρ, ds, r, hK1, hm1, rfl, rfl, fun a z => ?_, r1', hn _ _ _ _ q, q2, fun d ed c' v l hρ rd => ?_, fun x ex c' cls dx l hρ xr => ?_⟩
          · rcases z with z | z
            · exact s1.bt a z
            · exact s1.ex z
          · obtain ⟨l2, s2⟩ := back c' l
            refine go d ed { c' with ρ := c1.ρ, B := c1.B } v (l1.trans l2) s2 ?_
            exact Rep.unbare (fun a ha => l.B a (.inr ha)) (fun a ha => l.B a (.inl ha)) hρ rd
          · obtain ⟨l2, s2⟩ := back c' l
            refine px x ex { c' with ρ := c1.ρ, B := c1.B } cls dx (l1.trans l2) s2 ?_
            obtain ⟨Ca, d, us, h1, h2, h3, h4, h5, h6⟩ := xr
            exact ⟨Ca, d, us, h1, h2, h3, h4, ⟨fun z => h5.1 (l.B _ (.inl z)), fun z => h5.1 (l.B _ (.inr z))⟩, RepF.unbare (fun a ha => l.B a (.inr ha)) (fun a ha => l.B a (.inl ha)) hρ h6⟩
      · rw [if_neg hc] at e'; cases e'
theorem re_callP {x : Str} {p pos : Pos} {e : Expr} {es : List Expr} {k j n : Nat} {F : PF} {ma : M (List D)} (G : FnP X.prog X.w X.K X.mg X.base x k n F) (hr : Room j X.A) (tk : Takes X W) (ha : RA X W (e :: es) ma) (hk : k ≤ j := by decide)
    (hn : ArN n ma := by repeat (first | exact ar_nil | refine ar_cons ?_)) (hg : Gl X x := by rfl)
    (hdb : (x == ("__debug__" : Str)) = false := by decide) (he : starEach (e :: es) X.env = (false, eval e X.env) :: starEach es X.env := by rfl) (hpl : (backTo pos (starEach es X.env)).any (·.1) = false := by rfl) :
    RE X W (.Call (.Name x p) (e :: es) [] pos) (mCallP F ma) := by
  obtain ⟨f, fd, ps, hm, hkp, hb, hl, F⟩ := G.ex
  exact pe_imp (pe_callSD F (hr.mono hk) hg hm hkp hb .nil (fun σ => passAt tk σ) ha hdb he hpl) fun σ H Q h => callP_of hn h
theorem re_callP0 {x : Str} {p pos : Pos} {k j : Nat} {F : PF} (G : FnP X.prog X.w X.K X.mg X.base x k 0 F) (hr : Room j X.A) (tk : Takes X W) (hk : k ≤ j := by decide) (hg : Gl X x := by rfl)
    (hdb : (x == ("__debug__" : Str)) = false := by decide) : RE X W (.Call (.Name x p) [] [] pos) (mCallP F mNil) := by
  obtain ⟨f, fd, ps, hm, hkp, hb, hl, Fo⟩ := G.ex
  refine ⟨fun pins s σ H Q I h => ?_⟩
  have h2 := callP_of (n := 0) ar_nil h
  have h3 : SpP X.K X.mg 0 F [] H Q (fun cls d H' => W cls d σ H') := by
    obtain ⟨c, ε, eh, r, h', hK, hm', rfl, sr, er, e, px, go⟩ := h2
    cases e
    have := go [] rfl c [] (.refl c) sr .nil
    simpa using this
  refine wpAny_Call_Name_kw (ld_glob I hg hm ?_ hdb)
  exact PySem.W.callWith_K0 I.kIn hkp (run_fnSD (E := fun σ cls d H' => W cls d σ H') (us := []) (vs := []) Fo (hr.mono hk) hb .nil (passAt tk σ) I .nil h3)
end
end PD
namespace PD
open PySem PySem.Spec PyProof.Rows L2
variable [LamTab]
mutual
theorem Rep.re {c : RC} {ρ : List Addr} {B : Addr → Prop} (hB : ∀ a, B a ∨ a ∈ ρ → c.B a ∨ a ∈ c.ρ) : ∀ {d : D} {v : V}, Rep c d v → noRef d = true → Rep { c with ρ := ρ, B := B } d v
  | _, _, .non, _ => .non
  | _, _, .bl b, _ => .bl b
  | _, _, .int i, _ => .int i
  | _, _, .str cs, _ => .str cs
  | .tup ds, _, .tup h r, e => .tup h (Reps.re hB r (by rw [noRef] at e; exact e))
  | .lst ds, _, .lst h f r, e => .lst h ⟨fun z => (hB _ (.inl z)).elim f.1 f.2, fun z => (hB _ (.inr z)).elim f.1 f.2⟩ (Reps.re hB r (by rw [noRef] at e; exact e))
  | .scr ds, _, .scr h r, e => .scr h (Reps.re hB r (by rw [noRef] at e; exact e))
  | .obj C fs, _, .obj m h f r, e => .obj m h ⟨fun z => (hB _ (.inl z)).elim f.1 f.2, fun z => (hB _ (.inr z)).elim f.1 f.2⟩ (RepF.re hB r (by rw [noRef] at e; exact e))
  | .dic t kvs, _, .dic h i f r, e => .dic h i ⟨fun z => (hB _ (.inl z)).elim f.1 f.2, fun z => (hB _ (.inr z)).elim f.1 f.2⟩ (RepP.re hB r (by rw [noRef] at e; exact e))
  | .fn i ds, _, .fn h f k f2 cr r, e => .fn h ⟨fun z => (hB _ (.inl z)).elim f.1 f.2, fun z => (hB _ (.inr z)).elim f.1 f.2⟩ k ⟨fun z => (hB _ (.inl z)).elim f2.1 f2.2, fun z => (hB _ (.inr z)).elim f2.1 f2.2⟩ (cr.imp fun b o hb fb => ⟨hb, fun z => (hB _ (.inl z)).elim fb.1 fb.2, fun z => (hB _ (.inr z)).elim fb.1 fb.2⟩) (Reps.re hB r (by rw [noRef] at e; exact e))
  | .exc C fs, _, .exc m h f h2 f2 r, e => .exc m h ⟨fun z => (hB _ (.inl z)).elim f.1 f.2, fun z => (hB _ (.inr z)).elim f.1 f.2⟩ h2 ⟨fun z => (hB _ (.inl z)).elim f2.1 f2.2, fun z => (hB _ (.inr z)).elim f2.1 f2.2⟩ (RepF.re hB r (by rw [noRef] at e; exact e))
  | _, _, .ref h, e => by cases e
theorem Reps.re {c : RC} {ρ : List Addr} {B : Addr → Prop} (hB : ∀ a, B a ∨ a ∈ ρ → c.B a ∨ a ∈ c.ρ) : ∀ {ds : List D} {vs : List V}, Reps c ds vs → noRef.go ds = true → Reps { c with ρ := ρ, B := B } ds vs
  | _, _, .nil, _ => .nil
  | _, _, .cons h t, e => by
    rw [noRef.go, Bool.and_eq_true] at e
    exact .cons (Rep.re hB h e.1) (Reps.re hB t e.2)
theorem RepP.re {c : RC} {ρ : List Addr} {B : Addr → Prop} (hB : ∀ a, B a ∨ a ∈ ρ → c.B a ∨ a ∈ c.ρ) : ∀ {ds : List (List Key × D)} {vs : List (List Key × V)}, RepP c ds vs → noRef.gp ds = true → RepP { c with ρ := ρ, B := B } ds vs
  | _, _, .nil, _ => .nil
  | _, _, .cons h t, e => by
    rw [noRef.gp, Bool.and_eq_true] at e
    exact .cons (Rep.re hB h e.1) (RepP.re hB t e.2)
theorem RepF.re {c : RC} {ρ : List Addr} {B : Addr → Prop} (hB : ∀ a, B a ∨ a ∈ ρ → c.B a ∨ a ∈ c.ρ) : ∀ {ds : List (Str × D)} {vs : List (Str × V)}, RepF c ds vs → noRef.gf ds = true → RepF { c with ρ := ρ, B := B } ds vs
  | _, _, .nil, _ => .nil
  | _, _, .cons h t, e => by
    rw [noRef.gf, Bool.and_eq_true] at e
    exact .cons (Rep.re hB h e.1) (RepF.re hB t e.2)
end
def pureC : Cell → Bool
  | .lst ds => noRef.go ds
  | .dic _ kvs => noRef.gp kvs
  | .obj _ fs => noRef.gf fs
/-- the first n cells alone -/
def trim (n : Nat) (h : EH) : Option EH := if h.length = n then some h else if (h.take n).all pureC = true then some (h.take n) else none
def frz1I (n : Nat) (h : EH) (d : D) : Option D := match d with
  | .ref m => if m < n then some (.ref m) else (match h[m]? with
    | some (.lst ds) => if noRef.go ds = true then some (.lst ds) else none
    | some (.obj C fs) => if noRef.gf fs = true then some (.obj C fs) else none
    | some (.dic t kvs) => if noRef.gp kvs = true then some (.dic t kvs) else none
    | _ => none)
  | d => if noRef d = true then some d else none
def frzLI (n : Nat) (h : EH) : List D → Option (List D)
  | [] => some []
  | d :: ds => match frz1I n h d, frzLI n h ds with
    | some x, some xs => some (x :: xs)
    | _, _ => none
def frzI (n : Nat) (h : EH) (d : D) : Option D := match d with
  | .tup ds => (frzLI n h ds).map .tup
  | .lst ds => (frzLI n h ds).map .lst
  | d => frz1I n h d
abbrev RC.cut (c : RC) (n : Nat) : RC := { c with ρ := c.ρ.take n }
theorem cut_sub {c : RC} {n : Nat} : ∀ a, c.B a ∨ a ∈ c.ρ.take n → c.B a ∨ a ∈ c.ρ := fun a z => z.imp id List.mem_of_mem_take
theorem cut_not {c : RC} {h : EH} {n m : Nat} {a : Addr} (s : SR c h) (hm : c.ρ[m]? = some a) (hn : n ≤ m) : a ∉ c.ρ.take n := fun z => by
  obtain ⟨j, hj, e⟩ := List.mem_iff_getElem.mp z
  rw [List.getElem_take] at e
  obtain ⟨h2, e2⟩ := List.getElem?_eq_some_iff.mp hm
  have hj' : j < c.ρ.length := by rw [List.length_take] at hj; omega
  have := (List.getElem_inj s.nd).mp (e.trans e2.symm)
  rw [List.length_take] at hj
  omega
theorem frz1I_ok {c : RC} {h : EH} {n : Nat} {d e : D} {v : V} (s : SR c h) (r : Rep c d v) (q : frz1I n h d = some e) : Rep (c.cut n) e v := by
  have fin : (if noRef d = true then some d else none) = some e → Rep (c.cut n) e v := fun q => by
    by_cases hc : noRef d = true
    · rw [if_pos hc] at q; cases q; exact r.re cut_sub hc
    · rw [if_neg hc] at q; cases q
  cases r with
  | @ref m a hn =>
    unfold frz1I at q
    dsimp only at q
    by_cases hmn : m < n
    · rw [if_pos hmn] at q
      cases q
      exact .ref (by rw [List.getElem?_take_of_lt hmn]; exact hn)
    · rw [if_neg hmn] at q
      cases q2 : h[m]? with
      | none => rw [q2] at q; cases q
      | some k =>
        rw [q2] at q
        have cr := s.cells m a k hn q2
        have nb : ¬ c.B a := fun z => s.nb a (List.mem_of_getElem? hn) z
        have nm := cut_not (n := n) s hn (by omega)
        cases k with
        | lst ds =>
          dsimp only at q
          by_cases hc : noRef.go ds = true
          · rw [if_pos hc] at q
            cases q
            obtain ⟨xs, e1, e2⟩ := cr
            exact .lst e1 ⟨nb, nm⟩ (e2.re cut_sub hc)
          · rw [if_neg hc] at q; cases q
        | dic t kvs =>
          dsimp only at q
          by_cases hc : noRef.gp kvs = true
          · rw [if_pos hc] at q
            cases q
            obtain ⟨o, zs, e1, e3, e2⟩ := cr
            exact .dic e1 e3 ⟨nb, nm⟩ (e2.re cut_sub hc)
          · rw [if_neg hc] at q; cases q
        | obj C fs =>
          dsimp only at q
          by_cases hc : noRef.gf fs = true
          · rw [if_pos hc] at q
            cases q
            obtain ⟨Ca, dx, vs, e0, e1, e2⟩ := cr
            exact .obj e0 e1 ⟨nb, nm⟩ (e2.re cut_sub hc)
          · rw [if_neg hc] at q; cases q
  | _ => exact fin q
theorem frzLI_ok {c : RC} {h : EH} {n : Nat} (s : SR c h) : ∀ {ds es : List D} {vs : List V}, Reps c ds vs → frzLI n h ds = some es → Reps (c.cut n) es vs
  | _, _, _, .nil, q => by cases q; exact .nil
  | d :: ds, es, _, .cons r t, q => by
    unfold frzLI at q
    cases q1 : frz1I n h d with
    | none => rw [q1] at q; cases q
    | some x =>
      cases q2 : frzLI n h ds with
      | none => rw [q1, q2] at q; cases q
      | some xs => rw [q1, q2] at q; cases q; exact .cons (frz1I_ok s r q1) (frzLI_ok s t q2)
theorem frzI_ok {c : RC} {h : EH} {n : Nat} {d e : D} {v : V} (s : SR c h) (r : Rep c d v) (q : frzI n h d = some e) : Rep (c.cut n) e v := by
  cases r with
  | @tup a ds xs k1 k2 =>
    have q' : (frzLI n h ds).map D.tup = some e := q
    cases q1 : frzLI n h ds with
    | none => rw [q1] at q'; cases q'
    | some es => rw [q1] at q'; cases q'; exact .tup k1 (frzLI_ok s k2 q1)
  | @lst a ds xs k1 k2 k3 =>
    have q' : (frzLI n h ds).map D.lst = some e := q
    cases q1 : frzLI n h ds with
    | none => rw [q1] at q'; cases q'
    | some es => rw [q1] at q'; cases q'; exact .lst k1 ⟨k2.1, fun z => k2.2 (List.mem_of_mem_take z)⟩ (frzLI_ok s k3 q1)
  | non => exact frz1I_ok s .non q
  | bl b => exact frz1I_ok s (.bl b) q
  | int i => exact frz1I_ok s (.int i) q
  | str cs => exact frz1I_ok s (.str cs) q
  | obj m k1 k2 k3 => exact frz1I_ok s (.obj m k1 k2 k3) q
  | dic k1 k2 k3 k4 => exact frz1I_ok s (.dic k1 k2 k3 k4) q
  | fn k1 k2 k3 k4 k5 k6 => exact frz1I_ok s (.fn k1 k2 k3 k4 k5 k6) q
  | exc k1 k2 k3 k4 k5 k6 => exact frz1I_ok s (.exc k1 k2 k3 k4 k5 k6) q
  | ref hn => exact frz1I_ok s (.ref hn) q
  | scr k1 k2 => exact frz1I_ok s (.scr k1 k2) q
theorem trim_ok {c : RC} {h h1 : EH} {n : Nat} (s : SR c h) (q : trim n h = some h1) : SR (c.cut n) h1 := by
  unfold trim at q
  by_cases e : h.length = n
  · rw [if_pos e] at q
    cases q
    have e2 : c.ρ.take n = c.ρ := List.take_of_length_le (by rw [s.len, e]; exact Nat.le_refl _)
    have e3 : c.cut n = c := by
      show ({ c with ρ := c.ρ.take n } : RC) = c
      rw [e2]
    rw [e3]; exact s
  · rw [if_neg e] at q
    by_cases hp : (h.take n).all pureC = true
    · rw [if_pos hp] at q
      cases q
      refine ⟨by rw [List.length_take, List.length_take, s.len], s.nd.sublist (List.take_sublist _ _), fun m a k e1 e2 => ?_, fun a ha => s.nb a (List.mem_of_mem_take ha), s.bt⟩
      have hm : m < n := by
        have := (List.getElem?_eq_some_iff.mp e2).1
        rw [List.length_take] at this
        omega
      have e1' : c.ρ[m]? = some a := by
        have z : (c.ρ.take n)[m]? = some a := e1
        rwa [List.getElem?_take_of_lt hm] at z
      have e2' : h[m]? = some k := by rwa [List.getElem?_take_of_lt hm] at e2
      have hk : pureC k = true := List.all_eq_true.mp hp k (List.mem_of_getElem? e2)
      have r := s.cells m a k e1' e2'
      cases k with
      | lst ds => obtain ⟨xs, h1, h2⟩ := r; exact ⟨xs, h1, h2.re cut_sub hk⟩
      | dic t kvs => obtain ⟨o, zs, h1, h3, h2⟩ := r; exact ⟨o, zs, h1, h3, h2.re cut_sub hk⟩
      | obj C fs => obtain ⟨Ca, dx, vs, h0, h1, h2⟩ := r; exact ⟨Ca, dx, vs, h0, h1, h2.re cut_sub hk⟩
    · rw [if_neg hp] at q; cases q
theorem le_cut {c c' : RC} (l : c.Le c') : c.Le (c'.cut c.ρ.length) := by
  refine ⟨l.K, l.mg, l.B, l.Bn, l.dom, fun n a e => ?_, fun a o e t n => ⟨(l.keep a o e t n).1, fun z => (l.keep a o e t n).2 (List.mem_of_mem_take z)⟩, l.tup, l.frz⟩
  have hn := (List.getElem?_eq_some_iff.mp e).1
  show (c'.ρ.take c.ρ.length)[n]? = some a
  rw [List.getElem?_take_of_lt hn]
  exact l.pre n a e
abbrev IF := List D → EH → Option (R D × EH)
def endI (n : Nat) (x : Option (RS × EH)) : Option (R D × EH) := match x with
  | some (.rt d, h) => (match frzI n h d, trim n h with
    | some d', some h1 => some (.ok d', h1)
    | _, _ => none)
  | some (.nx _, h) => (trim n h).map fun h1 => (.ok .non, h1)
  | some (.ex e _, h) => if noRef.gf e.fs = true then (trim n h).map fun h1 => (.ex e, h1) else none
  | _ => none
def runI (n : Nat) (m : MS) : IF := fun ds h => endI h.length (m (startE n ds) h)
/-- the def gives a new cell -/
def endA (n : Nat) (x : Option (RS × EH)) : Option (R D × EH) := match x with
  | some (.rt (.ref m), h) => if n = m ∧ h.length = n + 1 then some (.ok (.ref n), h) else none
  | _ => none
def runA (n : Nat) (m : MS) : IF := fun ds h => endA h.length (m (startE n ds) h)
def SpI (K : PySem.W.Frag) (mg : Str → Option Value) (n : Nat) (F : IF) : Sp := fun vs H Q E => ∃ (c : RC) (h : EH) (ds : List D) (r : R D) (h' : EH), c.K = K ∧ MgE c mg ∧ c.H = H ∧ SR c h ∧ Reps c ds vs ∧ ds.length = n ∧ F ds h = some (r, h') ∧
  (∀ d, r = .ok d → ∀ c' v, c.Le c' → SR c' h' → Rep c' d v → Q v c'.H) ∧ (∀ e, r = .ex e → ∀ c' cls dx, c.Le c' → SR c' h' → ExR c' e cls dx → E cls dx c'.H)
structure FnI (P : Program) (w : World) (K : PySem.W.Frag) (mg : Str → Option Value) (base : Heap) (x : Str) (k n : Nat) (F : IF) : Prop where
  ex : ∃ (f : Addr) (fd : FuncData) (ps : List Str), mg x = some (.ref f) ∧ PySem.W.keepIn K (.ref f) = true ∧ Binds K fd ps [] ∧ ps.length = n ∧ FnOk P w K mg base (L2.CX P w) k f fd ps (SpI K mg n F)
section
variable {P : Program} {w : World} {K : PySem.W.Frag} {mg : Str → Option Value} {base : Heap}
theorem bodyI_of {N : List Str} {m : MS} {vs : List V} {H : Hp} {Q : VK} {E : XK} {n : Nat} (h : SpI K mg n (runI N.length m) vs H Q E) : tS K mg (fun cls d _ H' => E cls d H') m { nx := fun _ H' => Q .non H', rt := Q } (L2.start N vs) H := by
  obtain ⟨c, h, ds, r, h', hK, hm, rfl, sr, rv, hn, e, go, gx⟩ := h
  unfold runI at e
  cases q : m (startE N.length ds) h with
  | none => rw [q] at e; cases e
  | some z =>
    obtain ⟨rs, h2⟩ := z
    rw [q] at e
    refine ⟨c, startE N.length ds, h, rs, h2, hK, hm, rfl, sr, start_envR rv, q, ?_⟩
    rw [← sr.len] at e
    cases rs with
    | nx ε' =>
      have e' : (trim c.ρ.length h2).map (fun h1 => (R.ok D.non, h1)) = some (r, h') := e
      cases q1 : trim c.ρ.length h2 with
      | none => rw [q1] at e'; cases e'
      | some h1 =>
        rw [q1] at e'
        cases e'
        exact fun c' σ' l s en => go _ rfl (c'.cut c.ρ.length) _ (le_cut l) (trim_ok s q1) .non
    | rt d =>
      have e' : (match frzI c.ρ.length h2 d, trim c.ρ.length h2 with
        | some d', some h1 => some (R.ok d', h1)
        | _, _ => none) = some (r, h') := e
      cases q1 : frzI c.ρ.length h2 d with
      | none => rw [q1] at e'; cases e'
      | some d' =>
        cases q2 : trim c.ρ.length h2 with
        | none => rw [q1, q2] at e'; cases e'
        | some h1 =>
          rw [q1, q2] at e'
          cases e'
          exact fun c' v l s rd => go _ rfl (c'.cut c.ρ.length) v (le_cut l) (trim_ok s q2) (frzI_ok s rd q1)
    | bk ε' => cases e
    | ct ε' => cases e
    | ex x ε' =>
      have e' : (if noRef.gf x.fs = true then (trim c.ρ.length h2).map (fun h1 => (R.ex x, h1)) else none) = some (r, h') := e
      by_cases hc : noRef.gf x.fs = true
      · rw [if_pos hc] at e'
        cases q1 : trim c.ρ.length h2 with
        | none => rw [q1] at e'; cases e'
        | some h1 =>
          rw [q1] at e'
          cases e'
          refine fun c' σ' cls dx l s en xr => gx _ rfl (c'.cut c.ρ.length) cls dx (le_cut l) (trim_ok s q1) ?_
          obtain ⟨Ca, d, vs, h1, h2, h3, h4, h5, h6⟩ := xr
          exact ⟨Ca, d, vs, h1, h2, h3, h4, ⟨h5.1, fun z => h5.2 (List.mem_of_mem_take z)⟩, h6.re cut_sub hc⟩
      · rw [if_neg hc] at e'; cases e'
theorem bodyA_of {N : List Str} {m : MS} {vs : List V} {H : Hp} {Q : VK} {E : XK} {n : Nat} (h : SpI K mg n (runA N.length m) vs H Q E) : tS K mg (fun cls d _ H' => E cls d H') m { nx := fun _ H' => Q .non H', rt := Q } (L2.start N vs) H := by
  obtain ⟨c, h, ds, r, h', hK, hm, rfl, sr, rv, hn, e, go, gx⟩ := h
  unfold runA at e
  cases q : m (startE N.length ds) h with
  | none => rw [q] at e; cases e
  | some z =>
    obtain ⟨rs, h2⟩ := z
    rw [q] at e
    refine ⟨c, startE N.length ds, h, rs, h2, hK, hm, rfl, sr, start_envR rv, q, ?_⟩
    cases rs with
    | rt d =>
      cases d with
      | ref m' =>
        have e' : (if h.length = m' ∧ h2.length = h.length + 1 then some (R.ok (D.ref h.length), h2) else none) = some (r, h') := e
        by_cases hc : h.length = m' ∧ h2.length = h.length + 1
        · rw [if_pos hc] at e'
          cases e'
          rw [← hc.1]
          exact fun c' v l s rd => go _ rfl c' v l s rd
        · rw [if_neg hc] at e'; cases e'
      | _ => cases e
    | _ => cases e
theorem fnI {x qual : Str} {params : Arguments} {body : List Stmt} {scope : Scope} {f : Addr} {fd : FuncData} {N ps : List Str} {k : Nat} {m : MS} {dvs : List V} {kws : List (Str × V)} (F : FunD K x qual params body scope dvs kws f fd) (S : FnScope N ps scope)
    (hb : ∀ (cdv : Value) (A : Around) (outer : List Env) (s : Shared) (H : Hp) (E : XK), Room k (A.deeper (envOfC qual scope s.heap.objs.size f cdv)) → RSs (cxOf (L2.CX P w) P w K mg base N qual scope f cdv A outer s H E) (fun cls d _ H' => E cls d H') body m) :
    FnOk P w K mg base (L2.CX P w) (k + 1) f fd ps (SpI K mg ps.length (runI N.length m)) := by
  refine F.ok S (fun vs H Q E h => ?_) (fun cdv A outer s H vs Q E hr h => ⟨_, hb cdv A outer s H E hr, bodyI_of h⟩)
  obtain ⟨c, h, ds, r, h', _, _, _, _, rv, hn, _⟩ := h
  rw [← rv.length, hn]
theorem fnA {x qual : Str} {params : Arguments} {body : List Stmt} {scope : Scope} {f : Addr} {fd : FuncData} {N ps : List Str} {k : Nat} {m : MS} {dvs : List V} {kws : List (Str × V)} (F : FunD K x qual params body scope dvs kws f fd) (S : FnScope N ps scope)
    (hb : ∀ (cdv : Value) (A : Around) (outer : List Env) (s : Shared) (H : Hp) (E : XK), Room k (A.deeper (envOfC qual scope s.heap.objs.size f cdv)) → RSs (cxOf (L2.CX P w) P w K mg base N qual scope f cdv A outer s H E) (fun cls d _ H' => E cls d H') body m) :
    FnOk P w K mg base (L2.CX P w) (k + 1) f fd ps (SpI K mg ps.length (runA N.length m)) := by
  refine F.ok S (fun vs H Q E h => ?_) (fun cdv A outer s H vs Q E hr h => ⟨_, hb cdv A outer s H E hr, bodyA_of h⟩)
  obtain ⟨c, h, ds, r, h', _, _, _, _, rv, hn, _⟩ := h
  rw [← rv.length, hn]
end
def mCallI (F : IF) (a : M (List D)) : M D := fun ε h => bR (a ε h) fun ds h1 => F ds h1
section
variable {X : Cx} {W : WX}
theorem callI_of {K : PySem.W.Frag} {mg : Str → Option Value} {n : Nat} {F : IF} {a : M (List D)} {σ : L2.St} {H : Hp} {Q : VK} (hn : ArN n a) (h : tE K mg W (mCallI F a) σ H Q) :
    tCallSD (SpI K mg n F) [] (fun σ cls d H' => W cls d σ H') (tA K mg W a) σ H Q := by
  obtain ⟨c, ε, h, r, h', hK, hm, rfl, sr, er, e, px, go⟩ := h
  unfold tCallSD
  cases q : a ε h with
  | none => rw [mCallI, q] at e; cases e
  | some z =>
    obtain ⟨ra, h1⟩ := z
    rw [mCallI, q] at e
    cases ra with
    | ex x =>
      cases e
      exact ⟨c, ε, h, .ex x, _, hK, hm, rfl, sr, er, q, fun y ey => px y (by cases ey; rfl), fun a' ea => nomatch ea⟩
    | ok ds =>
      refine ⟨c, ε, h, .ok ds, h1, hK, hm, rfl, sr, er, q, Px.ok, fun ds' eds c1 vs l1 s1 r1 => ?_⟩
      cases eds
      rw [List.append_nil]
      exact ⟨c1, h1, ds, r, h', l1.K.trans hK, l1.mg.trans hm, rfl, s1, r1, hn _ _ _ _ q, e, fun d ed c' v l s rd => go d ed c' v (l1.trans l) s rd, fun x ex c' cls dx l s xr => px x ex c' cls dx (l1.trans l) s xr⟩
theorem re_callI {x : Str} {p pos : Pos} {e : Expr} {es : List Expr} {k j n : Nat} {F : IF} {ma : M (List D)} (G : FnI X.prog X.w X.K X.mg X.base x k n F) (hr : Room j X.A) (tk : Takes X W) (ha : RA X W (e :: es) ma) (hk : k ≤ j := by decide)
    (hn : ArN n ma := by repeat (first | exact ar_nil | refine ar_cons ?_)) (hg : Gl X x := by rfl)
    (hdb : (x == ("__debug__" : Str)) = false := by decide) (he : starEach (e :: es) X.env = (false, eval e X.env) :: starEach es X.env := by rfl) (hpl : (backTo pos (starEach es X.env)).any (·.1) = false := by rfl) :
    RE X W (.Call (.Name x p) (e :: es) [] pos) (mCallI F ma) := by
  obtain ⟨f, fd, ps, hm, hkp, hb, hl, F⟩ := G.ex
  exact pe_imp (pe_callSD F (hr.mono hk) hg hm hkp hb .nil (fun σ => passAt tk σ) ha hdb he hpl) fun σ H Q h => callI_of hn h
end
/-- [..] as a cell -/
def mLstC (m : M (List D)) : M D := fun ε h => bR (m ε h) fun ds h1 => if ds.length ≤ sizeLine then some (.ok (.ref h1.length), h1 ++ [.lst ds]) else none
theorem SR.cell {c : RC} {h : EH} {p : Addr} {ds : List D} {xs : List V} (s : SR c h) (hp : c.H p = none) (r : Reps c ds xs) : c.Le { c with ρ := c.ρ ++ [p], H := upd c.H p (.lst xs) } ∧ SR { c with ρ := c.ρ ++ [p], H := upd c.H p (.lst xs) } (h ++ [.lst ds]) := by
  have np : p ∉ c.ρ := fun z => by
    obtain ⟨o, e⟩ := s.ex z
    rw [hp] at e; cases e
  have ne : ∀ a o, c.H a = some o → a ≠ p := fun a o e z => by rw [z, hp] at e; cases e
  have l : c.Le { c with ρ := c.ρ ++ [p], H := upd c.H p (.lst xs) } := by
    refine ⟨rfl, ⟨rfl, tabs_upd (noTab_none hp)⟩, fun _ h => h, fun _ h => .inl h, fun a u e => ⟨u, (upd_ne (ne a u e)).trans e⟩, fun n a e => ?_, fun a u e _ n => ⟨(upd_ne (ne a u e)).trans e, fun z => ?_⟩, fun a ys e => ?_, fun a o u e => (upd_ne (ne a _ e)).trans e⟩
    · show (c.ρ ++ [p])[n]? = some a
      rw [List.getElem?_append_left (List.getElem?_eq_some_iff.mp e).1]
      exact e
    · rcases List.mem_append.mp z with z | z
      · exact n z
      · exact ne a u e (List.mem_singleton.mp z)
    · rcases e with e | ⟨u, e⟩
      · exact .inl ((upd_ne (ne a _ e)).trans e)
      · exact .inr ⟨u, (upd_ne (ne a _ e)).trans e⟩
  refine ⟨l, ⟨by rw [List.length_append, List.length_append, s.len]; rfl, ?_, fun n a k e1 e2 => ?_, fun a ha z => ?_, fun a hb => ?_⟩⟩
  · rw [List.nodup_append]
    refine ⟨s.nd, by simp, fun a ha b hb => ?_⟩
    rw [List.mem_singleton.mp hb]
    exact fun z => np (z ▸ ha)
  · have e1' : (c.ρ ++ [p])[n]? = some a := e1
    by_cases hn : n < c.ρ.length
    · rw [List.getElem?_append_left hn] at e1'
      rw [List.getElem?_append_left (by rw [← s.len]; exact hn)] at e2
      have cr := s.cells n a k e1' e2
      obtain ⟨o, eo⟩ := cr.ex
      exact cr.le l (upd_ne (ne a o eo))
    · rw [List.getElem?_append_right (by omega)] at e1'
      rw [List.getElem?_append_right (by rw [← s.len]; omega), ← s.len] at e2
      cases q : n - c.ρ.length with
      | zero =>
        rw [q] at e1' e2
        cases e1'
        cases e2
        exact ⟨xs, upd_same, r.le l⟩
      | succ m =>
        rw [q] at e1'
        simp at e1'
  · rcases List.mem_append.mp ha with ha | ha
    · exact s.nb a ha z
    · rw [List.mem_singleton.mp ha] at z
      obtain ⟨o, e⟩ := s.bt p z
      rw [hp] at e; cases e
  · obtain ⟨o, e⟩ := s.bt a hb
    exact ⟨o, (upd_ne (ne a o e)).trans e⟩
theorem re_lstC {X : Cx} {W : WX} {es : List Expr} {m : M (List D)} {pos} (h : RA X W es m) : RE X W (.List es pos) (mLstC m) := by
  refine pe_imp (pe_lst h) fun σ H Q h => ?_
  obtain ⟨c, ε, h, r', h', hK, hm, rfl, sr, er, e, px, go⟩ := h
  unfold tLst
  refine tX.bind hK hm sr er e px fun ds h1 c1 xs e1 l1 s1 r1 => ?_
  by_cases hz : ds.length ≤ sizeLine
  · rw [if_pos hz] at e1
    cases e1
    refine ⟨by rw [← r1.length]; exact hz, fun p hp => ?_⟩
    obtain ⟨l2, s2⟩ := s1.cell hp r1
    refine go _ rfl _ _ (l1.trans l2) s2 (.ref ?_)
    show (c1.ρ ++ [p])[h1.length]? = some p
    rw [← s1.len, List.getElem?_append_right (Nat.le_refl _), Nat.sub_self]
    rfl
  · rw [if_neg hz] at e1; cases e1
end PD
namespace PD
open PySem PySem.Spec PyProof.Rows L2
variable [LamTab]
inductive Ty where
  | non | bool | int | str | tup | lst | dic
  deriving DecidableEq
def Ty.nm : Ty → String
  | .non => "NoneType" | .bool => "bool" | .int => "int" | .str => "str" | .tup => "tuple" | .lst => "list" | .dic => "dict"
def isa : Ty → Ty → Bool
  | .non, .non => true | .bool, .bool => true | .bool, .int => true | .int, .int => true | .str, .str => true | .tup, .tup => true | .lst, .lst => true | .dic, .dic => true
  | _, _ => false
theorem kit_isa : ∀ a b : Ty, kitB a.nm b.nm = some (isa a b) := by
  intro a b
  cases a <;> cases b <;> decide +kernel
def tyD (h : EH) (d : D) : Option Ty := match d with
  | .non => some .non
  | .bl _ => some .bool
  | .int _ => some .int
  | .str _ => some .str
  | .tup _ => some .tup
  | .lst _ => some .lst
  | .ref n => (match h[n]? with
    | some (.lst _) => some .lst
    | _ => none)
  | _ => none
theorem tyD_ok {c : RC} {h : EH} {d : D} {v : V} {t : Ty} (s : SR c h) (r : Rep c d v) (e : tyD h d = some t) : TyX c.K c.H v (.type t.nm) := by
  cases r with
  | non => cases e; exact .base .non
  | bl b => cases e; exact .base (.bl b)
  | int i => cases e; exact .base (.int i)
  | str cs => cases e; exact .base (.str _)
  | @tup a ds xs k1 k2 =>
    cases e
    rcases k1 with (k1 | ⟨o, k1⟩) | ⟨o, its, n, k1, k3, _⟩
    · exact .base (.tup k1)
    · exact .fTuple k1
    · exact .kTuple k1 k3
  | @lst a ds xs k1 k2 k3 =>
    cases e
    exact .base (.lst k1)
  | scr _ _ => cases e
  | obj _ _ _ _ => cases e
  | dic _ _ _ _ => cases e
  | fn _ _ _ _ _ _ => cases e
  | exc _ _ _ _ _ _ => cases e
  | @ref n a hn =>
    unfold tyD at e
    dsimp only at e
    cases q : h[n]? with
    | none => rw [q] at e; cases e
    | some k =>
      rw [q] at e
      cases k with
      | lst ds =>
        cases e
        obtain ⟨xs, e1, _⟩ := s.cells n a _ hn q
        exact .base (.lst e1)
      | _ => cases e
def mIsi (ts : List Ty) (a : M D) : M D := fun ε h => bR (a ε h) fun d h1 => match tyD h1 d with
  | some t => some (.ok (.bl (ts.any (isa t))), h1)
  | none => none
section
variable {X : Cx} {W : WX}
theorem re_isi (T : Ty) {e : Expr} {x : Str} {p p2 pos : Pos} {m : M D} (hm : X.mg "isinstance" = none) (hmx : X.mg x = none) (he : RE X W e m) (hv : bootBuiltins x = some (.type T.nm) := by decide +kernel)
    (hg : Gl X "isinstance" := by rfl) (hgx : Gl X x := by rfl) (hnx : x ≠ "__name__" := by decide) (hdx : (x == ("__debug__" : Str)) = false := by decide)
    (hs1 : starEach [e, .Name x p2] X.env = (false, eval e X.env) :: starEach [.Name x p2] X.env := by rfl) (hs2 : starEach [.Name x p2] X.env = (false, eval (.Name x p2) X.env) :: starEach [] X.env := by rfl)
    (hpl : (backTo pos (starEach [.Name x p2] X.env)).any (·.1) = false := by rfl) : RE X W (.Call (.Name "isinstance" p) [e, .Name x p2] [] pos) (mIsi [T] m) := by
  refine pe_imp (pe_callB (x := "isinstance") call_isi hg hm (by decide +kernel) (pa_cons he (pa_cons (pe_bltn (v := .ty T.nm) (u := .type T.nm) hgx hmx hv rfl hnx hdx) pa_nil hs2) hs1) (by decide) (by decide) hs1 hpl) fun σ H Q h => ?_
  obtain ⟨c, ε, h, r, h', hK, hm, rfl, sr, er, e, px, go⟩ := h
  unfold tCB tCons tC tNil
  refine tX.bind hK hm sr er e px fun d h1 c1 v e1 l1 s1 r1 => ?_
  cases q : tyD h1 d with
  | none => rw [q] at e1; cases e1
  | some t =>
    rw [q] at e1
    cases e1
    have ty := tyD_ok s1 r1 q
    rw [l1.K.trans hK] at ty
    refine ⟨v, .ty T.nm, _, _, isa t T, rfl, .ty _, ty, kit_ty (kit_isa t T), go _ rfl c1 _ l1 s1 ?_⟩
    simpa using Rep.bl (isa t T)
theorem re_isi2 (T U : Ty) {e : Expr} {x y : Str} {p p2 p3 p4 pos : Pos} {k : Nat} {m : M D} (hm : X.mg "isinstance" = none) (hmx : X.mg x = none) (hmy : X.mg y = none) (he : RE X W e m) (hv : bootBuiltins x = some (.type T.nm) := by decide +kernel) (hvy : bootBuiltins y = some (.type U.nm) := by decide +kernel)
    (hg : Gl X "isinstance" := by rfl) (hgx : Gl X x := by rfl) (hgy : Gl X y := by rfl) (hnx : x ≠ "__name__" := by decide) (hdx : (x == ("__debug__" : Str)) = false := by decide) (hny : y ≠ "__name__" := by decide) (hdy : (y == ("__debug__" : Str)) = false := by decide)
    (hs1 : starEach [e, .Tuple [.Name x p2, .Name y p3] k p4] X.env = (false, eval e X.env) :: starEach [.Tuple [.Name x p2, .Name y p3] k p4] X.env := by rfl) (hs2 : starEach [.Tuple [.Name x p2, .Name y p3] k p4] X.env = (false, eval (.Tuple [.Name x p2, .Name y p3] k p4) X.env) :: starEach [] X.env := by rfl)
    (hs3 : starEach [.Name x p2, .Name y p3] X.env = (false, eval (.Name x p2) X.env) :: starEach [.Name y p3] X.env := by rfl) (hs4 : starEach [.Name y p3] X.env = (false, eval (.Name y p3) X.env) :: starEach [] X.env := by rfl)
    (hpl : (backTo pos (starEach [.Tuple [.Name x p2, .Name y p3] k p4] X.env)).any (·.1) = false := by rfl) : RE X W (.Call (.Name "isinstance" p) [e, .Tuple [.Name x p2, .Name y p3] k p4] [] pos) (mIsi [T, U] m) := by
  refine pe_imp (pe_callB (x := "isinstance") call_isiT hg hm (by decide +kernel) (pa_cons he (pa_cons (pe_tup (pa_cons (pe_bltn (v := .ty T.nm) (u := .type T.nm) hgx hmx hv rfl hnx hdx) (pa_cons (pe_bltn (v := .ty U.nm) (u := .type U.nm) hgy hmy hvy rfl hny hdy) pa_nil hs4) hs3)) pa_nil hs2) hs1) (by decide) (by decide) hs1 hpl) fun σ H Q h => ?_
  obtain ⟨c, ε, h, r, h', hK, hm, rfl, sr, er, e, px, go⟩ := h
  unfold tCB tCons tTup tC tNil
  refine tX.bind hK hm sr er e px fun d h1 c1 v e1 l1 s1 r1 => ?_
  refine ⟨by show 2 ≤ sizeLine; decide, fun tp htp => ?_⟩
  cases q : tyD h1 d with
  | none => rw [q] at e1; cases e1
  | some t =>
    rw [q] at e1
    cases e1
    obtain ⟨l2, s2, f2⟩ := s1.new (o := .tup [.ty T.nm, .ty U.nm]) htp
    have ty := tyD_ok s2 (r1.le l2) q
    have hK2 : (c1.put tp (.tup [.ty T.nm, .ty U.nm])).K = X.K := l1.K.trans hK
    rw [hK2] at ty
    refine ⟨v, tp, [.ty T.nm, .ty U.nm], _, [.type T.nm, .type U.nm], [T, U].any (isa t), rfl, upd_same, .cons (.ty _) (.cons (.ty _) .nil), ty, ?_, go _ rfl _ _ (l1.trans l2) s2 (.bl _)⟩
    refine kitAny_cons (b := isa t T) (kit_ty (kit_isa t T)) (fun hb => ?_) fun hb => by simp [hb]
    refine kitAny_cons (b := isa t U) (kit_ty (kit_isa t U)) (fun hb2 => ?_) fun hb2 => by simp [hb2]
    rw [kitAny_nil]
    simp [hb, hb2]
def MtS (K : PySem.W.Frag) (mg : Str → Option Value) (r : V → List V → Hp → VK → Prop) (f : EH → List Nat → List D → Option D) : Prop := ∀ (c : RC) (h : EH) (z : List Nat) (xs : List V) (ds : List D) (d : D) (Q : VK), c.K = K → MgE c mg → SR c h → Reps c ds xs → f h z ds = some d →
  (∀ c' v, c.Le c' → SR c' h → Rep c' d v → Q v c'.H) → r (.str ⟨z.toArray⟩) xs c.H Q
def mMtS (f : EH → List Nat → List D → Option D) (o : M D) (a : M (List D)) : M D := fun ε h => bR (o ε h) fun x h1 => match x with
  | .str z => bR (a ε h1) fun ds h2 => rt (f h2 z ds) h2
  | _ => none
theorem mts_of {K : PySem.W.Frag} {mg : Str → Option Value} {r : V → List V → Hp → VK → Prop} {f : EH → List Nat → List D → Option D} {o : M D} {a : M (List D)} (hs : MtS K mg r f) {σ : L2.St} {H : Hp} {Q : VK} (h : tE K mg W (mMtS f o a) σ H Q) : tBM K "str" r (tE K mg W o) (tA K mg W a) σ H Q := by
  obtain ⟨c, ε, h, r', h', hK, hm, rfl, sr, er, e, px, go⟩ := h
  unfold tBM
  refine tX.bind hK hm sr er e px fun d h1 c1 v e1 l1 s1 r1 => ?_
  cases r1 with
  | str z =>
    refine ⟨rfl, ?_⟩
    refine tX.bind (l1.K.trans hK) (l1.mg.trans hm) s1 (er.le l1) e1 (px.le l1) fun ds h2 c2 xs e2 l2 s2 r2 => ?_
    cases q : f h2 z ds with
    | none => rw [q] at e2; cases e2
    | some d =>
      rw [q] at e2
      cases e2
      exact hs c2 _ z xs ds d Q ((l2.K.trans l1.K).trans hK) ((l2.mg.trans l1.mg).trans hm) s2 r2 q fun c' v l s r => go d rfl c' v ((l1.trans l2).trans l) s r
  | _ => cases e1
theorem re_mts {id : String} {name : Str} {r : V → List V → Hp → VK → Prop} {f : EH → List Nat → List D → Option D} {o e : Expr} {es : List Expr} {apos cpos : Pos} {mo : M D} {ma : M (List D)} (slot : Slot "str" name id) (hty : typeOf (.builtin id) = pure (.type "method_descriptor")) (hm : MtR X id r) (hs : MtS X.K X.mg r f) (ho : RE X W o mo) (ha : RA X W (e :: es) ma)
    (hbase : attributeBase o name X.env (eval o X.env) = eval o X.env := by rfl)
    (hfew : ((backTo cpos (starEach (e :: es) X.env)).all (fun x => !x.1) && (backToKw cpos (keywordEach [] X.env)).all (fun x => x.1.isSome)
      && decide ((e :: es).length + ([] : List Keyword).length + (if ([] : List Keyword).isEmpty then 0 else 1) < 30)) = true := by rfl)
    (hline : (apos.endLine == cpos.line) = true := by rfl) (hss : starEach (e :: es) X.env = (false, eval e X.env) :: starEach es X.env := by rfl) (hplain : (backTo cpos (starEach es X.env)).any (·.1) = false := by rfl) :
    RE X W (.Call (.Attribute o name apos) (e :: es) [] cpos) (mMtS f mo ma) :=
  pe_imp (pe_bm PySem.F.plainAttrs_str slot hty hm ho ha hbase hfew hline hss hplain) fun _ _ _ h => mts_of hs h
end
/-- lists of texts -/
def asTs : List D → Option (List (List Nat))
  | [] => some []
  | .str z :: ds => (asTs ds).map (z :: ·)
  | _ :: _ => none
theorem asTs_ok {c : RC} : ∀ {ds : List D} {xs : List V} {zs : List (List Nat)}, Reps c ds xs → asTs ds = some zs → xs = (zs.map fun z => (⟨z.toArray⟩ : Str)).map V.str
  | _, _, bs, .nil, e => by cases e; rfl
  | _, _, bs, .cons h t, e => by
    cases h with
    | str z =>
      unfold asTs at e
      rename_i ds vs
      cases q : asTs ds with
      | none => rw [q] at e; cases e
      | some cs => rw [q] at e; cases e; rw [asTs_ok t q]; rfl
    | _ => cases e
def joinT (sep : List Nat) : List (List Nat) → List Nat
  | [] => []
  | [x] => x
  | x :: r => x ++ sep ++ joinT sep r
def dJoin (h : EH) (z : List Nat) (ds : List D) : Option D := match ds with
  | [d] => (match asS h d with
    | some xs => (match asTs xs with
      | some zs => if (zs.map List.length).sum + zs.length * z.length ≤ 16777216 then some (.str (joinT z zs)) else none
      | none => none)
    | none => none)
  | _ => none
theorem join_eq (z : List Nat) : ∀ zs : List (List Nat), Txt.join ⟨z.toArray⟩ (zs.map fun z => (⟨z.toArray⟩ : Str)) = ⟨(joinT z zs).toArray⟩ := by
  intro zs
  show Builtin.Str.glued _ _ = _
  rw [StrLaws.glued_eq_join]
  induction zs with
  | nil => rfl
  | cons x r ih =>
    cases r with
    | nil => rfl
    | cons y r =>
      have e : Str.join (⟨z.toArray⟩ : Str) ((x :: y :: r).map fun z => (⟨z.toArray⟩ : Str)) = (⟨x.toArray⟩ : Str) ++ (⟨z.toArray⟩ : Str) ++ Str.join ⟨z.toArray⟩ ((y :: r).map fun z => (⟨z.toArray⟩ : Str)) := rfl
      rw [e, ih]
      show (⟨x.toArray ++ z.toArray ++ (joinT z (y :: r)).toArray⟩ : Str) = ⟨(x ++ z ++ joinT z (y :: r)).toArray⟩
      simp
section
variable {K : PySem.W.Frag} {mg : Str → Option Value}
theorem ms_join : MtS K mg (fun x xs H Q => ∃ a p, ∃ ys : List Str, x = .str a ∧ xs = [.ref p] ∧ (SqL K H p (ys.map V.str) ∨ SqT K H p (ys.map V.str)) ∧
    (ys.map (·.length)).sum + ys.length * a.length ≤ 16777216 ∧ Q (.str (Txt.join a ys)) H) dJoin := by
  intro c eh z xs ds d Q hK hm sr rx e go
  subst hK
  match ds, rx, e with
  | [d0], .cons r0 .nil, e =>
    cases q : asS eh d0 with
    | none => unfold dJoin at e; simp only [q] at e; cases e
    | some es =>
      unfold dJoin at e
      simp only [q] at e
      obtain ⟨a, ys, rfl, h1, r1⟩ := asS_ok sr r0 q
      cases q2 : asTs es with
      | none => rw [q2] at e; cases e
      | some zs =>
        rw [q2] at e
        dsimp only at e
        by_cases hz : (zs.map List.length).sum + zs.length * z.length ≤ 16777216
        · rw [if_pos hz] at e
          cases e
          refine ⟨_, a, zs.map fun z => (⟨z.toArray⟩ : Str), rfl, rfl, by rw [← asTs_ok r1 q2]; exact h1, ?_, by rw [join_eq]; exact go c _ (.refl c) sr (.str _)⟩
          have e1 : (zs.map fun z => (⟨z.toArray⟩ : Str)).map (·.length) = zs.map List.length := by
            rw [List.map_map]
            refine List.map_congr_left fun x _ => ?_
            simp [Str.length]
          rw [e1, List.length_map]
          simpa [Str.length] using hz
        · rw [if_neg hz] at e; cases e
  | [], _, e => cases e
  | _ :: _ :: _, _, e => cases e
end
def permL {α : Type} (p : List Nat) (xs : List α) : List α := p.filterMap (xs[·]?)
def mPerm (p : List Nat) (a : M (List D)) : M (List D) := fun ε h => bR (a ε h) fun ds h1 => some (.ok (permL p ds), h1)
end PD
namespace PD
open PySem PySem.Spec PyProof.Rows L2
variable [LamTab]
section
variable {X : Cx} {W : WX}
def dAdd : EH → D → D → Option D := fun h x y => (dI2 (fun i j => some (.int (i + j))) h x y).or ((dCatS h x y).or ((dCatT h x y).or (dCatL h x y)))
def dSub : EH → D → D → Option D := dI2 fun i j => some (.int (i - j))
def dMul : EH → D → D → Option D := dI2 fun i j => if CMul i j then some (.int (i * j)) else none
def dDiv : EH → D → D → Option D := dI2 fun i j => if CDiv i j then some (.int (i / j)) else none
def dMod : EH → D → D → Option D := dI2 fun i j => if 0 < j then some (.int (i % j)) else none
def dPow : EH → D → D → Option D := dI2 fun i j => if CPow i j then some (.int (i ^ j.toNat)) else none
def dLt : EH → D → D → Option D := dI2 fun i j => some (.bl (decide (i < j)))
def dLe : EH → D → D → Option D := dI2 fun i j => some (.bl (decide (i ≤ j)))
def dGt : EH → D → D → Option D := dI2 fun i j => some (.bl (decide (j < i)))
def dGe : EH → D → D → Option D := dI2 fun i j => some (.bl (decide (j ≤ i)))
def dInA : EH → D → D → Option D := fun h x y => (dInS false h x y).or (dIn false h x y)
def dNinA : EH → D → D → Option D := fun h x y => (dInS true h x y).or (dIn true h x y)
variable {a b : Expr} {ma mb : M D} {pos : Pos}
theorem re_add (ha : RE X W a ma) (hb : RE X W b mb) : RE X W (.BinOp a .Add b pos) (mBin dAdd ma mb) :=
  re_bin (op_add.or (op_add_str.or (op_catA.or op_cat))) ((ops_I0 _).or (ops_catS.or (ops_catT.or ops_catL))) ha hb
theorem re_sub (ha : RE X W a ma) (hb : RE X W b mb) : RE X W (.BinOp a .Sub b pos) (mBin dSub ma mb) := re_bin op_sub (ops_I0 _) ha hb
theorem re_mul (ha : RE X W a ma) (hb : RE X W b mb) : RE X W (.BinOp a .Mult b pos) (mBin dMul ma mb) := re_bin op_mul (ops_IC CMul _) ha hb
theorem re_div (ha : RE X W a ma) (hb : RE X W b mb) : RE X W (.BinOp a .FloorDiv b pos) (mBin dDiv ma mb) := re_bin op_fdiv (ops_IC CDiv _) ha hb
theorem re_mod (ha : RE X W a ma) (hb : RE X W b mb) : RE X W (.BinOp a .Mod b pos) (mBin dMod ma mb) := re_bin op_mod (ops_IC (fun _ j => 0 < j) _) ha hb
theorem re_pow (ha : RE X W a ma) (hb : RE X W b mb) : RE X W (.BinOp a .Pow b pos) (mBin dPow ma mb) := re_bin op_pow (ops_IC CPow _) ha hb
theorem re_eq {k : Nat} (hr : Room k X.A) (ha : RE X W a ma) (hb : RE X W b mb) : RE X W (.Compare a [.Eq] [b] pos) (mBin dEq ma mb) := re_cmp (op_eq.or (op_eqD hr.units)) (ops_eqS.or ops_eqD) ha hb (nomark _)
theorem re_in (ha : RE X W a ma) (hb : RE X W b mb) (hm : behindInMarks .In b = false := by rfl) : RE X W (.Compare a [.In] [b] pos) (mBin dInA ma mb) := re_cmp (op_in_sign.or op_in_seq) (ops_inS.or (ops_in false)) ha hb hm
theorem re_is (ha : RE X W a ma) (hb : RE X W b mb) : RE X W (.Compare a [.Is] [b] pos) (mBin (dIsN false) ma mb) := re_cmp op_isN ops_isN ha hb (nomark _)
theorem rt_lt (ha : RE X W a ma) (hb : RE X W b mb) : RT X W (.Compare a [.Lt] [b] pos) (mTst (mBin dLt ma mb)) := rt_cmp op_lt (ops_B0 _) ha hb (nomark _)
theorem rt_gt (ha : RE X W a ma) (hb : RE X W b mb) : RT X W (.Compare a [.Gt] [b] pos) (mTst (mBin dGt ma mb)) := rt_cmp op_gt (ops_B0 fun i j => decide (j < i)) ha hb (nomark _)
theorem rt_ge (ha : RE X W a ma) (hb : RE X W b mb) : RT X W (.Compare a [.GtE] [b] pos) (mTst (mBin dGe ma mb)) := rt_cmp op_ge (ops_B0 fun i j => decide (j ≤ i)) ha hb (nomark _)
theorem rt_eq {k : Nat} (hr : Room k X.A) (ha : RE X W a ma) (hb : RE X W b mb) : RT X W (.Compare a [.Eq] [b] pos) (mTst (mBin dEq ma mb)) := rt_cmp (op_eq.or (op_eqD hr.units)) (ops_eqS.or ops_eqD) ha hb (nomark _)
theorem rt_ne {k : Nat} (hr : Room k X.A) (ha : RE X W a ma) (hb : RE X W b mb) : RT X W (.Compare a [.NotEq] [b] pos) (mTst (mBin dNe ma mb)) := rt_cmp (op_ne.or (op_neD hr.units)) (ops_neS.or ops_neD) ha hb (nomark _)
theorem rt_in (ha : RE X W a ma) (hb : RE X W b mb) (hm : behindInMarks .In b = false := by rfl) : RT X W (.Compare a [.In] [b] pos) (mTst (mBin dInA ma mb)) := rt_cmp (op_in_sign.or op_in_seq) (ops_inS.or (ops_in false)) ha hb hm
theorem rt_nin (ha : RE X W a ma) (hb : RE X W b mb) (hm : behindInMarks .NotIn b = false := by rfl) : RT X W (.Compare a [.NotIn] [b] pos) (mTst (mBin dNinA ma mb)) := rt_cmp (op_notIn_sign.or op_notIn_seq) (ops_ninS.or (ops_in true)) ha hb hm
theorem rt_is (ha : RE X W a ma) (hb : RE X W b mb) : RT X W (.Compare a [.Is] [b] pos) (mTst (mBin (dIsN false) ma mb)) := rt_cmp op_isN ops_isN ha hb (nomark _)
def mChain (f g : EH → D → D → Option D) (a b c : M D) : M D := fun ε h => bR (a ε h) fun x h1 => bR (b ε h1) fun y h2 => bR (rt ((f h2 x y).bind asB) h2) fun k h3 => if k = true then bR (c ε h3) fun z h4 => rt (g h4 y z) h4 else some (.ok (.bl false), h3)
theorem chain_of {K : PySem.W.Frag} {mg : Str → Option Value} {r r' : R2} {f g : EH → D → D → Option D} {a b c : M D} (hs : OpS K mg r f) (hs' : OpS K mg r' g) {σ : L2.St} {H : Hp} {Q : VK} (h : tE K mg W (mChain f g a b c) σ H Q) : tChain r r' (tE K mg W a) (tE K mg W b) (tE K mg W c) σ H Q := by
  obtain ⟨c0, ε, h, r0, h', hK, hm, rfl, sr, er, e, px, go⟩ := h
  unfold tChain
  refine tX.bind hK hm sr er e px fun dx h1 c1 x e1 l1 s1 r1 => ?_
  refine tX.bind (l1.K.trans hK) (l1.mg.trans hm) s1 (er.le l1) e1 (px.le l1) fun dy h2 c2 y e2 l2 s2 r2 => ?_
  have L2' := l1.trans l2
  cases q : f h2 dx dy with
  | none => rw [q] at e2; cases e2
  | some d =>
    rw [q] at e2
    cases d with
    | bl k =>
      refine hs c2 _ x y dx dy _ _ (L2'.K.trans hK) (L2'.mg.trans hm) s2 (r1.le l2) r2 q fun c3 v l3 s3 r3 => ?_
      have L3 := L2'.trans l3
      cases r3
      refine ⟨k, rfl, ?_⟩
      cases k with
      | false =>
        rw [if_neg Bool.false_ne_true]
        cases e2
        exact go _ rfl c3 _ L3 s3 (.bl false)
      | true =>
        rw [if_pos rfl]
        have e2' : bR (c ε h2) (fun z h4 => rt (g h4 dy z) h4) = some (r0, h') := e2
        refine tX.bind (L3.K.trans hK) (L3.mg.trans hm) s3 (er.le L3) e2' (px.le L3) fun dz h4 c4 z e4 l4 s4 r4 => ?_
        cases q4 : g h4 dy dz with
        | none => rw [q4] at e4; cases e4
        | some d4 =>
          rw [q4] at e4
          cases e4
          exact hs' c4 _ y z dy dz d4 Q ((L3.trans l4).K.trans hK) ((L3.trans l4).mg.trans hm) s4 ((r2.le l3).le l4) r4 q4 fun c' v l s r => go _ rfl c' v ((L3.trans l4).trans l) s r
    | _ => cases e2
variable {c : Expr} {mc : M D}
theorem rt_lele (ha : RE X W a ma) (hb : RE X W b mb) (hc : RE X W c mc) (hm : lastMarks [.LtE, .LtE] [b, c] = false := by with_unfolding_all rfl) : RT X W (.Compare a [.LtE, .LtE] [b, c] pos) (mTst (mChain dLe dLe ma mb mc)) :=
  pt_imp (pt_chain op_le op_le ha hb hc hm) fun _ _ _ h => chain_of (ops_B0 _) (ops_B0 _) (tB_of h)
def mNeg (a : M D) : M D := fun ε h => bR (a ε h) fun x h1 => match x with
  | .int i => some (.ok (.int (-i)), h1)
  | _ => none
theorem re_ix (ha : RE X W a ma) (hb : RE X W b mb) (hs : PlainIx b := by exact fun _ _ => rfl) : RE X W (.Subscript a b pos) (mBin dIx ma mb) := pe_imp (pe_ix ix_seq ha hb hs) fun _ _ _ h => top_of ops_ix h
variable {e : Expr} {p : Pos} {m : M (List D)}
theorem re_len (hm : X.mg "len" = none) (ha : RA X W [e] m) (hg : Gl X "len" := by rfl) (he : starEach [e] X.env = (false, eval e X.env) :: starEach [] X.env := by rfl) : RE X W (.Call (.Name "len" p) [e] [] pos) (mCall dLen m) := re_callB call_len cs_len hm ha (by decide +kernel) hg (by decide) (by decide) he rfl
theorem re_intc (hm : X.mg "int" = none) (ha : RA X W [e] m) (hg : Gl X "int" := by rfl) (he : starEach [e] X.env = (false, eval e X.env) :: starEach [] X.env := by rfl) : RE X W (.Call (.Name "int" p) [e] [] pos) (mCall dInt m) := re_callTy (call_int1.or call_int_str) cs_int hm ha (by decide +kernel) hg (by decide) (by decide) he rfl
theorem re_listc (hm : X.mg "list" = none) (ha : RA X W [e] m) (hg : Gl X "list" := by rfl) (he : starEach [e] X.env = (false, eval e X.env) :: starEach [] X.env := by rfl) : RE X W (.Call (.Name "list" p) [e] [] pos) (mCall dList m) := re_callTy call_list_of cs_list hm ha (by decide +kernel) hg (by decide) (by decide) he rfl
theorem re_tuplec (hm : X.mg "tuple" = none) (ha : RA X W [e] m) (hg : Gl X "tuple" := by rfl) (he : starEach [e] X.env = (false, eval e X.env) :: starEach [] X.env := by rfl) : RE X W (.Call (.Name "tuple" p) [e] [] pos) (mCall dTuple m) := re_callTy call_tuple_of cs_tuple hm ha (by decide +kernel) hg (by decide) (by decide) he rfl
theorem re_all (hc : X.calm = true) (hm : X.mg "all" = none) (ha : RA X W [e] m) (hg : Gl X "all" := by rfl) (he : starEach [e] X.env = (false, eval e X.env) :: starEach [] X.env := by rfl) : RE X W (.Call (.Name "all" p) [e] [] pos) (mCall dAll m) := re_callB (cr_all hc) cs_all hm ha (by decide +kernel) hg (by decide) (by decide) he rfl
theorem re_join {o : Expr} {mo : M D} {apos : Pos} (ho : RE X W o mo) (ha : RA X W [e] m) (hbase : attributeBase o "join" X.env (eval o X.env) = eval o X.env := by rfl)
    (hfew : ((backTo pos (starEach [e] X.env)).all (fun x => !x.1) && (backToKw pos (keywordEach [] X.env)).all (fun x => x.1.isSome)
      && decide (([e] : List Expr).length + ([] : List Keyword).length + (if ([] : List Keyword).isEmpty then 0 else 1) < 30)) = true := by rfl)
    (hline : (apos.endLine == pos.line) = true := by rfl) (hss : starEach [e] X.env = (false, eval e X.env) :: starEach [] X.env := by rfl) : RE X W (.Call (.Attribute o "join" apos) [e] [] pos) (mMtS dJoin mo m) :=
  re_mts PySem.F.slot_str_join PySem.F.type_str_join mt_join ms_join ho ha hbase hfew hline hss rfl
theorem rs_setLc (i : Nat) {y : Str} {py : Pos} {elt tg iter : Expr} {ifs : List Expr} {scope : Scope} {own : List (Str × Nat)} {pos spos : Pos} {mi : M (List D)} {g : MG} {S : List Nat} {t : M Bool} {e : M D} (hc : X.calm = true) (hN : X.N.Nodup)
    (hi : RI X W tg iter mi) (ok : BlkOk X.N X.env.scope scope own)
    (hg : ∀ (s : Shared) (H : Hp) (C : Addr) (cl : List (Str × Addr)) (fp : List Addr), RG (X.blk s H scope (compEnvC scope cl C X.env) fp) tg S g) (ht : ∀ (s : Shared) (H : Hp) (C : Addr) (cl : List (Str × Addr)) (fp : List Addr), RTs (X.blk s H scope (compEnvC scope cl C X.env) fp) W0 ifs t)
    (he : ∀ (s : Shared) (H : Hp) (C : Addr) (cl : List (Str × Addr)) (fp : List Addr), RE (X.blk s H scope (compEnvC scope cl C X.env) fp) W0 elt e) (hS : ∀ i ∈ S, i ∈ own.map (·.2) := by decide) (hy : X.N[i]? = some y := by rfl) (hyl : X.env.scope.names.lookup y = some .local := by rfl)
    (hsw : swapsWith (.ListComp elt [⟨tg, iter, ifs, 0⟩] scope pos) (some (.Name y py)) spos.line X.env = pure true := by exact sw_true rfl rfl rfl (by decide +kernel)) (hs : ∀ x, foldedSetIterable iter X.env x = pure x := by intro _; rfl) :
    RSt X W (.Assign [.Name y py] (.ListComp elt [⟨tg, iter, ifs, 0⟩] scope pos) spos) (msAsg (mLc (own.map (·.2)) mi g t e) (mgName i)) := by
  refine ps_imp (ps_setLc (g := tG X.K X.mg S g) (tt := tT X.K X.mg W0 t) (te := tE X.K X.mg W0 e) hc hN hy hyl hsw hi ok hg ht he hs) fun D σ H h => ?_
  obtain ⟨c, ε, h, r, h', hK, hm, rfl, sr, er, e, fin⟩ := h
  unfold tAsg
  refine lc_of hS ?_
  refine tX.stm hK hm sr er e fin fun d h1 c1 v e1 l1 s1 r1 => ?_
  cases e1
  exact fin c1 _ l1 s1 ((er.le l1).set r1 i)
end
section
variable {P : Program} {w : World} {K : PySem.W.Frag} {mg : Str → Option Value} {base : Heap} {N : List Str} {qual : Str} {scope : Scope} {f : Addr} {cdv : Value} {A : Around} {outer : List Env} {s : Shared} {H : Hp} {E : XK}
theorem tkOf : Takes (cxOf (L2.CX P w) P w K mg base N qual scope f cdv A outer s H E) (fun cls d _ H' => E cls d H') := takes_of rfl rfl rfl rfl
theorem poOf : PassesOwn (model P w) (A.deeper (envOfC qual scope s.heap.objs.size f cdv)) (envOfC qual scope s.heap.objs.size f cdv) (cxOf (L2.CX P w) P w K mg base N qual scope f cdv A outer s H E).xe := PassesOwn.leaving
end
end PD
namespace PD
open PySem PySem.Spec PyProof.Rows L2
variable [LamTab]
theorem ba2 {a b : Bool} (h : (a && b) = true) : a = true ∧ b = true := by simpa using h
mutual
theorem dB_ok {K : PySem.W.Frag} : ∀ {d : D} {u : Value}, dB K d u = true → ∃ v, RelV v u ∧ ∀ c : RC, c.K = K → Rep c d v
  | .non, u, h => by
    cases u <;> first | (rw [dB] at h <;> first | cases h | (intros; simp at *)) | skip
    exact ⟨.non, rfl, fun c _ => .non⟩
  | .bl b, u, h => by
    cases u with
    | bool c =>
      rw [dB] at h
      have e : b = c := by simpa using h
      subst e
      exact ⟨.bl b, rfl, fun c _ => .bl b⟩
    | _ => simp [dB] at h
  | .int i, u, h => by
    cases u with
    | int j t =>
      rw [dB] at h
      have e : i = j := of_decide_eq_true h
      subst e
      exact ⟨.int i, ⟨t, rfl⟩, fun c _ => .int i⟩
    | _ => simp [dB] at h
  | .str cs, u, h => by
    cases u with
    | str y t =>
      rw [dB] at h
      have e : y.cps.toList = cs := of_decide_eq_true h
      subst e
      exact ⟨.str y, ⟨t, rfl⟩, fun c _ => .str _⟩
    | _ => simp [dB] at h
  | .tup ds, u, h => by
    cases u with
    | ref a =>
      rw [dB] at h
      cases q : K.lookup a with
      | none => rw [q] at h; cases h
      | some o =>
        obtain ⟨oc, od, dt, osl⟩ := o
        rw [q] at h
        cases oc with
        | type c =>
          cases dt with
          | seq its n =>
            obtain ⟨h1, h2⟩ := ba2 (show (decide (c = "tuple") && (decide (its.size ≤ sizeLine) && dBs K ds its.toList)) = true from h)
            obtain ⟨h3, h4⟩ := ba2 h2
            obtain ⟨vs, r, rp⟩ := dBs_ok h4
            refine ⟨.ref a, rfl, fun c0 hK => .tup (.inr ⟨_, its, n, by rw [hK]; exact q, congrArg Value.type (of_decide_eq_true h1), rfl, of_decide_eq_true h3, r⟩) (rp c0 hK)⟩
          | _ => cases h
        | _ => cases dt <;> cases h
    | _ => simp [dB] at h
  | .scr ds, u, h => by
    cases u with
    | ref a =>
      rw [dB] at h
      cases q : K.lookup a with
      | none => rw [q] at h; cases h
      | some o =>
        obtain ⟨oc, od, dt, osl⟩ := o
        rw [q] at h
        cases oc with
        | type c =>
          cases od with
          | none =>
            cases dt with
            | seq its n =>
              obtain ⟨h1, h2⟩ := ba2 (show (decide (c = "list") && (decide (its.size ≤ sizeLine) && dBs K ds its.toList)) = true from h)
              obtain ⟨h3, h4⟩ := ba2 h2
              obtain ⟨vs, r, rp⟩ := dBs_ok h4
              refine ⟨.ref a, rfl, fun c0 hK => .scr (.inr ⟨_, its, n, by rw [hK]; exact q, congrArg Value.type (of_decide_eq_true h1), rfl, rfl, of_decide_eq_true h3, r⟩) (rp c0 hK)⟩
            | _ => cases h
          | some x => cases dt <;> cases h
        | _ => cases od <;> cases dt <;> cases h
    | _ => simp [dB] at h
  | .lst _, u, h => by simp [dB] at h
  | .dic _ _, u, h => by simp [dB] at h
  | .obj _ _, u, h => by simp [dB] at h
  | .ref _, u, h => by simp [dB] at h
theorem dBs_ok {K : PySem.W.Frag} : ∀ {ds : List D} {us : List Value}, dBs K ds us = true → ∃ vs, Vals vs us ∧ ∀ c : RC, c.K = K → Reps c ds vs
  | [], us, h => by
    cases us with
    | nil => exact ⟨[], .nil, fun _ _ => .nil⟩
    | cons _ _ => simp [dBs] at h
  | d :: ds, us, h => by
    cases us with
    | nil => simp [dBs] at h
    | cons u us =>
      rw [dBs] at h
      obtain ⟨h1, h2⟩ := ba2 h
      obtain ⟨v, r, rp⟩ := dB_ok h1
      obtain ⟨vs, rs, rps⟩ := dBs_ok h2
      exact ⟨v :: vs, .cons r rs, fun c hK => .cons (rp c hK) (rps c hK)⟩
end
theorem globC_of {K : PySem.W.Frag} {h : Heap} {mg : Str → Option Value} (X : K.In h) (G : h.Ns mainGlobals mg) {x : Str} {d : D} (c : gloB K x d = true) : GlobC K mg x d := by
  unfold gloB at c
  cases q : PySem.W.nsIn K mainGlobals x with
  | none => rw [q] at c; cases c
  | some u =>
    cases u with
    | none => rw [q] at c; cases c
    | some u =>
      rw [q] at c
      obtain ⟨v, r, rp⟩ := dB_ok c
      exact ⟨u, v, PySem.W.mg_of X G q, r, fun c hK _ => rp c hK⟩
theorem SaysG.d {fa : List He.Fa} {fn : List He.DefD} {gs : List (Str × D)} {K : PySem.W.Frag} (c : SaysG fa fn gs K) : He.SaysD fa fn K := congrArg (fun z : AlG => z.1) c
theorem SaysG.glob {fa : List He.Fa} {fn : List He.DefD} {gs : List (Str × D)} {K : PySem.W.Frag} (c : SaysG fa fn gs K) {p : Str × D} (hp : p ∈ gs) : gloB K p.1 p.2 = true :=
  List.all_eq_true.mp (congrArg (fun z : AlG => z.2) c : (gs.all fun p => gloB K p.1 p.2) = true) p hp
theorem SaysD.facts' {fa : List He.Fa} {fn : List He.DefD} {K : PySem.W.Frag} (c : He.SaysD fa fn K) {f : He.Fa} (h : f ∈ fa) : f.ok K = true := by
  obtain ⟨i, hi, e⟩ := List.mem_iff_getElem.mp h
  exact c.fact i (f := f) (by rw [List.getElem?_eq_getElem hi, e])
theorem SaysD.def' {fa : List He.Fa} {fn : List He.DefD} {K : PySem.W.Frag} (c : He.SaysD fa fn K) {d : He.DefD} (h : d ∈ fn) : ∃ fd, FunD K d.name d.qual d.params d.body d.scope (d.dvs K) (d.kws K) (He.fAd K d.at_) fd := by
  obtain ⟨i, hi, e⟩ := List.mem_iff_getElem.mp h
  exact c.def_ i (d := d) (by rw [List.getElem?_eq_getElem hi, e])
section
variable {P : Program} {w : World} {K : PySem.W.Frag} {mg : Str → Option Value} {base : Heap}
theorem fnOk0 {k n : Nat} {f : Addr} {fd : FuncData} {ps : List Str} : FnOk P w K mg base (L2.CX P w) k f fd ps (SpP K mg n fun _ => none) :=
  ⟨fun vs H Q E h => (by obtain ⟨_, _, _, _, _, _, _, _, _, _, e, _⟩ := h; cases e), fun A outer s H args us vs Q E _ _ _ _ h => (by obtain ⟨_, _, _, _, _, _, _, _, _, _, e, _⟩ := h; cases e)⟩
theorem FnP.mono {x : Str} {j k n : Nat} {F : PF} (h : FnP P w K mg base x j n F) (l : j ≤ k) : FnP P w K mg base x k n F := by
  obtain ⟨f, fd, ps, a, b, c, d, e⟩ := h.ex
  exact ⟨⟨f, fd, ps, a, b, c, d, e.mono l⟩⟩
end
end PD
namespace PD
open PySem PySem.Spec PyProof.Rows L2
variable [LamTab]
theorem reps_ints {c : RC} : ∀ ns : List Int, Reps c (ns.map D.int) (ns.map V.int)
  | [] => .nil
  | n :: ns => .cons (.int n) (reps_ints ns)
end PD
namespace PD
open PySem PySem.Spec PyProof.Rows L2
variable [LamTab]
def s1 (f : List Nat → Option D) (ds : List D) : Option D := match ds with
  | [.str s] => f s
  | _ => none
end PD
namespace PD
open PySem PySem.Spec PyProof.Rows L2
variable [LamTab]
def insD (h : EH) (d : D) : Option (Str × List (Str × D)) := match d with
  | .obj C fs => some (C, fs)
  | .ref n => (match h[n]? with
    | some (.obj C fs) => some (C, fs)
    | _ => none)
  | _ => none
theorem insD_ok {c : RC} {h : EH} {d : D} {v : V} {C : Str} {fs : List (Str × D)} (s : SR c h) (r : Rep c d v) (e : insD h d = some (C, fs)) :
    ∃ a Ca dx vs, v = .ref a ∧ c.mg C = some (.ref Ca) ∧ c.H a = some (.ins Ca dx vs) ∧ RepF c fs vs := by
  cases r with
  | obj m k1 k2 k3 => cases e; exact ⟨_, _, _, _, rfl, m, k1, k3⟩
  | @ref n a hn =>
    unfold insD at e
    dsimp only at e
    cases q : h[n]? with
    | none => rw [q] at e; cases e
    | some k =>
      rw [q] at e
      cases k with
      | obj C' fs' =>
        cases e
        obtain ⟨Ca, dx, vs, h1, h2, h3⟩ := s.cells n a _ hn q
        exact ⟨a, Ca, dx, vs, rfl, h1, h2, h3⟩
      | _ => cases e
  | _ => cases e
/-- what one has of a class whose fields fs are read or written -/
def ClsF (K : PySem.W.Frag) (mg : Str → Option Value) (C f : Str) : Prop := ∃ Ca, mg C = some (.ref Ca) ∧ Cls K Ca ∧ NoAttr K Ca f
def ClsFs (K : PySem.W.Frag) (mg : Str → Option Value) (Cs : List Str) (f : Str) : Prop := ∀ C ∈ Cs, ClsF K mg C f
theorem ClsFs.nil {K : PySem.W.Frag} {mg : Str → Option Value} {f : Str} : ClsFs K mg [] f := fun _ h => nomatch h
theorem ClsFs.cons {K : PySem.W.Frag} {mg : Str → Option Value} {C f : Str} {Cs : List Str} (h : ClsF K mg C f) (t : ClsFs K mg Cs f) : ClsFs K mg (C :: Cs) f := fun D hD => by
  rcases List.mem_cons.mp hD with e | e
  · rw [e]; exact h
  · exact t D e
theorem ClsFs.at {K : PySem.W.Frag} {mg : Str → Option Value} {C f : Str} {Cs : List Str} {Ca : Addr} (h : ClsFs K mg Cs f) (hC : C ∈ Cs) (hm : mg C = some (.ref Ca)) : Cls K Ca ∧ NoAttr K Ca f := by
  obtain ⟨Cb, h1, h2, h3⟩ := h C hC
  rw [hm] at h1
  cases h1
  exact ⟨h2, h3⟩
/-- o.f -/
def dFld (Cs : List Str) (f : Str) (h : EH) (d : D) : Option D := match insD h d with
  | some (C, fs) => if C ∈ Cs then fs.lookup f else none
  | none => none
def mFld (Cs : List Str) (f : Str) (a : M D) : M D := fun ε h => bR (a ε h) fun x h1 => rt (dFld Cs f h1 x) h1
section
variable {X : Cx} {W : WX}
theorem re_fld {Cs : List Str} {f : Str} {e : Expr} {m : M D} {pos : Pos} (hC : ClsFs X.K X.mg Cs f) (he : RE X W e m) (hb : attributeBase e f X.env (eval e X.env) = eval e X.env := by rfl) : RE X W (.Attribute e f pos) (mFld Cs f m) := by
  refine pe_imp (pe_fld he hb) fun σ H Q h => ?_
  obtain ⟨c, ε, h, r, h', hK, hm, rfl, sr, er, e, px, go⟩ := h
  unfold tFld
  refine tX.bind hK hm sr er e px fun d h1 c1 v e1 l1 s1 r1 => ?_
  unfold dFld at e1
  cases q : insD h1 d with
  | none => rw [q] at e1; cases e1
  | some z =>
    obtain ⟨C, fs⟩ := z
    rw [q] at e1
    dsimp only at e1
    by_cases hc : C ∈ Cs
    · rw [if_pos hc] at e1
      obtain ⟨a, Ca, dx, vs, rfl, k1, k2, k3⟩ := insD_ok s1 r1 q
      cases q2 : fs.lookup f with
      | none => rw [q2] at e1; cases e1
      | some d2 =>
        rw [q2] at e1
        cases e1
        obtain ⟨v2, h2, r2⟩ := k3.look q2
        obtain ⟨hc1, hc2⟩ := hC.at hc (by rw [← hm.mge, ← l1.mg.e']; exact k1)
        exact ⟨a, Ca, dx, vs, v2, rfl, k2, hc1, hc2, h2, go _ rfl c1 v2 l1 s1 r2⟩
    · rw [if_neg hc] at e1; cases e1
theorem putF_rep {c : RC} {f : Str} {d : D} {v : V} (r : Rep c d v) : ∀ {fs : List (Str × D)} {vs : List (Str × V)}, RepF c fs vs → RepF c (putD f d fs) (putF f v vs)
  | _, _, .nil => .cons r .nil
  | _, _, .cons (f := g) h t => by
    unfold putD putF
    by_cases e : g = f
    · rw [if_pos e, if_pos e]; exact .cons r t
    · rw [if_neg e, if_neg e]; exact .cons h (putF_rep r t)
def putO (Cs : List Str) (f : Str) (h : EH) (x y : D) : Option EH := match x with
  | .ref n => (match h[n]? with
    | some (.obj C fs) => if C ∈ Cs ∧ fs.length < 1000 then some (h.set n (.obj C (putD f y fs))) else none
    | _ => none)
  | _ => none
def msFld (Cs : List Str) (f : Str) (o v : M D) : MS := fun ε h => bS (v ε h) ε fun y h1 => bS (o ε h1) ε fun x h2 => (putO Cs f h2 x y).map fun h3 => (.nx ε, h3)
theorem putO_ok {c : RC} {h h' : EH} {Cs : List Str} {f : Str} {x y : D} {u v : V} (s : SR c h) (rx : Rep c x u) (ry : Rep c y v) (e : putO Cs f h x y = some h') (hC : ClsFs c.K c.mg Cs f) :
    ∃ a Ca dx vs, u = .ref a ∧ c.H a = some (.ins Ca dx vs) ∧ Cls c.K Ca ∧ NoAttr c.K Ca f ∧ vs.length < 1000 ∧ c.Le (c.put a (.ins Ca dx (putF f v vs))) ∧ SR (c.put a (.ins Ca dx (putF f v vs))) h' := by
  cases rx with
  | @ref n a hn =>
    unfold putO at e
    dsimp only at e
    cases q : h[n]? with
    | none => rw [q] at e; cases e
    | some k =>
      rw [q] at e
      cases k with
      | obj C fs =>
        dsimp only at e
        by_cases hc : C ∈ Cs ∧ fs.length < 1000
        · rw [if_pos hc] at e
          cases e
          obtain ⟨Ca, dx, vs, h1, h2, h3⟩ := s.cells n a _ hn q
          obtain ⟨hc1, hc2⟩ := hC.at hc.1 h1
          obtain ⟨l3, s3⟩ := s.write (o := .ins Ca dx (putF f v vs)) (k := .obj C (putD f y fs)) hn (fun ys z => by
            rcases z with z | ⟨u, z⟩ <;> rw [h2] at z <;> cases z) (fun o u z => by rw [h2] at z; cases z) fun c' l' eh => ⟨Ca, dx, _, by rw [l'.mg.e']; exact h1, eh, putF_rep (ry.le l') (h3.le l')⟩
          exact ⟨a, Ca, dx, vs, rfl, h2, hc1, hc2, by rw [← h3.length]; exact hc.2, l3, s3⟩
        · rw [if_neg hc] at e; cases e
      | _ => cases e
  | _ => cases e
theorem rs_fld {Cs : List Str} {f : Str} {o value : Expr} {mo mv : M D} {pos pos' : Pos} (hC : ClsFs X.K X.mg Cs f) (ho : RE X W o mo) (hv : RE X W value mv) (hs : swapsWith value (some (.Attribute o f pos')) pos.line X.env = pure false := by rfl) :
    RSt X W (.Assign [.Attribute o f pos'] value pos) (msFld Cs f mo mv) := by
  refine ps_imp (ps_fld ho hv hs) fun D σ H h => ?_
  obtain ⟨c, ε, h, r, h', hK, hm, rfl, sr, er, e, fin⟩ := h
  unfold sFld
  refine tX.stm hK hm sr er e fin fun y h1 c1 v e1 l1 s1 r1 => ?_
  refine tX.stm (l1.K.trans hK) (l1.mg.trans hm) s1 (er.le l1) e1 (fin.le l1) fun x h2 c2 u e2 l2 s2 r2 => ?_
  cases q : putO Cs f h2 x y with
  | none => rw [q] at e2; cases e2
  | some h3 =>
    rw [q] at e2
    cases e2
    obtain ⟨a, Ca, dx, vs, rfl, k1, k2, k3, k4, l3, s3⟩ := putO_ok s2 r2 (r1.le l2) q (by rw [l2.K, l1.K, hK, l2.mg.e', l1.mg.e', hm.mge]; exact hC)
    rw [l2.K, l1.K, hK] at k2 k3
    exact ⟨a, Ca, dx, vs, rfl, k1, k2, k3, k4, fin _ σ ((l1.trans l2).trans l3) s3 (((er.le l1).le l2).le l3)⟩
end
structure MetI (P : Program) (w : World) (K : PySem.W.Frag) (mg : Str → Option Value) (base : Heap) (C m : Str) (k n : Nat) (F : IF) : Prop where
  ex : ∃ (Ca f : Addr) (fd : FuncData) (ps : List Str), mg C = some (.ref Ca) ∧ Cls K Ca ∧ Meth K Ca m f ∧ Binds K fd ps [] ∧ ps.length = n ∧ FnOk P w K mg base (L2.CX P w) k f fd ps (SpI K mg n F)
structure MetP (P : Program) (w : World) (K : PySem.W.Frag) (mg : Str → Option Value) (base : Heap) (C m : Str) (k n : Nat) (F : PF) : Prop where
  ex : ∃ (Ca f : Addr) (fd : FuncData) (ps : List Str), mg C = some (.ref Ca) ∧ Cls K Ca ∧ Meth K Ca m f ∧ Binds K fd ps [] ∧ ps.length = n ∧ FnOk P w K mg base (L2.CX P w) k f fd ps (SpP K mg n F)
/-- the wish does not look at the slots -/
def Flat (W : WX) : Prop := ∀ cls d σ σ' H, W cls d σ H → W cls d σ' H
theorem flatE {E : XK} : Flat fun cls d _ H' => E cls d H' := fun _ _ _ _ _ h => h
abbrev EW (W : WX) : XK := fun cls d H => W cls d [] H
theorem passE {X : Cx} {W : WX} (tk : Takes X W) (fl : Flat W) : Passes (L2.CX X.prog X.w) X (EW W) := fun pins σ H s e s' I c => by
  obtain ⟨a, B, H', cls, d, h1, h2, h3, h4, h5, h6, h7, h8⟩ := c
  exact passAt tk σ pins H s e s' I ⟨a, B, H', cls, d, h1, h2, h3, h4, h5, h6, h7, fl _ _ _ _ _ h8⟩
def mMeI (C m : Str) (F : IF) (o : M D) (a : M (List D)) : M D := fun ε h => bR (o ε h) fun x h1 => match insD h1 x with
  | some (C', fs) => if C' = C ∧ fs.lookup m = none then bR (a ε h1) fun ds h2 => F (x :: ds) h2 else none
  | none => none
def mMeP (C m : Str) (F : PF) (o : M D) (a : M (List D)) : M D := fun ε h => bR (o ε h) fun x h1 => match insD h1 x with
  | some (C', fs) => if C' = C ∧ fs.lookup m = none then bR (a ε h1) fun ds h2 => if noRef.go (x :: ds) = true then (F (x :: ds)).map fun r => (r, h2) else none else none
  | none => none
end PD
namespace PD
open PySem PySem.Spec PyProof.Rows L2
variable [LamTab]
section
variable {X : Cx} {W : WX}
theorem spP_of {K : PySem.W.Frag} {mg : Str → Option Value} {c : RC} {h : EH} {ds : List D} {vs : List V} {n : Nat} {F : PF} {r : R D} {Q : VK} {E : XK} (hK : c.K = K) (hm : MgE c mg) (s : SR c h) (rv : Reps c ds vs) (hn : ds.length = n) (hr : noRef.go ds = true) (e : F ds = some r)
    (go : ∀ d, r = .ok d → ∀ c' v, c.Le c' → SR c' h → Rep c' d v → Q v c'.H) (gx : ∀ x, r = .ex x → ∀ c' cls dx, c.Le c' → SR c' h → ExR c' x cls dx → E cls dx c'.H) : SpP K mg n F vs c.H Q E := by
  have r1' : Reps (c.bare fun a => c.B a ∨ a ∈ c.ρ) ds vs := rv.bare (fun _ z => z) hr
  have back : ∀ c', (c.bare fun a => c.B a ∨ a ∈ c.ρ).Le c' → c.Le { c' with ρ := c.ρ, B := c.B } ∧ SR { c' with ρ := c.ρ, B := c.B } h := fun c' l => by
    have l2 : c.Le { c' with ρ := c.ρ, B := c.B } := ⟨l.K, l.mg, fun _ h => h, fun _ h => .inl h, l.dom, fun _ _ h => h, fun a o e t n => ⟨(l.keep a o e t List.not_mem_nil).1, n⟩, l.tup, l.frz⟩
    refine ⟨l2, s.len, s.nd, fun n a k e1 e2 => ?_, s.nb, fun a hb => ?_⟩
    · have cr := s.cells n a k e1 e2
      obtain ⟨o, eo⟩ := cr.ex
      refine cr.le l2 ?_
      have nt : ∀ ps, o ≠ .tbl ps := fun ps z => by
        subst z
        cases k with
        | lst ds => obtain ⟨xs, h1, _⟩ := cr; rw [eo] at h1; cases h1
        | dic t kvs => obtain ⟨o', zs, h1, h3, _⟩ := cr; rw [eo] at h1; cases h1; exact h3.tbl _ rfl
        | obj C fs => obtain ⟨_, _, _, _, h1, _⟩ := cr; rw [eo] at h1; cases h1
      exact (l.keep a o eo nt List.not_mem_nil).1.trans eo.symm
    · obtain ⟨o, eo⟩ := s.bt a hb
      exact l.dom a o eo
  refine ⟨c.bare fun a => c.B a ∨ a ∈ c.ρ, ds, r, hK, hm, rfl, rfl, fun a z => ?_, r1', hn, e, fun d ed c' v l hρ rd => ?_, fun x ex c' cls dx l hρ xr => ?_⟩
  · rcases z with z | z
    · exact s.bt a z
    · exact s.ex z
  · obtain ⟨l2, s2⟩ := back c' l
    refine go d ed { c' with ρ := c.ρ, B := c.B } v l2 s2 ?_
    exact Rep.unbare (fun a ha => l.B a (.inr ha)) (fun a ha => l.B a (.inl ha)) hρ rd
  · obtain ⟨l2, s2⟩ := back c' l
    refine gx x ex { c' with ρ := c.ρ, B := c.B } cls dx l2 s2 ?_
    obtain ⟨Ca, d, us, h1, h2, h3, h4, h5, h6⟩ := xr
    exact ⟨Ca, d, us, h1, h2, h3, h4, ⟨fun z => h5.1 (l.B _ (.inl z)), fun z => h5.1 (l.B _ (.inr z))⟩, RepF.unbare (fun a ha => l.B a (.inr ha)) (fun a ha => l.B a (.inl ha)) hρ h6⟩
theorem meP_of {C m : Str} {Ca : Addr} {n : Nat} {F : PF} {o : M D} {a : M (List D)} {σ : L2.St} {H : Hp} {Q : VK} (hCa : X.mg C = some (.ref Ca)) (fl : Flat W) (hn : ArN n a) (h : tE X.K X.mg W (mMeP C m F o a) σ H Q) :
    tMeth Ca m (SpP X.K X.mg (n + 1) F) [] (EW W) (tE X.K X.mg W o) (tA X.K X.mg W a) σ H Q := by
  obtain ⟨c, ε, h, r, h', hK, hm, rfl, sr, er, e, px, go⟩ := h
  unfold tMeth
  refine tX.bind hK hm sr er e px fun x h1 c1 v e1 l1 s1 r1 => ?_
  cases q : insD h1 x with
  | none => rw [q] at e1; cases e1
  | some z =>
    obtain ⟨C', fs⟩ := z
    rw [q] at e1
    dsimp only at e1
    by_cases hc : C' = C ∧ fs.lookup m = none
    · rw [if_pos hc] at e1
      obtain ⟨p, Cb, dx, vs, rfl, k1, k2, k3⟩ := insD_ok s1 r1 q
      obtain ⟨rfl, hl⟩ := hc
      rw [l1.mg.e', hm.mge, hCa] at k1
      cases k1
      refine ⟨p, dx, vs, rfl, k2, k3.lookN hl, ?_⟩
      cases q1 : a ε h1 with
      | none => rw [q1] at e1; cases e1
      | some z =>
        obtain ⟨ra, h2⟩ := z
        rw [q1] at e1
        cases ra with
        | ex y =>
          cases e1
          exact ⟨c1, ε, h1, .ex y, _, l1.K.trans hK, l1.mg.trans hm, rfl, s1, er.le l1, q1, fun z ez c' cls dx l s xr => px z (by cases ez; rfl) c' cls dx (l1.trans l) s xr, fun a' ea => nomatch ea⟩
        | ok ds =>
          rw [bR_ok] at e1
          by_cases hr : noRef.go (x :: ds) = true
          · rw [if_pos hr] at e1
            cases q2 : F (x :: ds) with
            | none => rw [q2] at e1; cases e1
            | some r2 =>
              rw [q2] at e1
              cases e1
              refine ⟨c1, ε, h1, .ok ds, _, l1.K.trans hK, l1.mg.trans hm, rfl, s1, er.le l1, q1, Px.ok, fun ds' eds c2 us l2 s2 r2' => ?_⟩
              cases eds
              rw [List.append_nil]
              exact spP_of (l2.K.trans (l1.K.trans hK)) (l2.mg.trans (l1.mg.trans hm)) s2 (.cons (r1.le l2) r2') (congrArg Nat.succ (hn _ _ _ _ q1)) hr q2 (fun d ed c' v l s rd => go d ed c' v ((l1.trans l2).trans l) s rd)
                fun y ey c' cls dx l s xr => fl _ _ _ _ _ (px y ey c' cls dx ((l1.trans l2).trans l) s xr)
          · rw [if_neg hr] at e1; cases e1
    · rw [if_neg hc] at e1; cases e1
theorem re_methP0 {pl : Sem Bool} {C m : Str} {o : Expr} {apos pos : Pos} {k j : Nat} {F : PF} {mo : M D} (G : MetP X.prog X.w X.K X.mg X.base C m k 1 F) (hr : Room j X.A) (tk : Takes X W) (fl : Flat W) (ho : RE X W o mo) (hk : k ≤ j := by decide)
    (ht : eval (.Call (.Attribute o m apos) [] [] pos) X.env = (do
      let ov ← eval o X.env
      standAt apos.atName
      let (f, first) ← holding [ov] (getMethod ov m pl)
      callWith pos f first (backTo pos (starEach [] X.env)) (backToKw pos (keywordEach [] X.env))) := by rfl) : RE X W (.Call (.Attribute o m apos) [] [] pos) (mMeP C m F mo mNil) := by
  obtain ⟨Ca, f, fd, ps, h1, h2, h3, h4, h5, h6⟩ := G.ex
  refine pe_imp (pe_meth0 (pl := pl) ho h2 h3 h6 (hr.mono hk) h4 .nil (passE tk fl) ht) fun σ H Q h => ?_
  have := meP_of (n := 0) h1 fl ar_nil h
  unfold tMeth at this ⊢
  refine tx_imp this fun v H1 ⟨a, dx, fs, e1, e2, e3, q⟩ => ⟨a, dx, fs, e1, e2, e3, ?_⟩
  obtain ⟨c, ε, h, r, h', hK, hm, rfl, sr, er, e, px, go⟩ := q
  cases e
  exact go [] rfl c [] (.refl c) sr .nil
end
theorem SR.cellG {c : RC} {h : EH} {p : Addr} {o : HO} {k : Cell} (s : SR c h) (hp : c.H p = none) (hk : ∀ c' : RC, c.Le c' → c'.H p = some o → CellR c' k p) : c.Le { c with ρ := c.ρ ++ [p], H := upd c.H p o } ∧ SR { c with ρ := c.ρ ++ [p], H := upd c.H p o } (h ++ [k]) := by
  have np : p ∉ c.ρ := fun z => by
    obtain ⟨o, e⟩ := s.ex z
    rw [hp] at e; cases e
  have ne : ∀ a o, c.H a = some o → a ≠ p := fun a o e z => by rw [z, hp] at e; cases e
  have l : c.Le { c with ρ := c.ρ ++ [p], H := upd c.H p o } := by
    refine ⟨rfl, ⟨rfl, tabs_upd (noTab_none hp)⟩, fun _ h => h, fun _ h => .inl h, fun a u e => ⟨u, (upd_ne (ne a u e)).trans e⟩, fun n a e => ?_, fun a u e _ n => ⟨(upd_ne (ne a u e)).trans e, fun z => ?_⟩, fun a ys e => ?_, fun a o u e => (upd_ne (ne a _ e)).trans e⟩
    · show (c.ρ ++ [p])[n]? = some a
      rw [List.getElem?_append_left (List.getElem?_eq_some_iff.mp e).1]
      exact e
    · rcases List.mem_append.mp z with z | z
      · exact n z
      · exact ne a u e (List.mem_singleton.mp z)
    · rcases e with e | ⟨u, e⟩
      · exact .inl ((upd_ne (ne a _ e)).trans e)
      · exact .inr ⟨u, (upd_ne (ne a _ e)).trans e⟩
  refine ⟨l, ⟨by rw [List.length_append, List.length_append, s.len]; rfl, ?_, fun n a k' e1 e2 => ?_, fun a ha z => ?_, fun a hb => ?_⟩⟩
  · rw [List.nodup_append]
    refine ⟨s.nd, by simp, fun a ha b hb => ?_⟩
    rw [List.mem_singleton.mp hb]
    exact fun z => np (z ▸ ha)
  · have e1' : (c.ρ ++ [p])[n]? = some a := e1
    by_cases hn : n < c.ρ.length
    · rw [List.getElem?_append_left hn] at e1'
      rw [List.getElem?_append_left (by rw [← s.len]; exact hn)] at e2
      have cr := s.cells n a k' e1' e2
      obtain ⟨o, eo⟩ := cr.ex
      exact cr.le l (upd_ne (ne a o eo))
    · rw [List.getElem?_append_right (by omega)] at e1'
      rw [List.getElem?_append_right (by rw [← s.len]; omega), ← s.len] at e2
      cases q : n - c.ρ.length with
      | zero =>
        rw [q] at e1' e2
        cases e1'
        cases e2
        exact hk _ l upd_same
      | succ m =>
        rw [q] at e1'
        simp at e1'
  · rcases List.mem_append.mp ha with ha | ha
    · exact s.nb a ha z
    · rw [List.mem_singleton.mp ha] at z
      obtain ⟨o, e⟩ := s.bt p z
      rw [hp] at e; cases e
  · obtain ⟨o, e⟩ := s.bt a hb
    exact ⟨o, (upd_ne (ne a o e)).trans e⟩
/-- C(..): __init__ F over the new cell -/
structure MkI (P : Program) (w : World) (K : PySem.W.Frag) (mg : Str → Option Value) (base : Heap) (C : Str) (k n : Nat) (dd : List D) (F : IF) : Prop where
  ex : ∃ (Ca f : Addr) (fd : FuncData) (ps : List Str) (us : List Value) (dvs : List V), mg C = some (.ref Ca) ∧ Mk K Ca f ∧ Binds K fd ps us ∧ Vals dvs us ∧ (∀ c : RC, c.K = K → MgE c mg → Reps c dd dvs) ∧ ps.length = n + 1 + dd.length ∧ FnOk P w K mg base (L2.CX P w) k f fd ps (SpI K mg (n + 1 + dd.length) F)
/-- .. the cell -/
def mMk (C : Str) (dd : List D) (F : IF) (a : M (List D)) : M D := fun ε h => bR (a ε h) fun ds h1 => match F (.ref h1.length :: (ds ++ dd)) (h1 ++ [.obj C []]) with
  | some (.ok .non, h2) => some (.ok (.ref h1.length), h2)
  | some (.ex e, h2) => some (.ex e, h2)
  | _ => none
/-- .. the object as a value, never written again -/
def mMkP (C : Str) (dd : List D) (F : IF) (a : M (List D)) : M D := fun ε h => bR (a ε h) fun ds h1 => match F (.ref h1.length :: (ds ++ dd)) (h1 ++ [.obj C []]) with
  | some (.ok .non, h2) => (match frzI h1.length h2 (.ref h1.length), trim h1.length h2 with
    | some d, some h3 => some (.ok d, h3)
    | _, _ => none)
  | some (.ex e, h2) => if noRef.gf e.fs = true then (trim h1.length h2).map fun h3 => (.ex e, h3) else none
  | _ => none
section
variable {X : Cx} {W : WX}
theorem mk_start {c : RC} {h : EH} {C : Str} {Ca x dx : Addr} (s : SR c h) (hC : c.mg C = some (.ref Ca)) (hx : c.H x = none) (hd : c.H dx = none) (ne : dx ≠ x) :
    c.Le { c with ρ := c.ρ ++ [x], H := upd (upd c.H dx (.own x)) x (.ins Ca dx []) } ∧ SR { c with ρ := c.ρ ++ [x], H := upd (upd c.H dx (.own x)) x (.ins Ca dx []) } (h ++ [.obj C []]) := by
  obtain ⟨l1, s1, f1⟩ := s.new (o := .own x) hd
  have hx' : (c.put dx (.own x)).H x = none := (upd_ne (show x ≠ dx from fun z => ne z.symm)).trans hx
  obtain ⟨l2, s2⟩ := s1.cellG (o := .ins Ca dx []) (k := .obj C []) hx' fun c' l e => ⟨Ca, dx, [], by rw [l.mg.e']; exact hC, e, .nil⟩
  exact ⟨l1.trans l2, s2⟩
theorem mkP_of {C : Str} {Ca : Addr} {n : Nat} {dd : List D} {dvs : List V} {F : IF} {a : M (List D)} {σ : L2.St} {H : Hp} {Q : VK} (hCa : X.mg C = some (.ref Ca)) (hd : ∀ c : RC, c.K = X.K → MgE c X.mg → Reps c dd dvs) (fl : Flat W) (hn : ArN n a) (h : tE X.K X.mg W (mMkP C dd F a) σ H Q) :
    tMake Ca (SpI X.K X.mg (n + 1 + dd.length) F) dvs (EW W) (tA X.K X.mg W a) σ H Q := by
  obtain ⟨c, ε, h, r, h', hK, hm, rfl, sr, er, e, px, go⟩ := h
  unfold tMake
  cases q1 : a ε h with
  | none => rw [mMkP, q1] at e; cases e
  | some z =>
    obtain ⟨ra, h1⟩ := z
    rw [mMkP, q1] at e
    cases ra with
    | ex y =>
      cases e
      exact ⟨c, ε, h, .ex y, _, hK, hm, rfl, sr, er, q1, fun z ez => px z (by cases ez; rfl), fun a' ea => nomatch ea⟩
    | ok ds =>
      refine ⟨c, ε, h, .ok ds, h1, hK, hm, rfl, sr, er, q1, Px.ok, fun ds' eds c1 vs l1 s1 r1 x dx hx hdx ne => ?_⟩
      cases eds
      have hK1 := l1.K.trans hK
      have hm1 := l1.mg.trans hm
      obtain ⟨l2, s2⟩ := mk_start (C := C) (Ca := Ca) s1 (by rw [hm1.mge]; exact hCa) hx hdx ne
      rw [bR_ok] at e
      have rx : Rep { c1 with ρ := c1.ρ ++ [x], H := upd (upd c1.H dx (.own x)) x (.ins Ca dx []) } (.ref h1.length) (.ref x) := .ref (by
        show (c1.ρ ++ [x])[h1.length]? = some x
        rw [← s1.len, List.getElem?_append_right (Nat.le_refl _), Nat.sub_self]
        rfl)
      have rr := Reps.cons rx ((r1.le l2).append (hd _ hK1 (l2.mg.trans hm1)))
      have len : (D.ref h1.length :: (ds ++ dd)).length = n + 1 + dd.length := by
        rw [List.length_cons, List.length_append, hn _ _ _ _ q1]
        omega
      have L2' := l1.trans l2
      -- back to the cells before
      have lc : ∀ c', { c1 with ρ := c1.ρ ++ [x], H := upd (upd c1.H dx (.own x)) x (.ins Ca dx []) }.Le c' → c1.Le (c'.cut c1.ρ.length) := fun c' l => le_cut (l2.trans l)
      cases q2 : F (.ref h1.length :: (ds ++ dd)) (h1 ++ [.obj C []]) with
      | none => rw [q2] at e; cases e
      | some z =>
        obtain ⟨rf, h2⟩ := z
        rw [q2] at e
        cases rf with
        | ok d =>
          cases d with
          | non =>
            dsimp only at e
            cases q3 : frzI h1.length h2 (.ref h1.length) with
            | none => rw [q3] at e; cases e
            | some d' =>
              cases q4 : trim h1.length h2 with
              | none => rw [q3, q4] at e; cases e
              | some h3 =>
                rw [q3, q4] at e
                cases e
                refine ⟨{ c1 with ρ := c1.ρ ++ [x], H := upd (upd c1.H dx (.own x)) x (.ins Ca dx []) }, _, _, _, _, hK1, l2.mg.trans hm1, rfl, s2, rr, len, q2, fun d ed c' v l s rd => (by
                  cases ed; cases rd
                  rw [← s1.len] at q3 q4
                  have rx' := rx.le l
                  rw [← s1.len] at rx'
                  exact ⟨rfl, go _ rfl (c'.cut c1.ρ.length) _ (l1.trans (lc c' l)) (trim_ok s q4) (frzI_ok s rx' q3)⟩), fun y ey => nomatch ey⟩
          | _ => cases e
        | ex y =>
          dsimp only at e
          by_cases hr : noRef.gf y.fs = true
          · rw [if_pos hr] at e
            cases q4 : trim h1.length h2 with
            | none => rw [q4] at e; cases e
            | some h3 =>
              rw [q4] at e
              cases e
              refine ⟨{ c1 with ρ := c1.ρ ++ [x], H := upd (upd c1.H dx (.own x)) x (.ins Ca dx []) }, _, _, _, _, hK1, l2.mg.trans hm1, rfl, s2, rr, len, q2, (fun d ed => nomatch ed), fun z ez c' cls dx l s xr => (by
                cases ez
                rw [← s1.len] at q4
                refine fl _ _ _ _ _ (px y rfl (c'.cut c1.ρ.length) cls dx (l1.trans (lc c' l)) (trim_ok s q4) ?_)
                obtain ⟨Ca', d, us, g1, g2, g3, g4, g5, g6⟩ := xr
                exact ⟨Ca', d, us, g1, g2, g3, g4, ⟨g5.1, fun z => g5.2 (List.mem_of_mem_take z)⟩, g6.re cut_sub hr⟩)⟩
          · rw [if_neg hr] at e; cases e
variable {C : Str} {p pos : Pos} {e : Expr} {es : List Expr} {k j n : Nat} {dd : List D} {F : IF} {ma : M (List D)}
theorem re_mkP (G : MkI X.prog X.w X.K X.mg X.base C k n dd F) (hr : Room j X.A) (tk : Takes X W) (fl : Flat W) (ha : RA X W (e :: es) ma) (hk : k + 1 ≤ j := by decide)
    (hn : ArN n ma := by repeat (first | exact ar_nil | refine ar_cons ?_)) (hg : Gl X C := by rfl) (hdb : (C == ("__debug__" : Str)) = false := by decide) (he : starEach (e :: es) X.env = (false, eval e X.env) :: starEach es X.env := by rfl) (hpl : (backTo pos (starEach es X.env)).any (·.1) = false := by rfl) :
    RE X W (.Call (.Name C p) (e :: es) [] pos) (mMkP C dd F ma) := by
  obtain ⟨Ca, f, fd, ps, us, dvs, h1, h2, h3, h4, h5, h6, h7⟩ := G.ex
  exact pe_imp (pe_make h2 h7 (hr.mono hk) hg h1 h3 h4 (passE tk fl) ha hdb he hpl) fun σ H Q h => mkP_of h1 h5 fl hn h
end
end PD
namespace PD
open PySem PySem.Spec PyProof.Rows L2
variable [LamTab]
section
variable {X : Cx} {W : WX}
def mStar (a : M D) (b : M (List D)) : M (List D) := fun ε h => bR (a ε h) fun x h1 => match asS h1 x with
  | some xs => bR (b ε h1) fun ys h2 => some (.ok (xs ++ ys), h2)
  | none => none
theorem ra_star {e : Expr} {p : Pos} {es : List Expr} {me : M D} {m : M (List D)} (he : RE X W e me) (hr : RA X W es m) (hs : starEach (.Starred e p :: es) X.env = (true, eval e X.env) :: starEach es X.env := by rfl) : RA X W (.Starred e p :: es) (mStar me m) := by
  refine pa_imp (StX.pa_star he hr hs) fun σ H Q h => ?_
  obtain ⟨c, ε, h, r', h', hK, hm, rfl, sr, er, e, px, go⟩ := h
  unfold StX.tStar
  refine tX.bind hK hm sr er e px fun x h1 c1 v e1 l1 s1 r1 => ?_
  cases q : asS h1 x with
  | none => rw [q] at e1; cases e1
  | some ds =>
    rw [q] at e1
    obtain ⟨a, xs, rfl, hx, rx⟩ := asS_ok s1 r1 q
    have hx' : SqT X.K c1.H a xs ∨ SqL X.K c1.H a xs := by
      rw [← hK, ← l1.K]
      exact hx.symm
    refine ⟨a, xs, rfl, hx', ?_⟩
    refine tX.bind (l1.K.trans hK) (l1.mg.trans hm) s1 (er.le l1) e1 (px.le l1) fun ys h2 c2 zs e2 l2 s2 r2 => ?_
    cases e2
    exact go _ rfl c2 _ (l1.trans l2) s2 ((rx.le l2).append r2)
def addI (x y : D) : Option D := match x, y with
  | .int i, .int j => some (.int (i + j))
  | _, _ => none
def msAug (i : Nat) (m : M D) : MS := fun ε h => match ε.getD i none with
  | some x => bS (m ε h) ε fun y h1 => (addI x y).map fun z => (.nx (ε.set i (some z)), h1)
  | none => none
def msFAug (Cs : List Str) (f : Str) (o v : M D) : MS := fun ε h => bS (o ε h) ε fun x h1 => match dFld Cs f h1 x with
  | some z => bS (v ε h1) ε fun y h2 => (match addI z y with
    | some w => if (insD h1 x).map (·.1) = (insD h2 x).map (·.1) then (putO Cs f h2 x w).map fun h3 => (.nx ε, h3) else none
    | none => none)
  | none => none
end
end PD
namespace PD
open PySem PySem.Spec PyProof.Rows L2
variable [LamTab]
def keyD (d : D) : Option Key := match d with
  | .int i => some (.inl i)
  | .str z => some (.inr (toS z))
  | _ => none
theorem keyD_ok {c : RC} {d : D} {v : V} {k : Key} (r : Rep c d v) (e : keyD d = some k) : v = kV k := by
  cases r with
  | int i => cases e; rfl
  | str z => cases e; rfl
  | _ => cases e
def lkK (k : List Key) : List (List Key × D) → Option D
  | [] => none
  | p :: r => if p.1 = k then some p.2 else lkK k r
theorem lookP {c : RC} {k : List Key} : ∀ {kvs : List (List Key × D)} {zs : List (List Key × V)}, RepP c kvs zs → ∀ {d : D}, lkK k kvs = some d → ∃ v, valV zs k = some v ∧ Rep c d v
  | _, _, .nil, d, e => by cases e
  | _, _, .cons (f := g) h t, d, e => by
    unfold lkK at e
    dsimp only at e
    by_cases q : g = k
    · rw [if_pos q] at e
      cases e
      exact ⟨_, valV_pos q, h⟩
    · rw [if_neg q] at e
      rw [valV_neg q]
      exact lookP t e
theorem lookPN {c : RC} {k : List Key} : ∀ {kvs : List (List Key × D)} {zs : List (List Key × V)}, RepP c kvs zs → lkK k kvs = none → valV zs k = none
  | _, _, .nil, e => valV_nil
  | _, _, .cons (f := g) h t, e => by
    unfold lkK at e
    dsimp only at e
    by_cases q : g = k
    · rw [if_pos q] at e; cases e
    · rw [if_neg q] at e
      rw [valV_neg q]
      exact lookPN t e
theorem valV_one (k : Key) : ∀ zs : List (Key × V), valV (zs.map fun p => ([p.1], p.2)) [k] = valV zs k
  | [] => by rw [List.map_nil, valV_nil, valV_nil]
  | p :: zs => by
    rw [List.map_cons]
    by_cases q : p.1 = k
    · rw [valV_pos q, valV_pos (p := ([p.1], p.2)) (by rw [q])]
    · rw [valV_neg q, valV_neg (p := ([p.1], p.2)) (by simpa using q), valV_one k zs]
end PD
namespace PD
open PySem PySem.Spec PyProof.Rows L2
variable [LamTab]
/-- a dict whose keys are ints and texts -/
def asDic (h : EH) (d : D) : Option (List (List Key × D)) := match d with
  | .dic false kvs => some kvs
  | .ref n => (match h[n]? with
    | some (.dic false kvs) => some kvs
    | _ => none)
  | _ => none
theorem asDic_ok {c : RC} {h : EH} {d : D} {v : V} {kvs : List (List Key × D)} (s : SR c h) (r : Rep c d v) (e : asDic h d = some kvs) : ∃ (a : Addr) (ys : List (Key × V)), v = .ref a ∧ c.H a = some (.dK ys) ∧ RepP c kvs (ys.map fun p => ([p.1], p.2)) := by
  have fin : ∀ {a : Addr} {o : HO} {zs : List (List Key × V)}, v = .ref a → c.H a = some o → isDic false o zs → RepP c kvs zs → ∃ (a : Addr) (ys : List (Key × V)), v = .ref a ∧ c.H a = some (.dK ys) ∧ RepP c kvs (ys.map fun p => ([p.1], p.2)) := fun {a o zs} h1 h2 h3 h4 => by
    rcases h3 with ⟨_, ys, rfl, rfl⟩ | ⟨z, _⟩
    · exact ⟨a, ys, h1, h2, h4⟩
    · cases z
  cases r with
  | @dic a t o kvs' zs k1 k2 k3 k4 =>
    cases t with
    | false => cases e; exact fin rfl k1 k2 k4
    | true => cases e
  | @ref n a hn =>
    unfold asDic at e
    dsimp only at e
    cases q : h[n]? with
    | none => rw [q] at e; cases e
    | some k =>
      rw [q] at e
      cases k with
      | dic t kvs' =>
        cases t with
        | true => cases e
        | false =>
          cases e
          obtain ⟨o, zs, h1, h3, h2⟩ := s.cells n a _ hn q
          exact fin rfl h1 h3 h2
      | _ => cases e
  | _ => cases e
def dDGet (h : EH) (x y : D) : Option (Option D) := match asDic h x, keyD y with
  | some kvs, some k => some (lkK [k] kvs)
  | _, _ => none
theorem dget_ok {c : RC} {h : EH} {x y : D} {v u : V} {r : Option D} (s : SR c h) (rx : Rep c x v) (ry : Rep c y u) (e : dDGet h x y = some r) :
    ∃ a o, v = .ref a ∧ IsD c.H a ∧ DGet c.H a u o ∧ (∀ d, r = some d → ∃ w, o = some w ∧ Rep c d w) ∧ (r = none → o = none) := by
  unfold dDGet at e
  cases q1 : asDic h x with
  | none => rw [q1] at e; cases e
  | some kvs =>
    cases q2 : keyD y with
    | none => rw [q1, q2] at e; cases e
    | some k =>
      rw [q1, q2] at e
      cases e
      obtain ⟨a, ys, rfl, h1, h2⟩ := asDic_ok s rx q1
      have hk := keyD_ok ry q2
      subst hk
      refine ⟨a, valV ys k, rfl, .inl ⟨ys, .inl h1⟩, .k h1, fun d e => ?_, fun e => ?_⟩
      · obtain ⟨w, e1, e2⟩ := lookP h2 e
        rw [valV_one] at e1
        exact ⟨w, e1, e2⟩
      · have := lookPN h2 e
        rwa [valV_one] at this
def dDIn (neg : Bool) (h : EH) (y x : D) : Option D := (dDGet h x y).map fun r => .bl (neg != r.isSome)
def dget2K (x : D) (y : D) (z : D) (h : EH) : O D := rt ((dDGet h x y).map fun r => r.getD z) h
def mDGet2 (a b e : M D) : M D := fun ε h => bR (a ε h) fun x h1 => match asDic h1 x with
  | some _ => bR (b ε h1) fun y h2 => bR (e ε h2) fun z h3 => dget2K x y z h3
  | none => none
section
variable {X : Cx} {W : WX} {a b : Expr} {ma mb : M D} {pos : Pos} {k : Nat}
theorem din_of {ma mb : M D} {σ : L2.St} {H : Hp} {Q : VK} (h : tE X.K X.mg W (mBin (dDIn false) ma mb) σ H Q) : tDIn (tE X.K X.mg W ma) (tE X.K X.mg W mb) σ H Q := by
  obtain ⟨c, ε, h, r', h', hK, hm, rfl, sr, er, e, px, go⟩ := h
  unfold tDIn
  refine tX.bind hK hm sr er e px fun dx h1 c1 x e1 l1 s1 r1 => ?_
  refine tX.bind (l1.K.trans hK) (l1.mg.trans hm) s1 (er.le l1) e1 (px.le l1) fun dy h2 c2 y e2 l2 s2 r2 => ?_
  unfold dDIn at e2
  cases q : dDGet h2 dy dx with
  | none => rw [q] at e2; cases e2
  | some r =>
    rw [q] at e2
    cases e2
    obtain ⟨a, o, rfl, _, g1, g2, g3⟩ := dget_ok s2 r2 (r1.le l2) q
    have eo : o.isSome = r.isSome := by
      cases r with
      | none => rw [g3 rfl]; rfl
      | some d => obtain ⟨w, e, _⟩ := g2 d rfl; rw [e]; rfl
    refine ⟨a, o, rfl, g1, ?_⟩
    rw [eo]
    refine go _ rfl c2 _ (l1.trans l2) s2 ?_
    show Rep c2 (.bl (false != r.isSome)) _
    rw [Bool.false_bne]
    exact .bl _
theorem rt_din (hr : Room k X.A) (ha : RE X W a ma) (hb : RE X W b mb) (hmk : behindInMarks .In b = false := by first | exact nobehind _ (by decide) (by decide) | rfl) : RT X W (.Compare a [.In] [b] pos) (mTst (mBin (dDIn false) ma mb)) :=
  pt_imp (pt_cmp (pc_din (by have := hr.units; omega) ha hb) hmk) fun _ _ _ h => din_of (tB_of h)
end
end PD
namespace PD
open PySem PySem.Spec PyProof.Rows L2
variable [LamTab]
inductive RepPr (c : RC) : List (D × D) → List (V × V) → Prop
  | nil : RepPr c [] []
  | cons {k d : D} {ds : List (D × D)} {x v : V} {vs : List (V × V)} : Rep c k x → Rep c d v → RepPr c ds vs → RepPr c ((k, d) :: ds) ((x, v) :: vs)
theorem RepPr.le {c c' : RC} (l : c.Le c') : ∀ {ds : List (D × D)} {vs : List (V × V)}, RepPr c ds vs → RepPr c' ds vs
  | _, _, .nil => .nil
  | _, _, .cons h1 h2 t => .cons (h1.le l) (h2.le l) (t.le l)
def mPairs : List (M D × M D) → M (List (D × D))
  | [] => fun _ h => some (.ok [], h)
  | p :: r => fun ε h => bR (p.1 ε h) fun x h1 => bR (p.2 ε h1) fun y h2 => bR (mPairs r ε h2) fun ps h3 => some (.ok ((x, y) :: ps), h3)
def putKD (k : List Key) (d : D) (kvs : List (List Key × D)) : List (List Key × D) := if (kvs.any fun p => decide (p.1 = k)) = true then kvs.map (fun p => if p.1 = k then (p.1, d) else p) else kvs ++ [(k, d)]
theorem repP_keys {c : RC} {k : List Key} : ∀ {kvs : List (List Key × D)} {zs : List (List Key × V)}, RepP c kvs zs → (kvs.any fun p => decide (p.1 = k)) = (zs.any fun p => decide (p.1 = k))
  | _, _, .nil => rfl
  | _, _, .cons _ t => by rw [List.any_cons, List.any_cons, repP_keys t]
theorem repP_map {c : RC} {k : List Key} {d : D} {v : V} (r : Rep c d v) : ∀ {kvs : List (List Key × D)} {zs : List (List Key × V)}, RepP c kvs zs → RepP c (kvs.map fun p => if p.1 = k then (p.1, d) else p) (zs.map fun p => if p.1 = k then (p.1, v) else p)
  | _, _, .nil => .nil
  | _, _, .cons (f := g) h t => by
    rw [List.map_cons, List.map_cons]
    by_cases q : g = k
    · rw [if_pos q, if_pos q]; exact .cons r (repP_map r t)
    · rw [if_neg q, if_neg q]; exact .cons h (repP_map r t)
theorem repP_app {c : RC} {k : List Key} {d : D} {v : V} (r : Rep c d v) : ∀ {kvs : List (List Key × D)} {zs : List (List Key × V)}, RepP c kvs zs → RepP c (kvs ++ [(k, d)]) (zs ++ [(k, v)])
  | _, _, .nil => .cons r .nil
  | _, _, .cons h t => .cons h (repP_app r t)
theorem putK_rep {c : RC} {k : List Key} {d : D} {v : V} (r : Rep c d v) {kvs : List (List Key × D)} {zs : List (List Key × V)} (h : RepP c kvs zs) : RepP c (putKD k d kvs) (putK zs k v) := by
  unfold putKD putK
  rw [repP_keys h]
  split
  · exact repP_map r h
  · exact repP_app r h
theorem putK_one (k : Key) (v : V) (ys : List (Key × V)) : putK (ys.map fun p => ([p.1], p.2)) [k] v = (putK ys k v).map fun p => ([p.1], p.2) := by
  unfold putK
  have e1 : ((ys.map fun p => (([p.1] : List Key), p.2)).any fun kv => decide (kv.1 = [k])) = ys.any fun kv => decide (kv.1 = k) := by
    rw [List.any_map]
    congr 1
    funext p
    simp
  rw [e1]
  split
  · rw [List.map_map, List.map_map]
    refine List.map_congr_left fun p _ => ?_
    show (if [p.1] = [k] then ([p.1], v) else ([p.1], p.2)) = _
    by_cases q : p.1 = k
    · rw [if_pos (by rw [q])]
      simp [q]
    · rw [if_neg (by simpa using q)]
      simp [q]
  · simp
/-- the pairs, from the left -/
def mergeD : List (D × D) → List (List Key × D) → Option (List (List Key × D))
  | [], acc => some acc
  | p :: r, acc => match keyD p.1 with
    | some k => mergeD r (putKD [k] p.2 acc)
    | none => none
theorem RepPr.len {c : RC} : ∀ {ds : List (D × D)} {vs : List (V × V)}, RepPr c ds vs → ds.length = vs.length
  | _, _, .nil => rfl
  | _, _, .cons _ _ t => by rw [List.length_cons, List.length_cons, t.len]
def dispK (ps : List (D × D)) (h : EH) : O D := if ps.length ≤ 15 then rt ((mergeD ps []).map fun kvs => .dic false kvs) h else none
def mDisp (ps : List (M D × M D)) : M D := fun ε h => bR (mPairs ps ε h) dispK
end PD
namespace PD
open PySem PySem.Spec PyProof.Rows L2
variable [LamTab]
section
variable {X : Cx} {W : WX}
def mDnew : M D := fun _ h => some (.ok (.ref h.length), h ++ [.dic false []])
theorem re_dnew {pos : Pos} : RE X W (.Dict [] [] pos) mDnew := by
  refine pe_imp pe_dnewK fun σ H Q h => ?_
  obtain ⟨c, ε, h, r', h', hK, hm, rfl, sr, er, e, px, go⟩ := h
  intro p hp
  cases e
  obtain ⟨l2, s2⟩ := sr.cellG (o := .dK []) (k := .dic false []) hp fun c' l e => ⟨_, [], e, .inl ⟨rfl, [], rfl, rfl⟩, .nil⟩
  refine go _ rfl _ _ l2 s2 (.ref ?_)
  show (c.ρ ++ [p])[h.length]? = some p
  rw [← sr.len, List.getElem?_append_right (Nat.le_refl _), Nat.sub_self]
  rfl
def putDc (h : EH) (x y d : D) : Option EH := match x, keyD y with
  | .ref n, some k => (match h[n]? with
    | some (.dic false kvs) => if kvs.length < 16777216 then some (h.set n (.dic false (putKD [k] d kvs))) else none
    | _ => none)
  | _, _ => none
theorem RepP.len {c : RC} : ∀ {ds : List (List Key × D)} {vs : List (List Key × V)}, RepP c ds vs → ds.length = vs.length
  | _, _, .nil => rfl
  | _, _, .cons _ t => by rw [List.length_cons, List.length_cons, RepP.len t]
def msDPut (o i v : M D) : MS := fun ε h => bS (v ε h) ε fun z h1 => bS (o ε h1) ε fun x h2 => bS (i ε h2) ε fun y h3 => (putDc h3 x y z).map fun h4 => (.nx ε, h4)
theorem rs_dput {o i value : Expr} {mo mi mv : M D} {pos pos' : Pos} {k : Nat} (hr : Room k X.A) (ho : RE X W o mo) (hi : RE X W i mi) (hv : RE X W value mv) (hs : swapsWith value (some (.Subscript o i pos')) pos.line X.env = pure false := by rfl) :
    RSt X W (.Assign [.Subscript o i pos'] value pos) (msDPut mo mi mv) := by
  refine ps_imp (ps_dput (by have := hr.units; omega) ho hi hv hs) fun D σ H h => ?_
  obtain ⟨c, ε, h, r, h', hK, hm, rfl, sr, er, e, fin⟩ := h
  unfold sDPut
  refine tX.stm hK hm sr er e fin fun z h1 c1 v e1 l1 s1 r1 => ?_
  refine tX.stm (l1.K.trans hK) (l1.mg.trans hm) s1 (er.le l1) e1 (fin.le l1) fun x h2 c2 u e2 l2 s2 r2 => ?_
  refine tX.stm (l2.K.trans (l1.K.trans hK)) (l2.mg.trans (l1.mg.trans hm)) s2 ((er.le l1).le l2) e2 ((fin.le l1).le l2) fun y h3 c3 w e3 l3 s3 r3 => ?_
  cases q : putDc h3 x y z with
  | none => rw [q] at e3; cases e3
  | some h4 =>
    rw [q] at e3
    cases e3
    have r2' := r2.le l3
    cases r2' with
    | @ref n a hn =>
      unfold putDc at q
      cases qk : keyD y with
      | none => rw [qk] at q; cases q
      | some k =>
        rw [qk] at q
        dsimp only at q
        cases qc : h3[n]? with
        | none => rw [qc] at q; cases q
        | some cl =>
          rw [qc] at q
          cases cl with
          | dic t kvs =>
            cases t with
            | true => cases q
            | false =>
              dsimp only at q
              by_cases hl : kvs.length < 16777216
              · rw [if_pos hl] at q
                cases q
                obtain ⟨ob, zs, k1, k3, k2⟩ := s3.cells n a _ hn qc
                rcases k3 with ⟨_, ys, rfl, rfl⟩ | ⟨ee, _⟩
                · have hk := keyD_ok r3 qk
                  subst hk
                  have rv : Rep c3 z v := (r1.le l2).le l3
                  obtain ⟨l4, s4⟩ := s3.write (o := .dK (putK ys k v)) (k := .dic false (putKD [k] z kvs)) hn (fun xs e => by rcases e with e | ⟨_, e⟩ <;> rw [k1] at e <;> cases e) (fun o u e => by rw [k1] at e; cases e)
                    fun c' l' eh => ⟨_, _, eh, .inl ⟨rfl, _, rfl, rfl⟩, by rw [← putK_one]; exact putK_rep (rv.le l') (k2.le l')⟩
                  have len : ys.length < sizeLine := by
                    have := k2.len
                    rw [List.length_map] at this
                    rw [← this]
                    exact hl
                  exact ⟨a, _, rfl, .k k1 len, fin _ σ (((l1.trans l2).trans l3).trans l4) s4 ((((er.le l1).le l2).le l3).le l4)⟩
                · cases ee
              · rw [if_neg hl] at q; cases q
          | _ => cases q
    | _ => cases q
end
def lkS (z : List Nat) : List (List Nat × D) → Option D
  | [] => none
  | p :: r => if p.1 = z then some p.2 else lkS z r
inductive Ent (K : PySem.W.Frag) : List (List Nat × D) → List DictEntry → Prop
  | nil : Ent K [] []
  | cons {z : List Nat} {d : D} {r : List (List Nat × D)} {e : DictEntry} {l : List DictEntry} {t : Tok} {v : V} : e.key = .str (toS z) t → RelV v e.val → (∀ c : RC, c.K = K → Rep c d v) → Ent K r l → Ent K ((z, d) :: r) (e :: l)
theorem entB_ok {K : PySem.W.Frag} : ∀ {r : List (List Nat × D)} {l : List DictEntry}, entB K r l = true → Ent K r l
  | [], [], _ => .nil
  | [], _ :: _, h => by cases h
  | _ :: _, [], h => by cases h
  | p :: r, e :: l, h => by
    unfold entB at h
    obtain ⟨h1, h2⟩ := ba2 h
    obtain ⟨h3, h4⟩ := ba2 h2
    obtain ⟨v, rv, rp⟩ := dB_ok h3
    cases q : e.key with
    | str y t =>
      rw [q] at h1
      have ey : y.cps.toList = p.1 := of_decide_eq_true h1
      exact .cons (t := t) (by rw [q, ← ey]; rfl) rv rp (entB_ok h4)
    | _ => rw [q] at h1; cases h1
end PD
namespace PD
open PySem PySem.Spec PyProof.Rows L2
variable [LamTab]
/-- the module's name x is a dict of these -/
structure DicC (K : PySem.W.Frag) (w : World) (mg : Str → Option Value) (x : Str) (kvs : List (List Nat × D)) : Prop where
  ex : ∃ (d : Addr) (es : Array DictEntry) (n : Nat), mg x = some (.ref d) ∧ KDict K w d es n ∧ Ent K kvs es.toList
def dCIn (neg : Bool) (kvs : List (List Nat × D)) (x : D) : Option D := match x with
  | .str z => some (.bl (neg != (lkS z kvs).isSome))
  | _ => none
def dCIx (kvs : List (List Nat × D)) (x : D) : Option D := match x with
  | .str z => lkS z kvs
  | _ => none
def mC1 (f : D → Option D) (a : M D) : M D := fun ε h => bR (a ε h) fun x h1 => rt (f x) h1
theorem SaysG2.g {fa : List He.Fa} {fn : List He.DefD} {gs : List (Str × D)} {ds : List DicD} {w : World} {K : PySem.W.Frag} (c : SaysG2 fa fn gs ds w K) : SaysG fa fn gs K := congrArg (fun z : AlG2 => z.1) c
theorem SaysG2.dic {fa : List He.Fa} {fn : List He.DefD} {gs : List (Str × D)} {ds : List DicD} {w : World} {K : PySem.W.Frag} {h : Heap} {mg : Str → Option Value} (X : K.In h) (G : h.Ns mainGlobals mg) (c : SaysG2 fa fn gs ds w K) {p : DicD} (hp : p ∈ ds) : DicC K w mg p.1 p.2 := by
  have c1 : (ds.all fun p => dicB K p.1 p.2) = true := congrArg (fun z : AlG2 => z.2.1) c
  have c2 : (ds.map fun p => He.dicW K (He.ga K p.1)) = ds.map fun p => some (He.keysIn w.params (p.2.map fun q => toS q.1)) := congrArg (fun z : AlG2 => z.2.2) c
  have b := List.all_eq_true.mp c1 p hp
  have t : He.dicW K (He.ga K p.1) = some (He.keysIn w.params (p.2.map fun q => toS q.1)) := List.map_inj_left.mp c2 p hp
  obtain ⟨es, n, kd⟩ := He.dicW_ok t
  unfold dicB at b
  cases q : PySem.W.nsIn K mainGlobals p.1 with
  | none => rw [q] at b; cases b
  | some u =>
    cases u with
    | none => rw [q] at b; cases b
    | some u =>
      cases u with
      | ref d =>
        rw [q] at b
        have eg : He.ga K p.1 = d := by
          unfold He.ga
          rw [q]
        rw [eg] at kd
        dsimp only at b
        rw [kd.at_] at b
        exact ⟨d, es, n, PySem.W.mg_of X G q, kd, entB_ok b⟩
      | _ => rw [q] at b; cases b
end PD
namespace PD
open PySem PySem.Spec PyProof.Rows L2
variable [LamTab]
/-- objects are added, none is touched -/
theorem SR.grow {c : RC} {h : EH} {H' : Hp} (s : SR c h) (k : ∀ b o, c.H b = some o → H' b = some o) : c.Le { c with H := H' } ∧ SR { c with H := H' } h ∧ ∀ p, c.H p = none → RC.fr { c with H := H' } p := by
  have l : c.Le { c with H := H' } := by
    refine ⟨rfl, ⟨rfl, fun t p hp => (t p hp).ext fun b o e => k b o e⟩, fun _ h => h, fun _ h => .inl h, fun a u e => ⟨u, k a u e⟩, fun _ _ h => h, fun a u e _ n => ⟨k a u e, n⟩, fun a xs e => ?_, fun a o u e => k a _ e⟩
    rcases e with e | ⟨u, e⟩
    · exact .inl (k a _ e)
    · exact .inr ⟨u, k a _ e⟩
  refine ⟨l, ⟨s.len, s.nd, fun n a q e1 e2 => ?_, s.nb, fun a b => ?_⟩, fun p hp => ⟨fun b => ?_, fun z => ?_⟩⟩
  · have r := s.cells n a q e1 e2
    obtain ⟨u, e⟩ := r.ex
    exact r.le l ((k a u e).trans e.symm)
  · obtain ⟨u, e⟩ := s.bt a b
    exact ⟨u, k a u e⟩
  · obtain ⟨u, e⟩ := s.bt p b
    rw [hp] at e; cases e
  · obtain ⟨o, e⟩ := s.ex z
    rw [hp] at e; cases e
end PD
namespace PD
open PySem PySem.Spec PyProof.Rows L2
variable [LamTab]
section
variable {P : Program} {w : World} {K : PySem.W.Frag} {mg : Str → Option Value} {base : Heap}
theorem FnI.mono {x : Str} {j k n : Nat} {F : IF} (h : FnI P w K mg base x j n F) (l : j ≤ k) : FnI P w K mg base x k n F := by
  obtain ⟨f, fd, ps, a, b, c, d, e⟩ := h.ex
  exact ⟨⟨f, fd, ps, a, b, c, d, e.mono l⟩⟩
theorem MetI.mono {C x : Str} {j k n : Nat} {F : IF} (h : MetI P w K mg base C x j n F) (l : j ≤ k) : MetI P w K mg base C x k n F := by
  obtain ⟨Ca, f, fd, ps, a, a2, b, c, d, e⟩ := h.ex
  exact ⟨⟨Ca, f, fd, ps, a, a2, b, c, d, e.mono l⟩⟩
theorem MetP.mono {C x : Str} {j k n : Nat} {F : PF} (h : MetP P w K mg base C x j n F) (l : j ≤ k) : MetP P w K mg base C x k n F := by
  obtain ⟨Ca, f, fd, ps, a, a2, b, c, d, e⟩ := h.ex
  exact ⟨⟨Ca, f, fd, ps, a, a2, b, c, d, e.mono l⟩⟩
end
end PD
namespace PD
open PySem PySem.Spec PyProof.Rows L2
variable [LamTab]
def lcL2 (g : MG) (t : M Bool) (mi : M (List D)) (g1 : MG) (t1 : M Bool) (e : M D) (vs1 : List Nat) : List D → Ev → EH → Option (List D × EH)
  | [], _, h => some ([], h)
  | d :: ds, ε, h => match g d ε h with
    | none => none
    | some (ε1, h1) => match t ε1 h1 with
      | some (.ok true, h2) => (match mi ε1 h2 with
        | some (.ok ds1, h3) => (match lcL g1 t1 e ds1 (wipeE ε1 vs1) h3 with
          | some (ys, h4) => (match lcL2 g t mi g1 t1 e vs1 ds ε h4 with
            | some (zs, h5) => some (ys ++ zs, h5)
            | none => none)
          | none => none)
        | _ => none)
      | some (.ok false, h2) => lcL2 g t mi g1 t1 e vs1 ds ε h2
      | _ => none
def mLc2 (vs : List Nat) (mi : M (List D)) (g : MG) (t : M Bool) (mi1 : M (List D)) (g1 : MG) (t1 : M Bool) (e : M D) (vs1 : List Nat) : M D := fun ε h => bR (mi ε h) fun ds h1 => okL (lcL2 g t mi1 g1 t1 e vs1 ds (wipeE ε vs) h1)
theorem MgE.put {c : RC} {mg : Str → Option Value} {p : Addr} {o : HO} (h : NoTab c.H p) (m : MgE c mg) : MgE (c.put p o) mg := ⟨m.e, fun _ => tabs_upd (ρ := c.ρ) (B := c.B) h (m.t trivial)⟩
section
variable {X : Cx} {W : WX}
/-- the scope of a block within a block -/
theorem relabel_look {f : Str × NameKind → NameKind} (hf : ∀ y, (y.2 = .cell → f y = .cell) ∧ (y.2 = .free → f y = .cell ∨ f y = .free)) {x : Str} : ∀ {names : List (Str × NameKind)}, (names.lookup x = some .cell ∨ names.lookup x = some .free) → ((names.map fun y => (y.1, f y)).lookup x = some .cell ∨ (names.map fun y => (y.1, f y)).lookup x = some .free)
  | [], h => by simp at h
  | y :: r, h => by
    rw [List.map_cons]
    by_cases e : x == y.1
    · have e1 : (y :: r).lookup x = some y.2 := by rw [List.lookup_cons, e]
      have e2 : ((y.1, f y) :: r.map fun y => (y.1, f y)).lookup x = some (f y) := by rw [List.lookup_cons, e]
      rw [e1] at h
      rw [e2]
      rcases h with h | h
      · exact .inl (congrArg some ((hf y).1 (Option.some.inj h)))
      · rcases (hf y).2 (Option.some.inj h) with q | q
        · exact .inl (congrArg some q)
        · exact .inr (congrArg some q)
    · have e' : (x == y.1) = false := by simpa using e
      have e1 : (y :: r).lookup x = r.lookup x := by rw [List.lookup_cons, e']
      have e2 : ((y.1, f y) :: r.map fun y => (y.1, f y)).lookup x = (r.map fun y => (y.1, f y)).lookup x := by rw [List.lookup_cons, e']
      rw [e1] at h
      rw [e2]
      exact relabel_look hf h
theorem blkOk_in {N : List Str} {s : Shared} {H : Hp} {scope inner : Scope} {cl : List (Str × Addr)} {C : Addr} {env : Env} {fp : List Addr} {own : List (Str × Nat)} (h : blkC N scope inner own = true) : BlkOk N (X.blk s H scope (compEnvC scope cl C env) fp).env.scope inner own := by
  have B := blkOk_by h
  refine ⟨B.kind, B.uniq, B.ix, fun y hy e => ?_, B.own⟩
  have q := B.free y hy e
  have en : (X.blk s H scope (compEnvC scope cl C env) fp).env.scope.names = scope.names.map fun y => (y.1, if (y.2 == NameKind.free && env.scope.kind == .function && env.kindOf y.1 == some .cell) = true then NameKind.cell else y.2) := by
    show (relabel scope env).names = _
    unfold relabel
    refine List.map_congr_left fun y _ => ?_
    obtain ⟨n, k⟩ := y
    dsimp only
    split <;> rfl
  rw [en]
  exact relabel_look (f := fun y => if (y.2 == NameKind.free && env.scope.kind == .function && env.kindOf y.1 == some .cell) = true then NameKind.cell else y.2) (fun y => ⟨fun c => by rw [c]; rfl, fun c => by
    by_cases z : (y.2 == NameKind.free && env.scope.kind == .function && env.kindOf y.1 == some .cell) = true
    · rw [if_pos z]; exact .inl rfl
    · rw [if_neg z]; exact .inr c⟩) q
end
end PD
namespace PD
open PySem PySem.Spec PyProof.Rows L2
variable [LamTab]
def isLc (h : EH) (x : D) : Bool := match x with
  | .ref n => (match h[n]? with
    | some (.lst _) => true
    | _ => false)
  | _ => false
def apD (h : EH) (x y : D) : Option EH := match x with
  | .ref n => (match h[n]? with
    | some (.lst ds) => if ds.length < sizeLine then some (h.set n (.lst (ds ++ [y]))) else none
    | _ => none)
  | _ => none
theorem isLc_ok {c : RC} {h : EH} {x : D} {v : V} (s : SR c h) (r : Rep c x v) (e : isLc h x = true) : ∃ n a ds xs, x = .ref n ∧ v = .ref a ∧ c.ρ[n]? = some a ∧ h[n]? = some (.lst ds) ∧ c.H a = some (.lst xs) ∧ Reps c ds xs := by
  cases r with
  | @ref n a hn =>
    unfold isLc at e
    dsimp only at e
    cases q : h[n]? with
    | none => rw [q] at e; cases e
    | some k =>
      rw [q] at e
      cases k with
      | lst ds =>
        obtain ⟨xs, k1, k2⟩ := s.cells n a _ hn q
        exact ⟨n, a, ds, xs, rfl, rfl, hn, q, k1, k2⟩
      | _ => cases e
  | _ => cases e
def mAppend (o e : M D) : M D := fun ε h => bR (o ε h) fun x h1 => if isLc h1 x = true then bR (e ε h1) fun y h2 => (apD h2 x y).map fun h3 => (.ok .non, h3) else none
section
variable {X : Cx} {W : WX}
theorem re_append {o e : Expr} {mo me : M D} {apos cpos : Pos} (ho : RE X W o mo) (he : RE X W e me)
    (hbase : attributeBase o "append" X.env (eval o X.env) = eval o X.env := by rfl)
    (hfew : ((backTo cpos (starEach [e] X.env)).all (fun x => !x.1) && (backToKw cpos (keywordEach [] X.env)).all (fun x => x.1.isSome) && decide ([e].length + ([] : List Keyword).length + (if ([] : List Keyword).isEmpty then 0 else 1) < 30)) = true := by rfl)
    (hline : (apos.endLine == cpos.line) = true := by rfl) (hs : starEach [e] X.env = (false, eval e X.env) :: starEach [] X.env := by rfl) :
    RE X W (.Call (.Attribute o "append" apos) [e] [] cpos) (mAppend mo me) := by
  refine pe_imp (pe_bm PySem.F.plainAttrs_list PySem.F.slot_list_append PySem.F.type_list_append mt_append ho (pa_cons he pa_nil hs) hbase hfew hline hs rfl) fun σ H Q h => ?_
  obtain ⟨c, ε, h, r, h', hK, hm, rfl, sr, er, e, px, go⟩ := h
  unfold tBM
  refine tX.bind hK hm sr er e px fun x h1 c1 v e1 l1 s1 r1 => ?_
  by_cases hx : isLc h1 x = true
  · rw [if_pos hx] at e1
    obtain ⟨n, a, ds0, xs0, rfl, rfl, hn, _, k1, _⟩ := isLc_ok s1 r1 hx
    refine ⟨.inl ⟨rfl, xs0, .inl (.inl k1)⟩, ?_⟩
    refine tX.bind (l1.K.trans hK) (l1.mg.trans hm) s1 (er.le l1) e1 (px.le l1) fun y h2 c2 u e2 l2 s2 r2 => ?_
    have hn2 := l2.pre _ _ hn
    unfold apD at e2
    dsimp only at e2
    cases q2 : h2[n]? with
    | none => rw [q2] at e2; cases e2
    | some k =>
      rw [q2] at e2
      cases k with
      | lst ds =>
        dsimp only at e2
        by_cases hz : ds.length < sizeLine
        · rw [if_pos hz] at e2
          cases e2
          obtain ⟨xs, j1, j2⟩ := s2.cells n a _ hn2 q2
          obtain ⟨l3, s3⟩ := s2.write (o := .lst (xs ++ [u])) (k := .lst (ds ++ [y])) hn2 (fun ys z => by
            rcases z with z | ⟨w, z⟩ <;> rw [j1] at z <;> cases z) (fun o w z => by rw [j1] at z; cases z) fun c' l' eh => ⟨_, eh, (j2.le l').append (.cons (r2.le l') .nil)⟩
          exact ⟨a, xs, u, rfl, rfl, j1, by rw [← j2.length]; exact hz, go _ rfl _ _ ((l1.trans l2).trans l3) s3 .non⟩
        · rw [if_neg hz] at e2; cases e2
      | _ => cases e2
  · rw [if_neg hx] at e1; cases e1
def dMax2 (_ : EH) (ds : List D) : Option D := match ds with
  | [.int i, .int j] => some (.int (if j > i then j else i))
  | _ => none
end
def mApp2 (a b : M (List D)) : M (List D) := fun ε h => bR (a ε h) fun xs h1 => bR (b ε h1) fun ys h2 => some (.ok (xs ++ ys), h2)
end PD
namespace PD
open PySem PySem.Spec PyProof.Rows L2
variable [LamTab]
open PySem.Froz (SD sObj TxOk addTx tailTx)
/-- the set at a: the payload D, the texts l, each once; it can be walked -/
structure TxSet (P : Program) (w : World) (h : Heap) (a : Addr) (D : SD) (l : List Str) : Prop where
  ob : h.get? a = some (sObj "set" D)
  ok : TxOk P w D l
  nd : l.Nodup
  ris : Ris D.2.2.place.toList
  led : w.params.followText "set-order" = true ∨ D.2.2.led = true
theorem tailTx_ris {ep : Nat} {es : Array (Int × Value)} {t : SetTable} {d : Bool} (h : Ris t.place.toList) : Ris (tailTx ep es t d).2.2.place.toList := by
  unfold tailTx
  split
  · exact relayAll_ris t es _
  · exact h
theorem tailTx_led {ep : Nat} {es : Array (Int × Value)} {t : SetTable} {d : Bool} : (tailTx ep es t d).2.2.led = t.led := by
  unfold tailTx
  split
  · exact relayAll_led t es _
  · rfl
theorem addTx_ris {z : Int} {v : Value} {D : SD} (h : Ris D.2.2.place.toList) : Ris (addTx z v D).2.2.place.toList := by
  unfold addTx
  refine tailTx_ris ?_
  split <;> exact layNew_ris D.2.2 D.1 z v h
theorem addTx_led {z : Int} {v : Value} {D : SD} : (addTx z v D).2.2.led = D.2.2.led := by
  unfold addTx
  rw [tailTx_led]
  split <;> exact layNew_led D.2.2 D.1 z v
def addT (l : List Str) (k : Str) : List Str := if k ∈ l then l else k :: l
theorem addT_mem {l : List Str} {k x : Str} : x ∈ addT l k ↔ x ∈ l ∨ x = k := by
  unfold addT
  split
  · rename_i hk
    exact ⟨.inl, fun h => h.elim id fun e => e ▸ hk⟩
  · rw [List.mem_cons]
    exact Or.comm
theorem addT_len {l : List Str} {k : Str} : (addT l k).length ≤ l.length + 1 := by
  unfold addT
  split
  · omega
  · simp
theorem fold_mem {x : Str} : ∀ (xs l : List Str), x ∈ xs.foldl addT l ↔ x ∈ l ∨ x ∈ xs
  | [], l => by simp
  | y :: ys, l => by
    rw [List.foldl_cons, fold_mem ys, addT_mem, List.mem_cons]
    exact or_assoc
theorem fold_len : ∀ (xs l : List Str), (xs.foldl addT l).length ≤ l.length + xs.length
  | [], l => by simp
  | y :: ys, l => by
    have h1 := fold_len ys (addT l y)
    have h2 := addT_len (l := l) (k := y)
    rw [List.foldl_cons, List.length_cons]
    omega
section
variable {P : Program} {w : World} {A : Around} {E : Value → Shared → Prop} {s : Shared}
theorem add_dup {a : Addr} {D : SD} {l : List Str} {k : Str} {u : Tok} {Q : Bool → Shared → Prop} (S : TxSet P w s.heap a D l) (hk : k ∈ l) (hb : l.length < scanBound) (h : Q false s) : wpAny (model P w) A (setAddHashed a (.str k u) (hashStr w k)) Q E s := by
  obtain ⟨es, ep, t⟩ := D
  obtain ⟨j, hj⟩ : ∃ j, List.findIdx? (fun e => (strKind P w).is k e.2) es.toList = some j := by
    obtain ⟨e, he, q⟩ := (S.ok.mem k).mp hk
    cases r : List.findIdx? (fun e => (strKind P w).is k e.2) es.toList with
    | some j => exact ⟨j, rfl⟩
    | none => have := List.findIdx?_eq_none_iff.mp r e he; rw [q] at this; cases this
  have hz : es.size < scanBound := Nat.lt_of_le_of_lt (Nat.le_of_eq S.ok.sz) hb
  have el : ElemsOf (strKind P w) es.toList := S.ok.el
  have hf : t.fits es.size = true := S.ok.fit
  have hd : (sObj "set" (es, ep, t)).data = .set es ep t := rfl
  unfold setAddHashed
  unfold setAddHashedIn
  refine wpAny_holding (wpAny_bind (wpAny_setState_of S.ob hd hf ?_))
  dsimp only
  rw [byScan_of rfl hz el]
  simp only [↓reduceIte]
  unfold setAddByScan
  refine wpAny_bind (wpAny_bind (wpAny_rule (wpAny_bind (wpAny_setScan_of (knd := strKind P w) (k := k) (PySem.Froz.is_str k u) S.ob hd hf el ?_))))
  rw [hj]
  exact wpAny_pure (wpAny_pure h)
/-- one text put in -/
theorem add_txt {a : Addr} {D : SD} {l : List Str} {k : Str} {u : Tok} {Q : Bool → Shared → Prop} (S : TxSet P w s.heap a D l) (hb : l.length + 1 < scanBound)
    (h : ∀ b h' D', (∀ c, c ≠ a → h'.get? c = s.heap.get? c) → TxSet P w h' a D' (addT l k) → Q b { s with heap := h' }) : wpAny (model P w) A (setAddHashed a (.str k u) (hashStr w k)) Q E s := by
  by_cases hk : k ∈ l
  · refine add_dup S hk (by omega) (h false s.heap D (fun _ _ => rfl) ?_)
    unfold addT
    rw [if_pos hk]
    exact S
  · refine PySem.Froz.add_x S.ob S.ok hk hb (h true _ (addTx (hashStr w k) (.str k u) D) (fun c hc => Heap.get?_update_ne _ _ _ _ hc) ?_)
    unfold addT
    rw [if_neg hk]
    exact ⟨PySem.Froz.get_upd _ S.ob rfl, PySem.Froz.add_ok u S.ok, List.nodup_cons.mpr ⟨hk, S.nd⟩, addTx_ris S.ris, S.led.imp id fun z => addTx_led.trans z⟩
theorem TxSet.move {h h' : Heap} {a : Addr} {D : SD} {l : List Str} (S : TxSet P w h a D l) (k : ∀ o, h.get? a = some o → h'.get? a = some o) : TxSet P w h' a D l := ⟨k _ S.ob, S.ok, S.nd, S.ris, S.led⟩
section
variable {R : Result → Shared → Prop} {I : Addr} {fp wr : List Addr} {G : Array GenState → Array GenState → Prop} {n : Nat} {Pv : Nat → Value → Prop} {St : Nat → Shared → Prop}
theorem upd_txts (W : WalksS P w A.in1 I fp wr G n Pv St) (a : Addr) (ha : a ∉ fp) (xs : List Str) (hn : xs.length = n) (hb : n + 1 < scanBound) (hv : ∀ i v, Pv i v → ∃ t, v = .str (xs.getD i Str.empty) t) :
    ∀ (rest dn : List Str) (s : Shared) (D : SD), dn ++ rest = xs → St dn.length s → TxSet P w s.heap a D (dn.foldl addT []) →
      (∀ s' D', Moved (a :: wr) G s s' → TxSet P w s'.heap a D' (xs.foldl addT []) → R (.ok (.ret .none)) s') → codeAny (model P w) A (.builtin "set.update.loop" ⟨[.ref a, .ref I], []⟩) R s := by
  have naw : a ∉ wr := fun h => ha (W.sub _ h)
  have wide : ∀ b ∈ wr, b ∈ a :: wr := fun b hb => List.mem_cons_of_mem _ hb
  intro rest
  induction rest with
  | nil =>
    intro dn s D e st S go
    rw [List.append_nil] at e
    subst e
    rw [hn] at st
    refine codeAny_builtin PyProof.Rows.F.entry_set_update_loop ?_
    rw [Around.under_plainId PyProof.Rows.F.plain_set_update_loop _]
    refine wpAny_bind (m := pyNext (.ref I)) (W.done s _ _ st fun s' m => ?_)
    exact wpAny_pure (go s' D (m.mono wide) (S.move fun o q => m.heap a o naw q))
  | cons x rest ih =>
    intro dn s D e st S go
    have hlen : dn.length + (rest.length + 1) = n := by rw [← hn, ← e, List.length_append, List.length_cons]
    have hx : xs.getD dn.length Str.empty = x := by
      rw [← e, List.getD_eq_getElem?_getD, List.getElem?_append_right (Nat.le_refl _), Nat.sub_self]
      rfl
    refine codeAny_builtin PyProof.Rows.F.entry_set_update_loop ?_
    rw [Around.under_plainId PyProof.Rows.F.plain_set_update_loop _]
    refine wpAny_bind (m := pyNext (.ref I)) (W.item dn.length s _ _ (by omega) st fun v s' pv st' m => ?_)
    obtain ⟨t, rfl⟩ := hv _ _ pv
    rw [hx]
    show wpAny _ A.in1 (holding [Value.str x t] (setAdd a (.str x t)) >>= _) _ _ s'
    refine wpAny_bind (wpAny_holding ?_)
    unfold setAdd
    refine wpAny_holding (wpAny_bind ((strKind P w).pyHash (k := x) (strKind_is _ _ _ _) ?_))
    have S1 : TxSet P w s'.heap a D (dn.foldl addT []) := S.move fun o q => m.heap a o naw q
    have hl := fold_len dn []
    rw [List.length_nil] at hl
    refine add_txt (s := { s' with toks := s'.toks + 1 }) S1 (by omega) fun b h' D' keep S2 => ?_
    refine wpAny_pure ⟨plainId_quiet PyProof.Rows.F.plain_set_update_loop _, ih (dn ++ [x]) _ D' (by rw [List.append_assoc]; exact e) ?_ (by rw [List.foldl_append]; exact S2) fun s2 D2 m2 S3 => ?_⟩
    · rw [List.length_append]
      refine W.frame _ s' _ _ st' (Nat.le_succ _) fun b hb o q => ?_
      rw [keep b fun z => ha (z ▸ hb)]; exact q
    · refine go s2 D2 (Moved.trans W.gtrans ((m.mono wide).then_heap (Nat.le_succ _) fun b o hb q => ?_) m2) S3
      rw [keep b fun z => hb (by rw [z]; exact List.mem_cons_self)]; exact q
end
/-- the object of a new set -/
abbrev newS (w : World) : Obj := { cls := .type "set", dict := none, data := .set #[] 0 (.fresh 0 0 (!w.params.followText "set-order")) }
theorem newS_ok {h : Heap} {a : Addr} (e : h.get? a = some (newS w)) : TxSet P w h a (#[], 0, .fresh 0 0 (!w.params.followText "set-order")) [] := by
  refine ⟨e, PySem.Froz.TxOk.nil rfl, List.nodup_nil, List.Pairwise.nil, ?_⟩
  show _ ∨ (!w.params.followText "set-order") = true
  cases w.params.followText "set-order" <;> simp
/-- what the fresh set is filled from: a list or a tuple of texts -/
inductive SrcT (h : Heap) (l : Addr) (items : Array Value) : Prop
  | lst : h.IsList l items → SrcT h l items
  | tup : h.IsTuple l items → SrcT h l items
/-- the loop over an iterator of the source, the fresh set at a -/
theorem fill_txts {A' : Around} {a I : Addr} {items : Array Value} {xs : List Str} {s1 : Shared} {St : Nat → Shared → Prop} {fp wr : List Addr} {G : Array GenState → Array GenState → Prop} {R : Result → Shared → Prop} (W : WalksS P w A'.in1 I fp wr G items.size (fun i v => items[i]? = some v) St)
    (hx : StrsAre items.toList xs) (hb : xs.length + 1 < scanBound) (h1 : a ∉ fp) (h2 : ∀ b ∈ wr, s.heap.get? b = none) (h3 : ∀ b b', G b b' → b' = b) (st : St 0 s1) (e1 : s1.os = s.os) (e2 : s1.gens = s.gens) (e3 : s1.drawn = s.drawn) (ha : s1.heap.get? a = some (newS w)) (keep : ∀ b o, s.heap.get? b = some o → s1.heap.get? b = some o) (na : s.heap.get? a = none)
    (go : ∀ h' tk D, (∀ b o, s.heap.get? b = some o → h'.get? b = some o) → TxSet P w h' a D (xs.foldl addT []) → R (.ok (.ret .none)) { s with heap := h', toks := tk }) :
    codeAny (model P w) A' (.builtin "set.update.loop" ⟨[.ref a, .ref I], []⟩) R s1 := by
  have hsz : xs.length = items.size := by rw [← StrsAre.len_eq hx, Array.length_toList]
  refine upd_txts W a h1 xs hsz (by rw [← hsz]; exact hb) (fun i v hv => SS.strs_at hx i v (by rw [Array.getElem?_toList]; exact hv)) xs [] s1 _ rfl st (newS_ok ha) fun s' D m S => ?_
  obtain ⟨h', g', d', tk', os'⟩ := s'
  have q1 : g' = s.gens := (h3 _ _ m.gens).trans e2
  have q2 : d' = s.drawn := Eq.trans m.drawn e3
  have q3 : os' = s.os := Eq.trans m.os e1
  subst q1; subst q2; subst q3
  refine go h' tk' D (fun b o e => m.heap b o (fun z => ?_) (keep b o e)) S
  rcases List.mem_cons.mp z with z | z
  · rw [z, na] at e; cases e
  · rw [h2 b z] at e; cases e
/-- set(l) -/
theorem call_txts {l : Addr} {items : Array Value} {xs : List Str} {Q : Value → Shared → Prop} (hh : A.handled = none) (hl : SrcT s.heap l items) (hx : StrsAre items.toList xs) (hb : xs.length + 1 < scanBound)
    (go : ∀ h' tk D, (∀ b o, s.heap.get? b = some o → h'.get? b = some o) → TxSet P w h' s.heap.objs.size D (xs.foldl addT []) → Q (.ref s.heap.objs.size) { s with heap := h', toks := tk }) :
    wpAny (model P w) A (call (.type "set") [.ref l]) Q E s := by
  have none_of : ∀ b, s.heap.objs.size ≤ b → s.heap.get? b = none := fun b hb => by
    cases q : s.heap.get? b with
    | none => rfl
    | some o => exact absurd (Nat.lt_of_lt_of_le (Heap.lt_size q) hb) (Nat.lt_irrefl _)
  obtain ⟨c0, tl0, k1⟩ := F.called_set.mro
  have k2 := F.called_set.made
  have k3 := F.called_set.sub
  refine wpAny_call (codeAny_of_tree ?_)
  show wpAny _ _ (callAny (.type "set") _) _ _ s
  refine wpAny_pure ⟨Code.quiet_builtin _ (by decide +kernel), codeAny_builtin F.entry_type_call ?_⟩
  rw [Around.under_plain (weight_type_call_type "set" [.ref l] []) rfl]
  have k4 := F.called_set.notType
  have k5 := F.called_set.canCreate
  have k6 := F.typeCall_set_1 (.ref l)
  repeat (any_goals (first | assumption | wp_step))
  refine codeAny_mono (code_set_led1 (.ref l) (E := E) (Q₁ := fun v z => v = .ref s.heap.objs.size ∧ z = { s with heap := s.heap.push (newS w) }) ⟨rfl, rfl⟩) fun r s1 hr => ?_
  cases r with
  | error e => exact hr
  | ok fl =>
    cases fl with
    | ret v =>
      obtain ⟨rfl, rfl⟩ := hr
      have at_ : (s.heap.push (newS w)).get? s.heap.objs.size = some (newS w) := Heap.get?_push_size _ rfl
      have ty_ : Shared.TypeIs { s with heap := s.heap.push (newS w) } (.ref s.heap.objs.size) "set" := ⟨_, at_, rfl⟩
      have k7 := F.called_set.init.lookup
      have k8 := F.called_set.init.bind (.ref s.heap.objs.size)
      repeat (any_goals (first | assumption | wp_step))
      refine codeAny_mono (codeAny_call_builtin (R := wants (fun r z => r = .none ∧ Q (.ref s.heap.objs.size) z) E) F.called_set.init.plain F.entry_set_init (check_set_init_1 ty_ ?_)) fun r2 s2 hr2 => ?_
      · have up : ∀ b o, s.heap.get? b = some o → (s.heap.push (newS w)).get? b = some o := fun b o e => Heap.get?_push_of_some _ e
        have z1 : (s.heap.push (newS w)).objs.size = s.heap.objs.size + 1 := Heap.size_push ..
        have h3 : A.in1.in1.in1.handled = none := by simp [hh]
        have far : ∀ {l : Addr}, l < s.heap.objs.size → l ≠ (s.heap.push (newS w)).objs.size ∧ s.heap.objs.size ∉ [(s.heap.push (newS w)).objs.size, l] := fun {l} hl => by
          rw [z1]
          refine ⟨Nat.ne_of_lt (Nat.lt_succ_of_lt hl), fun z => ?_⟩
          rcases List.mem_cons.mp z with z | z
          · exact absurd z (Nat.ne_of_lt (Nat.lt_succ_self _))
          · rw [← List.mem_singleton.mp z] at hl
            exact Nat.lt_irrefl _ hl
        have young : ∀ b ∈ [(s.heap.push (newS w)).objs.size], s.heap.get? b = none := fun b hb => none_of b (by rw [List.mem_singleton.mp hb, z1]; exact Nat.le_succ _)
        rcases hl with hl | hl
        · obtain ⟨⟨oc, od, dt, sl⟩, ho, hc, n, hd⟩ := hl
          simp only at hc hd
          subst hc; subst hd
          have ho1 := up _ _ ho
          have g1 := F.sub_list_set
          have g2 := F.sub_list_frozenset
          have g3 : (Value.type "list" == Value.type "dict") = false := by decide
          have hl1 : (s.heap.push (newS w)).IsList l items := ⟨_, ho1, rfl, n, rfl⟩
          unfold Builtin.«set.__init__» noKeywords
          unfold Builtin.Frozenset.updateFrom
          generalize ei : pyIter = it
          wp_walk
          subst ei
          refine wpAny_pyIter_list hl1 (wpAny_bind (wpAny_runValue ?_))
          obtain ⟨f1, f2⟩ := far (Heap.lt_size ho)
          refine fill_txts (s := s) ((Walks.list h3 _ l f1 items).toS) hx hb f2 young (fun _ _ e => e) ⟨⟨_, Heap.get?_push_size _ rfl, rfl, rfl⟩, hl1.push _⟩ rfl rfl rfl (Heap.get?_push_of_some _ at_) (fun b o e => Heap.get?_push_of_some _ (up b o e)) (none_of _ (Nat.le_refl _)) fun h' tk D kp S => ?_
          exact wpAny_pure (wpAny_pure ⟨rfl, go h' tk D kp S⟩)
        · obtain ⟨⟨oc, od, dt, sl⟩, ho, hc, n, hd⟩ := hl
          simp only at hc hd
          subst hc; subst hd
          have ho1 := up _ _ ho
          have g1 := F.sub_tuple_set
          have g2 := F.sub_tuple_frozenset
          have g3 : (Value.type "tuple" == Value.type "dict") = false := by decide
          have hl1 : (s.heap.push (newS w)).IsTuple l items := ⟨_, ho1, rfl, n, rfl⟩
          unfold Builtin.«set.__init__» noKeywords
          unfold Builtin.Frozenset.updateFrom
          generalize ei : pyIter = it
          wp_walk
          subst ei
          refine wpAny_pyIter_tuple hl1 (wpAny_bind (wpAny_runValue ?_))
          obtain ⟨f1, f2⟩ := far (Heap.lt_size ho)
          refine fill_txts (s := s) ((Walks.tuple h3 _ l f1 items).toS) hx hb f2 young (fun _ _ e => e) ⟨⟨_, Heap.get?_push_size _ rfl, rfl, rfl⟩, hl1.push _⟩ rfl rfl rfl (Heap.get?_push_of_some _ at_) (fun b o e => Heap.get?_push_of_some _ (up b o e)) (none_of _ (Nat.le_refl _)) fun h' tk D kp S => ?_
          exact wpAny_pure (wpAny_pure ⟨rfl, go h' tk D kp S⟩)
      · cases r2 with
        | error e => exact hr2
        | ok fl2 =>
          cases fl2 with
          | ret r =>
            obtain ⟨rfl, q⟩ := hr2
            repeat (any_goals (first | assumption | wp_step))
          | _ => exact hr2.elim
    | _ => exact hr.elim
end
end PD
namespace PD
open PySem PySem.Spec PyProof.Rows L2
variable [LamTab]
def insU (x : List Nat) : List (List Nat) → List (List Nat)
  | [] => [x]
  | y :: r => if x < y then x :: y :: r else if y < x then y :: insU x r else y :: r
def srtU (l : List (List Nat)) : List (List Nat) := l.foldr insU []
theorem lt3 (x y : List Nat) : x < y ∨ x = y ∨ y < x := by
  by_cases h : x < y
  · exact .inl h
  · rcases List.le_iff_lt_or_eq.mp (List.not_lt.mp h) with h | h
    · exact .inr (.inr h)
    · exact .inr (.inl h.symm)
theorem insU_mem {x z : List Nat} : ∀ {l : List (List Nat)}, z ∈ insU x l ↔ z = x ∨ z ∈ l
  | [] => by simp [insU]
  | y :: r => by
    unfold insU
    split
    · simp
    · split
      · rw [List.mem_cons, insU_mem (l := r), List.mem_cons]
        constructor
        · rintro (h | h | h)
          · exact .inr (.inl h)
          · exact .inl h
          · exact .inr (.inr h)
        · rintro (h | h | h)
          · exact .inr (.inl h)
          · exact .inl h
          · exact .inr (.inr h)
      · rename_i h1 h2
        have e : x = y := (lt3 x y).elim (fun h => absurd h h1) fun h => h.elim id fun h => absurd h h2
        subst e
        simp
theorem insU_up {x : List Nat} : ∀ {l : List (List Nat)}, l.Pairwise (· < ·) → (insU x l).Pairwise (· < ·)
  | [], _ => List.pairwise_singleton _ _
  | y :: r, h => by
    obtain ⟨h1, h2⟩ := List.pairwise_cons.mp h
    unfold insU
    split
    · rename_i hx
      refine List.pairwise_cons.mpr ⟨fun z hz => ?_, h⟩
      rcases List.mem_cons.mp hz with e | hz
      · rw [e]; exact hx
      · exact List.lt_trans hx (h1 z hz)
    · split
      · rename_i hx
        refine List.pairwise_cons.mpr ⟨fun z hz => ?_, insU_up h2⟩
        rcases insU_mem.mp hz with e | hz
        · rw [e]; exact hx
        · exact h1 z hz
      · exact h
theorem srtU_mem {z : List Nat} : ∀ {l : List (List Nat)}, z ∈ srtU l ↔ z ∈ l
  | [] => by simp [srtU]
  | y :: r => by
    show z ∈ insU y (srtU r) ↔ _
    rw [insU_mem, srtU_mem (l := r), List.mem_cons]
theorem srtU_up : ∀ {l : List (List Nat)}, (srtU l).Pairwise (· < ·)
  | [] => List.Pairwise.nil
  | y :: r => insU_up (srtU_up (l := r))
theorem toS_cps (z : List Nat) : (toS z).cps.toList = z := by simp [toS]
/-- the number of unlike ones -/
theorem nodup_len {l : List Str} {zs : List (List Nat)} (nd : l.Nodup) (hm : ∀ x, x ∈ l ↔ x ∈ zs.map toS) : l.length = (srtU zs).length := by
  have p : l.Perm ((srtU zs).map toS) := by
    refine (List.perm_ext_iff_of_nodup nd ?_).mpr fun x => ?_
    · refine List.pairwise_map.mpr ((srtU_up (l := zs)).imp fun {x y} h e => ?_)
      have : (toS x).cps.toList = (toS y).cps.toList := congrArg (·.cps.toList) e
      rw [toS_cps, toS_cps] at this
      rw [this] at h
      exact List.lt_irrefl _ h
    · rw [hm, List.mem_map, List.mem_map]
      exact ⟨fun ⟨z, h1, h2⟩ => ⟨z, srtU_mem.mpr h1, h2⟩, fun ⟨z, h1, h2⟩ => ⟨z, srtU_mem.mp h1, h2⟩⟩
  rw [p.length_eq, List.length_map]
def txD (h : EH) (d : D) : Option (List (List Nat)) := match asS h d with
  | some xs => (match asTs xs with
    | some zs => if zs.length + 1 < scanBound then some zs else none
    | none => none)
  | none => none
def mSortT (a : M D) : M D := fun ε h => bR (a ε h) fun x h1 => rt ((txD h1 x).map fun zs => .lst ((srtU zs).map .str)) h1
def mLenT (a : M D) : M D := fun ε h => bR (a ε h) fun x h1 => rt ((txD h1 x).map fun zs => .int (srtU zs).length) h1
theorem txD_ok {c : RC} {h : EH} {d : D} {v : V} {zs : List (List Nat)} (s : SR c h) (r : Rep c d v) (e : txD h d = some zs) : ∃ a, v = .ref a ∧ (SqL c.K c.H a ((zs.map toS).map V.str) ∨ SqT c.K c.H a ((zs.map toS).map V.str)) ∧ zs.length + 1 < scanBound := by
  unfold txD at e
  cases q : asS h d with
  | none => rw [q] at e; cases e
  | some xs =>
    rw [q] at e
    dsimp only at e
    cases q2 : asTs xs with
    | none => rw [q2] at e; cases e
    | some ws =>
      rw [q2] at e
      dsimp only at e
      by_cases hz : ws.length + 1 < scanBound
      · rw [if_pos hz] at e
        cases e
        obtain ⟨a, us, e1, e2, e3⟩ := asS_ok s r q
        have := asTs_ok e3 q2
        subst this
        exact ⟨a, e1, e2, hz⟩
      · rw [if_neg hz] at e; cases e
section
variable {X : Cx} {W : WX}
/-- the set made, then f -/
theorem set_arg {x : Str} {id : String} {a : Expr} {ta : TE} {p p2 q pos : Pos} {Q : VK} {pins : List (Addr × Obj)} {s : Shared} {σ : L2.St} {H : Hp} (I : Inv X pins σ H s) (hc : X.calm = true) (hb : bootBuiltins x = some (.builtin id)) (hg : Gl X x) (hm : X.mg x = none) (hg2 : Gl X "set") (hm2 : X.mg "set" = none) (ha : PE X a ta)
    (na : starEach [a] X.env = (false, eval a X.env) :: starEach [] X.env) (hx : x ≠ "__name__") (hd : (x == ("__debug__" : Str)) = false)
    (h : ta σ H fun v H1 => ∃ l, ∃ xs : List Str, v = .ref l ∧ (SqL X.K H1 l (xs.map V.str) ∨ SqT X.K H1 l (xs.map V.str)) ∧ xs.length + 1 < scanBound ∧
      ∀ (s1 : Shared) (D : PySem.Froz.SD) (b : Addr), Inv X pins σ H1 s1 → TxSet X.prog X.w s1.heap b D (xs.foldl addT []) → wpAny (model X.prog X.w) X.A (call (.builtin id) [.ref b]) (EP X pins σ Q) X.xe s1) :
    wpAny (model X.prog X.w) X.A (eval (.Call (.Name x p) [.Call (.Name "set" p2) [a] [] q] [] pos) X.env) (EP X pins σ Q) X.xe s := by
  refine Call_ (ld_blt I hg hm hb ?_ hx hd)
  refine PyProof.Rows.callWith_builtin1 (PyProof.Rows.args_cons ?_ rfl) rfl rfl
  refine Call_ (ld_blt I hg2 hm2 PyProof.Rows.boot_set ?_)
  refine PyProof.Rows.callWith_type1 (PyProof.Rows.args_cons (thn (ha.run pins s σ H _ I h) fun v s1 ⟨x, H1, I1, r1, q1⟩ => PyProof.Rows.args_nil ?_) na) na rfl
  obtain ⟨l, xs, rfl, hq, hb, go⟩ := q1
  cases r1
  have fin : ∀ (its : List Value), Vals (xs.map V.str) its → SrcT s1.heap l its.toArray → wpAny (model X.prog X.w) X.A (call (.type "set") [.ref l]) (fun v s2 => wpAny (model X.prog X.w) X.A (spliced (backTo pos (starEach [] X.env))) (fun vs s₂ => wpAny (model X.prog X.w) X.A (call (.builtin id) (v :: vs)) (EP X pins σ Q) X.xe s₂) X.xe s2) X.xe s1 := fun its r src => by
    refine call_txts (I1.ok.hd hc) src (by simpa using strsAre_of r) hb fun h' tk D keep S => PyProof.Rows.args_nil ?_
    exact go _ D _ (I1.kept keep) S
  rcases hq with hq | hq
  · obtain ⟨its, r, pl, hz⟩ := I1.list hq
    exact fin its r (.lst pl.isList)
  · obtain ⟨its, r, pl, hz⟩ := I1.tuple hq
    exact fin its r (.tup pl)
theorem re_lenT {a : Expr} {ma : M D} {p p2 q pos : Pos} (hc : X.calm = true) (hm : X.mg "len" = none) (hm2 : X.mg "set" = none) (ha : RE X W a ma) (hg : Gl X "len" := by rfl) (hg2 : Gl X "set" := by rfl)
    (na : starEach [a] X.env = (false, eval a X.env) :: starEach [] X.env := by rfl) : RE X W (.Call (.Name "len" p) [.Call (.Name "set" p2) [a] [] q] [] pos) (mLenT ma) := by
  refine ⟨fun pins s σ H Q I h => set_arg I hc boot_len hg hm hg2 hm2 ha na (by decide) (by decide) ?_⟩
  obtain ⟨c, ε, eh, r, h', hK, hm', rfl, sr, er, e, px, go⟩ := h
  refine tX.bind hK hm' sr er e px fun d h1 c1 v e1 l1 s1 r1 => ?_
  cases q1 : txD h1 d with
  | none => rw [q1] at e1; cases e1
  | some zs =>
    rw [q1] at e1
    cases e1
    obtain ⟨b, rfl, sq, hz⟩ := txD_ok s1 r1 q1
    rw [l1.K.trans hK] at sq
    refine ⟨b, zs.map toS, rfl, sq, by rw [List.length_map]; exact hz, fun s2 D b2 I2 S => ?_⟩
    have nl : D.1.size = (srtU zs).length := S.ok.sz.trans (nodup_len S.nd fun x => by rw [fold_mem]; simp)
    have lt : D.1.size < scanBound := by
      rw [S.ok.sz]
      have := fold_len (zs.map toS) []
      rw [List.length_map, List.length_nil] at this
      omega
    refine call_len_set (o := PySem.Froz.sObj "set" D) S.ob ⟨rfl, rfl, rfl⟩ rfl S.ok.fit (by unfold scanBound at lt; omega) ?_
    rw [nl]
    exact ⟨.int (srtU zs).length, c1.H, I2.tok _, ⟨_, rfl⟩, go _ rfl c1 _ l1 s1 (.int _)⟩
end
end PD
namespace PD
open PySem PySem.Spec PyProof.Rows L2
variable [LamTab]
theorem en_new {v : Value} {o : Obj} {B : Heap → Prop} (b : Begins v o B) : Meets (Builtin.«enumerate.__new__» ⟨[.type "enumerate", v], []⟩) (fun _ R s => B s.heap ∧
    R (.ok (.ret (.ref (s.heap.push o).objs.size))) { s with heap := (s.heap.push o).push { cls := .type "enumerate", data := .fields #[.none, .bool false, .ref s.heap.objs.size, rawInt 0, .none, .none] } }) :=
  .of_wp fun P w A R s q => by
    obtain ⟨hp, g, d, tk, os⟩ := s
    obtain ⟨q0, q⟩ := q
    have hsub := sub_enumerate
    have go : ∀ {A' : Around} {E : Value → Shared → Prop} {Q : Value → Shared → Prop}, Q (.ref hp.objs.size) ⟨hp.push o, g, d, tk, os⟩ → wpAny (model P w) A' (pyIter v) Q E ⟨hp, g, d, tk, os⟩ := fun z => b.iter P w _ _ ⟨hp, g, d, tk, os⟩ _ q0 z
    wp_walk using go
    refine wpAny_stack_any fun st => wpAny_pure ?_
    split
    · rename_i c _ _ _ _ _
      cases (c == Value.type "enumerate") <;> (wp_walk using go; exact ⟨_, rfl, q⟩)
    · wp_walk using go
      exact ⟨_, rfl, q⟩
/-- enumerate(v) begins -/
theorem en_call {P : Program} {w : World} {A : Around} {E : Value → Shared → Prop} {s : Shared} {v : Value} {o : Obj} {B : Heap → Prop} {Q : Value → Shared → Prop} (b : Begins v o B) (q0 : B s.heap)
    (go : ∀ h', IsEnum h' (s.heap.objs.size + 1) s.heap.objs.size 0 .none → h'.get? s.heap.objs.size = some o → (∀ b o, s.heap.get? b = some o → h'.get? b = some o) → Q (.ref (s.heap.objs.size + 1)) { s with heap := h' }) :
    wpAny (model P w) A (call (.type "enumerate") [v]) Q E s := by
  refine callType_new F.called_enumerate (by decide) (F.typeCall_enumerate_1 _) (F.newCall_enumerate_1 _) (fun obj => F.args_object_init_2 obj _) F.entry_enumerate_new (en_new b) ⟨q0, ?_⟩
  have z : (s.heap.push o).objs.size = s.heap.objs.size + 1 := Heap.size_push ..
  show _ ∧ _
  rw [z]
  have e : ((s.heap.push o).push { cls := .type "enumerate", data := .fields #[.none, .bool false, .ref s.heap.objs.size, rawInt 0, .none, .none] }).get? (s.heap.objs.size + 1) = some { cls := .type "enumerate", data := .fields #[.none, .bool false, .ref s.heap.objs.size, rawInt 0, .none, .none] } := by
    rw [← z]
    exact Heap.get?_push_size (s.heap.push o) rfl
  exact ⟨⟨_, e, rfl⟩, go _ e (Heap.get?_push_of_some _ (Heap.get?_push_size _ b.free)) fun b o x => Heap.get?_push_of_some _ (Heap.get?_push_of_some _ x)⟩
def Itu (K : PySem.W.Frag) (a : Addr) : It :=
  ⟨fun i H => ∃ (xs : List V) (x : V), SqT K H a xs ∧ xs[i]? = some x, fun i H v H' => ∃ T x, v = .ref T ∧ H T = none ∧ H' = upd H T (.tup [.int (i : Nat), x]) ∧ ∀ xs, SqT K H a xs → xs[i]? = some x, fun i H => ∃ xs : List V, SqT K H a xs ∧ i = xs.length⟩
theorem walk_enT {K : PySem.W.Frag} {a : Addr} {xs : List V} : Walk (Itu K a) xs.length (fun H => SqT K H a xs) (YPair (fun i => some (.int (i : Nat))) (fun i => xs[i]?)) := by
  refine ⟨fun i _ hi q => ⟨xs, xs[i], q, by simp [hi]⟩, fun _ q => ⟨xs, q, rfl⟩, fun i H v H' _ q y => ?_⟩
  obtain ⟨T, x, h1, h2, h3, h4⟩ := y
  exact ⟨T, .int (i : Nat), x, h1, h2, h3, rfl, h4 xs q⟩
theorem turn_enT {P : Program} {w : World} {K : PySem.W.Frag} {elts : List Expr} {kk : Nat} {tpos : Pos} (a e it : Addr) :
    Turn P w K (.Tuple elts kk tpos) (Itu K a) [e, it] e (fun i h => (∃ old, IsEnum h e it (0 + ((i : Nat) : Int)) old) ∧ h.IsTupleIter it a i ∧ e ≠ it ∧ a ≠ e ∧ a ≠ it) where
  mem := List.mem_cons_self
  obj := fun i h st b hb => by
    obtain ⟨⟨old, he⟩, ⟨o, ho, hc, hd⟩, _⟩ := st
    rcases List.mem_cons.mp hb with z | z
    · rw [z]; exact ⟨_, he, fun v q => nomatch q⟩
    · rw [List.mem_singleton.mp z]; exact ⟨o, ho, fun v q => by rw [hd] at q; cases q⟩
  keep := fun i h h' st k => by
    obtain ⟨⟨old, he⟩, hi, ne⟩ := st
    exact ⟨⟨old, k e List.mem_cons_self _ he⟩, hi.at fun o q => k it (List.mem_cons_of_mem _ List.mem_cons_self) o q, ne⟩
  item := by
    intro X hP hw hK hc i pins s σ H E I hf st hg
    subst hP hw hK
    obtain ⟨⟨old, he⟩, hit, n1, n2, n3⟩ := st
    obtain ⟨xs, x, hq, hx⟩ := hg
    obtain ⟨its, rv, pl, hz⟩ := I.tuple hq
    obtain ⟨u, hu, ru⟩ := rv.get hx
    have hi : i < its.toArray.size := by
      rw [List.size_toArray, ← rv.length]
      exact (List.getElem?_eq_some_iff.mp hx).1
    have D := Draws.tuple (prog := X.prog) (w := X.w) (A := X.A.in1) (I.ok.hd hc) it a n3 its.toArray
    have N := GoesN.enumFrom (elts := elts) (x1 := kk) (pos := tpos) 0 D e n1 (fun z => (List.mem_cons.mp z).elim n1 fun z => n2 (List.mem_singleton.mp z).symm) List.mem_cons_self
    have lt : ∀ b ∈ [e, it], b < s.heap.objs.size := fun b hb => by
      rcases List.mem_cons.mp hb with z | z
      · rw [z]; exact Heap.lt_size he
      · rw [List.mem_singleton.mp z]; obtain ⟨_, q, _⟩ := hit; exact Heap.lt_size q
    refine N.goes i s (fun v s2 => ∃ x H', Inv X pins σ H' s2 ∧ RelV x v ∧ (Itu X.K a).yld i H x H' ∧ ((∃ old, IsEnum s2.heap e it (0 + ((i + 1 : Nat) : Int)) old) ∧ s2.heap.IsTupleIter it a (i + 1) ∧ e ≠ it ∧ a ≠ e ∧ a ≠ it) ∧ ∀ b ∈ [e, it], H' b = none) E hi ⟨⟨old, he⟩, hit, pl⟩ fun v h' tk y st' keep _ => ?_
    obtain ⟨T, t, z, rfl, hn, hzz, hT⟩ := y
    have ez : z = u := by
      rw [show its.toArray[i]? = some u by simpa using hu] at hzz
      exact (Option.some.inj hzz).symm
    subst ez
    have new : ObjOk X.prog X.w (upd H T (.tup [.int (i : Nat), x])) h' T (.tup [.int (i : Nat), x]) := by
      refine ⟨by show 2 ≤ sizeLine; decide, [.int (0 + (i : Int)) t, z], .cons ⟨_, by rw [Int.zero_add]⟩ (.cons ru .nil), hT⟩
    have I1 : Inv X pins σ (upd H T (.tup [.int (i : Nat), x])) { s with heap := h', toks := tk } := I.turnedNew (ch := [e, it]) keep hf hn new
    refine ⟨.ref T, _, I1, rfl, ⟨T, x, rfl, I.hok.fresh hn, rfl, fun ys hy => by rw [I.tuple_inj hy hq]; exact hx⟩, ⟨st'.1, st'.2.1, n1, n2, n3⟩, fun b hb => ?_⟩
    rw [upd_ne (Nat.ne_of_lt (Nat.lt_of_lt_of_le (lt b hb) hn))]
    exact (hf b hb).1
  done := by
    intro X hP hw hK hc i pins s σ H E I hf st hg
    subst hP hw hK
    obtain ⟨⟨old, he⟩, hit, n1, n2, n3⟩ := st
    obtain ⟨xs, hq, hx⟩ := hg
    obtain ⟨its, rv, pl, hz⟩ := I.tuple hq
    have hi : i = its.toArray.size := by rw [List.size_toArray, ← rv.length]; exact hx
    subst hi
    have D := Draws.tuple (prog := X.prog) (w := X.w) (A := X.A.in1) (I.ok.hd hc) it a n3 its.toArray
    have N := GoesN.enumFrom (elts := elts) (x1 := kk) (pos := tpos) 0 D e n1 (fun z => (List.mem_cons.mp z).elim n1 fun z => n2 (List.mem_singleton.mp z).symm) List.mem_cons_self
    refine N.stops s (fun s2 => Inv X pins σ H s2) E ⟨⟨old, he⟩, hit, pl⟩ fun h' tk keep _ => ?_
    exact I.turnedL keep hf
  self := fun A i s Q E st h => by
    obtain ⟨⟨_, he⟩, _⟩ := st
    exact wpAny_pyIter_enum he h
def iEn (K : PySem.W.Frag) (ta : TA) : TI := fun σ H R => ta σ H fun vs H1 => ∃ a xs, vs = [.ref a] ∧ ((SqL K H1 a xs ∧ R (Ite K a) H1) ∨ (SqT K H1 a xs ∧ R (Itu K a) H1))
theorem pi_en {X : Cx} {e : Expr} {ta : TA} {p pos tpos : Pos} {elts : List Expr} {kk : Nat} (hg : Gl X "enumerate") (hm : X.mg "enumerate" = none) (ha : PA X [e] ta) (hs : starEach [e] X.env = [(false, eval e X.env)] := by rfl) :
    PI X (.Tuple elts kk tpos) (.Call (.Name "enumerate" p) [e] [] pos) (iEn X.K ta) := by
  refine ⟨fun pins s σ H R I h => Call_ (ld_blt I hg hm boot_enumerate (PyProof.Rows.callWith_type1 (thn (ha.run pos pins s σ H _ I h) fun us s1 ⟨vs, H1, I1, r1, q1⟩ => ?_) hs rfl))⟩
  obtain ⟨a, xs, ex, q1⟩ := q1
  subst ex
  cases r1 with
  | cons r rr =>
    cases rr
    cases r
    have fresh : ∀ b ∈ [s1.heap.objs.size + 1, s1.heap.objs.size], FpOk X pins H1 b := fun b hb => by
      have hle : s1.heap.objs.size ≤ b := by
        rcases List.mem_cons.mp hb with z | z
        · rw [z]; exact Nat.le_succ _
        · rw [List.mem_singleton.mp z]; exact Nat.le_refl _
      exact I1.fpOk hle (I1.hok.fresh hle)
    rcases q1 with ⟨hq, q⟩ | ⟨hq, q⟩
    · obtain ⟨its, rv, p', hz⟩ := I1.list hq
      refine call_enumerate_list p'.isList fun h' he hit hsz hk => wpAny_pyIter_enum he ?_
      exact ⟨s1.heap.objs.size + 1, _, _, _, H1, rfl, I1.kept (t' := s1.toks) hk, turn_enum a (s1.heap.objs.size + 1) s1.heap.objs.size, ⟨⟨.none, he⟩, hit, Nat.succ_ne_self _⟩, fresh, q⟩
    · obtain ⟨its, rv, pl, hz⟩ := I1.tuple hq
      refine en_call (begins_tuple a its.toArray) pl fun h' he hit hk => wpAny_pyIter_enum he ?_
      have la : a < s1.heap.objs.size := pl.lt
      exact ⟨s1.heap.objs.size + 1, _, _, _, H1, rfl, I1.kept (t' := s1.toks) hk, turn_enT a (s1.heap.objs.size + 1) s1.heap.objs.size, ⟨⟨.none, he⟩, ⟨_, hit, rfl, rfl⟩, Nat.succ_ne_self _, Nat.ne_of_lt (Nat.lt_succ_of_lt la), Nat.ne_of_lt la⟩, fresh, q⟩
def miEn (a : M (List D)) : M (List D) := fun ε h => bR (a ε h) fun xs h1 => match xs with
  | [x] => (match x with
    | .lst as => some (.ok (enumD as), h1)
    | .tup as => some (.ok (enumD as), h1)
    | _ => none)
  | _ => none
theorem ri_en {X : Cx} {W : WX} {e : Expr} {ma : M (List D)} {p pos tpos : Pos} {elts : List Expr} {kk : Nat} (hm : X.mg "enumerate" = none) (ha : RA X W [e] ma) (hg : Gl X "enumerate" := by rfl) (hs : starEach [e] X.env = [(false, eval e X.env)] := by rfl) : RI X W (.Tuple elts kk tpos) (.Call (.Name "enumerate" p) [e] [] pos) (miEn ma) := by
  refine pi_imp (pi_en hg hm ha hs) fun σ H R h => ?_
  obtain ⟨c, ε, h, r, h', hK, hm, rfl, sr, er, e, px, go⟩ := h
  unfold iEn
  refine tX.bind hK hm sr er e px fun ds h1 c1 vs e1 l1 s1 r1 => ?_
  have nth : ∀ {as : List D} {xs : List V}, Reps c1 as xs → ∀ (i : Nat) (x y : V) (c' : RC), c1.LeW c' → some (V.int (i : Nat)) = some x → xs[i]? = some y → ∃ d e, (enumD as)[i]? = some (.tup [d, e]) ∧ Rep c' d x ∧ Rep c' e y := fun {as xs} k3 i x y c' l e1 e2 => by
    cases e1
    obtain ⟨d, h1, r1⟩ := k3.getV e2
    refine ⟨.int (i : Nat), d, ?_, .int _, r1.leW l⟩
    unfold enumD
    rw [List.getElem?_map, List.getElem?_zipIdx, h1]
    simp
  match ds, r1, e1 with
  | [d1], .cons q1 .nil, e1 =>
    cases q1 with
    | @lst a as xs k1 k2 k3 =>
      cases e1
      refine ⟨a, xs, rfl, .inl ⟨.inl (.inl k1), go _ rfl c1 _ l1 s1 (walkR_pair (G := fun H => SqL X.K H a xs) (f := fun i => some (V.int (i : Nat))) (g := fun i => xs[i]?) ?_ (fun c' l => .inl (.inl (l.lstH k1 k2).1)) (nth k3))⟩⟩
      have en : (enumD as).length = xs.length := by simp [enumD, k3.length]
      rw [en]
      exact walk_enum
    | @tup a as xs k1 k3 =>
      cases e1
      rw [l1.K.trans hK] at k1
      refine ⟨a, xs, rfl, .inr ⟨k1, go _ rfl c1 _ l1 s1 (walkR_pair (G := fun H => SqT X.K H a xs) (f := fun i => some (V.int (i : Nat))) (g := fun i => xs[i]?) ?_ (fun c' l => ?_) (nth k3))⟩⟩
      · have en : (enumD as).length = xs.length := by simp [enumD, k3.length]
        rw [en]
        exact walk_enT
      · rcases k1 with k1 | k1
        · exact .inl (l.tup _ _ k1)
        · exact .inr k1
    | _ => cases e1
  | [], _, e1 => cases e1
  | _ :: _ :: _, _, e1 => cases e1
def mPrp (C : Str) (F : PF) (o : M D) : M D := fun ε h => bR (o ε h) fun x h1 => match insD h1 x with
  | some (C', _) => if C' = C ∧ noRef.go [x] = true then (match F [x] with
    | some (.ok d) => some (.ok d, h1)
    | _ => none) else none
  | none => none
def mCGet (kvs : List (List Nat × D)) (a b : M D) : M D := fun ε h => bR (a ε h) fun y h1 => match y with
  | .str k => bR (b ε h1) fun z h2 => some (.ok ((lkS k kvs).getD z), h2)
  | _ => none
end PD
namespace PD
open PySem PySem.Spec PyProof.Rows L2
variable [LamTab]
section
variable {n : Nat} {fa : List He.Fa} {fn : List He.DefD} {gs : List (Str × D)} {ds : List DicD} {fx : List FactB} {xd : List He5.DefA} {w : World} {K : PySem.W.Frag}
theorem SaysG3.two (c : SaysG3 fa fn gs ds fx xd w K) : SaysG2 fa fn gs ds w K := congrArg (fun z : AlG3 => z.1) c
theorem SaysG3.fact (c : SaysG3 fa fn gs ds fx xd w K) {f : FactB} (h : f ∈ fx) : f K = true :=
  List.all_eq_true.mp (ba2 (congrArg (fun z : AlG3 => z.2.1) c : ((fx.all (fun f => f K)) && xd.all (fun d => d.ok K)) = true)).1 f h
theorem SaysG3.defA (c : SaysG3 fa fn gs ds fx xd w K) {d : He5.DefA} (h : d ∈ xd) : ∃ fd, FunD K d.name d.qual d.params d.body d.scope (d.dvs K) (d.kws K) (d.at_ K) fd := by
  have c1 := List.all_eq_true.mp (ba2 (congrArg (fun z : AlG3 => z.2.1) c : ((fx.all (fun f => f K)) && xd.all (fun d => d.ok K)) = true)).2 d h
  have c2 : (xd.map fun d => He5.fnA K (d.at_ K)) = xd.map He5.DefA.val := congrArg (fun z : AlG3 => z.2.2) c
  exact He5.DefA.funD (List.map_inj_left.mp c2 d h) c1
end
def miA (a : M D) : M (List D) := fun ε h => match miL a ε h with
  | some z => some z
  | none => miT a ε h
theorem ri_any {X : Cx} {W : WX} {tg e : Expr} {m : M D} (he : RE X W e m) : RI X W tg e (miA m) := by
  refine ⟨fun pins s σ H R I h => ?_⟩
  obtain ⟨c, ε, h, r, h', hK, hm, rfl, sr, er, e, px, go⟩ := h
  unfold miA at e
  cases q : miL m ε h with
  | some z =>
    rw [q] at e
    cases e
    exact (ri_list he).run pins s σ _ R I ⟨c, ε, h, r, h', hK, hm, rfl, sr, er, q, px, go⟩
  | none =>
    rw [q] at e
    exact (ri_tup he).run pins s σ _ R I ⟨c, ε, h, r, h', hK, hm, rfl, sr, er, e, px, go⟩
end PD
namespace PD
open PySem PySem.Spec PyProof.Rows L2
variable [LamTab]
def msPar3 (i j l : Nat) (m : M (List D)) : MS := fun ε h => bS (m ε h) ε fun ds h1 => match ds with
  | [d, e, f] => some (.nx (((ε.set i (some d)).set j (some e)).set l (some f)), h1)
  | _ => none
end PD
namespace PX
open PySem PySem.Spec PyProof.Rows L2 PySem.Calls
section
variable {X : Cx} {pins : List (Addr × Obj)} {σ : L2.St} {H : Hp} {s : Shared} {a C u : Addr} {E : Value → Shared → Prop}
/-- ValueError.__init__ bound to the object, called -/
theorem mw_init {us : List Value} {Q : Value → Shared → Prop} (T : OexC X.K C) (I : Inv X pins σ H s) (e : H a = some (exo a C none)) (hu : s.heap.get? u = some (PySem.W.kxs_mw "ValueError.__init__" a)) (hl : us.length ≤ sizeLine) (h : ∀ s', Inv X pins σ H s' → Q .none s') :
    wpAny (model X.prog X.w) X.A (call (.ref u) us) Q E s := by
  obtain ⟨nm, q, N, bs, bm, sn, sub, ab, col, dd, k0, k1, k2, k3, k5, hC, hbm⟩ := T.cls
  obtain ⟨t1, ho⟩ := exo_at I.hok e
  obtain ⟨hp, g, d, t, os⟩ := s
  have KC := I.kIn _ _ hC
  refine wpAny_call (codeAny_of_tree ?_)
  show wpAny _ X.A.in1 (callAny (.ref u) ⟨us, []⟩) _ _ _
  simp only [callAny]
  refine wpAny_bind (wpAny_load hu ?_)
  simp only [PySem.W.kxs_mw, show (Value.type "method-wrapper" == Value.type "method" || Value.type "method-wrapper" == Value.type "builtin_function_or_method" || Value.type "method-wrapper" == Value.type "method-wrapper") = true by decide, if_true]
  refine PySem.W.KFB.if_so (by decide) ?_
  refine wpAny_bind (PySem.W.check_bound_init F.excBase_ValueError.toExcCallFacts KC ho rfl ?_)
  refine wpAny_bind (wpAny_pure (wpAny_pure ?_))
  refine ⟨plainId_quiet F.excBase_ValueError.init.plain _, codeAny_builtin F.excBase_ValueError.initEntry ?_⟩
  refine PySem.W.exc_init_tree (cls := .ref C) (t0 := t1) (dv := none) (c2 := .none) (c3 := .none) (b4 := .bool false) ho hl fun h' k hx _ => ?_
  have J := I.write (t' := t) (x := a) (e := a) (o := exo a C none) (by rw [e]; exact True.intro) (.inl rfl) k ⟨_, hx⟩ (exo_ok hx)
  have eu : upd H a (exo a C none) = H := by
    funext b
    by_cases hb : b = a
    · rw [hb, upd_same, e]
    · rw [upd_ne hb]
  rw [eu] at J
  exact h _ J
end
/-- a class whose __init__ says super().__init__(code); self.code = code -/
def supBody (b : List Stmt) : Prop := ∃ p0 p1 p2 p3 p4 p5 p6 p7 p8 p9, (∀ env : Env, ∃ pl : Sem Bool, eval (.Call (.Attribute (.Call (.Name "super" p0) [] [] p1) "__init__" p2) [.Name "code" p3] [] p4) env = (do
      let ov ← attributeBase (.Call (.Name "super" p0) [] [] p1) "__init__" env (eval (.Call (.Name "super" p0) [] [] p1) env)
      standAt p2.atName
      let (f, first) ← holding [ov] (getMethod ov "__init__" pl)
      callWith p4 f first (backTo p4 (starEach [.Name "code" p3] env)) [])) ∧ b = [.Expr (.Call (.Attribute (.Call (.Name "super" p0) [] [] p1) "__init__" p2) [.Name "code" p3] [] p4) p5, .Assign [.Attribute (.Name "self" p6) "code" p7] (.Name "code" p8) p9]
structure SupI (P : Program) (K : PySem.W.Frag) (T f : Addr) (fd : FuncData) : Prop where
  ex : ∃ (qual : Str) (params : Arguments) (ar : Arg) (body : List Stmt) (scope : Scope) (oc : Value) (od : Option Addr) (dV kV doc pm : Value) (an : Option Addr) (cda cc : Addr) (ct : Value) (osl : Array (Option Value)),
    fd = PySem.W.ksFn "__init__" qual params body scope dV kV doc pm an (.ref cda) ct cc ∧ supBody body ∧ K.lookup f = some ⟨oc, od, .func fd, osl⟩ ∧ PySem.W.codeIn K (.ref cda) qual = true ∧ (params.posonlyargs ++ params.args).head? = some ar ∧ ar.arg = "self" ∧
    (∃ (oc2 : Value) (od2 : Option Addr) (vs : Array Value) (sl2 : Array (Option Value)) (file : Str) (tf : Tok), K.lookup cda = some ⟨oc2, od2, .fields vs, sl2⟩ ∧ vs[2]? = some (.str file tf) ∧ ((P.main.file : Str) == file) = true) ∧
    (∃ (oc3 : Value) (od3 : Option Addr) (sl3 : Array (Option Value)), K.lookup cc = some ⟨oc3, od3, .cell (some (.ref T)), sl3⟩) ∧
    (∀ x ∈ scope.names, x.2 ≠ .cell) ∧ (∀ x ∈ scope.names, x.2 = .free → x.1 = "__class__") ∧ scope.names.lookup ("super" : Str) = some .globalImplicit ∧ scope.names.lookup ("__class__" : Str) = some .free ∧ scope.names.lookup ("self" : Str) = some .local ∧ scope.names.lookup ("code" : Str) = some .local ∧
    scope.kind = .function ∧ scope.isCoroutine = false ∧ scope.isGenerator = false
  cls : ∃ cd, PySem.W.clsIn K T = some cd
  sup : PySem.W.nsIn K mainGlobals "super" = some none
  top : (P.main.scope.names.lookup ("super" : Str)).isSome = false
  opq : PySem.W.nsIn K cStatics "thirdparty.any" = some none
/-- the class C of the object lies over T -/
structure OverT (K : PySem.W.Frag) (T C : Addr) : Prop where
  oex : OexC K C
  sup : PySem.W.ks_superIn K C T "__init__" = some (some (.builtin "ValueError.__init__"))
  mro : PySem.W.mroIn K C (.ref T) = some true
  sub : PySem.W.subIn K (.ref C) (.type "ValueError") = some true
  no : PySem.W.findIn K (.ref C) "code" = some none
def spT (K : PySem.W.Frag) (T : Addr) : Sp := fun vs H Q _ => ∃ (a C : Addr) (y : V), vs = [.ref a, y] ∧ OverT K T C ∧ H a = some (exo a C none) ∧ ∀ dx, H dx = none → dx ≠ a → Q .non (upd (upd H dx (exd dx [("code", y)])) a (exo a C (some dx)))
def supCx (CX : CXT) (P : Program) (w : World) (K : PySem.W.Frag) (mg : Str → Option Value) (base : Heap) (qual : Str) (scope : Scope) (f cc : Addr) (cd : Value) (A : Around) (outer : List Env) (s : Shared) (H : Hp) (E : XK) : Cx where
  prog := P
  w := w
  K := K
  mg := mg
  base := base
  A := A.deeper (PySem.W.ksEnv qual scope s.heap.objs.size f cd cc)
  N := ["self", "code"]
  s_0 := s
  H_0 := H
  env := PySem.W.ksEnv qual scope s.heap.objs.size f cd cc
  outer := outer
  stack := PySem.W.ksEnv qual scope s.heap.objs.size f cd cc :: outer
  ex := []
  fn := fun _ => false
  calm := true
  pn := []
  xe := fun e s' => wpAny (model P w) (A.deeper (PySem.W.ksEnv qual scope s.heap.objs.size f cd cc)) (leaving (PySem.W.ksEnv qual scope s.heap.objs.size f cd cc) e) (fun _ s'' => CX outer H s E e s'') (fun e' s'' => CX outer H s E e' s'') s'
section
variable {P : Program} {w : World} {K : PySem.W.Frag} {mg : Str → Option Value} {base : Heap} {CX : CXT} {k : Nat} {T f : Addr} {fd : FuncData}
theorem sup_start {qual : Str} {scope : Scope} {cc : Addr} {cd u0 u1 : Value} {v0 v1 : V} {A : Around} {outer : List Env} {s : Shared} {H : Hp} {E : XK} {h₁ : Heap} {tk : Nat} (hd : A.handled = none) (e0 : Env0 P w K mg base A outer s H)
    (hcell : ∃ (oc3 : Value) (od3 : Option Addr) (sl3 : Array (Option Value)), K.lookup cc = some ⟨oc3, od3, .cell (some (.ref T)), sl3⟩) (hc : ∀ x ∈ scope.names, x.2 ≠ .cell) (hf : ∀ x ∈ scope.names, x.2 = .free → x.1 = "__class__") (hks : scope.names.lookup ("self" : Str) = some .local) (hkc : scope.names.lookup ("code" : Str) = some .local) (hkind : scope.kind = .function)
    (r0 : RelV v0 u0) (r1 : RelV v1 u1) (hns : h₁.Ns s.heap.objs.size (fun x => [(("self" : Str), u0), (("code" : Str), u1)].reverse.lookup x)) (hk : ∀ b o, s.heap.get? b = some o → h₁.get? b = some o) :
    Inv (supCx CX P w K mg base qual scope f cc cd A outer s H E) [] [some v0, some v1] H { s with heap := h₁, toks := tk } := by
  obtain ⟨oc3, od3, sl3, hcell⟩ := hcell
  have noA : ∀ b : Addr, b ∉ (supCx CX P w K mg base qual scope f cc cd A outer s H E).ex := fun b z => absurd (show b ∈ ([] : List Addr) from z) (by simp)
  have cells : ∀ {y : Str} {c : Addr}, (supCx CX P w K mg base qual scope f cc cd A outer s H E).env.cells.lookup y = some c → y = "__class__" ∧ c = cc := fun {y c} e => by
    have e' : ([(("__class__" : Str), cc)] : List (Str × Addr)).lookup y = some c := e
    rw [List.lookup_cons] at e'
    cases q : y == ("__class__" : Str) with
    | true => rw [q] at e'; cases e'; exact ⟨beq_iff_eq.mp q, rfl⟩
    | false => rw [q] at e'; cases e'
  have kc := e0.mod.kin _ _ hcell
  refine ⟨⟨e0.mod, hkind, rfl, rfl, Nat.le_refl _, fun y z c h1 h2 => (cells h1).1.trans (cells h2).1.symm, fun y hy => ?_, fun y c z _ => ?_, fun _ => hd, Around.frames_deeper e0.frames, .inr ⟨rfl, rfl⟩, fun b z => absurd z (noA b), e0.bs, e0.bsz, fun b _ _ => noA b, fun b z => absurd z (noA b), e0.funs, e0.frf⟩,
    rfl, e0.bare, Un.kept hk, ⟨_, hns, fun i y v h1 h2 h3 => ?_⟩, fun y c h => ?_, e0.hok.fresh (Nat.le_refl _), fun y c h => ?_, fun p hp => absurd (show p ∈ ([] : List (Addr × Obj)) from hp) (by simp), e0.hok.kept hk, rfl⟩
  · have hy : scope.names.lookup y = some .cell ∨ scope.names.lookup y = some .free := hy
    rcases hy with hy | hy
    · exact absurd rfl (hc _ (PySem.mem_of_lookup hy))
    · have e := hf _ (PySem.mem_of_lookup hy) rfl
      have e' : y = "__class__" := e
      subst e'
      exact ⟨cc, rfl⟩
  · have z : false = true := z
    cases z
  · match i, h1, h2 with
    | 0, h1, h2 =>
      cases h1
      cases h2
      exact ⟨u0, r0, .inl ⟨hks, rfl⟩⟩
    | 1, h1, h2 =>
      cases h1
      cases h2
      exact ⟨u1, r1, .inl ⟨hkc, rfl⟩⟩
    | n + 2, h1, h2 => simp at h2
  · rw [(cells h).2]
    exact ⟨_, _, hk _ _ (e0.bs _ _ kc).1, rfl⟩
  · rw [(cells h).2]
    exact (e0.bs _ _ kc).2
/-- its promise -/
theorem sup_init (S : SupI P K T f fd) : FnOk P w K mg base CX (k + 1) f fd ["self", "code"] (spT K T) := by
  refine ⟨fun vs H Q E h => ?_, fun A outer s H args us vs Q E hr e0 hb r hsp => ?_⟩
  · obtain ⟨a, C, y, rfl, _⟩ := h
    rfl
  obtain ⟨a, C, y, rfl, O, ea, go⟩ := hsp
  obtain ⟨qual, params, ar, body, scope, oc, od, dV, kV, doc, pm, an, cda, cc, ct, osl, rfl, ⟨p0, p1, p2, p3, p4, p5, p6, p7, p8, p9, hev, rfl⟩, lk, hcd, hp, har, ⟨oc2, od2, cvs, sl2, file, tf, hcda, hvs, hfile⟩, hcl, hnc, hnf, hsup, hcls, hself, hcode, hkind, hco, hgen⟩ := S.ex
  obtain ⟨u0, u1, rfl, r0, r1⟩ := r.two
  obtain rfl : u0 = Value.ref a := r0
  have KX : K.In s.heap := e0.mod.kin.keeps fun b o e => (e0.bs b o e).1
  have lim : s.heap.NoLimit := e0.mod.nolimit.keeps fun b o e => (e0.bs b o e).1
  refine PySem.ks_codeAny_call_defAt (fd := PySem.W.ksFn "__init__" qual params _ scope dV kV doc pm an (.ref cda) ct cc) (binds := [("self", .ref a), ("code", u1)]) hr.depth (KX _ _ lk) rfl lim (PySem.W.codeRec_of KX hcd) rfl hb hnc ?_ (fun h₁ hns hk => ?_) hco hgen hkind
  · intro x hx
    rcases List.mem_cons.mp hx with e | hx
    · rw [e]; exact hself
    · rw [List.mem_singleton.mp hx]; exact hcode
  have I := sup_start (CX := CX) (f := f) (qual := qual) (cd := .ref cda) (E := E) (tk := s.toks + 2) hr.hd e0 hcl hnc hnf hself hcode hkind (v0 := .ref a) (v1 := y) rfl r1 hns hk
  obtain ⟨nm, q, N, bs, bm, sn, sub, ab, col, dd, k0, k1, k2, k3, k5, hC, hbm⟩ := O.oex.cls
  obtain ⟨cdT, hT⟩ := S.cls
  let s1 : Shared := { s with heap := h₁, toks := s.toks + 2 }
  have I : Inv (supCx CX P w K mg base qual scope f cc (.ref cda) A outer s H E) [] [some (.ref a), some y] H s1 := I
  have KX1 : K.In h₁ := I.kIn
  obtain ⟨oD, hD1, hD2⟩ : ∃ oD, h₁.get? T = some oD ∧ oD.data = .cls cdT := by
    unfold PySem.W.clsIn at hT
    split at hT
    · rename_i c d cd' sl ho
      cases hT
      exact ⟨_, KX1 _ _ ho, rfl⟩
    · cases hT
  obtain ⟨t1, hx⟩ := exo_at I.hok ea
  have hxC : a ≠ C := fun z => by
    have e1 := KX1 _ _ hC
    rw [← z, hx] at e1
    cases e1
  have hsub : PySem.W.Looks (model P w) h₁ (isSubtype (.ref C) (.ref T)) true := PySem.W.looks_mroIn KX1 O.mro
  let env : Env := PySem.W.ksEnv qual scope s.heap.objs.size f (.ref cda) cc
  have hnsE : h₁.Ns env.locals (fun x => [(("self" : Str), Value.ref a), (("code" : Str), u1)].reverse.lookup x) := hns
  refine PySem.ks_wpAt_execs_cons (PySem.ks_wpAt_Expr_any (PySem.ks_wpAt_MethodCall (env := env) ?_ (hev env).choose_spec) (by show interactive env = false; unfold interactive; rw [show env.scope.kind = _ from hkind] <;> rfl) (by rfl))
  refine PySem.ks_wpAt_super_base (env := env) hsup hcls rfl rfl (KX1 _ _ lk) rfl hp rfl (KX1 _ _ hcda) rfl hvs hfile S.top ?_
  obtain ⟨mb, b1, b2⟩ := e0.mod.blt
  refine PySem.W.ks_loadName_global hkind hsup (loadGlobal_builtin (env := env) (e0.mod.glob.keeps I.bk) (PySem.W.mg_none_of e0.mod.kin e0.mod.glob S.sup) (b1.keeps I.bk) ((b2 "super" (by decide)).trans (by decide +kernel)) ⟨rfl, ?_⟩)
  obtain ⟨oc3, od3, sl3, hcc⟩ := hcl
  refine wpAny_loadName_free hkind hcls rfl ⟨_, KX1 _ _ hcc, rfl⟩ ?_
  rw [har]
  refine wpAny_loadName_local hkind hself hnsE rfl ?_
  refine PySem.ks_wpAny_isType_cls hD1 hD2 ⟨rfl, ?_⟩
  refine PySem.ks_wpAny_call_super hD1 hD2 hx rfl (fun c e => by cases e) hsub (fun h' e k => ?_)
  -- the method
  have I2 : Inv (supCx CX P w K mg base qual scope f cc (.ref cda) A outer s H E) [] [some (.ref a), some y] H { s with heap := h', toks := s.toks + 2 } := I.kept k
  have hcdC : ∃ cd, PySem.W.clsIn K C = some cd := by
    have z := O.sup
    unfold PySem.W.ks_superIn at z
    cases q : PySem.W.clsIn K C with
    | none => rw [q] at z; cases z
    | some cd => exact ⟨cd, rfl⟩
  obtain ⟨cdC, hcdC⟩ := hcdC
  have hal : PySem.W.alongIn K "__init__" ((cdC.mro.dropWhile (· != .ref T)).drop 1) = some (some (.builtin "ValueError.__init__")) := by
    have z := O.sup
    unfold PySem.W.ks_superIn at z
    rw [hcdC] at z
    exact z
  have hmro : PySem.W.Looks (model P w) h' (mroOf (.ref C)) cdC.mro := fun A Q E s k q => wpAny_bind ((PySem.W.looks_clsIn I2.kIn hcdC) A _ E s k (wpAny_pure q))
  have LTy : PySem.W.Looks (model P w) h' (typeOf (.ref a)) (.ref C) := fun A Q E s k2 q => wpAny_typeOf_ref (k2 _ _ (k _ _ hx)) q
  have hI : PySem.W.Looks (model P w) h' (isInstance (.ref a) (.type "ValueError")) true := LTy.andThen (PySem.W.looks_subIn I2.kIn O.sub)
  refine PySem.W.kxs_getMethod PySem.W.kxs_ValueError (by exact e) (PySem.W.looks_opaque I2.kIn S.opq) hmro rfl I2.kIn hal hI hxC (by decide) ?_
  have kp : ∀ b o, h'.get? b = some o → (h'.push (PySem.W.kxs_mw "ValueError.__init__" a)).get? b = some o := fun b o e => Heap.get?_push_of_some _ e
  have I3 : Inv (supCx CX P w K mg base qual scope f cc (.ref cda) A outer s H E) [] [some (.ref a), some y] H { s with heap := h'.push (PySem.W.kxs_mw "ValueError.__init__" a), toks := s.toks + 2 + 1 } := I2.kept kp
  have hu : (h'.push (PySem.W.kxs_mw "ValueError.__init__" a)).get? h'.objs.size = some (PySem.W.kxs_mw "ValueError.__init__" a) := Heap.get?_push_size _ rfl
  refine PySem.W.kxs_callWith (i := "ValueError.__init__") (x := a) rfl (evalArgs_plain ?_)
  obtain ⟨m3, hm3⟩ : ∃ m, (h'.push (PySem.W.kxs_mw "ValueError.__init__" a)).Ns env.locals m ∧ m "code" = some u1 := by
    obtain ⟨o, es, ep, ho, r⟩ := hnsE
    exact ⟨_, ⟨o, es, ep, kp _ _ (k _ _ ho), r⟩, rfl⟩
  show wpAny _ _ (spliced ((false, eval (.Name "code" p3) env) :: backTo p4 (starEach [] env))) _ _ _
  refine PySem.Calls.spliced_cons (ESX.ldL (env := env) hm3.1 hm3.2 (PySem.Calls.spliced_nil ⟨hu, ?_⟩) hkind hcode)
  refine mw_init (X := supCx CX P w K mg base qual scope f cc (.ref cda) A outer s H E) (us := [u1]) O.oex I3 ea hu (by show 1 ≤ sizeLine; rw [sizeLine_eq]; omega) fun s4 I4 => ?_
  refine wpAt_of_wpAny ?_
  have hps : PSs (supCx CX P w K mg base qual scope f cc (.ref cda) A outer s H E) [.Assign [.Attribute (.Name "self" p6) "code" p7] (.Name "code" p8) p9] _ := pss_one (ps_ost (o := .Name "self" p6) (e := .Name "code" p8) (pe_var (i := 0) rfl (.inl hself)) (pe_var (i := 1) rfl (.inl hcode)))
  refine wpAny_mono (hps.run [] s4 [some (.ref a), some y] H { nx := fun _ H' => Q .non H', rt := Q } I4 ?_) (fun fl s' hs => ?_) fun e s' hs => hs
  · exact ⟨y, rfl, .ref a, rfl, a, C, rfl, O.oex, O.no, .inl ⟨ea, go⟩⟩
  · have fin : ∀ {σ' : L2.St} {H' : Hp} {v : V} {u : Value}, Inv (supCx CX P w K mg base qual scope f cc (.ref cda) A outer s H E) [] σ' H' s' → RelV v u → Q v H' → CE outer P w H s Q u s' :=
      fun {σ' H' v u} J rv q => ⟨v, H', J.os, J.bare, J.base, J.hok, rv, q⟩
    cases fl with
    | ret u =>
      obtain ⟨v, σ', H', J, rv, q⟩ := hs
      exact fin J rv q
    | next =>
      obtain ⟨σ', H', J, q⟩ := hs
      exact fin (v := V.non) (u := Value.none) J rfl q
    | brk =>
      obtain ⟨_, _, _, q⟩ := hs
      exact False.elim q
    | cont =>
      obtain ⟨_, _, _, q⟩ := hs
      exact False.elim q
end
end PX
namespace PX
open PySem PySem.Spec PyProof.Rows L2 PySem.Calls
structure ClsFn (K : PySem.W.Frag) (T : Addr) (m : Str) (f : Addr) : Prop where
  rd : PySem.W.readsIn K T (.type "type") = true
  ga : PySem.W.specialIn K (.ref T) "__getattribute__" = some (some (.builtin "type.__getattribute__"))
  at_ : PySem.W.findCls K (.ref T) (.type "type") m = some (.val (.ref f))
  ty : PySem.W.typeIn K (.ref f) = some (.type "function")
  kp : PySem.W.keepIn K (.ref f) = true
theorem clsfn_get {K : PySem.W.Frag} {T f : Addr} {m : Str} {prog : Program} {w : World} {A : Around} {E : Value → Shared → Prop} {s : Shared} {pl : Sem Bool} {Q : Value × List Value → Shared → Prop} (c : ClsFn K T m f) (X : K.In s.heap) (h : Q (.ref f, []) { s with toks := s.toks + 1 }) :
    wpAny (model prog w) A (getMethod (.ref T) m pl) Q E s := by
  exact PySem.W.method_cls X c.ga (PySem.W.cls_value X c.rd c.at_ rfl h)
section
variable {X : Cx} {CX : CXT} {k : Nat} {f T : Addr} {fd : FuncData} {ps : List Str} {sp : Sp} {E : XK} {x m : Str} {p pos apos : Pos} {e : Expr} {es : List Expr} {t : TA}
theorem pe_clsfn {pl : Sem Bool} (hg : Gl X x) (hm : X.mg x = some (.ref T)) (c : ClsFn X.K T m f) (F : FnOk X.prog X.w X.K X.mg X.base CX k f fd ps sp) (hr : Room k X.A) (hb : Binds X.K fd ps []) (hx : Passes CX X E) (ha : PA X (e :: es) t)
    (ht : eval (.Call (.Attribute (.Name x p) m apos) (e :: es) [] pos) X.env = (do
      let ov ← eval (.Name x p) X.env
      standAt apos.atName
      let (f, first) ← holding [ov] (getMethod ov m pl)
      callWith pos f first (backTo pos (starEach (e :: es) X.env)) (backToKw pos (keywordEach [] X.env))) := by rfl)
    (hdb : (x == ("__debug__" : Str)) = false := by decide) (hst : starEach (e :: es) X.env = (false, eval e X.env) :: starEach es X.env := by rfl) (hpl : (backTo pos (starEach es X.env)).any (·.1) = false := by rfl) :
    PE X (.Call (.Attribute (.Name x p) m apos) (e :: es) [] pos) (tCall sp [] E t) := by
  refine ⟨fun pins s σ H Q I h => ?_⟩
  refine PySem.W.methodCall_KW (pl := pl) (ld_glob I hg hm ?_ hdb) ht
  refine clsfn_get c I.kIn ?_
  have I1 := I.tok (s.toks + 1)
  refine PySem.W.callWith_K (first := []) (h₀ := X.base) I.ok.mod.kin c.kp (thn (ha.run pos pins _ σ H _ I1 h) fun us s1 ⟨vs, H1, I2, r, q⟩ => ⟨I2.kIn, ?_⟩) hst hpl
  exact run_fn F hr hb .nil hx I2 r q
end
theorem heap_two {H : Hp} {a dx : Addr} {o u u' : HO} (ne : dx ≠ a) : upd (upd (upd H dx u) a o) dx u' = upd (upd H dx u') a o := by
  funext b
  by_cases h1 : b = dx
  · subst h1
    rw [upd_same, upd_ne ne, upd_same]
  · rw [upd_ne h1]
    by_cases h2 : b = a
    · subst h2
      rw [upd_same, upd_same]
    · rw [upd_ne h2, upd_ne h2, upd_ne h1, upd_ne h1]
def spX0 (K : PySem.W.Frag) (T : Addr) (code : Str) : Sp := fun vs H Q _ => ∃ (a C : Addr), vs = [.ref a] ∧ OverT K T C ∧ H a = some (exo a C none) ∧ ∀ dx, H dx = none → dx ≠ a → Q .non (upd (upd H dx (exd dx [("code", .str code)])) a (exo a C (some dx)))
def spX1 (K : PySem.W.Frag) (T : Addr) (f code : Str) : Sp := fun vs H Q _ => ∃ (a C : Addr) (y : V), vs = [.ref a, y] ∧ OverT K T C ∧ PySem.W.findIn K (.ref C) f = some none ∧ H a = some (exo a C none) ∧ ∀ dx, H dx = none → dx ≠ a → Q .non (upd (upd H dx (exd dx [(f, y), ("code", .str code)])) a (exo a C (some dx)))
section
variable {P : Program} {w : World} {K : PySem.W.Frag} {mg : Str → Option Value} {base : Heap} {CX : CXT} {k : Nat} {T fT : Addr} {fdT : FuncData} {X : Cx}
/-- what one has of T's own __init__ -/
structure TopI (P : Program) (w : World) (K : PySem.W.Frag) (mgl : Str → Option Value) (base : Heap) (CX : CXT) (x : Str) (T : Addr) : Prop where
  ex : ∃ (fT : Addr) (fdT : FuncData), mgl x = some (.ref T) ∧ ClsFn K T "__init__" fT ∧ FnOk P w K mgl base CX 1 fT fdT ["self", "code"] (spT K T) ∧ Binds K fdT ["self", "code"] []
theorem cx_never {P : Program} {w : World} {outer : List Env} {H : Hp} {s s' : Shared} {e : Value} (h : L2.CX P w outer H s (fun _ _ _ => False) e s') : False := by
  obtain ⟨_, _, _, _, _, _, _, _, _, _, _, _, z⟩ := h
  exact z
/-- x.__init__(self, code) of the text -/
def callT (x code : Str) (j : Nat) (e : Expr) : Prop := ∃ p1 p2 p3 p4 p5, (∀ env : Env, ∃ pl : Sem Bool, eval (.Call (.Attribute (.Name x p1) "__init__" p2) [.Name "self" p3, .Constant (.str code) j p4] [] p5) env = (do
      let ov ← eval (.Name x p1) env
      standAt p2.atName
      let (f, first) ← holding [ov] (getMethod ov "__init__" pl)
      callWith p5 f first (backTo p5 (starEach [.Name "self" p3, .Constant (.str code) j p4] env)) (backToKw p5 (keywordEach [] env)))) ∧ e = .Call (.Attribute (.Name x p1) "__init__" p2) [.Name "self" p3, .Constant (.str code) j p4] [] p5
theorem pe_callT {x code : Str} {j : Nat} {e : Expr} {T : Addr} (h : callT x code j e) (G : TopI X.prog X.w X.K X.mg X.base (L2.CX X.prog X.w) x T) (hr : Room k X.A) (hk : 1 ≤ k) (hg : Gl X x) (hN : X.N[0]? = some ("self" : Str)) (hs : X.env.scope.names.lookup ("self" : Str) = some .local) (hdb : (x == ("__debug__" : Str)) = false) :
    PE X e (tCall (spT X.K T) [] (fun _ _ _ => False) (tCons (tVar 0) (tCons (tC (.str code)) tNil))) := by
  obtain ⟨p1, p2, p3, p4, p5, ht, rfl⟩ := h
  obtain ⟨fT, fdT, hm, c, F, hb⟩ := G.ex
  exact pe_clsfn hg hm c F (hr.mono hk) hb (fun pins σ H s e s' I c => (cx_never c).elim) (pa_cons (pe_var (i := 0) hN (.inl hs)) (pa_cons pe_str pa_nil)) (ht X.env).choose_spec hdb
def xBody0 (x code : Str) (b : List Stmt) : Prop := ∃ j e p, callT x code j e ∧ b = [.Expr e p]
def xBody1 (x code f prm : Str) (b : List Stmt) : Prop := ∃ j e p p7 p8 p9 p10, callT x code j e ∧ b = [.Expr e p, .Assign [.Attribute (.Name "self" p7) f p8] (.Name prm p9) p10]
theorem exc_init0 {x code : Str} {qual : Str} {params : Arguments} {body : List Stmt} {scope : Scope} {f T : Addr} {fd : FuncData} (F : FunD K "__init__" qual params body scope [] [] f fd) (S : FnScope ["self"] ["self"] scope) (hb : xBody0 x code body) (hg : scope.names.lookup x = some .globalImplicit) (hdb : (x == ("__debug__" : Str)) = false)
    (hs : scope.names.lookup ("self" : Str) = some .local) (G : TopI P w K mg base (L2.CX P w) x T) : FnOk P w K mg base (L2.CX P w) 2 f fd ["self"] (spX0 K T code) := by
  refine F.ok S (fun vs H Q E h => ?_) (fun cdv A outer s H vs Q E hr h => ?_)
  · obtain ⟨a, C, rfl, _⟩ := h
    rfl
  · obtain ⟨a, C, rfl, O, ea, go⟩ := h
    obtain ⟨j, e, p, hc, rfl⟩ := hb
    have hcall := pe_callT (X := cxOf (L2.CX P w) P w K mg base ["self"] qual scope f cdv A outer s H E) hc G hr (by decide) hg rfl hs hdb
    obtain ⟨p1, p2, p3, p4, p5, ht, rfl⟩ := hc
    refine ⟨_, pss_one (ps_expr hcall), ?_⟩
    exact ⟨.ref a, rfl, a, C, .str code, rfl, O, ea, go⟩
theorem exc_init1 {x code fl prm : Str} {qual : Str} {params : Arguments} {body : List Stmt} {scope : Scope} {f T : Addr} {fd : FuncData} (F : FunD K "__init__" qual params body scope [] [] f fd) (S : FnScope ["self", prm] ["self", prm] scope) (hb : xBody1 x code fl prm body) (hg : scope.names.lookup x = some .globalImplicit) (hdb : (x == ("__debug__" : Str)) = false)
    (hs : scope.names.lookup ("self" : Str) = some .local) (hp : scope.names.lookup prm = some .local) (hpd : (prm == ("__debug__" : Str)) = false) (hpc : (prm == ("__classdict__" : Str)) = false) (G : TopI P w K mg base (L2.CX P w) x T) : FnOk P w K mg base (L2.CX P w) 2 f fd ["self", prm] (spX1 K T fl code) := by
  refine F.ok S (fun vs H Q E h => ?_) (fun cdv A outer s H vs Q E hr h => ?_)
  · obtain ⟨a, C, y, rfl, _⟩ := h
    rfl
  · obtain ⟨a, C, y, rfl, O, hfl, ea, go⟩ := h
    obtain ⟨j, e, p, p7, p8, p9, p10, hc, rfl⟩ := hb
    have hcall := pe_callT (X := cxOf (L2.CX P w) P w K mg base ["self", prm] qual scope f cdv A outer s H E) hc G hr (by decide) hg rfl hs hdb
    obtain ⟨p1, p2, p3, p4, p5, ht, rfl⟩ := hc
    refine ⟨_, pss_cons (ps_expr hcall) (pss_one (ps_ost (pe_var (i := 0) rfl (.inl hs)) (pe_var (i := 1) rfl (.inl hp) hpd hpc))), ?_⟩
    refine ⟨.ref a, rfl, a, C, .str code, rfl, O, ea, fun dx n ne => ?_⟩
    refine ⟨y, rfl, .ref a, rfl, a, C, rfl, O.oex, hfl, .inr ⟨dx, [("code", .str code)], upd_same, (upd_ne ne).trans upd_same, by simp, ?_⟩⟩
    rw [heap_two ne]
    exact go dx n ne
end
end PX
namespace PX
open PySem PySem.Spec PyProof.Rows L2 PySem.Calls
section
variable {X : Cx}
theorem pmk_oex0 {CX : CXT} {x : Str} {p pos : Pos} {C fI : Addr} {k : Nat} {fd : FuncData} {ps : List Str} {sp : Sp} (T : OexC X.K C) (iC : PySem.W.findIn X.K (.ref C) "__init__" = some (some (.ref fI))) (tI : PySem.W.typeIn X.K (.ref fI) = some (.type "function"))
    (F1 : FnOk X.prog X.w X.K X.mg X.base CX k fI fd ps sp) (hr : Room (k + 1) X.A) (hb : Binds X.K fd ps []) (hx : Passes CX X (fun _ _ _ => False)) (hg : Gl X x) (hm : X.mg x = some (.ref C)) (hdb : (x == ("__debug__" : Str)) = false := by decide) :
    PMk X (.Call (.Name x p) [] [] pos) (tMkO C sp [] tNil) := by
  intro pins s σ H Q I h
  obtain ⟨nm, q, N, bs, bm, sn, sub, ab, col, dd, k0, k1, k2, k3, k5, hC, hbm⟩ := T.cls
  refine wpAny_Call_Name_kw (ld_glob I hg hm ?_ hdb)
  refine PySem.W.callWith_K0 I.kIn T.kC ?_
  obtain ⟨hz, q1⟩ := h
  obtain ⟨hp, g, dr, tk, os⟩ := s
  have hsz : hp.objs.size ≤ hp.objs.size + 1 := Nat.le_succ _
  have hn : H (hp.objs.size + 1) = none := I.hok.fresh hsz
  have hq := q1 (hp.objs.size + 1) hn
  have kk : ∀ b o, hp.get? b = some o → ((hp.push (PySem.W.kdv_tup [])).push (PySem.HandSPX.excO C hp.objs.size)).get? b = some o := fun b o e => Heap.get?_push_of_some _ (Heap.get?_push_of_some _ e)
  have hget : ((hp.push (PySem.W.kdv_tup [])).push (PySem.HandSPX.excO C hp.objs.size)).get? (hp.objs.size + 1) = some (PySem.HandSPX.excO C hp.objs.size) := by heap_get
  have I2 : Inv X pins σ (upd H (hp.objs.size + 1) (exo (hp.objs.size + 1) C none)) ⟨(hp.push (PySem.W.kdv_tup [])).push (PySem.HandSPX.excO C hp.objs.size), g, dr, tk, os⟩ :=
    I.laid (t' := tk) (a := hp.objs.size + 1) (o := exo (hp.objs.size + 1) C none) (h' := (hp.push (PySem.W.kdv_tup [])).push (PySem.HandSPX.excO C hp.objs.size)) kk hsz (exo_ok hget)
  have r2 : Vals [V.ref (hp.objs.size + 1)] [Value.ref (hp.objs.size + 1)] := .cons rfl .nil
  have hl : ([Value.ref (hp.objs.size + 1)] ++ []).length = ps.length := by
    exact F1.len _ _ _ _ hq
  refine wpAny_call (PySem.HandSPX.call_own F.excBase_ValueError (fun Y => PySem.HandSPX.refsVE_contains Y bm hbm) (I.kIn _ _ hC) (PySem.W.looks_findIn I.kIn iC) (fun self => PySem.W.bind_fn I.kIn self tI) (by show 0 ≤ sizeLine; omega)
    (codeAny_mono (F1.run _ X.stack _ _ ⟨[Value.ref (hp.objs.size + 1)], []⟩ ([Value.ref (hp.objs.size + 1)] ++ []) _ _ (fun _ _ _ => False) (hr.make C [] []) (I2.env0.make C [] []) (hb _ [Value.ref (hp.objs.size + 1)] I2.kIn hl) r2 hq) fun r s' hq' => ?_))
  cases r with
  | error er => exact hx pins σ _ _ er s' I2 hq'
  | ok fl =>
    cases fl with
    | ret u =>
      obtain ⟨v, H2, os2, bare2, un2, hok2, rv, ev, d, fs, ea, ed, hd1, q2⟩ := hq'
      subst ev
      obtain ⟨h2, g2, d2, t2, os'⟩ := s'
      exact ⟨rv, mk_end (raises_own T.exC T.tyC) I hsz kk un2 hok2 os2 bare2 ea ed hd1 q2⟩
    | next => exact False.elim hq'
    | brk => exact False.elim hq'
    | cont => exact False.elim hq'
end
end PX
namespace PD
open PySem PySem.Spec PyProof.Rows L2 PX
variable [LamTab]
/-- C's __init__ stores these fields: n = 0: the code alone -/
structure ExcC (P : Program) (w : World) (K : PySem.W.Frag) (mg : Str → Option Value) (base : Heap) (C : Str) (fl : Option Str) (code : Str) : Prop where
  ex : ∃ (Ca fI T : Addr) (fd : FuncData) (prm : Str), mg C = some (.ref Ca) ∧ OverT K T Ca ∧ PySem.W.findIn K (.ref Ca) "__init__" = some (some (.ref fI)) ∧ PySem.W.typeIn K (.ref fI) = some (.type "function") ∧
    (match fl with
    | none => FnOk P w K mg base (L2.CX P w) 2 fI fd ["self"] (spX0 K T code) ∧ Binds K fd ["self"] []
    | some f => PySem.W.findIn K (.ref Ca) f = some none ∧ FnOk P w K mg base (L2.CX P w) 2 fI fd ["self", prm] (spX1 K T f code) ∧ Binds K fd ["self", prm] [])
def excFs (fl : Option Str) (code : List Nat) (ds : List D) : Option (List (Str × D)) := match fl, ds with
  | none, [] => some [("code", .str code)]
  | some f, [d] => some [(f, d), ("code", .str code)]
  | _, _ => none
def msRaise (C : Str) (fl : Option Str) (code : List Nat) (a : M (List D)) : MS := fun ε h => bS (a ε h) ε fun ds h1 => match excFs fl code ds with
  | some fs => some (.ex ⟨C, fs⟩ ε, h1)
  | none => none
theorem del_upd {H : Hp} {a d : Addr} {o0 o u o' : HO} (ha : H a = none) (ne : d ≠ a) : upd (del (upd (upd (upd H a o0) d u) a o) a) d o' = upd H d o' := by
  funext b
  by_cases h1 : b = d
  · subst h1
    rw [upd_same, upd_same]
  · rw [upd_ne h1, upd_ne h1]
    by_cases h2 : b = a
    · subst h2
      rw [del_same, ha]
    · rw [del_ne h2, upd_ne h2, upd_ne h1, upd_ne h2]
section
variable {X : Cx} {W : WX}
theorem raise_end {C : Str} {Ca : Addr} {fs : List (Str × D)} {vs : List (Str × V)} {c : RC} {h : EH} {ε : Ev} {σ : L2.St} {D : Ends} {a dx : Addr} {o0 o u : HO} (sr : SR c h) (er : EnvR c ε σ) (hm : c.mg C = some (.ref Ca)) (rf : RepF c fs vs) (fin : Fin W D c (.ex ⟨C, fs⟩ ε) h) (ha : c.H a = none) (hd : c.H dx = none) (ne : dx ≠ a) :
    W (.ref Ca) (some dx) σ (upd (del (upd (upd (upd c.H a o0) dx u) a o) a) dx (.xd vs)) := by
  rw [del_upd ha ne]
  obtain ⟨l, s, f⟩ := sr.new (o := .xd vs) hd
  exact fin (c.put dx (.xd vs)) σ (.ref Ca) (some dx) l s (er.le l) ⟨Ca, dx, vs, rfl, hm, rfl, upd_same, f, rf.le l⟩
theorem raise_heap {H : Hp} {a dx : Addr} {o : HO} {C : Addr} {fs : List (Str × V)} (n : upd H a (exo a C none) dx = none) (ne : dx ≠ a) : (upd (upd (upd H a (exo a C none)) dx (exd dx fs)) a o) a = some o ∧ (upd (upd (upd H a (exo a C none)) dx (exd dx fs)) a o) dx = some (exd dx fs) ∧ H dx = none :=
  ⟨upd_same, (upd_ne ne).trans upd_same, by rw [upd_ne ne] at n; exact n⟩
theorem rs_raise0 {C code : Str} {cs : List Nat} {p pos pos' : Pos} {j : Nat} (G : ExcC X.prog X.w X.K X.mg X.base C none code) (hcs : code.cps.toList = cs) (hr : Room j X.A) (hk : 3 ≤ j) (hc : X.calm = true) (tk : Takes X W) (hg : Gl X C) (hdb : (C == ("__debug__" : Str)) = false) :
    RSt X W (.Raise (some (.Call (.Name C p) [] [] pos)) none pos') (msRaise C none cs mNil) := by
  obtain ⟨Ca, fI, T, fd, prm, hm, O, iC, tI, hF⟩ := G.ex
  subst hcs
  obtain ⟨F1, hb⟩ := hF
  refine ps_imp (ps_raise hc tk (pmk_oex0 O.oex iC tI F1 (hr.mono hk) hb (fun pins σ H s e s' I c => (cx_never c).elim) hg hm hdb)) fun D σ H h => ?_
  obtain ⟨c, ε, h, r, h', hK, hmg, rfl, sr, er, e, fin⟩ := h
  cases e
  refine ⟨by simp, fun a ha => ?_⟩
  refine ⟨a, Ca, rfl, by rw [← hK] at O; rw [← hK]; exact O, upd_same, fun dx n ne => ?_⟩
  obtain ⟨k1, k2, k3⟩ := raise_heap (o := exo a Ca (some dx)) (fs := [("code", .str code)]) n ne
  exact ⟨rfl, dx, _, k1, k2, k3, raise_end sr er (by rw [hmg.mge]; exact hm) (.cons (by simpa using Rep.str code.cps.toList) .nil) fin ha k3 ne⟩
theorem rs_raise1 {C code f : Str} {cs : List Nat} {e : Expr} {ma : M (List D)} {p pos pos' : Pos} {j : Nat} (G : ExcC X.prog X.w X.K X.mg X.base C (some f) code) (hcs : code.cps.toList = cs) (hr : Room j X.A) (hk : 3 ≤ j) (hc : X.calm = true) (tk : Takes X W) (ha : RA X W [e] ma) (hg : Gl X C) (hdb : (C == ("__debug__" : Str)) = false)
    (he : starEach [e] X.env = (false, eval e X.env) :: starEach [] X.env := by rfl) (hpl : (backTo pos (starEach [] X.env)).any (·.1) = false := by rfl) :
    RSt X W (.Raise (some (.Call (.Name C p) [e] [] pos)) none pos') (msRaise C (some f) cs ma) := by
  obtain ⟨Ca, fI, T, fd, prm, hm, O, iC, tI, hF⟩ := G.ex
  subst hcs
  obtain ⟨hno, F1, hb⟩ := hF
  refine ps_imp (ps_raise hc tk (pmk_oex (ds := []) (dvs := []) O.oex iC tI F1 (hr.mono hk) hb .nil (fun pins σ H s e s' I c => (cx_never c).elim) hg hm ha hdb he hpl)) fun D σ H h => ?_
  obtain ⟨c, ε, h, r, h', hK, hmg, rfl, sr, er, e, fin⟩ := h
  unfold tMkO
  refine tX.stm hK hmg sr er e fin fun ds h1 c1 vs e1 l1 s1 r1 => ?_
  match ds, vs, r1, e1 with
  | [d], [v], .cons rd .nil, e1 =>
    cases e1
    refine ⟨by simp, fun a ha => ?_⟩
    refine ⟨a, Ca, v, rfl, O, hno, upd_same, fun dx n ne => ?_⟩
    obtain ⟨k1, k2, k3⟩ := raise_heap (o := exo a Ca (some dx)) (fs := [(f, v), ("code", .str code)]) n ne
    exact ⟨rfl, dx, _, k1, k2, k3, raise_end s1 (er.le l1) (by rw [l1.mg.e', hmg.mge]; exact hm) (.cons rd (.cons (by simpa using Rep.str code.cps.toList) .nil)) (fin.le l1) ha k3 ne⟩
  | [], _, _, e1 => cases e1
  | _ :: _ :: _, _, _, e1 => cases e1
end
end PD
namespace PX
open PySem PySem.Spec PyProof.Rows L2 PySem.Calls
theorem flying_keep {base h h' : Heap} {l : List Env} {e : Addr} {Z : Obj → Prop} (k : ∀ b o, h.get? b = some o → h'.get? b = some o) (f : PySem.HandSPX.FlyingZ base l e Z h) : PySem.HandSPX.FlyingZ base l e Z h' := by
  obtain ⟨f1, f2, f3, oe, vs, T, oT, ts, g1, g2, g3, g4, g5, g6, g7, g8, g9⟩ := f
  exact ⟨fun b o q => k b o (f1 b o q), f2, f3.of_keeps fun b o q _ => ⟨o, k b o q, rfl⟩, oe, vs, T, oT, ts, k _ _ g1, g2, g3, g4, g5, g6, k _ _ g7, g8, g9⟩
theorem upTo_keep {h h' : Heap} (k : ∀ b o, h.get? b = some o → h'.get? b = some o) : h.UpToSlots h' := fun b o q _ => ⟨o.slots, k b o q⟩
/-- what the clause wishes -/
def wAs3 (K : PySem.W.Frag) (cs : List Value) (i : Nat) (ts : Addr → Value → Option Addr → TS) (D : Ends) : WX := fun cls d σ H =>
  PySem.W.exmAny K cls cs = some true ∧ ∀ a, H a = none → ts a cls d { nx := fun σ' H' => D.nx (σ'.set i none) H', rt := D.rt, bk := fun σ' H' => D.bk (σ'.set i none) H', ct := fun σ' H' => D.ct (σ'.set i none) H' } (σ.set i (some (.ref a))) H
section
variable {X : Cx} {x1 x2 x3 n : Str} {c1 c2 c3 : Value} {i kk : Nat} {body suite : List Stmt} {b₀ : Stmt} {q1 q2 q3 tp pos pos' : Pos} {tb : WX → TS} {ts : Addr → Value → Option Addr → TS}
theorem ps_try3 (hs : X.stack = X.env :: X.outer) (hf : X.env.frame = some X.env.locals) (hN : X.N.Nodup) (hi : X.N[i]? = some n) (hln : X.env.kindOf n = some .local) (h1 : Names X x1 c1) (h2 : Names X x2 c2) (h3 : Names X x3 c3)
    (hb : ∀ (W : WX) (pn : List (Addr × Obj)) (xe : Value → Shared → Prop), Takes (X.tr pn xe) W → PassesOwn (model X.prog X.w) X.A X.env xe → PSs (X.tr pn xe) body (tb W))
    (hsu : ∀ (a : Addr) (oe : Obj) (cls : Value) (d : Option Addr) (pn : List (Addr × Obj)), Zc cls d oe → (∃ vs, oe.data = .fields vs) → PSs (X.suite a ((a, oe) :: pn)) (b₀ :: suite) (ts a cls d)) :
    PS X (.Try body [.ExceptHandler (some (.Tuple [.Name x1 q1, .Name x2 q2, .Name x3 q3] kk tp)) (some n) (b₀ :: suite) pos'] [] [] pos) (fun D σ H => tb (wAs3 X.K [c1, c2, c3] i ts D) D σ H) := by
  refine ⟨fun pins s σ H D I h => ?_⟩
  have ok := I.ok
  have hfr : X.A.frames = some (X.env :: X.outer) := by rw [ok.frames, hs]
  have hloc : Loc X.env.scope n := .inl hln
  refine wpAny_Try_except ?_
  refine wpAny_mono ((hb (wAs3 X.K [c1, c2, c3] i ts D) (X.pn ++ pins) (fun e s₁ => wpAny (model X.prog X.w) X.A (noteFrame e X.env) (fun _ s₂ => wpAny (model X.prog X.w) X.A (setFlight e none) (fun _ s₃ =>
    wpAny (model X.prog X.w) X.A (handleBy e X.env [.ExceptHandler (some (.Tuple [.Name x1 q1, .Name x2 q2, .Name x3 q3] kk tp)) (some n) (b₀ :: suite) pos']) (SP X pins D) X.xe s₃) X.xe s₂) X.xe s₁) (fun u s' xx => ?_) PassesOwn.looking).run [] s σ H D (I.toTry _) h) (fun f s1 hsp => ?_) (fun e s1 he => he)
  · obtain ⟨a, B, sI, pins', σ', H', cls, d, rfl, J', nb, up, sky, na, os, ag, hb1, hyes⟩ := xx
    have J : Inv X pins σ' H' sI := J'.ofTry ok
    have sky' : Sky B (X.env :: X.outer) a (Zc cls d) X.env.locals s'.heap := by rw [← hs]; exact sky
    show wpAny (model X.prog X.w) X.A (noteFrame (.ref a) X.env) _ _ _
    refine Sky.land Zc.steady hfr hf sky' fun h3' fl3 up3 => ?_
    have J3 : Inv X pins σ' H' { s' with heap := h3' } := J.landed nb fl3.1 (up.trans up3) os ag
    obtain ⟨oe3, vs3, he3, hz3, hd3⟩ := fl3.there
    have nfr : a ∉ frs (X.env :: X.outer) := fun hm => by
      obtain ⟨_, o', e', hnf⟩ := fl3.2.2.1.mem hm
      rw [he3] at e'; cases e'
      exact hnf _ hd3
    have nL : a ≠ X.env.locals := fun z => nfr (List.mem_filterMap.mpr ⟨X.env, List.mem_cons_self, by rw [hf, z]⟩)
    have nF : a ∉ X.fs := fun hm => by
      obtain ⟨e, he, q⟩ := List.mem_filterMap.mp hm
      exact nfr (List.mem_filterMap.mpr ⟨e, List.mem_cons_of_mem _ he, q⟩)
    have S3 := J3.suite he3 hd3 na nL nF
    refine wpAny_handleBy_cons (codeAny_handlers_test ?_) (by intro q; cases q)
    have test : ∀ {x : Str} {c : Value} {np : Pos}, Names X x c → ∀ {Q : Value → Shared → Prop} {E : Value → Shared → Prop}, Q c { s' with heap := h3' } → wpAny (model X.prog X.w) (X.A.mark (some (.ref a))) (eval (.Name x np) X.env) Q E { s' with heap := h3' } := fun {x c np} hc {Q E} q => by
      obtain ⟨hg, hdbg, hm | ⟨hm, hv, hnn⟩⟩ := hc
      · exact ld_glob (X := X.suite a ((a, oe3) :: (X.pn ++ pins))) S3 hg hm q hdbg
      · exact ld_blt (X := X.suite a ((a, oe3) :: (X.pn ++ pins))) S3 hg hm hv q hnn hdbg
    refine wpAny_Tuple ?_
    refine wpAny_items_cons (test h1 ?_)
    refine wpAny_items_cons (test h2 ?_)
    refine wpAny_items_cons (test h3 ?_)
    refine wpAny_items_nil ⟨by size_fits, ?_⟩
    have kp : ∀ b o, h3'.get? b = some o → (h3'.push { cls := .type "tuple", data := .seq [c1, c2, c3].toArray }).get? b = some o := fun b o z => Heap.get?_push_of_some _ z
    have LT : PySem.W.Looks (model X.prog X.w) (h3'.push { cls := .type "tuple", data := .seq [c1, c2, c3].toArray }) (typeOf (.ref a)) cls := fun A Q E s k q => wpAny_typeOf_ref (k _ _ (kp _ _ he3)) (by rw [hz3.1]; exact q)
    refine (PySem.W.exm_tup3 (M := model X.prog X.w) (J3.kIn.keeps kp) LT (Heap.get?_push_size h3' rfl) hb1).here ?_
    have fl3' := flying_keep kp fl3
    refine codeAny_handlers_suite_as ?_
    refine PySem.HandSPX.lands_againZ fl3' fun h4 fl4 up4 => ?_
    have J4 : Inv X pins σ' H' { s' with heap := h4 } := J.landed nb fl4.1 ((up.trans up3).trans ((upTo_keep kp).trans up4)) os ag
    obtain ⟨oe4, vs4, he4, hz4, hd4⟩ := fl4.there
    have S4 := J4.suite he4 hd4 na nL nF
    refine store_ok (X := X.suite a ((a, oe4) :: (X.pn ++ pins))) (v := .ref a) S4 hN hi hloc rfl (fun s5 S5 => ?_) (.inr hln)
    refine wpAny_mono ((hsu a oe4 cls d (X.pn ++ pins) hz4 ⟨_, hd4⟩).run [] s5 _ H' _ S5 (hyes a na)) (fun f s6 hsp => ?_) (fun _ _ z => False.elim z)
    have end_ : ∀ {σ6 : L2.St} {H6 : Hp} {Q : Shared → Prop}, Inv (X.suite a ((a, oe4) :: (X.pn ++ pins))) [] σ6 H6 s6 → (∀ s7, Inv X pins (σ6.set i none) H6 s7 → Q s7) →
        wpAny (model X.prog X.w) X.A (do bindName X.env n .none; unbindBehindTheSuite X.env n pos') (fun _ s7 => Q s7) X.xe s6 := fun {σ6 H6 Q} S6 hq => gone_ok (S6.unsuite ok) hN hi hln hq
    cases f with
    | next =>
      obtain ⟨σ6, H6, S6, q6⟩ := hsp
      exact end_ S6 fun s7 J7 => ⟨_, _, J7, q6⟩
    | brk =>
      obtain ⟨σ6, H6, S6, q6⟩ := hsp
      exact end_ S6 fun s7 J7 => ⟨_, _, J7, q6⟩
    | cont =>
      obtain ⟨σ6, H6, S6, q6⟩ := hsp
      exact end_ S6 fun s7 J7 => ⟨_, _, J7, q6⟩
    | ret u =>
      obtain ⟨v6, σ6, H6, S6, r6, q6⟩ := hsp
      exact end_ S6 fun s7 J7 => ⟨_, _, _, J7, r6, q6⟩
  · cases f with
    | next =>
      obtain ⟨σ', H', J', q⟩ := hsp
      exact wpAny_execs_nil ⟨σ', H', J'.ofTry ok, q⟩
    | brk =>
      obtain ⟨σ', H', J', q⟩ := hsp
      exact ⟨σ', H', J'.ofTry ok, q⟩
    | cont =>
      obtain ⟨σ', H', J', q⟩ := hsp
      exact ⟨σ', H', J'.ofTry ok, q⟩
    | ret u =>
      obtain ⟨v, σ', H', J', r, q⟩ := hsp
      exact ⟨v, σ', H', J'.ofTry ok, r, q⟩
end
section
variable {X : Cx}
theorem pe_pfld {C d : Addr} {p : Addr × Obj} {e : Expr} {te : TE} {pos : Pos} {n : Str} (hp : p ∈ X.pn) (T : XfC X.K C) (hno : PySem.W.findIn X.K (.ref C) n = some none) (hz : Zc (.ref C) (some d) p.2) (hf : ∃ vs, p.2.data = .fields vs) (he : PE X e te)
    (hb : attributeBase e n X.env (eval e X.env) = eval e X.env := by rfl) :
    PE X (.Attribute e n pos) (fun σ H Q => te σ H fun x H1 => x = .ref p.1 ∧ ∃ (fs : List (Str × V)) (v : V), H1 d = some (.xd fs) ∧ fs.lookup n = some v ∧ Q v H1) := by
  refine ⟨fun pins s σ H Q I h => ?_⟩
  refine attr_of hb (thn (he.run pins s σ H _ I h) fun u s1 hh => ?_)
  obtain ⟨x, H1, I1, rx, ex, fs, v, ea, l, q⟩ := hh
  subst ex
  obtain rfl : u = Value.ref p.1 := rx
  obtain ⟨ha, _⟩ := I1.pin p (List.mem_append_left _ hp)
  obtain ⟨vs, hd⟩ := hf
  have hx : ObjOk X.prog X.w H1 s1.heap d (.xd fs) := I1.hok d _ ea
  obtain ⟨mA, hns, hr⟩ := hx
  obtain ⟨od, ho, hl⟩ := lookIn_ns hns
  obtain ⟨u, hu, ru⟩ := RelO.some_of (v := v) (o := mA n) (by rw [← l]; exact hr n)
  have J : PySem.W.InstAt s1.heap p.1 p.2 C (some od) := ⟨ha, hz.1, by unfold PySem.W.notCls; rw [hd] <;> rfl, by rw [hz.2]; exact ho⟩
  exact PySem.HandSPX.exc_get I1.kIn J T.ga T.gg T.exC (PySem.W.findObj_own T.hdC hno rfl (by rw [hl, hu])) (handed_of ru) ⟨v, H1, I1.tok _, ru, q⟩
end
/-- what such a def gives: by the code, the tuple of a field, or () -/
def chainQ : List (Str × Str) → Str → List (Str × V) → Hp → VK → Prop
  | [], _, _, H, Q => ∀ t, H t = none → Q (.ref t) (upd H t (.tup []))
  | (x, f) :: r, cs, vs, H, Q => if cs = x then ∃ v, vs.lookup f = some v ∧ ∀ t, H t = none → Q (.ref t) (upd H t (.tup [v])) else chainQ r cs vs H Q
/-- the def's body -/
inductive FldBody : List (Str × Str) → List Stmt → Prop
  | nil {k : Nat} {p p2 : Pos} : FldBody [] [.Return (some (.Tuple [] k p)) p2]
  | cons {x f : Str} {r : List (Str × Str)} {b : List Stmt} {j k : Nat} {p1 p2 p3 p4 p5 p6 p7 p8 p9 : Pos} : FldBody r b →
      FldBody ((x, f) :: r) (.If (.Compare (.Attribute (.Name "_law_e" p1) "code" p2) [.Eq] [.Constant (.str x) j p3] p4) [.Return (some (.Tuple [.Attribute (.Name "_law_e" p5) f p6] k p7)) p8] [] p9 :: b)
theorem pss_re {X : Cx} {st : List Stmt} {t t' : TS} (h : PSs X st t) (k : ∀ D σ H, t' D σ H → t D σ H) : PSs X st t' := ⟨fun pins s σ H D I q => h.run pins s σ H D I (k D σ H q)⟩
theorem fld_body {X : Cx} {C d : Addr} {p : Addr × Obj} (hp : p ∈ X.pn) (T : XfC X.K C) (hz : Zc (.ref C) (some d) p.2) (hf : ∃ vs, p.2.data = .fields vs) (hc : PySem.W.findIn X.K (.ref C) "code" = some none)
    (hN : X.N[0]? = some ("_law_e" : Str)) (hv : Vis X.env.scope "_law_e") : ∀ {chain : List (Str × Str)} {b : List Stmt}, FldBody chain b → (∀ q ∈ chain, PySem.W.findIn X.K (.ref C) q.2 = some none) →
    PSs X b (fun D σ H => σ[0]? = some (some (.ref p.1)) ∧ ∃ (fs : List (Str × V)) (cs : Str), H d = some (.xd fs) ∧ fs.lookup ("code" : Str) = some (.str cs) ∧ chainQ chain cs fs H D.rt)
  | _, _, .nil, _ => pss_re (pss_one (ps_ret (pe_tup pa_nil))) fun D σ H h => by
    obtain ⟨_, fs, cs, _, _, q⟩ := h
    exact ⟨by simp, q⟩
  | _, _, .cons (x := x) (f := f) (r := r) h, hq => by
    have ih := fld_body hp T hz hf hc hN hv h fun q hr => hq q (List.mem_cons_of_mem _ hr)
    refine pss_re (pss_cons (ps_if (pt_cmpR op_eq (pe_pfld hp T hc hz hf (pe_var (i := 0) hN hv) rfl) pe_str (by rfl)) (pss_one (ps_ret (pe_tup (pa_cons (pe_pfld hp T (hq (x, f) (List.mem_cons_self ..)) hz hf (pe_var (i := 0) hN hv) rfl) pa_nil)))) pss_nil) ih) fun D σ H hh => ?_
    obtain ⟨h0, fs, cs, h1, h2, q⟩ := hh
    refine ⟨.ref p.1, h0, rfl, fs, .str cs, h1, h2, rfl, decide (V.str cs = V.str x), rfl, ?_⟩
    unfold chainQ at q
    by_cases e : cs = x
    · subst e
      rw [if_pos rfl] at q
      obtain ⟨v, hl, q⟩ := q
      rw [if_pos (decide_eq_true rfl)]
      exact ⟨.ref p.1, h0, rfl, fs, v, h1, hl, by show 1 ≤ sizeLine; rw [sizeLine_eq]; omega, q⟩
    · rw [if_neg e] at q
      rw [if_neg (by simpa using fun z => e (V.str.inj z))]
      exact ⟨h0, fs, cs, h1, h2, q⟩
/-- the class of a caught exception, for such a def -/
structure FldC (K : PySem.W.Frag) (C : Addr) (chain : List (Str × Str)) : Prop where
  xf : XfC K C
  code : PySem.W.findIn K (.ref C) "code" = some none
  fl : ∀ q ∈ chain, PySem.W.findIn K (.ref C) q.2 = some none
/-- the def's promise, where the exception is handled -/
structure FldOk (P : Program) (w : World) (K : PySem.W.Frag) (mg : Str → Option Value) (base : Heap) (k : Nat) (f : Addr) (chain : List (Str × Str)) : Prop where
  run : ∀ (A : Around) (outer : List Env) (s : Shared) (H : Hp) (p : Addr × Obj) (C d : Addr) (fs : List (Str × V)) (cs : Str) (Q : VK), L2H.RoomH k A → L2H.PinOk outer H s p → Env0 P w K mg base A outer s H → Zc (.ref C) (some d) p.2 → (∃ vs, p.2.data = .fields vs) → FldC K C chain →
    H d = some (.xd fs) → fs.lookup ("code" : Str) = some (.str cs) → chainQ chain cs fs H Q → codeAny (model P w) A (.call (.ref f) ⟨[.ref p.1], []⟩) (CR (L2.CX P w) outer P w H s Q (fun _ _ _ => False)) s
theorem fld_ok {P : Program} {w : World} {K : PySem.W.Frag} {mg : Str → Option Value} {base : Heap} {x qual : Str} {params : Arguments} {body : List Stmt} {scope : Scope} {f : Addr} {fd : FuncData} {chain : List (Str × Str)} (F : FunD K x qual params body scope [] [] f fd) (S : FnScope ["_law_e"] ["_law_e"] scope)
    (hb : Binds K fd ["_law_e"] []) (hbody : FldBody chain body) (hv : Vis scope "_law_e") : FldOk P w K mg base 1 f chain := by
  obtain ⟨oc, od, dV, kV, doc, pm, an, cdv, ct, osl, rfl, lk, hcd, _, _⟩ := F.ex
  refine ⟨fun A outer s H p C d fs cs Q hr hpin e0 hz hf hC h1 h2 q => ?_⟩
  have KX : K.In s.heap := e0.mod.kin.keeps fun b o e => (e0.bs b o e).1
  have lim : s.heap.NoLimit := e0.mod.nolimit.keeps fun b o e => (e0.bs b o e).1
  have hkind : ∀ y ∈ (["_law_e"] : List Str).zip [Value.ref p.1], scope.names.lookup y.1 = some .local ∨ (scope.names.lookup y.1 = some .cell ∧ ((cellsFrom (s.heap.objs.size + 1) scope.names []).lookup y.1).isSome = true) := fun ⟨n, v⟩ hy => by
    rcases S.par n (List.of_mem_zip hy).1 with q | q
    · exact .inl q
    · exact .inr ⟨q, PySem.W.cellsFrom_some _ _ _ (.inl q)⟩
  refine codeAny_call_function hr.depth (KX _ _ lk) rfl S.co S.gen rfl (PySem.W.codeRec_of KX hcd) (hb s [.ref p.1] KX rfl _ _ _ _ ?_)
  refine wpAny_newFunctionEnv_cells S.kind hkind fun env he s1 y => ?_
  subst he
  refine ⟨lim.keeps y.toInCall.keep, codeAny_func ?_⟩
  have I : Inv (L2H.cxH (L2.CX P w) P w K mg base ["_law_e"] qual scope f cdv A outer s H (fun _ _ _ => False) p) [] (L2.start ["_law_e"] [.ref p.1]) H s1 := L2H.inv_startH S hpin e0 rfl (.cons rfl .nil) y
  have hps := fld_body (X := L2H.cxH (L2.CX P w) P w K mg base ["_law_e"] qual scope f cdv A outer s H (fun _ _ _ => False) p) (p := p) (List.mem_singleton.mpr rfl) hC.xf hz hf hC.code rfl hv hbody hC.fl
  refine wpAny_mono (hps.run [] s1 _ H { nx := fun _ H' => Q .non H', rt := Q } I ⟨rfl, fs, cs, h1, h2, q⟩) (fun fl s' hs => ?_) fun e s' hs => hs
  have fin : ∀ {σ' : L2.St} {H' : Hp} {v : V} {u : Value}, Inv (L2H.cxH (L2.CX P w) P w K mg base ["_law_e"] qual scope f cdv A outer s H (fun _ _ _ => False) p) [] σ' H' s' → RelV v u → Q v H' → CE outer P w H s Q u s' :=
    fun {σ' H' v u} J rv q => ⟨v, H', J.os, J.bare, J.base, J.hok, rv, q⟩
  cases fl with
  | ret u =>
    obtain ⟨v, σ', H', J, rv, q⟩ := hs
    exact fin J rv q
  | next =>
    obtain ⟨σ', H', J, q⟩ := hs
    exact fin (v := V.non) (u := Value.none) J rfl q
  | brk =>
    obtain ⟨_, _, _, q⟩ := hs
    exact False.elim q
  | cont =>
    obtain ⟨_, _, _, q⟩ := hs
    exact False.elim q
/-- it is called in the except suite -/
theorem pe_fldcall {X : Cx} {C d f a : Addr} {oe : Obj} {pn : List (Addr × Obj)} {chain : List (Str × Str)} {k i : Nat} {x e : Str} {q1 q2 pos : Pos} (F : FldOk X.prog X.w X.K X.mg X.base k f chain) (hr : Room k X.A) (hg : Gl X x) (hm : X.mg x = some (.ref f)) (hkp : PySem.W.keepIn X.K (.ref f) = true)
    (hz : Zc (.ref C) (some d) oe) (hf : ∃ vs, oe.data = .fields vs) (hC : FldC X.K C chain) (hN : X.N[i]? = some e) (hv : Vis X.env.scope e) (hde : (e == ("__debug__" : Str)) = false) (hce : (e == ("__classdict__" : Str)) = false) (hdb : (x == ("__debug__" : Str)) = false) :
    PE (X.suite a ((a, oe) :: pn)) (.Call (.Name x q1) [.Name e q2] [] pos) (fun σ H Q => σ[i]? = some (some (.ref a)) ∧ ∃ (fs : List (Str × V)) (cs : Str), H d = some (.xd fs) ∧ fs.lookup ("code" : Str) = some (.str cs) ∧ chainQ chain cs fs H Q) := by
  refine ⟨fun pins s σ H Q I h => ?_⟩
  obtain ⟨h0, fs, cs, h1, h2, hq⟩ := h
  refine wpAny_Call_Name_kw (ld_glob (X := X.suite a ((a, oe) :: pn)) I hg hm ?_ hdb)
  refine PySem.W.callWith_K (h₀ := X.base) I.ok.mod.kin hkp ?_ (by rfl) (by rfl)
  have hpe := pe_var (X := X.suite a ((a, oe) :: pn)) (pos := q2) (i := i) hN hv hde hce
  show wpAny _ _ (spliced ((false, eval (.Name e q2) X.env) :: backTo pos (starEach [] X.env))) _ _ s
  refine PySem.Calls.spliced_cons (thn (hpe.run pins s σ H (fun v H1 => v = .ref a ∧ H1 = H) I ⟨.ref a, h0, rfl, rfl⟩) fun u s1 ⟨v, H1, I1, r1, ev, eH⟩ => ?_)
  subst ev eH
  obtain rfl : u = Value.ref a := r1
  refine PySem.Calls.spliced_nil ⟨I1.kIn, ?_⟩
  show wpAny _ _ (call (.ref f) [.ref a]) _ _ _
  have P1 := I1.pin (a, oe) (List.mem_append_left _ List.mem_cons_self)
  have hpin : L2H.PinOk X.stack H1 s1 (a, oe) := ⟨P1.1, P1.2.1, fun hm => (List.mem_cons.mp (I1.stkSub a hm)).elim P1.2.2.1 P1.2.2.2.1, P1.2.2.2.2⟩
  refine wpAny_call (codeAny_mono (F.run (X.A.mark (some (.ref a))) X.stack s1 H1 (a, oe) C d fs cs Q ⟨hr.dp, hr.un⟩ hpin I1.env0 hz hf hC h1 h2 hq) fun r s' hq' => ?_)
  cases r with
  | error er => exact (cx_never hq').elim
  | ok fl =>
    cases fl with
    | ret u => exact I1.after hq'
    | next => exact False.elim hq'
    | brk => exact False.elim hq'
    | cont => exact False.elim hq'
end PX
namespace PX
open PySem PySem.Spec PyProof.Rows L2 PySem.Calls PD
variable [LamTab]
def hide (z : Addr → Option Obj) (H : Hp) : Hp := fun b => if (z b).isSome then none else H b
def show_ (z : Addr → Option Obj) (H : Hp) : Hp := fun b => match z b with
  | some o => some (celHO b o)
  | none => H b
theorem hide_in {z : Addr → Option Obj} {H : Hp} {b : Addr} {o : Obj} (h : z b = some o) : hide z H b = none := by
  unfold hide
  rw [h]
  rfl
theorem hide_out {z : Addr → Option Obj} {H : Hp} {b : Addr} (h : z b = none) : hide z H b = H b := by
  unfold hide
  rw [h]
  rfl
theorem show_in {z : Addr → Option Obj} {H : Hp} {b : Addr} {o : Obj} (h : z b = some o) : show_ z H b = some (celHO b o) := by
  unfold show_
  rw [h]
theorem show_out {z : Addr → Option Obj} {H : Hp} {b : Addr} (h : z b = none) : show_ z H b = H b := by
  unfold show_
  rw [h]
theorem hide_none {z : Addr → Option Obj} {H : Hp} {b : Addr} (h : H b = none) : hide z H b = none := by
  cases q : z b with
  | some o => exact hide_in q
  | none => rw [hide_out q]; exact h
theorem hide_some {z : Addr → Option Obj} {H : Hp} {b : Addr} {u : HO} (h : hide z H b = some u) : z b = none ∧ H b = some u := by
  cases q : z b with
  | some o => rw [hide_in q] at h; cases h
  | none => rw [hide_out q] at h; exact ⟨rfl, h⟩
theorem cel_ne {b : Addr} {o : Obj} : (∀ xs, celHO b o ≠ .tup xs) ∧ (∀ x u, celHO b o ≠ .frz x u) ∧ (∀ ps, celHO b o ≠ .tbl ps) ∧ ∀ x, celHO b o ≠ .own x :=
  ⟨fun _ z => (by unfold celHO at z; cases z), fun _ _ z => (by unfold celHO at z; cases z), celHO_tbl, fun _ z => (by unfold celHO at z; cases z)⟩
theorem cel_ok {P : Program} {w : World} {H : Hp} {h : Heap} {b : Addr} {o : Obj} (e : h.get? b = some o) : ObjOk P w H h b (celHO b o) := ⟨e, ⟨o, e⟩, fun _ _ z k => k _ z⟩
theorem cel_at {P : Program} {w : World} {H : Hp} {h : Heap} {b : Addr} {o : Obj} (k : HOk P w H h) (e : H b = some (celHO b o)) : h.get? b = some o := by
  have x : ObjOk P w H h b (.ext fun h => h.get? b = some o) := k b _ e
  exact x.1
/-- z's objects are tracked in H -/
def InH (z : Addr → Option Obj) (H : Hp) : Prop := ∀ b o, z b = some o → H b = some (celHO b o)
/-- .. stand in h, untracked -/
def NoH (z : Addr → Option Obj) (H : Hp) : Prop := ∀ b o, z b = some o → H b = none
section
variable {P : Program} {w : World} {z : Addr → Option Obj} {H H' : Hp} {h h' : Heap} {fs : List Addr}
theorem hok_hide (k : HOk P w H h) (hz : InH z H) : HOk P w (hide z H) h := fun b u e => by
  obtain ⟨e1, e2⟩ := hide_some e
  refine (k b u e2).stay (fun d v _ q => q) (fun d q => ?_) fun d xs q => ?_
  · have : z d = none := by
      cases y : z d with
      | none => rfl
      | some o => rw [hz d o y] at q; exact (cel_ne.2.2.2 _ (Option.some.inj q)).elim
    rw [hide_out this]; exact q
  · have : z d = none := by
      cases y : z d with
      | none => rfl
      | some o => rw [hz d o y] at q; exact (cel_ne.1 _ (Option.some.inj q)).elim
    rw [hide_out this]; exact q
theorem hok_show (k : HOk P w H h) (hn : NoH z H) (hg : ∀ b o, z b = some o → h.get? b = some o) : HOk P w (show_ z H) h := fun b u e => by
  cases q : z b with
  | some o =>
    rw [show_in q] at e
    cases e
    exact cel_ok (hg b o q)
  | none =>
    rw [show_out q] at e
    refine (k b u e).stay (fun d v _ q => q) (fun d q => ?_) fun d xs q => ?_
    · have : z d = none := by
        cases y : z d with
        | none => rfl
        | some o => rw [hn d o y] at q; cases q
      rw [show_out this]; exact q
    · have : z d = none := by
        cases y : z d with
        | none => rfl
        | some o => rw [hn d o y] at q; cases q
      rw [show_out this]; exact q
/-- from the state with z's objects hidden, back -/
theorem un_show (u : Un fs [] (hide z H) H' h h') (hz : InH z H) (hn : NoH z H') : Un fs [] H (show_ z H') h h' := by
  have out : ∀ {b : Addr} {x : HO}, H b = some x → (∀ b o, x ≠ celHO b o) → z b = none := fun {b x} e n => by
    cases y : z b with
    | none => rfl
    | some o => rw [hz b o y] at e; exact (n b o (Option.some.inj e).symm).elim
  refine ⟨fun b o e n hf hx => u.keep b o e (hide_none n) hf hx, fun b o e n hf hx => u.slot b o e (hide_none n) hf hx, fun b o e n hx => ?_, u.there, fun b xs e => ?_, fun b o x e => ?_, fun b ps e => ?_⟩
  · cases y : z b with
    | none => rw [show_out y]; exact u.free b o e (hide_none n) hx
    | some o' => rw [hz b o' y] at n; cases n
  · have y := out e fun b o q => cel_ne.1 _ q.symm
    rw [show_out y]; exact u.tups b xs (by rw [hide_out y]; exact e)
  · have y := out e fun b o q => cel_ne.2.1 _ _ q.symm
    rw [show_out y]; exact u.frzs b o x (by rw [hide_out y]; exact e)
  · have y := out e fun b o q => cel_ne.2.2.1 _ q.symm
    obtain ⟨more, q⟩ := u.tbls b ps (by rw [hide_out y]; exact e)
    exact ⟨more, by rw [show_out y]; exact q⟩
/-- from the state with z's objects tracked, back -/
theorem un_hide (u : Un fs [] (show_ z H) H' h h') (hn : NoH z H) (hz : InH z H') (hg : ∀ b o, z b = some o → h.get? b = some o ∧ b ∉ fs) (hok : HOk P w H' h') : Un fs [] H (hide z H') h h' := by
  have out : ∀ {b : Addr} {x : HO}, H b = some x → z b = none := fun {b x} e => by
    cases y : z b with
    | none => rfl
    | some o => rw [hn b o y] at e; cases e
  refine ⟨fun b o e n hf hx => ?_, fun b o e n hf hx => ?_, fun b o e n hx => ?_, u.there, fun b xs e => ?_, fun b o x e => ?_, fun b ps e => ?_⟩
  · cases y : z b with
    | none => exact u.keep b o e (by rw [show_out y]; exact n) hf hx
    | some o' =>
      rw [(hg b o' y).1] at e
      cases e
      exact cel_at hok (hz b _ y)
  · have y : z b = none := by
      cases y : z b with
      | none => rfl
      | some o' => exact ((hg b o' y).2 hf).elim
    exact u.slot b o e (by rw [show_out y]; exact n) hf hx
  · cases y : z b with
    | none => rw [hide_out y]; exact u.free b o e (by rw [show_out y]; exact n) hx
    | some o' => exact hide_in y
  · rw [hide_out (out e)]; exact u.tups b xs (by rw [show_out (out e)]; exact e)
  · rw [hide_out (out e)]; exact u.frzs b o x (by rw [show_out (out e)]; exact e)
  · obtain ⟨more, q⟩ := u.tbls b ps (by rw [show_out (out e)]; exact e)
    exact ⟨more, by rw [hide_out (out e)]; exact q⟩
end
section
variable {P : Program} {w : World} {z : Addr → Option Obj} {H H' : Hp} {h B h' : Heap} {fs : List Addr}
theorem ub_show (u : UB fs (hide z H) H' h B h') (hz : InH z H) (hn : NoH z H') : UB fs H (show_ z H') h B h' := by
  have out : ∀ {b : Addr} {x : HO}, H b = some x → (∀ b o, x ≠ celHO b o) → z b = none := fun {b x} e n => by
    cases y : z b with
    | none => rfl
    | some o => rw [hz b o y] at e; exact (n b o (Option.some.inj e).symm).elim
  refine ⟨fun b o e n hf => u.keep b o e (hide_none n) hf, u.slot, fun b o e n => ?_, u.there, fun b xs e => ?_, fun b o x e => ?_, fun b ps e => ?_⟩
  · cases y : z b with
    | none => rw [show_out y]; exact u.free b o e (hide_none n)
    | some o' => rw [hz b o' y] at n; cases n
  · have y := out e fun b o q => cel_ne.1 _ q.symm
    rw [show_out y]; exact u.tups b xs (by rw [hide_out y]; exact e)
  · have y := out e fun b o q => cel_ne.2.1 _ _ q.symm
    rw [show_out y]; exact u.frzs b o x (by rw [hide_out y]; exact e)
  · have y := out e fun b o q => cel_ne.2.2.1 _ q.symm
    obtain ⟨more, q⟩ := u.tbls b ps (by rw [hide_out y]; exact e)
    exact ⟨more, by rw [show_out y]; exact q⟩
theorem ub_hide (u : UB fs (show_ z H) H' h B h') (hn : NoH z H) (hz : InH z H') (hg : ∀ b o, z b = some o → h.get? b = some o) (hok : HOk P w H' B) : UB fs H (hide z H') h B h' := by
  have out : ∀ {b : Addr} {x : HO}, H b = some x → z b = none := fun {b x} e => by
    cases y : z b with
    | none => rfl
    | some o => rw [hn b o y] at e; cases e
  refine ⟨fun b o e n hf => ?_, u.slot, fun b o e n => ?_, u.there, fun b xs e => ?_, fun b o x e => ?_, fun b ps e => ?_⟩
  · cases y : z b with
    | none => exact u.keep b o e (by rw [show_out y]; exact n) hf
    | some o' =>
      rw [hg b o' y] at e
      cases e
      exact cel_at hok (hz b _ y)
  · cases y : z b with
    | none => rw [hide_out y]; exact u.free b o e (by rw [show_out y]; exact n)
    | some o' => exact hide_in y
  · rw [hide_out (out e)]; exact u.tups b xs (by rw [show_out (out e)]; exact e)
  · rw [hide_out (out e)]; exact u.frzs b o x (by rw [show_out (out e)]; exact e)
  · obtain ⟨more, q⟩ := u.tbls b ps (by rw [show_out (out e)]; exact e)
    exact ⟨more, by rw [hide_out (out e)]; exact q⟩
end
section
variable {P : Program} {w : World} {outer : List Env} {z : Addr → Option Obj} {H : Hp} {s s' : Shared} {Q Q1 : VK} {E E1 : XK} {r : Result}
theorem cr_show (hz : InH z H) (hg : ∀ b o, z b = some o → s.heap.get? b = some o ∧ b ∉ frs outer) (hQ : ∀ v H', Q1 v H' → NoH z H' → Q v (show_ z H')) (hE : ∀ cls d H', E1 cls d H' → NoH z H' → E cls d (show_ z H'))
    (h : CR (L2.CX P w) outer P w (hide z H) s Q1 E1 r s') : CR (L2.CX P w) outer P w H s Q E r s' := by
  cases r with
  | error e =>
    obtain ⟨a, B, H', cls, d, rfl, fl, hok, ub, na, os, ag, q⟩ := h
    have hn : NoH z H' := fun b o y => ub.free b o (hg b o y).1 (hide_in y)
    have hB : ∀ b o, z b = some o → B.get? b = some o := fun b o y => ub.keep b o (hg b o y).1 (hide_in y) (hg b o y).2
    refine ⟨a, B, show_ z H', cls, d, rfl, fl, hok_show hok hn hB, ub_show ub hz hn, ?_, os, ag, hE _ _ _ q hn⟩
    cases y : z a with
    | none => rw [show_out y]; exact na
    | some o =>
      have e1 := hB a o y
      rw [fl.2.1] at e1
      cases e1
  | ok f =>
    cases f with
    | ret u =>
      obtain ⟨v, H', os, bare, un, hok, rv, q⟩ := h
      have hn : NoH z H' := fun b o y => un.free b o (hg b o y).1 (hide_in y) (by simp)
      exact ⟨v, show_ z H', os, bare, un_show un hz hn, hok_show hok hn (fun b o y => un.keep b o (hg b o y).1 (hide_in y) (hg b o y).2 (by simp)), rv, hQ _ _ q hn⟩
    | next => exact h
    | brk => exact h
    | cont => exact h
theorem cr_hide (hn : NoH z H) (hg : ∀ b o, z b = some o → s.heap.get? b = some o ∧ b ∉ frs outer) (hQ : ∀ v H', Q1 v H' → InH z H' ∧ Q v (hide z H')) (hE : ∀ cls d H', E1 cls d H' → InH z H' ∧ E cls d (hide z H'))
    (h : CR (L2.CX P w) outer P w (show_ z H) s Q1 E1 r s') : CR (L2.CX P w) outer P w H s Q E r s' := by
  cases r with
  | error e =>
    obtain ⟨a, B, H', cls, d, rfl, fl, hok, ub, na, os, ag, q⟩ := h
    obtain ⟨hz, q⟩ := hE _ _ _ q
    exact ⟨a, B, hide z H', cls, d, rfl, fl, hok_hide hok hz, ub_hide ub hn hz (fun b o y => (hg b o y).1) hok, hide_none na, os, ag, q⟩
  | ok f =>
    cases f with
    | ret u =>
      obtain ⟨v, H', os, bare, un, hok, rv, q⟩ := h
      obtain ⟨hz, q⟩ := hQ _ _ q
      exact ⟨v, hide z H', os, bare, un_hide un hn hz hg hok, hok_hide hok hz, rv, q⟩
    | next => exact h
    | brk => exact h
    | cont => exact h
/-- what a call wants, with z's objects tracked -/
theorem env0_show {K : PySem.W.Frag} {mg : Str → Option Value} {base : Heap} {A : Around} (e : Env0 P w K mg base A outer s H) (hn : NoH z H) (hg : ∀ b o, z b = some o → s.heap.get? b = some o ∧ b ∉ frs outer) (hb : ∀ b o, z b = some o → base.get? b = none) : Env0 P w K mg base A outer s (show_ z H) :=
  ⟨e.frames, e.mod, fun b o q => ⟨(e.bs b o q).1, by
    cases y : z b with
    | none => rw [show_out y]; exact (e.bs b o q).2
    | some o' => rw [hb b o' y] at q; cases q⟩, e.bsz, e.funs, fun b q => (by
    cases y : z b with
    | none => rw [show_out y]; exact e.frf b q
    | some o' => exact ((hg b o' y).2 q).elim), hok_show e.hok hn fun b o y => (hg b o y).1, e.bare⟩
theorem env0_hide {K : PySem.W.Frag} {mg : Str → Option Value} {base : Heap} {A : Around} (e : Env0 P w K mg base A outer s H) (hz : InH z H) : Env0 P w K mg base A outer s (hide z H) :=
  ⟨e.frames, e.mod, fun b o q => ⟨(e.bs b o q).1, hide_none (e.bs b o q).2⟩, e.bsz, e.funs, fun b q => hide_none (e.frf b q), hok_hide e.hok hz, e.bare⟩
end
end PX
namespace PD
open PySem PySem.Spec PyProof.Rows L2 PX
variable [LamTab]
def noFn : D → Bool
  | .fn _ _ => false
  | .tup ds => go ds
  | .lst ds => go ds
  | .scr ds => go ds
  | .obj _ fs => gf fs
  | .exc _ fs => gf fs
  | .dic _ kvs => gp kvs
  | _ => true
where
  go : List D → Bool
  | [] => true
  | d :: ds => noFn d && go ds
  gf : List (Str × D) → Bool
  | [] => true
  | (_, d) :: ds => noFn d && gf ds
  gp : List (List Key × D) → Bool
  | [] => true
  | (_, d) :: ds => noFn d && gp ds
def noFnC : Cell → Bool
  | .lst ds => noFn.go ds
  | .dic _ kvs => noFn.gp kvs
  | .obj _ fs => noFn.gf fs
abbrev RC.hide (c : RC) (z : Addr → Option Obj) : RC := { c with H := PX.hide z c.H }
/-- z's objects are captured cells, in c -/
structure Zs (c : RC) (z : Addr → Option Obj) : Prop where
  inH : InH z c.H
  fr : ∀ b o, z b = some o → c.fr b
  exc : ∀ a Ca dx, c.H a = some (excHO a Ca dx) → z a = none
  code : ∀ a q, c.H a = some (LamX.CodeO a q) → z a = none
theorem Zs.out {c : RC} {z : Addr → Option Obj} (h : Zs c z) {a : Addr} {u : HO} (e : c.H a = some u) (n : ∀ b o, u ≠ celHO b o) : PX.hide z c.H a = some u := by
  cases y : z a with
  | none => rw [hide_out y]; exact e
  | some o => rw [h.inH a o y] at e; exact (n a o (Option.some.inj e).symm).elim
theorem Zs.rd {c : RC} {z : Addr → Option Obj} (h : Zs c z) {a : Addr} {xs : List V} (e : Rd c.H a (.tup xs)) : Rd (PX.hide z c.H) a (.tup xs) := by
  rcases e with e | ⟨o, e⟩
  · exact .inl (h.out e fun b o q => cel_ne.1 _ q.symm)
  · exact .inr ⟨o, h.out e fun b o q => cel_ne.2.1 _ _ q.symm⟩
mutual
theorem Rep.hide {c : RC} {z : Addr → Option Obj} (hz : Zs c z) : ∀ {d : D} {v : V}, Rep c d v → noFn d = true → Rep (c.hide z) d v
  | _, _, .non, _ => .non
  | _, _, .bl b, _ => .bl b
  | _, _, .int i, _ => .int i
  | _, _, .str cs, _ => .str cs
  | .tup ds, _, .tup h r, e => .tup (h.imp hz.rd id) (Reps.hide hz r (by rw [noFn] at e; exact e))
  | .lst ds, _, .lst h f r, e => .lst (hz.out h fun b o q => by unfold celHO at q; cases q) f (Reps.hide hz r (by rw [noFn] at e; exact e))
  | .scr ds, _, .scr h r, e => .scr (h.imp (fun ⟨o, h⟩ => ⟨o, hz.out h fun b o q => cel_ne.2.1 _ _ q.symm⟩) id) (Reps.hide hz r (by rw [noFn] at e; exact e))
  | .obj C fs, _, .obj m h f r, e => .obj m (hz.out h fun b o q => by unfold celHO at q; cases q) f (RepF.hide hz r (by rw [noFn] at e; exact e))
  | .dic t kvs, _, .dic h i f r, e => .dic (hz.out h fun b o q => by
      subst q
      rcases i with ⟨_, _, q, _⟩ | ⟨_, q⟩ <;> (unfold celHO at q; cases q)) i f (RepP.hide hz r (by rw [noFn] at e; exact e))
  | .fn i ds, _, .fn _ _ _ _ _ _, e => by cases e
  | .exc C fs, _, .exc m h f h2 f2 r, e => .exc m ((hide_out (hz.exc _ _ _ h)).trans h) f (hz.out h2 fun b o q => by unfold celHO at q; cases q) f2 (RepF.hide hz r (by rw [noFn] at e; exact e))
  | _, _, .ref h, _ => .ref h
theorem Reps.hide {c : RC} {z : Addr → Option Obj} (hz : Zs c z) : ∀ {ds : List D} {vs : List V}, Reps c ds vs → noFn.go ds = true → Reps (c.hide z) ds vs
  | _, _, .nil, _ => .nil
  | _, _, .cons h t, e => by
    rw [noFn.go, Bool.and_eq_true] at e
    exact .cons (Rep.hide hz h e.1) (Reps.hide hz t e.2)
theorem RepP.hide {c : RC} {z : Addr → Option Obj} (hz : Zs c z) : ∀ {ds : List (List Key × D)} {vs : List (List Key × V)}, RepP c ds vs → noFn.gp ds = true → RepP (c.hide z) ds vs
  | _, _, .nil, _ => .nil
  | _, _, .cons h t, e => by
    rw [noFn.gp, Bool.and_eq_true] at e
    exact .cons (Rep.hide hz h e.1) (RepP.hide hz t e.2)
theorem RepF.hide {c : RC} {z : Addr → Option Obj} (hz : Zs c z) : ∀ {ds : List (Str × D)} {vs : List (Str × V)}, RepF c ds vs → noFn.gf ds = true → RepF (c.hide z) ds vs
  | _, _, .nil, _ => .nil
  | _, _, .cons h t, e => by
    rw [noFn.gf, Bool.and_eq_true] at e
    exact .cons (Rep.hide hz h e.1) (RepF.hide hz t e.2)
end
theorem Zs.tabs {c : RC} {z : Addr → Option Obj} (hz : Zs c z) (t : c.tabs) : (c.hide z).tabs := fun p hp => codeO_ext (t p hp) (by
  obtain ⟨ps, k1, _⟩ := t p hp
  exact (hz.out k1 fun b o q => cel_ne.2.2.1 _ q.symm).trans k1.symm) fun a e => (hide_out (hz.code a _ e)).trans e
theorem MgE.hide {c : RC} {z : Addr → Option Obj} {mg : Str → Option Value} (hz : Zs c z) (m : MgE c mg) : MgE (c.hide z) mg := ⟨m.e, fun t => hz.tabs (m.t t)⟩
theorem SR.hide {c : RC} {h : EH} {z : Addr → Option Obj} (hz : Zs c z) (s : SR c h) (hc : h.all noFnC = true) : SR (c.hide z) h := by
  refine ⟨s.len, s.nd, fun n a k e1 e2 => ?_, s.nb, fun a b => ?_⟩
  · have r := s.cells n a k e1 e2
    have hk : noFnC k = true := List.all_eq_true.mp hc k (List.mem_of_getElem? e2)
    have y : z a = none := by
      cases y : z a with
      | none => rfl
      | some o => exact ((hz.fr a o y).2 (List.mem_of_getElem? e1)).elim
    cases k with
    | lst ds => obtain ⟨xs, h1, h2⟩ := r; exact ⟨xs, (hide_out y).trans h1, h2.hide hz hk⟩
    | dic t kvs => obtain ⟨o, zs, h1, h3, h2⟩ := r; exact ⟨o, zs, (hide_out y).trans h1, h3, h2.hide hz hk⟩
    | obj C fs => obtain ⟨Ca, dx, vs, h0, h1, h2⟩ := r; exact ⟨Ca, dx, vs, h0, (hide_out y).trans h1, h2.hide hz hk⟩
  · obtain ⟨o, e⟩ := s.bt a b
    have y : z a = none := by
      cases y : z a with
      | none => rfl
      | some o => exact ((hz.fr a o y).1 b).elim
    exact ⟨o, (hide_out y).trans e⟩
/-- back from the state with z's objects hidden -/
theorem le_show {c c2 : RC} {h : EH} {z : Addr → Option Obj} (hz : Zs c z) (l : (c.hide z).Le c2) (s : SR c2 h) (hn : NoH z c2.H) : c.Le { c2 with H := show_ z c2.H } ∧ c2.Le { c2 with H := show_ z c2.H } ∧ SR { c2 with H := show_ z c2.H } h := by
  have grow : ∀ b o, c2.H b = some o → show_ z c2.H b = some o := fun b o e => by
    cases y : z b with
    | none => rw [show_out y]; exact e
    | some o' => rw [hn b o' y] at e; cases e
  obtain ⟨l2, s2, _⟩ := s.grow grow
  refine ⟨⟨l.K, ⟨l.mg.e, fun t => l2.mg.t (l.mg.t (hz.tabs t))⟩, l.B, fun a b => ?_, fun a o e => ?_, l.pre, fun a o e nt na => ?_, fun a xs e => l2.tup a xs (l.tup a xs (hz.rd e)), fun a o u e => l2.frz a o u (l.frz a o u (hz.out e fun b o q => cel_ne.2.1 _ _ q.symm))⟩, l2, s2⟩
  · rcases l.Bn a b with q | q
    · exact .inl q
    · cases y : z a with
      | none => exact .inr ((hide_out y).symm.trans q)
      | some o' =>
        obtain ⟨u, e⟩ := s.bt a b
        rw [hn a o' y] at e
        cases e
  · cases y : z a with
    | none =>
      obtain ⟨o', q⟩ := l.dom a o ((hide_out y).trans e)
      exact ⟨o', grow _ _ q⟩
    | some o' => exact ⟨_, show_in y⟩
  · cases y : z a with
    | none =>
      obtain ⟨q1, q2⟩ := l.keep a o ((hide_out y).trans e) nt na
      exact ⟨grow _ _ q1, q2⟩
    | some o' =>
      rw [hz.inH a o' y] at e
      cases e
      refine ⟨show_in y, fun q => ?_⟩
      obtain ⟨u, e⟩ := s.ex q
      rw [hn a o' y] at e
      cases e
theorem ExR.le' {c c' : RC} (l : c.Le c') {x : Ex} {cls : Value} {dx : Option Addr} (r : ExR c x cls dx) : ExR c' x cls dx := by
  obtain ⟨Ca, d, vs, h1, h2, h3, h4, h5, h6⟩ := r
  exact ⟨Ca, d, vs, h1, by rw [l.mg.e']; exact h2, h3, (l.keep d _ h4 (fun _ z => by cases z) h5.2).1, l.fr h4 (fun _ z => by cases z) h5, h6.le l⟩
def zPut (b : Addr) (o : Obj) (z : Addr → Option Obj) : Addr → Option Obj := fun a => if a = b then some o else z a
theorem zPut_at {b : Addr} {o : Obj} {z : Addr → Option Obj} {a : Addr} (q : a = b) : zPut b o z a = some o := if_pos q
theorem zPut_ne {b : Addr} {o : Obj} {z : Addr → Option Obj} {a : Addr} (q : ¬ a = b) : zPut b o z a = z a := if_neg q
/-- the captured cells as a map -/
theorem caps_z {H : Hp} {cl : List (Str × Addr)} {fr : Addr → Prop} {df : Bool} {dV : Value} {hp : Heap} (hat : ∀ b o, H b = some (celHO b o) → hp.get? b = some o) : ∀ {ys : List Str} {vs : List V}, CapsR H cl fr df dV ys vs →
    ∃ z : Addr → Option Obj, InH z H ∧ (∀ b o, z b = some o → fr b ∧ ∃ u, o.data = .cell (some u)) ∧ (∀ y b, y ∈ ys → cl.lookup y = some b → ∃ o, z b = some o) ∧
      (∀ (i : Nat) (y : Str) (v : V), ys[i]? = some y → vs[i]? = some v → ∃ b o u, cl.lookup y = some b ∧ z b = some o ∧ o.data = .cell (some u) ∧ RelV v u) ∧ ys.length = vs.length ∧ DfR H fr df dV
  | _, _, .nil d => ⟨fun _ => none, fun _ _ h => (by cases h), fun _ _ h => (by cases h), fun _ _ h => (by cases h), fun _ _ _ h => by simp at h, rfl, d⟩
  | _, _, .cons (y := y) (ys := ys) (b := b) (o := o) (u := u) h1 h2 h3 h4 h5 t => by
    obtain ⟨z, k1, k2, k3, k4, k5, k6⟩ := caps_z hat t
    refine ⟨zPut b o z, fun a o' e => ?_, fun a o' e => ?_, fun y' a hy e => ?_, fun i y' v' e1 e2 => ?_, by simp [k5], k6⟩
    · by_cases q : a = b
      · rw [zPut_at q] at e
        cases e
        rw [q]
        exact h2
      · rw [zPut_ne q] at e
        exact k1 a o' e
    · by_cases q : a = b
      · rw [zPut_at q] at e
        cases e
        rw [q]
        exact ⟨h3, u, h4⟩
      · rw [zPut_ne q] at e
        exact k2 a o' e
    · by_cases q : a = b
      · exact ⟨o, zPut_at q⟩
      · rw [zPut_ne q]
        rcases List.mem_cons.mp hy with hy | hy
        · subst hy
          rw [h1] at e
          exact (q (Option.some.inj e).symm).elim
        · exact k3 y' a hy e
    · cases i with
      | zero =>
        cases e1
        cases e2
        exact ⟨b, o, u, h1, zPut_at rfl, h4, h5⟩
      | succ i =>
        obtain ⟨b', o', u', g1, g2, g3, g4⟩ := k4 i y' v' e1 e2
        by_cases q : b' = b
        · subst q
          have : o' = o := Option.some.inj ((hat _ _ (k1 _ _ g2)).symm.trans (hat _ _ h2))
          exact ⟨b', o, u', g1, zPut_at rfl, by rw [← this]; exact g3, g4⟩
        · exact ⟨b', o', u', g1, (zPut_ne q).trans g2, g3, g4⟩
/-- what is asked of its text -/
structure LamOk (l : LamD) : Prop where
  kind : l.scope.kind = .function
  co : l.scope.isCoroutine = false
  gen : l.scope.isGenerator = false
  cell : ∀ y ∈ l.scope.names, y.2 ≠ .cell
  free : ∀ y ∈ l.scope.names, y.2 = .free → y.1 ∈ l.caps
  caps : ∀ y ∈ l.caps, l.scope.names.lookup y = some .free
  bind : l.df = false → ∀ (cl : List (Str × Addr)) (doc pm cv ctv : Value), bindArgs (PySem.W.kdv_fn "<lambda>" l.qual l.params (.expr l.body) l.scope cl .none doc pm cv ctv) ⟨[], []⟩ = pure []
  bindD : l.df = true → ∃ pn, l.scope.names.lookup pn = some .local ∧ ∀ (cl : List (Str × Addr)) (dV doc pm cv ctv : Value), ∃ k : Option (Array Value) → Sem (List (Str × Value)),
    bindArgs (PySem.W.kdv_fn "<lambda>" l.qual l.params (.expr l.body) l.scope cl dV doc pm cv ctv) ⟨[], []⟩ = (seqItems? dV >>= k) ∧ ∀ t : Tok, k (some #[.int 0 t]) = pure [(pn, .int 0 t)]
def lamCx (P : Program) (w : World) (K : PySem.W.Frag) (mg : Str → Option Value) (base : Heap) (l : LamD) (cl : List (Str × Addr)) (f c' : Addr) (A : Around) (outer : List Env) (s : Shared) (H : Hp) (E : XK) : Cx where
  prog := P
  w := w
  K := K
  mg := mg
  base := base
  A := A.deeper (PySem.W.envX l.qual l.scope s.heap.objs.size f (.ref c') cl)
  N := l.caps
  s_0 := s
  H_0 := H
  env := PySem.W.envX l.qual l.scope s.heap.objs.size f (.ref c') cl
  outer := outer
  stack := PySem.W.envX l.qual l.scope s.heap.objs.size f (.ref c') cl :: outer
  ex := []
  fn := fun _ => false
  calm := true
  pn := []
  xe := fun e s' => wpAny (model P w) (A.deeper (PySem.W.envX l.qual l.scope s.heap.objs.size f (.ref c') cl)) (leaving (PySem.W.envX l.qual l.scope s.heap.objs.size f (.ref c') cl) e) (fun _ s'' => L2.CX P w outer H s E e s'') (fun e' s'' => L2.CX P w outer H s E e' s'') s'
section
variable {P : Program} {w : World} {K : PySem.W.Frag} {mg : Str → Option Value} {base : Heap}
theorem tkLam {l : LamD} {cl : List (Str × Addr)} {f c' : Addr} {A : Around} {outer : List Env} {s : Shared} {H : Hp} {E : XK} : Takes (lamCx P w K mg base l cl f c' A outer s H E) (fun cls d _ H' => E cls d H') := takes_of rfl rfl rfl rfl
theorem lam_start {l : LamD} (L : LamOk l) {cl : List (Str × Addr)} {f c' : Addr} {A : Around} {outer : List Env} {s : Shared} {H : Hp} {E : XK} {z : Addr → Option Obj} {vs : List V} {bs : List (Str × Value)} {h₁ : Heap} {tk : Nat} (hd : A.handled = none) (e0 : Env0 P w K mg base A outer s H)
    (ck : ClOk l.caps cl) (hz : NoH z H) (hg : ∀ b o, z b = some o → s.heap.get? b = some o ∧ ∃ u, o.data = .cell (some u)) (hc : ∀ y b, y ∈ l.caps → cl.lookup y = some b → ∃ o, z b = some o)
    (hv : ∀ (i : Nat) (y : Str) (v : V), l.caps[i]? = some y → vs[i]? = some v → ∃ b o u, cl.lookup y = some b ∧ z b = some o ∧ o.data = .cell (some u) ∧ RelV v u) (hlen : l.caps.length = vs.length)
    (hns : h₁.Ns s.heap.objs.size (fun x => bs.reverse.lookup x)) (hk : ∀ b o, s.heap.get? b = some o → h₁.get? b = some o) :
    Inv (lamCx P w K mg base l cl f c' A outer s H E) [] (vs.map some) H { s with heap := h₁, toks := tk } := by
  have noA : ∀ b : Addr, b ∉ (lamCx P w K mg base l cl f c' A outer s H E).ex := fun b z => absurd (show b ∈ ([] : List Addr) from z) (by simp)
  have has : ∀ y ∈ l.caps, ∃ c, cl.lookup y = some c := fun y hy => by
    obtain ⟨i, hi, e⟩ := List.mem_iff_getElem.mp hy
    obtain ⟨b, _, _, g1, _⟩ := hv i y (vs[i]'(by rw [← hlen]; exact hi)) (by rw [List.getElem?_eq_getElem hi, e]) (List.getElem?_eq_getElem _)
    exact ⟨b, g1⟩
  refine ⟨⟨e0.mod, L.kind, rfl, rfl, Nat.le_refl _, fun y y' c h1 h2 => ck.2 y y' c h1 h2, fun y hy => ?_, fun y c q _ => ?_, fun _ => hd, Around.frames_deeper e0.frames, .inr ⟨rfl, rfl⟩, fun b z => absurd z (noA b), e0.bs, e0.bsz, fun b _ _ => noA b, fun b z => absurd z (noA b), e0.funs, e0.frf⟩,
    rfl, e0.bare, Un.kept hk, ⟨_, hns, fun i y v h1 h2 h3 => ?_⟩, fun y c h => ?_, e0.hok.fresh (Nat.le_refl _), fun y c h => ?_, fun p hp => absurd (show p ∈ ([] : List (Addr × Obj)) from hp) (by simp), e0.hok.kept hk, by rw [List.length_map]; exact hlen.symm⟩
  · have hy : l.scope.names.lookup y = some .cell ∨ l.scope.names.lookup y = some .free := hy
    rcases hy with hy | hy
    · exact absurd rfl (L.cell _ (PySem.mem_of_lookup hy))
    · exact has y (L.free _ (PySem.mem_of_lookup hy) rfl)
  · have q : false = true := q
    cases q
  · rw [List.getElem?_map] at h2
    cases q : vs[i]? with
    | none => rw [q] at h2; cases h2
    | some v' =>
      rw [q] at h2
      cases h2
      obtain ⟨b, o, u, g1, g2, g3, g4⟩ := hv i y v h1 q
      exact ⟨u, g4, .inr ⟨.inr (L.caps y (List.mem_of_getElem? h1)), b, g1, ⟨o, hk _ _ (hg b o g2).1, g3⟩⟩⟩
  · have h : cl.lookup y = some c := h
    obtain ⟨o, e⟩ := hc y c (ck.1 y c h) h
    obtain ⟨g1, u, g2⟩ := hg c o e
    exact ⟨some u, o, hk _ _ g1, g2⟩
  · have h : cl.lookup y = some c := h
    obtain ⟨o, e⟩ := hc y c (ck.1 y c h) h
    exact hz c o e
end
/-- what a lambda gives: its body over no cells -/
def endL (x : O D) : Option (R D) := match x with
  | some (.ok d, h) => (frz h d).map .ok
  | some (.ex e, _) => if noRef.gf e.fs = true then some (.ex e) else none
  | none => none
def runL (m : M D) : PF := fun ds => endL (m (ds.map some) [])
/-- the lambda i is right: called it gives LF i -/
structure LamS (P : Program) (w : World) (K : PySem.W.Frag) (mg : Str → Option Value) (base : Heap) (k i : Nat) (F : PF) : Prop where
  ok : LamOk (LamTab.lam i)
  run : ∃ m, F = runL m ∧ ∀ (cl : List (Str × Addr)) (f c' : Addr) (A : Around) (outer : List Env) (s : Shared) (H : Hp) (E : XK), Room k (A.deeper (PySem.W.envX (LamTab.lam i).qual (LamTab.lam i).scope s.heap.objs.size f (.ref c') cl)) →
    RE (lamCx P w K mg base (LamTab.lam i) cl f c' A outer s H E) (fun cls d _ H' => E cls d H') (LamTab.lam i).body m
end PD
namespace PD
open PySem PySem.Spec PyProof.Rows L2 PX
variable [LamTab]
theorem ext_at {P : Program} {w : World} {H : Hp} {h : Heap} {b : Addr} {φ : Heap → Prop} (k : HOk P w H h) (e : H b = some (.ext φ)) : φ h := by
  have x : ObjOk P w H h b (.ext φ) := k b _ e
  exact x.1
theorem bare_back {c1 c' : RC} {h : EH} (s1 : SR c1 h) (l : (c1.bare fun a => c1.B a ∨ a ∈ c1.ρ).Le c') : c1.Le { c' with ρ := c1.ρ, B := c1.B } ∧ SR { c' with ρ := c1.ρ, B := c1.B } h := by
  have l2 : c1.Le { c' with ρ := c1.ρ, B := c1.B } := ⟨l.K, l.mg, fun _ h => h, fun _ h => .inl h, l.dom, fun _ _ h => h, fun a o e t n => ⟨(l.keep a o e t List.not_mem_nil).1, n⟩, l.tup, l.frz⟩
  refine ⟨l2, s1.len, s1.nd, fun n a k e1 e2 => ?_, s1.nb, fun a hb => ?_⟩
  · have cr := s1.cells n a k e1 e2
    obtain ⟨o, eo⟩ := cr.ex
    refine cr.le l2 ?_
    have nt : ∀ ps, o ≠ .tbl ps := fun ps z => by
      subst z
      cases k with
      | lst ds => obtain ⟨xs, h1, _⟩ := cr; rw [eo] at h1; cases h1
      | dic t kvs => obtain ⟨o', zs, h1, h3, _⟩ := cr; rw [eo] at h1; cases h1; exact h3.tbl _ rfl
      | obj C fs => obtain ⟨_, _, _, _, h1, _⟩ := cr; rw [eo] at h1; cases h1
    exact (l.keep a o eo nt List.not_mem_nil).1.trans eo.symm
  · obtain ⟨o, eo⟩ := s1.bt a hb
    exact l.dom a o eo
section
variable {P : Program} {w : World} {K : PySem.W.Frag} {mg : Str → Option Value} {base : Heap}
theorem lam_call {k i : Nat} {F : PF} (S : LamS P w K mg base k i F) {A : Around} {outer : List Env} {s : Shared} {Q : VK} {E : XK} {c : RC} {caps : List D} {f : Addr} {r : R D} (hr : Room (k + 1) A) (hK : c.K = K) (hm : MgE c mg) (e0 : Env0 P w K mg base A outer s c.H)
    (hρ : c.ρ = []) (bt : ∀ a, c.B a → ∃ o, c.H a = some o) (rf : Rep c (.fn i caps) (.ref f)) (nf : noFn.go caps = true) (e : F caps = some r)
    (go : ∀ d, r = .ok d → ∀ c' v, c.Le c' → c'.ρ = [] → Rep c' d v → Q v c'.H) (gx : ∀ e, r = .ex e → ∀ c' cls dx, c.Le c' → c'.ρ = [] → ExR c' e cls dx → E cls dx c'.H) :
    codeAny (model P w) A (.call (.ref f) ⟨[], []⟩) (CR (L2.CX P w) outer P w c.H s Q E) s := by
  obtain ⟨m, rfl, hbody⟩ := S.run
  have L := S.ok
  cases rf with
  | @fn _ c' _ cl dV _ vs h1 f1 h2 f2 cr rv =>
  obtain ⟨z, k1, k2, k3, k4, k5, k6⟩ := caps_z (hp := s.heap) (fun b o e => cel_at e0.hok e) cr
  have hz0 : ∀ b o, z b = some o → s.heap.get? b = some o ∧ ∃ u, o.data = .cell (some u) := fun b o y => ⟨cel_at e0.hok (k1 b o y), (k2 b o y).2⟩
  have noF : ∀ a o vs, s.heap.get? a = some o → o.data = .fields vs → z a = none := fun a o us ho hd => by
    cases y : z a with
    | none => rfl
    | some o' =>
      obtain ⟨g1, u, g2⟩ := hz0 a o' y
      rw [ho] at g1
      cases g1
      rw [hd] at g2
      cases g2
  have hz : Zs c z := ⟨k1, fun b o y => (k2 b o y).1, fun a Ca dx e => (by
    obtain ⟨o, us, g1, _, _, g4⟩ := ext_at e0.hok e
    exact noF a o us g1 g4), fun a q e => (by
    obtain ⟨o, us, t, g1, g2, _⟩ := ext_at e0.hok e
    exact noF a o us g1 g2)⟩
  obtain ⟨ck, doc, pm, ctv, hf⟩ := ext_at e0.hok h1
  obtain ⟨oc, us, t, hoc, hdc, hvc⟩ := ext_at e0.hok h2
  have hn : PX.NoH z (PX.hide z c.H) := fun b o y => hide_in y
  have hg : ∀ b o, z b = some o → s.heap.get? b = some o ∧ b ∉ frs outer := fun b o y => ⟨(hz0 b o y).1, fun q => by
    have := e0.frf b q
    rw [k1 b o y] at this
    cases this⟩
  have e1 := env0_hide (z := z) e0 k1
  -- in the state with the cells hidden
  let Q1 : VK := fun v H' => ∃ d c2, r = .ok d ∧ (c.hide z).Le c2 ∧ c2.ρ = [] ∧ SR c2 [] ∧ Rep c2 d v ∧ c2.H = H'
  let E1 : XK := fun cls dx H' => ∃ x c2, r = .ex x ∧ (c.hide z).Le c2 ∧ c2.ρ = [] ∧ SR c2 [] ∧ ExR c2 x cls dx ∧ c2.H = H'
  suffices core : codeAny (model P w) A (.call (.ref f) ⟨[], []⟩) (CR (L2.CX P w) outer P w (PX.hide z c.H) s Q1 E1) s by
    refine codeAny_mono core fun rr s' h => cr_show k1 hg (fun v H' q nh => ?_) (fun cls dx H' q nh => ?_) h
    · obtain ⟨d, c2, e1, l, hρ2, s2, rd, rfl⟩ := q
      obtain ⟨l1, l2, s3⟩ := le_show hz l s2 nh
      exact go d e1 _ v l1 hρ2 (rd.le l2)
    · obtain ⟨x, c2, e1, l, hρ2, s2, rd, rfl⟩ := q
      obtain ⟨l1, l2, s3⟩ := le_show hz l s2 nh
      exact gx x e1 _ cls dx l1 hρ2 (rd.le' l2)
  obtain ⟨bs, hbs, hloc⟩ : ∃ bs, BindsTo s (PySem.W.kdv_fn "<lambda>" (LamTab.lam i).qual (LamTab.lam i).params (.expr (LamTab.lam i).body) (LamTab.lam i).scope cl dV doc pm (.ref c') ctv) ⟨[], []⟩ bs ∧ ∀ y ∈ bs, (LamTab.lam i).scope.names.lookup y.1 = some .local := by
    rcases k6 with ⟨hdf, rfl⟩ | ⟨hdf, dt, t, rfl, hdt, _⟩
    · exact ⟨[], BindsTo.of_eq (L.bind hdf cl doc pm (.ref c') ctv), fun y hy => absurd hy (by simp)⟩
    · obtain ⟨pn, hp, hb⟩ := L.bindD hdf
      obtain ⟨kk, b1, b2⟩ := hb cl (.ref dt) doc pm (.ref c') ctv
      refine ⟨[(pn, .int 0 t)], BindsTo.of_defaults rfl (cel_at e0.hok hdt) rfl b1 (b2 t), fun y hy => ?_⟩
      rw [List.mem_singleton.mp hy]
      exact hp
  have lim : s.heap.NoLimit := e0.mod.nolimit.keeps fun b o e => (e0.bs b o e).1
  refine PySem.W.kla_callFunE hr.depth hf rfl L.co L.gen rfl ⟨c', oc, us, t, rfl, hoc, hdc, hvc⟩ (hbs _ _ _ _ ?_)
  refine wpAny_newFunctionEnv L.cell hloc (fun h₁ hns hsb => ⟨lim.fresh _ hsb, ?_⟩) L.kind
  have kp : ∀ b o, s.heap.get? b = some o → h₁.get? b = some o := fun b o e => hsb.extBut b o (Nat.ne_of_lt (Heap.lt_size e)) (Heap.get?_push_of_some _ e)
  have J : Inv (lamCx P w K mg base (LamTab.lam i) cl f c' A outer s (PX.hide z c.H) E1) [] (vs.map some) (PX.hide z c.H) { s with heap := h₁, toks := s.toks + bs.length } :=
    lam_start L hr.hd e1 ck hn hz0 k3 k4 k5 hns kp
  have sr0 : SR (c.hide z) [] := SR.nil hρ fun a b => by
    obtain ⟨o, e⟩ := bt a b
    cases y : z a with
    | none => exact ⟨o, (hide_out y).trans e⟩
    | some o' => exact ((k2 a o' y).1.1 b).elim
  have rv' := Reps.hide hz rv nf
  have er : EnvR (c.hide z) (caps.map some) (vs.map some) := by
    refine ⟨by rw [List.length_map, List.length_map]; exact rv.length, fun i d e => ?_⟩
    rw [List.getElem?_map] at e
    cases q : caps[i]? with
    | none => rw [q] at e; cases e
    | some d' =>
      rw [q] at e
      cases e
      obtain ⟨v, g1, g2⟩ := rv'.get q
      exact ⟨v, by rw [List.getElem?_map, g1]; rfl, g2⟩
  have back : ∀ c2, (c.hide z).Le c2 → (c.hide z).Le (c2.bare c.B) ∧ SR (c2.bare c.B) [] := fun c2 l => ⟨⟨l.K, l.mg, fun _ h => h, fun _ h => .inl h, l.dom, fun n a e => (by
      have e : c.ρ[n]? = some a := e
      rw [hρ] at e; simp at e), fun a o e t n => ⟨(l.keep a o e t n).1, List.not_mem_nil⟩, l.tup, l.frz⟩, SR.nil rfl fun a b => by
      obtain ⟨o, e⟩ := sr0.bt a b
      exact l.dom a o e⟩
  have ht : tE K mg (fun cls d _ H' => E1 cls d H') m (vs.map some) (PX.hide z c.H) Q1 := by
    unfold runL endL at e
    cases q : m (caps.map some) [] with
    | none => rw [q] at e; cases e
    | some y =>
      obtain ⟨r1, h'⟩ := y
      rw [q] at e
      refine ⟨c.hide z, caps.map some, [], r1, h', hK, hm.hide hz, rfl, sr0, er, q, fun x ex c2 cls dx l s2 xr => ?_, fun d ed c2 v l s2 rd => ?_⟩
      · subst ex
        have e' : (if noRef.gf x.fs = true then some (R.ex x) else none) = some r := e
        by_cases hc : noRef.gf x.fs = true
        · rw [if_pos hc] at e'
          cases e'
          obtain ⟨b1, b2⟩ := back c2 l
          obtain ⟨Ca, d, us, h1, h2, h3, h4, h5, h6⟩ := xr
          exact ⟨x, c2.bare c.B, rfl, b1, rfl, b2, ⟨Ca, d, us, h1, h2, h3, h4, ⟨fun z => h5.1 (l.B _ z), List.not_mem_nil⟩, h6.bare (fun a z => .inl (l.B a z)) hc⟩, rfl⟩
        · rw [if_neg hc] at e'; cases e'
      · subst ed
        have e' : (frz h' d).map R.ok = some r := e
        cases q2 : frz h' d with
        | none => rw [q2] at e'; cases e'
        | some d' =>
          rw [q2] at e'
          cases e'
          obtain ⟨b1, b2⟩ := back c2 l
          exact ⟨d', c2.bare c.B, rfl, b1, rfl, b2, frz_ok s2 l.B rd q2, rfl⟩
  refine PySem.W.kla_codeExpr (wpAny_mono ((hbody cl f c' A outer s (PX.hide z c.H) E1 (hr.deeper _)).run [] _ _ (PX.hide z c.H) Q1 J ht) (fun v s' hq => ?_) fun e s' hq => hq)
  obtain ⟨w', H', J', rv, q⟩ := hq
  exact ⟨w', H', J'.os, J'.bare, J'.base, J'.hok, rv, q⟩
end
def mCallF (n : Nat) (LF : Nat → PF) (i : Nat) : M D := fun ε h => match ε.getD i none with
  | some (.fn j caps) => if (decide (j < n) && noRef.go caps && noFn.go caps) = true then (LF j caps).map fun r => (r, h) else none
  | _ => none
section
variable {X : Cx} {W : WX}
theorem re_callF {x : Str} {p pos : Pos} {k j n : Nat} {LF : Nat → PF} (i : Nat) (LS : ∀ t, t < n → LamS X.prog X.w X.K X.mg X.base k t (LF t)) (hr : Room j X.A) (tk : Takes X W) (hk : k + 1 ≤ j := by decide)
    (hN : X.N[i]? = some x := by rfl) (hv : Vis X.env.scope x := by first | exact Or.inl rfl | exact Or.inr (Or.inl rfl) | exact Or.inr (Or.inr rfl)) (hd : (x == ("__debug__" : Str)) = false := by decide)
    (hcd : (x == ("__classdict__" : Str)) = false := by decide) : RE X W (.Call (.Name x p) [] [] pos) (mCallF n LF i) := by
  refine ⟨fun pins s σ H Q I h => ?_⟩
  obtain ⟨c, ε, eh, r, h', hK, hm, rfl, sr, er, e, px, go⟩ := h
  unfold mCallF at e
  cases q : ε.getD i none with
  | none => rw [q] at e; cases e
  | some d =>
  rw [q] at e
  cases d with
  | fn j caps =>
    have e : (if (decide (j < n) && noRef.go caps && noFn.go caps) = true then (LF j caps).map fun r => (r, eh) else none) = some (r, h') := e
    by_cases hc : (decide (j < n) && noRef.go caps && noFn.go caps) = true
    · rw [if_pos hc] at e
      rw [Bool.and_eq_true, Bool.and_eq_true, decide_eq_true_eq] at hc
      obtain ⟨⟨hj, hnr⟩, hnf⟩ := hc
      cases q2 : LF j caps with
      | none => rw [q2] at e; cases e
      | some r2 =>
        rw [q2] at e
        cases e
        have qq : ε[i]? = some (some (.fn j caps)) := by
          rw [List.getD_eq_getElem?_getD] at q
          cases z : ε[i]? with
          | none => rw [z] at q; cases q
          | some y => rw [z] at q; exact congrArg some q
        obtain ⟨v, hs, rv⟩ := er.at_ i _ qq
        obtain ⟨f, rfl⟩ : ∃ f, v = .ref f := by cases rv; exact ⟨_, rfl⟩
        refine wpAny_Call_Name_kw (thn ((pe_var (pos := p) (i := i) hN hv hd hcd).run pins s σ c.H (fun v H1 => v = .ref f ∧ H1 = c.H) I ⟨.ref f, hs, rfl, rfl⟩) fun u s1 ⟨v, H1, I1, r1, q1⟩ => ?_)
        obtain ⟨ev, eH⟩ := q1
        subst ev
        subst eH
        obtain rfl : u = Value.ref f := r1
        have hfn : ∃ o, s1.heap.get? f = some o ∧ ∃ fd, o.data = .func fd := by
          cases rv with
          | fn h1 _ _ _ _ _ =>
            obtain ⟨_, _, _, _, hf⟩ := ext_at I1.hok h1
            exact ⟨_, hf, _, rfl⟩
        obtain ⟨⟨oc, od, dd, sl⟩, hf, fd, hdd⟩ := hfn
        have hdd : dd = .func fd := hdd
        subst hdd
        refine PySem.W.callWith_F0 ⟨_, _, _, _, hf⟩ ?_
        have rv' : Rep (c.bare fun a => c.B a ∨ a ∈ c.ρ) (.fn j caps) (.ref f) := rv.bare (fun _ z => z) (by rw [noRef]; exact hnr)
        have rc : codeAny (model X.prog X.w) X.A (.call (.ref f) ⟨[], []⟩) (CR (L2.CX X.prog X.w) X.stack X.prog X.w c.H s1 Q fun cls d H' => W cls d σ H') s1 := by
          refine lam_call (LS j hj) (hr.mono hk) (c := c.bare fun a => c.B a ∨ a ∈ c.ρ) hK hm I1.env0 rfl (fun a z => z.elim (sr.bt a) fun z => sr.ex z) rv' hnf q2 (fun d ed c' v l hρ rd => ?_) fun x ex c' cls dx l hρ xr => ?_
          · obtain ⟨l2, s2⟩ := bare_back sr l
            exact go d ed { c' with ρ := c.ρ, B := c.B } v l2 s2 (Rep.unbare (fun a ha => l.B a (.inr ha)) (fun a ha => l.B a (.inl ha)) hρ rd)
          · obtain ⟨l2, s2⟩ := bare_back sr l
            refine px x ex { c' with ρ := c.ρ, B := c.B } cls dx l2 s2 ?_
            obtain ⟨Ca, d, us, h1, h2, h3, h4, h5, h6⟩ := xr
            exact ⟨Ca, d, us, h1, h2, h3, h4, ⟨fun z => h5.1 (l.B _ (.inl z)), fun z => h5.1 (l.B _ (.inr z))⟩, RepF.unbare (fun a ha => l.B a (.inr ha)) (fun a ha => l.B a (.inl ha)) hρ h6⟩
        refine wpAny_call (codeAny_mono rc fun rr s2 hq => ?_)
        cases rr with
        | error e => exact passAt tk σ pins c.H s1 e s2 I1 hq
        | ok fl =>
          cases fl with
          | ret u => exact I1.after hq
          | next => exact False.elim hq
          | brk => exact False.elim hq
          | cont => exact False.elim hq
    · rw [if_neg hc] at e; cases e
  | _ => cases e
end
end PD
namespace PD
open PySem PySem.Spec PyProof.Rows L2 PX LamX
variable [LamTab]
/-- the lambda i of this frame stands at f -/
def LamAt (X : Cx) (H : Hp) (i : Nat) (f : Addr) : Prop := ∃ (dV : Value) (c' : Addr), H f = some (lamHO (LamTab.lam i) (cloFrom X.env.cells (LamTab.lam i).scope.names []) dV c' f) ∧ H c' = some (CodeO c' (LamTab.lam i).qual) ∧
  (((LamTab.lam i).df = false ∧ dV = .none) ∨ ((LamTab.lam i).df = true ∧ ∃ (dt : Addr) (t : Tok), dV = .ref dt ∧ H dt = some (celHO dt (PySem.W.kdv_tup [.int 0 t]))))
theorem LamAt.ext {X : Cx} {H H' : Hp} {i : Nat} {f : Addr} (e : ExtN H H') (h : LamAt X H i f) : LamAt X H' i f := by
  obtain ⟨dV, c', h1, h2, h3⟩ := h
  refine ⟨dV, c', e _ _ h1 lamHO_tbl, e _ _ h2 codeO_ne, ?_⟩
  rcases h3 with h3 | ⟨q, dt, t, e1, e2⟩
  · exact .inl h3
  · exact .inr ⟨q, dt, t, e1, e _ _ e2 celHO_tbl⟩
/-- its text, its def's tables -/
structure LamW (X : Cx) (i : Nat) (c P : Addr) : Prop where
  TB : TabB X.base X.mg c P
  code : X.env.code = .ref c
  qual : X.env.qual ++ "<lambda>" = (LamTab.lam i).qual
  mem : (P, (LamTab.lam i).qual) ∈ LamTab.T
  uniq : ∀ p ∈ LamTab.T, p.1 = P → p.2 = (LamTab.lam i).qual
  free : ∀ y ∈ (LamTab.lam i).scope.names, y.2 = .free → ∃ c, X.env.cells.lookup y.1 = some c
  ck : ClOk (LamTab.lam i).caps (cloFrom X.env.cells (LamTab.lam i).scope.names [])
  df : ((LamTab.lam i).df = false ∧ (LamTab.lam i).params.defaults = [] ∧ (LamTab.lam i).params.kw_defaults = []) ∨ ((LamTab.lam i).df = true ∧ (∃ k p, (LamTab.lam i).params.defaults = [.Constant (.int 0) k p]) ∧ (LamTab.lam i).params.kw_defaults = [])
/-- what the making of it leaves -/
structure Made (H H1 : Hp) : Prop where
  ext : ExtN H H1
  tabs : Tabs LamTab.T H → Tabs LamTab.T H1
  dom : ∀ b o, H b = some o → ∃ o', H1 b = some o'
theorem Made.refl (H : Hp) : Made H H := ⟨ExtN.refl H, fun h => h, fun b o e => ⟨o, e⟩⟩
theorem Made.trans {H H1 H2 : Hp} (a : Made H H1) (b : Made H1 H2) : Made H H2 := ⟨a.ext.trans b.ext, fun h => b.tabs (a.tabs h), fun p o e => let ⟨o', q⟩ := a.dom p o e; b.dom p o' q⟩
theorem Made.of {H H1 : Hp} (e : ∀ b o, H b = some o → H1 b = some o) : Made H H1 := ⟨ExtN.of e, fun t => t.ext e, fun b o q => ⟨o, e b o q⟩⟩
theorem upd_new {H : Hp} {a : Addr} {o : HO} (n : H a = none) : ∀ b u, H b = some u → upd H a o b = some u := fun b u e => by
  rw [upd_ne (ne_of_none e n)]; exact e
section
variable {X : Cx} {pins : List (Addr × Obj)} {σ : L2.St} {H : Hp} {s : Shared}
theorem lam_tail {i : Nat} {c P : Addr} {pos : Pos} {fl : Nat} {dV : Value} {E : Value → Shared → Prop} {Q : Value → Shared → Prop} (I : Inv X pins σ H s) (W : LamW X i c P) (hT : Tabs LamTab.T H)
    (hdV : ((LamTab.lam i).df = false ∧ dV = .none) ∨ ((LamTab.lam i).df = true ∧ ∃ (dt : Addr) (t : Tok), dV = .ref dt ∧ H dt = some (celHO dt (PySem.W.kdv_tup [.int 0 t]))))
    (h : ∀ (f : Addr) (H1 : Hp) (s' : Shared), Inv X pins σ H1 s' → Made H H1 → LamAt X H1 i f → Q (.ref f) s') :
    wpAny (model X.prog X.w) X.A (makeTail "<lambda>" (LamTab.lam i).qual (LamTab.lam i).params (.expr (LamTab.lam i).body) (LamTab.lam i).scope X.env dV .none none pos fl) Q E s := by
  obtain ⟨ps, hP, ht, ha⟩ := hT _ W.mem
  have bP : s.heap.BuiltinsAt X.mg P := W.TB.bm.keeps I.bk
  have hP' : s.heap.get? P = some { cls := .none, data := .fields ps } := I.hok P _ hP
  -- the function's object is new
  have fin : ∀ (H1 : Hp) (h' : Heap) (tk : Tok) (c' : Addr) (ctv doc : Value), Inv X pins σ H1 { s with heap := h', toks := tk } → Made H H1 → H1 c' = some (CodeO c' (LamTab.lam i).qual) →
      Q (.ref h'.objs.size) { s with heap := h'.push (PySem.W.kdv_obj "<lambda>" (LamTab.lam i).qual (LamTab.lam i).params (.expr (LamTab.lam i).body) (LamTab.lam i).scope (cloFrom X.env.cells (LamTab.lam i).scope.names []) dV doc ((X.mg "__name__").getD .none) c' ctv), toks := tk } := fun H1 h' tk c' ctv doc I1 md hc => by
    have nf : H1 h'.objs.size = none := I1.hok.fresh (Nat.le_refl _)
    have hf := Heap.get?_push_size h' (o := PySem.W.kdv_obj "<lambda>" (LamTab.lam i).qual (LamTab.lam i).params (.expr (LamTab.lam i).body) (LamTab.lam i).scope (cloFrom X.env.cells (LamTab.lam i).scope.names []) dV doc ((X.mg "__name__").getD .none) c' ctv) rfl
    have I2 := I1.laid (a := h'.objs.size) (o := lamHO (LamTab.lam i) (cloFrom X.env.cells (LamTab.lam i).scope.names []) dV c' h'.objs.size) (t' := tk) (h' := h'.push (PySem.W.kdv_obj "<lambda>" (LamTab.lam i).qual (LamTab.lam i).params (.expr (LamTab.lam i).body) (LamTab.lam i).scope (cloFrom X.env.cells (LamTab.lam i).scope.names []) dV doc ((X.mg "__name__").getD .none) c' ctv)) (fun b o e => Heap.get?_push_of_some _ e) (Nat.le_refl _)
      ⟨⟨W.ck, doc, _, ctv, hf⟩, ⟨_, hf⟩, fun h1 h2 ⟨q, doc, pm, ctv, e⟩ k => ⟨q, doc, pm, ctv, k _ e⟩⟩
    refine h h'.objs.size _ _ I2 (md.trans (Made.of (upd_new nf))) ⟨dV, c', upd_same, upd_new nf _ _ hc, ?_⟩
    rcases hdV with z | ⟨q, dt, t, e1, e2⟩
    · exact .inl z
    · exact .inr ⟨q, dt, t, e1, upd_new nf _ _ (md.ext _ _ e2 celHO_tbl)⟩
  cases hc : codeAmong pos ps.toList with
  | none =>
    refine PySem.W.kdv_makeTail (mg := X.mg) (c := c) (P := P) (ps := ps) (clos := cloFrom X.env.cells (LamTab.lam i).scope.names []) (closure_ok W.free) I.ok.glob (I.mod.glob.keeps I.bk) W.code (W.TB.code.keeps I.bk) hP' ht hc W.TB.gP bP fun c' ctv doc h' tk hx hge hlt hrec htb => ?_
    obtain ⟨c2, oc, vs, t, e2, hoc, hd, hv⟩ := hrec
    cases e2
    have nC : H c' = none := I.hok.fresh hge
    have I1 := inv_table (t' := tk) (more := #[rawInt pos.line, rawInt pos.col, .ref c']) (h' := h') I hP hx htb hge ⟨oc, vs, t, hoc, hd, hv⟩
    have hE : ExtN H (upd (upd H P (.tbl (ps ++ #[rawInt pos.line, rawInt pos.col, .ref c']))) c' (CodeO c' (LamTab.lam i).qual)) := fun b o e n => by
      rw [upd_ne (ne_of_none e nC), upd_ne (fun z => n ps (Option.some.inj (e.symm.trans (by rw [z]; exact hP))))]
      exact e
    have eL : (ps ++ #[rawInt pos.line, rawInt pos.col, .ref c']).toList = ps.toList ++ [rawInt pos.line, rawInt pos.col, .ref c'] := by simp
    refine fin _ h' tk c' ctv doc I1 ⟨hE, fun _ p hp => ?_, fun b o e => ?_⟩ upd_same
    · by_cases hb : p.1 = P
      · rw [W.uniq p hp hb, hb]
        refine ⟨_, by rw [upd_ne (ne_of_none hP nC), upd_same], by rw [eL]; exact PySem.TriplesOk_snoc _ _ _ _ ht, fun p' cv hcv => ?_⟩
        rw [eL] at hcv
        rcases among_app _ ht hcv with z | z
        · obtain ⟨c0, e1, e2⟩ := ha p' cv z
          exact ⟨c0, e1, hE _ _ e2 codeO_ne⟩
        · exact ⟨c', z, upd_same⟩
      · obtain ⟨ps', a1, a2, a3⟩ := hT p hp
        refine ⟨ps', by rw [upd_ne (ne_of_none a1 nC), upd_ne hb]; exact a1, a2, fun p' cv hcv => ?_⟩
        obtain ⟨c0, e1, e2⟩ := a3 p' cv hcv
        exact ⟨c0, e1, hE _ _ e2 codeO_ne⟩
    · rw [upd_ne (ne_of_none e nC)]
      by_cases hb : b = P
      · rw [hb]; exact ⟨_, upd_same⟩
      · exact ⟨o, (upd_ne hb).trans e⟩
  | some cv =>
    obtain ⟨c', e, hco⟩ := ha pos cv hc
    subst e
    refine PySem.W.kdv_makeTailHit (mg := X.mg) (c := c) (P := P) (ps := ps) (clos := cloFrom X.env.cells (LamTab.lam i).scope.names []) (closure_ok W.free) I.ok.glob (I.mod.glob.keeps I.bk) W.code (W.TB.code.keeps I.bk) hP' ht hc bP fun ctv doc h' tk hx hsz => ?_
    exact fin H h' tk c' ctv doc (I.kept hx) (Made.refl H) hco
def tLam (i : Nat) : TE := fun σ H Q => Tabs LamTab.T H ∧ ∀ f H1, Made H H1 → LamAt X H1 i f → Q (.ref f) H1
theorem pe_lam {i : Nat} {c P : Addr} {pos : Pos} (W : LamW X i c P) : PE X (.Lambda (LamTab.lam i).params (LamTab.lam i).body (LamTab.lam i).scope pos) (tLam (X := X) i) := by
  refine ⟨fun pins s σ H Q I h => ?_⟩
  obtain ⟨hT, go⟩ := h
  have fin : ∀ (f : Addr) (H1 : Hp) (s' : Shared), Inv X pins σ H1 s' → Made H H1 → LamAt X H1 i f → EP X pins σ Q (.ref f) s' := fun f H1 s' I1 md la => ⟨.ref f, H1, I1, rfl, go f H1 md la⟩
  rcases W.df with ⟨h1, h2, h3⟩ | ⟨h1, ⟨k, p, h2⟩, h3⟩
  · refine PySem.W.kla_eval (by rw [defaultsOf_eq, h2, h3]; rfl) ?_
    rw [makeFunction_eq]
    simp only [List.zip_nil_right, List.filterMap_nil, List.isEmpty_nil, if_true, pure_bind]
    rw [W.qual]
    exact lam_tail I W hT (.inl ⟨h1, rfl⟩) fin
  · refine PySem.W.kdv_lam (by rw [h2]; rfl) h3 ?_
    rw [h2]
    refine PySem.W.kdv_all1 (thn ((pe_int (X := X)).run pins s σ H (fun v H1 => v = .int 0 ∧ H1 = H) I ⟨rfl, rfl⟩) fun u s1 ⟨v, H1, I1, r1, q1⟩ => ?_)
    obtain ⟨ev, eH⟩ := q1
    subst ev
    subst eH
    obtain ⟨t, rfl⟩ : ∃ t, u = Value.int 0 t := r1
    refine PySem.W.kdv_all0 ?_
    rw [makeFunction_eq]
    simp only [List.zip_nil_right, List.filterMap_nil, List.isEmpty_nil, List.isEmpty_cons, if_true, pure_bind, Bool.false_eq_true, if_false]
    refine wpAny_bind (wpAny_newTextTuple ?_)
    have nf : H1 s1.heap.objs.size = none := I1.hok.fresh (Nat.le_refl _)
    have hf := Heap.get?_push_size s1.heap (o := PySem.W.kdv_tup [.int 0 t]) rfl
    have I2 := I1.laid (a := s1.heap.objs.size) (o := celHO s1.heap.objs.size (PySem.W.kdv_tup [.int 0 t])) (t' := s1.toks) (h' := s1.heap.push (PySem.W.kdv_tup [.int 0 t])) (fun b o e => Heap.get?_push_of_some _ e) (Nat.le_refl _)
      ⟨hf, ⟨_, hf⟩, fun h1 h2 e k => k _ e⟩
    rw [W.qual]
    exact lam_tail I2 W (hT.ext (upd_new nf)) (.inr ⟨h1, _, t, rfl, upd_same⟩) fun f H2 s' I3 md la => fin f H2 s' I3 ((Made.of (upd_new nf)).trans md) la
end
end PD
namespace PD
open PySem PySem.Spec PyProof.Rows L2 PX LamX
variable [LamTab]
/-- data without lambdas, without exceptions -/
def plain : D → Bool
  | .fn _ _ => false
  | .exc _ _ => false
  | .tup ds => go ds
  | .lst ds => go ds
  | .scr ds => go ds
  | .obj _ fs => gf fs
  | .dic _ kvs => gp kvs
  | _ => true
where
  go : List D → Bool
  | [] => true
  | d :: ds => plain d && go ds
  gf : List (Str × D) → Bool
  | [] => true
  | (_, d) :: ds => plain d && gf ds
  gp : List (List Key × D) → Bool
  | [] => true
  | (_, d) :: ds => plain d && gp ds
def plainR : R D → Bool
  | .ok d => plain d
  | .ex x => plain.gf x.fs
section
variable {c c2 : RC} (hK : c2.K = c.K) (hm : c2.mg = c.mg) (hH : ∀ a u, c.H a = some u → (∀ φ, u ≠ .ext φ) → c2.H a = some u) (hf : ∀ a u, c.H a = some u → (∀ φ, u ≠ .ext φ) → c.fr a → c2.fr a) (h0 : c.ρ = [])
include hK hm hH hf h0
mutual
theorem Rep.unshow : ∀ {d : D} {v : V}, Rep c d v → plain d = true → Rep c2 d v
  | _, _, .non, _ => .non
  | _, _, .bl b, _ => .bl b
  | _, _, .int i, _ => .int i
  | _, _, .str cs, _ => .str cs
  | .tup ds, _, .tup (a := a) (xs := xs) h r, e => .tup (by
      rcases h with (h | ⟨o, h⟩) | h
      · exact .inl (.inl (hH _ _ h fun _ z => by cases z))
      · exact .inl (.inr ⟨o, hH _ _ h fun _ z => by cases z⟩)
      · rw [hK]; exact .inr h) (Reps.unshow r (by rw [plain] at e; exact e))
  | .lst ds, _, .lst h f r, e => .lst (hH _ _ h fun _ z => by cases z) (hf _ _ h (fun _ z => by cases z) f) (Reps.unshow r (by rw [plain] at e; exact e))
  | .scr ds, _, .scr h r, e => .scr (by
      rcases h with ⟨o, h⟩ | h
      · exact .inl ⟨o, hH _ _ h fun _ z => by cases z⟩
      · rw [hK]; exact .inr h) (Reps.unshow r (by rw [plain] at e; exact e))
  | .obj C fs, _, .obj m h f r, e => .obj (by rw [hm]; exact m) (hH _ _ h fun _ z => by cases z) (hf _ _ h (fun _ z => by cases z) f) (RepF.unshow r (by rw [plain] at e; exact e))
  | .dic t kvs, _, .dic (o := o) h i f r, e => by
    have nx : ∀ φ, o ≠ .ext φ := fun φ q => by
      subst q
      rcases i with ⟨_, _, q, _⟩ | ⟨_, q⟩ <;> cases q
    exact .dic (hH _ _ h nx) i (hf _ _ h nx f) (RepP.unshow r (by rw [plain] at e; exact e))
  | .fn i ds, _, .fn _ _ _ _ _ _, e => by cases e
  | .exc C fs, _, .exc _ _ _ _ _ _, e => by cases e
  | _, _, .ref h, _ => by rw [h0] at h; simp at h
theorem Reps.unshow : ∀ {ds : List D} {vs : List V}, Reps c ds vs → plain.go ds = true → Reps c2 ds vs
  | _, _, .nil, _ => .nil
  | _, _, .cons h t, e => by
    rw [plain.go, Bool.and_eq_true] at e
    exact .cons (Rep.unshow h e.1) (Reps.unshow t e.2)
theorem RepP.unshow : ∀ {ds : List (List Key × D)} {vs : List (List Key × V)}, RepP c ds vs → plain.gp ds = true → RepP c2 ds vs
  | _, _, .nil, _ => .nil
  | _, _, .cons h t, e => by
    rw [plain.gp, Bool.and_eq_true] at e
    exact .cons (Rep.unshow h e.1) (RepP.unshow t e.2)
theorem RepF.unshow : ∀ {ds : List (Str × D)} {vs : List (Str × V)}, RepF c ds vs → plain.gf ds = true → RepF c2 ds vs
  | _, _, .nil, _ => .nil
  | _, _, .cons h t, e => by
    rw [plain.gf, Bool.and_eq_true] at e
    exact .cons (Rep.unshow h e.1) (RepF.unshow t e.2)
end
end
structure ShowZ (X : Cx) (H : Hp) (s : Shared) (z : Addr → Option Obj) : Prop where
  no : PX.NoH z H
  at_ : ∀ b o, z b = some o → s.heap.get? b = some o ∧ b ∉ frs X.stack
  cel : ∀ b o, z b = some o → s.heap.get? b = some o ∧ ∃ v, o.data = .cell v
  base : ∀ b o, z b = some o → X.base.get? b = none
  all : ∀ y b o, X.env.cells.lookup y = some b → s.heap.get? b = some o → z b = some o
theorem showZ {X : Cx} {pins : List (Addr × Obj)} {σ : L2.St} {H : Hp} {s : Shared} (I : Inv X pins σ H s) (hfn : ∀ y, X.fn y = true) : ∃ z, ShowZ X H s z := by
  classical
  refine ⟨fun b => if ∃ y, X.env.cells.lookup y = some b then s.heap.get? b else none, ?_⟩
  have key : ∀ b o, (if ∃ y, X.env.cells.lookup y = some b then s.heap.get? b else none) = some o → ∃ y, X.env.cells.lookup y = some b ∧ s.heap.get? b = some o := fun b o e => by
    by_cases q : ∃ y, X.env.cells.lookup y = some b
    · rw [if_pos q] at e
      obtain ⟨y, hy⟩ := q
      exact ⟨y, hy, e⟩
    · rw [if_neg q] at e
      cases e
  refine ⟨fun b o e => ?_, fun b o e => ?_, fun b o e => ?_, fun b o e => ?_, fun y b o e ho => ?_⟩
  · obtain ⟨y, hy, ho⟩ := key b o e
    exact I.freeC y b hy
  · obtain ⟨y, hy, ho⟩ := key b o e
    refine ⟨ho, fun q => ?_⟩
    rcases List.mem_cons.mp (I.stkSub _ q) with q | q
    · exact I.cne y b hy q
    · obtain ⟨_, o', e', _⟩ := I.ok.funs.mem q
      exact Nat.lt_irrefl _ (Nat.lt_of_lt_of_le (Heap.lt_size e') (I.ok.cab y b (hfn y) hy))
  · obtain ⟨y, hy, ho⟩ := key b o e
    obtain ⟨v, o', e1, e2⟩ := I.cell y b hy
    rw [ho] at e1
    cases e1
    exact ⟨ho, v, e2⟩
  · obtain ⟨y, hy, ho⟩ := key b o e
    cases q : X.base.get? b with
    | none => rfl
    | some o' => exact (Nat.lt_irrefl _ (Nat.lt_of_lt_of_le (Heap.lt_size q) (Nat.le_trans I.ok.bsz (I.ok.cab y b (hfn y) hy)))).elim
  · exact (if_pos ⟨y, e⟩).trans ho
/-- the callee's view -/
abbrev showC (c : RC) (z : Addr → Option Obj) : RC := { c with H := PX.show_ z c.H, ρ := [], B := fun a => (c.B a ∨ a ∈ c.ρ) ∧ ∀ φ, c.H a ≠ some (.ext φ) }
section
variable {c c' : RC} {h : EH} {z : Addr → Option Obj}
theorem show_grow (no : PX.NoH z c.H) : ∀ b o, c.H b = some o → PX.show_ z c.H b = some o := fun b o e => by
  cases y : z b with
  | none => rw [show_out y]; exact e
  | some o' => rw [no b o' y] at e; cases e
theorem show_in' (l : (showC c z).Le c') : PX.InH z c'.H := fun b o y => (l.keep b _ (show_in y) celHO_tbl List.not_mem_nil).1
theorem code_cel {a : Addr} {q : Str} {o : Obj} {hp : Heap} {v : Option Value} (e : CodeO a q = celHO a o) (h : hp.get? a = some o) (hd : o.data = .cell v) : False := by
  unfold CodeO celHO at e
  have e2 := congrFun (HO.ext.inj e) hp
  have e3 : hp.get? a = some o := h
  rw [← e2] at e3
  obtain ⟨oc, vs, t, k1, k2, _⟩ := e3
  rw [h] at k1
  cases k1
  rw [hd] at k2
  cases k2
theorem show_back {hp : Heap} (hat : ∀ b o, z b = some o → hp.get? b = some o ∧ ∃ v, o.data = .cell v) (no : PX.NoH z c.H) (s1 : SR c h) (l : (showC c z).Le c') : c.Le { c' with ρ := c.ρ, B := c.B, H := PX.hide z c'.H } ∧ SR { c' with ρ := c.ρ, B := c.B, H := PX.hide z c'.H } h := by
  have out : ∀ a o, c.H a = some o → z a = none := fun a o e => by
    cases y : z a with
    | none => rfl
    | some o' => rw [no a o' y] at e; cases e
  have kp : ∀ a o, c.H a = some o → (∀ ps, o ≠ .tbl ps) → PX.hide z c'.H a = some o := fun a o e nt => (hide_out (out a o e)).trans (l.keep a o (show_grow no a o e) nt List.not_mem_nil).1
  obtain ⟨g1, g2, g3⟩ := s1.grow (show_grow no)
  have hin := show_in' l
  have tabs : c.tabs → RC.tabs { c' with ρ := c.ρ, B := c.B, H := PX.hide z c'.H } := fun t p hp => by
    have t1 : c'.tabs := l.mg.t (fun p hp => g1.mg.t t p hp)
    obtain ⟨ps, k1, k2, k3⟩ := t1 p hp
    have oz : ∀ a u, c'.H a = some u → (∀ o, u ≠ celHO a o) → z a = none := fun a u e n => by
      cases y : z a with
      | none => rfl
      | some o => rw [hin a o y] at e; exact (n o (Option.some.inj e).symm).elim
    refine ⟨ps, (hide_out (oz _ _ k1 fun o q => celHO_tbl _ q.symm)).trans k1, k2, fun pos cv hc => ?_⟩
    obtain ⟨a, e1, e2⟩ := k3 pos cv hc
    refine ⟨a, e1, (hide_out ?_).trans e2⟩
    cases y : z a with
    | none => rfl
    | some o =>
      obtain ⟨g1, v, g2⟩ := hat a o y
      rw [hin a o y] at e2
      exact (code_cel (Option.some.inj e2).symm g1 g2).elim
  have l2 : c.Le { c' with ρ := c.ρ, B := c.B, H := PX.hide z c'.H } := by
    refine ⟨l.K, ⟨l.mg.e, tabs⟩, fun _ h => h, fun _ h => .inl h, fun a o e => ?_, fun _ _ h => h, fun a o e nt n => ⟨kp a o e nt, n⟩, fun a xs e => ?_, fun a o u e => kp a _ e fun _ q => by cases q⟩
    · obtain ⟨o', q⟩ := l.dom a o (show_grow no a o e)
      exact ⟨o', (hide_out (out a o e)).trans q⟩
    · rcases e with e | ⟨u, e⟩
      · exact .inl (kp a _ e fun _ q => by cases q)
      · exact .inr ⟨u, kp a _ e fun _ q => by cases q⟩
  refine ⟨l2, s1.len, s1.nd, fun n a k e1 e2 => ?_, s1.nb, fun a hb => ?_⟩
  · have cr := s1.cells n a k e1 e2
    obtain ⟨o, eo⟩ := cr.ex
    refine cr.le l2 ((kp a o eo fun ps q => ?_).trans eo.symm)
    subst q
    exact cr.noTab.1 ps eo
  · obtain ⟨o, eo⟩ := s1.bt a hb
    exact l2.dom a o eo
end
end PD
namespace PD
open PySem PySem.Spec PyProof.Rows L2 PX LamX
variable [LamTab]
def capsE (ε : Ev) : List Nat → Option (List D)
  | [] => some []
  | k :: ks => match ε.getD k none, capsE ε ks with
    | some d, some ds => some (d :: ds)
    | _, _ => none
/-- the names that the lambda i captures: X's variables at ks -/
structure CapN (X : Cx) (i : Nat) (ks : List Nat) : Prop where
  names : ks.map (fun k => X.N[k]?) = (LamTab.lam i).caps.map some
  kind : ∀ y ∈ (LamTab.lam i).caps, X.env.scope.names.lookup y = some .cell ∨ X.env.scope.names.lookup y = some .free
  free : ∀ y ∈ (LamTab.lam i).caps, (LamTab.lam i).scope.names.lookup y = some .free
def OneR (X : Cx) (H : Hp) (ε : Ev) (p : Nat × List Nat) (d : D) (v : V) : Prop := ∃ ds f, d = .fn p.1 ds ∧ capsE ε p.2 = some ds ∧ v = .ref f ∧ LamAt X H p.1 f ∧ CapN X p.1 p.2
inductive OnesR (X : Cx) (H : Hp) (ε : Ev) : List (Nat × List Nat) → List D → List V → Prop
  | nil : OnesR X H ε [] [] []
  | cons {p : Nat × List Nat} {ps : List (Nat × List Nat)} {d : D} {ds : List D} {v : V} {vs : List V} : OneR X H ε p d v → OnesR X H ε ps ds vs → OnesR X H ε (p :: ps) (d :: ds) (v :: vs)
/-- what a call may be handed -/
inductive ArgR (X : Cx) (c : RC) (ε : Ev) : D → V → Prop
  | one {p : Nat × List Nat} {d : D} {v : V} : OneR X c.H ε p d v → ArgR X c ε d v
  | lst {ps : List (Nat × List Nat)} {ds : List D} {a : Addr} {vs : List V} : c.H a = some (.lst vs) → c.fr a → OnesR X c.H ε ps ds vs → ArgR X c ε (.lst ds) (.ref a)
theorem OneR.ext {X : Cx} {H H1 : Hp} {ε : Ev} {p : Nat × List Nat} {d : D} {v : V} (e : ExtN H H1) (h : OneR X H ε p d v) : OneR X H1 ε p d v := by
  obtain ⟨ds, f, h1, h2, h3, h4, h5⟩ := h
  exact ⟨ds, f, h1, h2, h3, h4.ext e, h5⟩
theorem OnesR.ext {X : Cx} {H H1 : Hp} {ε : Ev} (e : ExtN H H1) : ∀ {ps : List (Nat × List Nat)} {ds : List D} {vs : List V}, OnesR X H ε ps ds vs → OnesR X H1 ε ps ds vs
  | _, _, _, .nil => .nil
  | _, _, _, .cons h t => .cons (h.ext e) (t.ext e)
section
variable {X : Cx} {pins : List (Addr × Obj)} {σ : L2.St} {s : Shared} {c : RC} {ε : Ev} {eh : EH} {z : Addr → Option Obj}
theorem caps_show {cl : List (Str × Addr)} (I : Inv X pins σ c.H s) (sz : ShowZ X c.H s z) (sr : SR c eh) (er : EnvR c ε σ) (hcl : ∀ y b, cl.lookup y = some b → X.env.cells.lookup y = some b) {df : Bool} {dV : Value} (hdf : DfR (showC c z).H (showC c z).fr df dV) :
    ∀ {ys : List Str} {ks : List Nat} {ds : List D}, ks.map (fun k => X.N[k]?) = ys.map some → capsE ε ks = some ds → (∀ y ∈ ys, X.env.scope.names.lookup y = some .cell ∨ X.env.scope.names.lookup y = some .free) → (∀ y ∈ ys, ∃ b, cl.lookup y = some b) →
      ∃ vs, CapsR (showC c z).H cl (showC c z).fr df dV ys vs ∧ Reps c ds vs
  | [], [], ds, _, e, _, _ => by cases e; exact ⟨[], .nil hdf, .nil⟩
  | [], _ :: _, _, h, _, _, _ => by cases h
  | _ :: _, [], _, h, _, _, _ => by cases h
  | y :: ys, k :: ks, ds, h, e, hk, hl => by
    rw [List.map_cons, List.map_cons] at h
    obtain ⟨hN, ht⟩ := List.cons.inj h
    rw [capsE] at e
    cases q : ε.getD k none with
    | none => rw [q] at e; cases e
    | some d =>
      cases q2 : capsE ε ks with
      | none => rw [q, q2] at e; cases e
      | some ds' =>
        rw [q, q2] at e
        cases e
        obtain ⟨vs, h1, h2⟩ := caps_show I sz sr er hcl hdf ht q2 (fun y hy => hk y (List.mem_cons_of_mem _ hy)) fun y hy => hl y (List.mem_cons_of_mem _ hy)
        have qq : ε[k]? = some (some d) := by
          rw [List.getD_eq_getElem?_getD] at q
          cases z : ε[k]? with
          | none => rw [z] at q; cases q
          | some y => rw [z] at q; exact congrArg some q
        obtain ⟨v, g1, g2⟩ := er.at_ k d qq
        have ky := hk y (List.mem_cons_self ..)
        obtain ⟨m, hn, hloc⟩ := I.loc
        obtain ⟨u, r, lk⟩ := hloc k y v hN g1 (ky.elim (fun q => .inr (.inl q)) fun q => .inr (.inr q))
        obtain ⟨b, hb⟩ := hl y (List.mem_cons_self ..)
        have hb2 := hcl y b hb
        rcases lk with ⟨q, _⟩ | ⟨_, b', e', o, ho, hd⟩
        · have q : X.env.scope.names.lookup y = some .local := q
          rcases ky with k1 | k1 <;> rw [k1] at q <;> cases q
        · rw [hb2] at e'
          cases e'
          have hz := sz.all y b o hb2 ho
          refine ⟨v :: vs, .cons hb (show_in hz) ⟨fun q => ?_, List.not_mem_nil⟩ hd r h1, .cons g2 h2⟩
          have hno := sz.no b o hz
          rcases q.1 with q | q
          · obtain ⟨o', e⟩ := sr.bt b q
            rw [hno] at e; cases e
          · obtain ⟨o', e⟩ := sr.ex q
            rw [hno] at e; cases e
theorem one_show {p : Nat × List Nat} {d : D} {v : V} (I : Inv X pins σ c.H s) (sz : ShowZ X c.H s z) (sr : SR c eh) (er : EnvR c ε σ) (h : OneR X c.H ε p d v) (nr : noRef d = true) : Rep (showC c z) d v := by
  obtain ⟨ds, f, rfl, h2, rfl, ⟨dV, c', k1, k2, k3⟩, N⟩ := h
  have grow := show_grow sz.no
  have frx : ∀ {a φ}, c.H a = some (.ext φ) → (showC c z).fr a := fun {a φ} e => ⟨fun q => q.2 φ e, List.not_mem_nil⟩
  have hfree : ∀ y ∈ (LamTab.lam p.1).scope.names, y.2 = .free → True := fun _ _ _ => trivial
  obtain ⟨ck, _⟩ := ext_at I.hok k1
  have hdf : DfR (showC c z).H (showC c z).fr (LamTab.lam p.1).df dV := by
    rcases k3 with k3 | ⟨q, dt, t, e1, e2⟩
    · exact .inl k3
    · exact .inr ⟨q, dt, t, e1, grow _ _ e2, frx e2⟩
  have look : ∀ y ∈ (LamTab.lam p.1).caps, ∃ b, (cloFrom X.env.cells (LamTab.lam p.1).scope.names []).lookup y = some b := fun y hy => mem_lookup (cloFrom_has (cells := X.env.cells) (acc := []) (PySem.mem_of_lookup (N.free y hy)))
  have hcl : ∀ y b, (cloFrom X.env.cells (LamTab.lam p.1).scope.names []).lookup y = some b → X.env.cells.lookup y = some b := fun y b e => by
    rcases cloFrom_mem (PySem.mem_of_lookup e) with hm | ⟨h1, h2⟩
    · cases hm
    · obtain ⟨c1, hc⟩ := I.ok.has y (N.kind y (ck.1 y b e))
      have e2 : b = c1 := by
        rw [h2, hc] <;> rfl
      rw [e2]
      exact hc
  obtain ⟨vs, c1, c2⟩ := caps_show I sz sr er hcl hdf N.names h2 N.kind look
  obtain ⟨g1, g2, _⟩ := sr.grow grow
  exact .fn (grow _ _ k1) (frx k1) (grow _ _ k2) (frx k2) c1 ((c2.le g1).bare (fun a q => q.1) (by rw [noRef] at nr; exact nr))
theorem ones_show (I : Inv X pins σ c.H s) (sz : ShowZ X c.H s z) (sr : SR c eh) (er : EnvR c ε σ) : ∀ {ps : List (Nat × List Nat)} {ds : List D} {vs : List V}, OnesR X c.H ε ps ds vs → noRef.go ds = true → Reps (showC c z) ds vs
  | _, _, _, .nil, _ => .nil
  | _, _, _, .cons h t, nr => by
    rw [noRef.go, Bool.and_eq_true] at nr
    exact .cons (one_show I sz sr er h nr.1) (ones_show I sz sr er t nr.2)
theorem arg_show {d : D} {v : V} (I : Inv X pins σ c.H s) (sz : ShowZ X c.H s z) (sr : SR c eh) (er : EnvR c ε σ) (h : ArgR X c ε d v) (nr : noRef d = true) : Rep (showC c z) d v := by
  cases h with
  | one h => exact one_show I sz sr er h nr
  | lst h1 h2 h3 => exact .lst (show_grow sz.no _ _ h1) ⟨fun q => q.1.elim h2.1 h2.2, List.not_mem_nil⟩ (ones_show I sz sr er h3 (by rw [noRef] at nr; exact nr))
/-- the call -/
theorem lamG_call {W : WX} {k : Nat} {F : PF} {f : Addr} {fd : FuncData} {ps : List Str} {arg : D} {va : V} {ua : Value} {r : R D} {Q : VK} (hb : Binds X.K fd ps []) (hl : ps.length = 1) (Fo : FnOk X.prog X.w X.K X.mg X.base (L2.CX X.prog X.w) k f fd ps (SpP X.K X.mg 1 F)) (I : Inv X pins σ c.H s) (hfn : ∀ y, X.fn y = true)
    (hr : Room k X.A) (tk : Takes X W) (hK : c.K = X.K) (hm : MgE c X.mg) (sr : SR c eh) (er : EnvR c ε σ) (ar : ArgR X c ε arg va) (ra : RelV va ua) (nr : noRef arg = true) (e : F [arg] = some r) (pl : plainR r = true)
    (go : ∀ d, r = .ok d → ∀ c' v, c.Le c' → SR c' eh → Rep c' d v → Q v c'.H) (px : ∀ x, r = .ex x → ∀ c' cls dx, c.Le c' → SR c' eh → ExR c' x cls dx → W cls dx σ c'.H) :
    wpAny (model X.prog X.w) X.A (call (.ref f) [ua]) (EP X pins σ Q) X.xe s := by
  obtain ⟨z, sz⟩ := showZ I hfn
  have e0 := env0_show I.env0 sz.no sz.at_ sz.base
  obtain ⟨g1, g2, _⟩ := sr.grow (show_grow sz.no)
  have bt : ∀ a, (showC c z).B a → ∃ o, (showC c z).H a = some o := fun a q => by
    rcases q.1 with q | q
    · obtain ⟨o, e⟩ := sr.bt a q
      exact ⟨o, show_grow sz.no _ _ e⟩
    · obtain ⟨o, e⟩ := sr.ex q
      exact ⟨o, show_grow sz.no _ _ e⟩
  have back : ∀ c', (showC c z).Le c' → ∀ a u, c'.H a = some u → (∀ φ, u ≠ .ext φ) → c'.fr a → ¬ c.B a ∧ a ∉ c.ρ := fun c' l a u ea nx fa => by
    have key : ¬ (c.B a ∨ a ∈ c.ρ) := fun q => by
      obtain ⟨o, eo⟩ : ∃ o, c.H a = some o := q.elim (sr.bt a) fun q => sr.ex q
      by_cases hx : ∃ φ, o = .ext φ
      · obtain ⟨φ, rfl⟩ := hx
        have := (l.keep a _ (show_grow sz.no _ _ eo) (fun _ q => by cases q) List.not_mem_nil).1
        rw [ea] at this
        exact nx φ (Option.some.inj this)
      · exact fa.1 (l.B a ⟨q, fun φ z => hx ⟨φ, by rw [eo] at z; exact Option.some.inj z⟩⟩)
    exact ⟨fun q => key (.inl q), fun q => key (.inr q)⟩
  have hid : ∀ c', (showC c z).Le c' → ∀ a u, c'.H a = some u → (∀ φ, u ≠ .ext φ) → PX.hide z c'.H a = some u := fun c' l a u ea nx => by
    cases y : z a with
    | none => exact (hide_out y).trans ea
    | some o =>
      rw [show_in' l a o y] at ea
      exact (nx _ (Option.some.inj ea).symm).elim
  let Q1 : VK := fun v H' => ∃ d c2, r = .ok d ∧ (showC c z).Le c2 ∧ c2.ρ = [] ∧ Rep c2 d v ∧ c2.H = H'
  let E1 : XK := fun cls dx H' => ∃ x c2, r = .ex x ∧ (showC c z).Le c2 ∧ c2.ρ = [] ∧ ExR c2 x cls dx ∧ c2.H = H'
  have sp : SpP X.K X.mg 1 F [va] (PX.show_ z c.H) Q1 E1 := ⟨showC c z, [arg], r, hK, g1.mg.trans hm, rfl, rfl, bt, .cons (arg_show I sz sr er ar nr) .nil, rfl, e, fun d ed c' v l hρ rd => ⟨d, c', ed, l, hρ, rd, rfl⟩, fun x ex c' cls dx l hρ xr => ⟨x, c', ex, l, hρ, xr, rfl⟩⟩
  have rc := Fo.run X.A X.stack s (PX.show_ z c.H) ⟨[ua], []⟩ [ua] [va] Q1 E1 hr e0 (by
    have := hb s [ua] I.kIn (by rw [hl]; rfl)
    rwa [List.append_nil] at this) (.cons ra .nil) sp
  refine wpAny_call (codeAny_mono rc fun rr s' hq => ?_)
  have hq2 : CR (L2.CX X.prog X.w) X.stack X.prog X.w c.H s Q (fun cls d H' => W cls d σ H') rr s' := by
    refine cr_hide sz.no sz.at_ (fun v H' q => ?_) (fun cls dx H' q => ?_) hq
    · obtain ⟨d, c2, e1, l, hρ, rd, rfl⟩ := q
      obtain ⟨l2, s2⟩ := show_back sz.cel sz.no sr l
      refine ⟨show_in' l, go d e1 _ v l2 s2 ?_⟩
      subst e1
      exact Rep.unshow (c := c2) (c2 := { c2 with ρ := c.ρ, B := c.B, H := PX.hide z c2.H }) rfl rfl (hid c2 l) (back c2 l) hρ rd pl
    · obtain ⟨x, c2, e1, l, hρ, xr, rfl⟩ := q
      obtain ⟨l2, s2⟩ := show_back sz.cel sz.no sr l
      refine ⟨show_in' l, px x e1 _ cls dx l2 s2 ?_⟩
      subst e1
      obtain ⟨Ca, d, us, h1, h2, h3, h4, h5, h6⟩ := xr
      exact ⟨Ca, d, us, h1, h2, h3, hid c2 l _ _ h4 (fun _ q => by cases q), back c2 l _ _ h4 (fun _ q => by cases q) h5, RepF.unshow (c := c2) (c2 := { c2 with ρ := c.ρ, B := c.B, H := PX.hide z c2.H }) rfl rfl (hid c2 l) (back c2 l) hρ h6 pl⟩
  cases rr with
  | error e => exact passAt tk σ pins c.H s e s' I hq2
  | ok fl =>
    cases fl with
    | ret u => exact I.after hq2
    | next => exact False.elim hq2
    | brk => exact False.elim hq2
    | cont => exact False.elim hq2
end
end PD
namespace PD
open PySem PySem.Spec PyProof.Rows L2 PX LamX
variable [LamTab]
theorem SR.made {c : RC} {eh : EH} {H1 : Hp} (s : SR c eh) (m : Made c.H H1) : c.Le { c with H := H1 } ∧ SR { c with H := H1 } eh := by
  have l : c.Le { c with H := H1 } := by
    refine ⟨rfl, ⟨rfl, m.tabs⟩, fun _ h => h, fun _ h => .inl h, m.dom, fun _ _ h => h, fun a o e nt n => ⟨m.ext a o e nt, n⟩, fun a xs e => ?_, fun a o u e => m.ext a _ e fun _ q => by cases q⟩
    rcases e with e | ⟨u, e⟩
    · exact .inl (m.ext a _ e fun _ q => by cases q)
    · exact .inr ⟨u, m.ext a _ e fun _ q => by cases q⟩
  refine ⟨l, s.len, s.nd, fun n a k e1 e2 => ?_, s.nb, fun a b => ?_⟩
  · have r := s.cells n a k e1 e2
    obtain ⟨o, e⟩ := r.ex
    exact r.le l ((m.ext a o e fun ps q => by
      subst q
      exact r.noTab.1 ps e).trans e.symm)
  · obtain ⟨o, e⟩ := s.bt a b
    exact m.dom a o e
def finG (x : Option (R D)) (h : EH) : O D := match x with
  | some r => if plainR r = true then some (r, h) else none
  | none => none
def mLam1G (F : PF) (i : Nat) (ks : List Nat) : M D := fun ε h => match capsE ε ks with
  | some ds => if noRef.go ds = true then finG (F [.fn i ds]) h else none
  | none => none
inductive LamsX (X : Cx) : List Expr → List (Nat × List Nat) → Prop
  | nil : LamsX X [] []
  | cons {i : Nat} {ks : List Nat} {c P : Addr} {pos : Pos} {es : List Expr} {ps : List (Nat × List Nat)} : LamW X i c P → CapN X i ks → LamsX X es ps → LamsX X (.Lambda (LamTab.lam i).params (LamTab.lam i).body (LamTab.lam i).scope pos :: es) ((i, ks) :: ps)
inductive LamAts (X : Cx) (H : Hp) : List (Nat × List Nat) → List V → Prop
  | nil : LamAts X H [] []
  | cons {p : Nat × List Nat} {ps : List (Nat × List Nat)} {f : Addr} {vs : List V} : LamAt X H p.1 f → LamAts X H ps vs → LamAts X H (p :: ps) (.ref f :: vs)
theorem LamAts.ext {X : Cx} {H H1 : Hp} (e : ExtN H H1) : ∀ {ps : List (Nat × List Nat)} {vs : List V}, LamAts X H ps vs → LamAts X H1 ps vs
  | _, _, .nil => .nil
  | _, _, .cons h t => .cons (h.ext e) (t.ext e)
theorem LamsX.names {X : Cx} : ∀ {es : List Expr} {ps : List (Nat × List Nat)}, LamsX X es ps → ∀ p ∈ ps, CapN X p.1 p.2
  | _, _, .nil, _, h => by cases h
  | _, _, .cons W N t, p, h => by
    rcases List.mem_cons.mp h with h | h
    · rw [h]; exact N
    · exact t.names p h
theorem LamAts.length {X : Cx} {H : Hp} : ∀ {ps : List (Nat × List Nat)} {vs : List V}, LamAts X H ps vs → vs.length = ps.length
  | _, _, .nil => rfl
  | _, _, .cons _ t => by rw [List.length_cons, List.length_cons, t.length]
def PostG (X : Cx) (W : WX) (F : PF) (σ : L2.St) (va : V) (H1 : Hp) (Q : VK) : Prop := ∃ (c : RC) (ε : Ev) (eh : EH) (arg : D) (r : R D), c.K = X.K ∧ MgE c X.mg ∧ c.H = H1 ∧ SR c eh ∧ EnvR c ε σ ∧ ArgR X c ε arg va ∧ noRef arg = true ∧ F [arg] = some r ∧ plainR r = true ∧
  (∀ d, r = .ok d → ∀ c' v, c.Le c' → SR c' eh → Rep c' d v → Q v c'.H) ∧ (∀ x, r = .ex x → ∀ c' cls dx, c.Le c' → SR c' eh → ExR c' x cls dx → W cls dx σ c'.H)
section
variable {X : Cx} {W : WX}
theorem pe_lamG {x : Str} {p pos : Pos} {e : Expr} {te : TE} {k j : Nat} {F : PF} (G : FnP X.prog X.w X.K X.mg X.base x k 1 F) (hr : Room j X.A) (tk : Takes X W) (hfn : ∀ y, X.fn y = true) (he : PE X e te) (hk : k ≤ j := by decide) (hg : Gl X x := by rfl)
    (hdb : (x == ("__debug__" : Str)) = false := by decide) (hse : starEach [e] X.env = (false, eval e X.env) :: starEach [] X.env := by rfl) (hpl : (backTo pos (starEach [] X.env)).any (·.1) = false := by rfl) :
    PE X (.Call (.Name x p) [e] [] pos) (fun σ H Q => tCons te tNil σ H fun vs H1 => ∃ va, vs = [va] ∧ PostG X W F σ va H1 Q) := by
  obtain ⟨f, fd, ps, hm, hkp, hb, hl, Fo⟩ := G.ex
  refine ⟨fun pins s σ H Q I h => ?_⟩
  refine wpAny_Call_Name_kw (ld_glob I hg hm ?_ hdb)
  refine PySem.W.callWith_K (h₀ := X.base) I.ok.mod.kin hkp (thn ((pa_cons he pa_nil hse).run pos pins s σ H (fun vs H1 => ∃ va, vs = [va] ∧ PostG X W F σ va H1 Q) I h) fun us s1 ⟨vs, H1, I1, r, q⟩ => ⟨I1.kIn, ?_⟩) hse hpl
  obtain ⟨va, rfl, c, ε, eh, arg, r1, hK, hmg, rfl, sr, er, ar, nr, e1, pl, go, px⟩ := q
  cases r with
  | cons ra rt =>
    cases rt
    exact lamG_call hb hl Fo I1 hfn (hr.mono hk) tk hK hmg sr er ar ra nr e1 pl go px
theorem finG_some {x : Option (R D)} {h h' : EH} {r : R D} (e : finG x h = some (r, h')) : x = some r ∧ h' = h ∧ plainR r = true := by
  cases x with
  | none => cases e
  | some r0 =>
    have e : (if plainR r0 = true then some (r0, h) else none) = some (r, h') := e
    by_cases q : plainR r0 = true
    · rw [if_pos q] at e
      cases e
      exact ⟨rfl, rfl, q⟩
    · rw [if_neg q] at e; cases e
/-- G(lambda: ..) -/
theorem re_lam1G {x : Str} {p pos lpos : Pos} {i : Nat} (ks : List Nat) {c0 P0 : Addr} {k j : Nat} {F : PF} (G : FnP X.prog X.w X.K X.mg X.base x k 1 F) (hr : Room j X.A) (tk : Takes X W) (hfn : ∀ y, X.fn y = true) (LW : LamW X i c0 P0) (N : CapN X i ks) (hk : k ≤ j := by decide) (hg : Gl X x := by rfl)
    (hdb : (x == ("__debug__" : Str)) = false := by decide) : RE X W (.Call (.Name x p) [.Lambda (LamTab.lam i).params (LamTab.lam i).body (LamTab.lam i).scope lpos] [] pos) (mLam1G F i ks) := by
  refine pe_imp (pe_lamG G hr tk hfn (pe_lam LW) hk hg hdb rfl rfl) fun σ H Q h => ?_
  obtain ⟨c, ε, h, r', h', hK, hm, rfl, sr, er, e, px, go⟩ := h
  unfold mLam1G at e
  cases q : capsE ε ks with
  | none => rw [q] at e; cases e
  | some ds =>
    rw [q] at e
    have e : (if noRef.go ds = true then finG (F [.fn i ds]) h else none) = some (r', h') := e
    by_cases nr : noRef.go ds = true
    · rw [if_pos nr] at e
      obtain ⟨e1, rfl, pl⟩ := finG_some e
      refine ⟨hm.t trivial, fun f H1 md la => ⟨.ref f, rfl, ?_⟩⟩
      obtain ⟨l1, s1⟩ := sr.made md
      exact ⟨{ c with H := H1 }, ε, h', .fn i ds, r', hK, l1.mg.trans hm, rfl, s1, er.le l1, .one (p := (i, ks)) ⟨ds, f, rfl, q, rfl, la, N⟩, by rw [noRef]; exact nr, e1, pl, fun d ed c' v l s r => go d ed c' v (l1.trans l) s r, fun x ex c' cls dx l s xr => px x ex c' cls dx (l1.trans l) s xr⟩
    · rw [if_neg nr] at e; cases e
end
end PD
namespace PD
open PySem PySem.Spec PyProof.Rows L2 PX LamX
variable [LamTab]
abbrev LA := RC → L2.St → Prop
/-- x (at ix) holds the list of the lambdas -/
def LAt (X : Cx) (ix : Nat) (ps : List (Nat × List Nat)) : LA := fun c σ => ∃ (a : Addr) (vs : List V), σ[ix]? = some (some (.ref a)) ∧ c.H a = some (.lst vs) ∧ c.fr a ∧ LamAts X c.H ps vs
def tXc (Φ : LA) {α β : Type} (Rl : RC → α → β → Prop) (K : PySem.W.Frag) (mg : Str → Option Value) (W : WX) (m : M α) : L2.St → Hp → (β → Hp → Prop) → Prop := fun σ H Q =>
  ∃ (c : RC) (ε : Ev) (h : EH) (r : R α) (h' : EH), c.K = K ∧ MgE c mg ∧ c.H = H ∧ SR c h ∧ EnvR c ε σ ∧ m ε h = some (r, h') ∧ Px W c σ r h' ∧
    (∀ a, r = .ok a → ∀ c' b, c.Le c' → SR c' h' → Rl c' a b → Q b c'.H) ∧ Φ c σ
theorem tXc.bind {Φ : LA} {α β γ : Type} {Rl : RC → α → β → Prop} {K : PySem.W.Frag} {mg : Str → Option Value} {W : WX} {m : M α} {k : α → EH → O γ} {c : RC} {ε : Ev} {h h' : EH} {r : R γ} {σ : L2.St} {Q : β → Hp → Prop}
    (hK : c.K = K) (hm : MgE c mg) (sr : SR c h) (er : EnvR c ε σ) (e : bR (m ε h) k = some (r, h')) (px : Px W c σ r h') (la : Φ c σ)
    (go : ∀ a h1 c1 b, k a h1 = some (r, h') → c.Le c1 → SR c1 h1 → Rl c1 a b → Q b c1.H) : tXc Φ Rl K mg W m σ c.H Q := by
  cases q : m ε h with
  | none => rw [q] at e; cases e
  | some z =>
    obtain ⟨r1, h1⟩ := z
    cases r1 with
    | ok a =>
      rw [q] at e
      exact ⟨c, ε, h, .ok a, h1, hK, hm, rfl, sr, er, q, Px.ok, fun a' ea c1 b l s rb => by cases ea; exact go a h1 c1 b e l s rb, la⟩
    | ex x =>
      rw [q] at e
      cases e
      exact ⟨c, ε, h, .ex x, _, hK, hm, rfl, sr, er, q, fun y ey => px y (by cases ey; rfl), fun a' ea => (nomatch ea), la⟩
end PD
namespace PD
open PySem PySem.Spec PyProof.Rows L2 PX
variable [LamTab]
/-- the class C: caught by the tuple, its fields are its own -/
structure TryC (K : PySem.W.Frag) (mg : Str → Option Value) (cs : List Value) (chain : List (Str × Str)) (C : Str) : Prop where
  ex : ∃ Ca, mg C = some (.ref Ca) ∧ PySem.W.exmAny K (.ref Ca) cs = some true ∧ FldC K Ca chain
def chainD : List (List Nat × Str) → List Nat → List (Str × D) → Option D
  | [], _, _ => some (.tup [])
  | (x, f) :: r, cs, fs => if cs = x then (fs.lookup f).map fun d => .tup [d] else chainD r cs fs
def chainL (chain : List (Str × Str)) : List (List Nat × Str) := chain.map fun p => (p.1.cps.toList, p.2)
def tryEnd (CL : List Str) (ch : List (List Nat × Str)) (i : Nat) (x : Ex) (ε : Ev) (h : EH) : Option (RS × EH) :=
  if (CL.contains x.cls && decide (i < ε.length)) = true then match x.fs.lookup ("code" : Str) with
    | some (.str cs) => (chainD ch cs x.fs).map fun d => (.rt (.tup [.str cs, d]), h)
    | _ => none
  else none
def msTryT (CL : List Str) (ch : List (List Nat × Str)) (i : Nat) (mb : MS) : MS := fun ε h => match mb ε h with
  | some (.rt d, h1) => some (.rt d, h1)
  | some (.ex x ε1, h1) => tryEnd CL ch i x ε1 h1
  | _ => none
/-- what the chain gives -/
theorem fldchain_of {c : RC} {h : EH} {fs : List (Str × D)} {vs : List (Str × V)} {cs : List Nat} {Q : VK} (rf : RepF c fs vs) (sr : SR c h) : ∀ {chain : List (Str × Str)} {d : D}, chainD (chainL chain) cs fs = some d →
    (∀ c' v, c.Le c' → SR c' h → Rep c' d v → Q v c'.H) → chainQ chain (⟨cs.toArray⟩ : Str) vs c.H Q
  | [], d, e, go => by
    cases e
    intro t nt
    obtain ⟨l, s, f⟩ := sr.new (o := .tup []) nt
    exact go _ _ l s (.tup (.inl (.inl upd_same)) .nil)
  | (x, f) :: r, d, e, go => by
    have e : (if cs = x.cps.toList then (fs.lookup f).map fun d => D.tup [d] else chainD (chainL r) cs fs) = some d := e
    unfold chainQ
    by_cases q : cs = x.cps.toList
    · rw [if_pos q] at e
      rw [if_pos (by subst q; rfl)]
      cases q2 : fs.lookup f with
      | none => rw [q2] at e; cases e
      | some d0 =>
        rw [q2] at e
        cases e
        obtain ⟨v, h1, h2⟩ := rf.look q2
        refine ⟨v, h1, fun t nt => ?_⟩
        obtain ⟨l, s, f⟩ := sr.new (o := .tup [v]) nt
        exact go _ _ l s (.tup (.inl (.inl upd_same)) (.cons (h2.le l) .nil))
    · rw [if_neg q] at e
      rw [if_neg (by rintro rfl; exact q rfl)]
      exact fldchain_of rf sr e go
theorem chainQ_mono {cs : Str} {vs : List (Str × V)} {H : Hp} {Q Q' : VK} : ∀ {chain : List (Str × Str)}, chainQ chain cs vs H Q → (∀ v H, Q v H → Q' v H) → chainQ chain cs vs H Q'
  | [], h, k => fun t n => k _ _ (h t n)
  | (x, f) :: r, h, k => by
    unfold chainQ at h ⊢
    by_cases q : cs = x
    · rw [if_pos q] at h ⊢
      obtain ⟨v, h1, h2⟩ := h
      exact ⟨v, h1, fun t n => k _ _ (h2 t n)⟩
    · rw [if_neg q] at h ⊢
      exact chainQ_mono h k
section
variable {X : Cx} {W : WX}
theorem rs_tryT (i : Nat) {x1 x2 x3 n g : Str} {c1 c2 c3 : Value} {kk k2 kf : Nat} {body : List Stmt} {q1 q2 q3 tp pos pos' p1 p2 p3 p4 p5 p6 p7 : Pos} {CL : List Str} {chain : List (Str × Str)} {mb : MS} {fG : Addr} (hs : X.stack = X.env :: X.outer) (hf : X.env.frame = some X.env.locals) (hN : X.N.Nodup) (h1 : Names X x1 c1) (h2 : Names X x2 c2) (h3 : Names X x3 c3)
    (hC : ∀ C ∈ CL, TryC X.K X.mg [c1, c2, c3] chain C) (GF : FldOk X.prog X.w X.K X.mg X.base kf fG chain) (hmG : X.mg g = some (.ref fG)) (hkG : PySem.W.keepIn X.K (.ref fG) = true) (hr : Room kf X.A)
    (hb : ∀ (W : WX) (pn : List (Addr × Obj)) (xe : Value → Shared → Prop), Takes (X.tr pn xe) W → PassesOwn (model X.prog X.w) X.A X.env xe → RSs (X.tr pn xe) W body mb)
    (hi : X.N[i]? = some n := by rfl) (hln : X.env.kindOf n = some .local := by rfl) (hgG : Gl X g := by rfl) (hdn : (n == ("__debug__" : Str)) = false := by decide) (hcn : (n == ("__classdict__" : Str)) = false := by decide) (hdg : (g == ("__debug__" : Str)) = false := by decide) :
    RSt X W (.Try body [.ExceptHandler (some (.Tuple [.Name x1 q1, .Name x2 q2, .Name x3 q3] kk tp)) (some n) [.Return (some (.Tuple [.Attribute (.Name n p1) "code" p2, .Call (.Name g p3) [.Name n p4] [] p5] k2 p6)) p7] pos'] [] [] pos) (msTryT CL (chainL chain) i mb) := by
  have hv : Vis X.env.scope n := .inl hln
  refine ps_imp (ps_try3 (X := X) (c1 := c1) (c2 := c2) (c3 := c3) (i := i) (tb := fun W => tS X.K X.mg W mb)
    (ts := fun a cls d D σ H => ∃ (C d' : Addr), cls = .ref C ∧ d = some d' ∧ FldC X.K C chain ∧ σ[i]? = some (some (.ref a)) ∧ ∃ (fs : List (Str × V)) (cs : Str), H d' = some (.xd fs) ∧ fs.lookup ("code" : Str) = some (.str cs) ∧
      chainQ chain cs fs H fun v H1 => ∀ p, H1 p = none → D.rt (.ref p) (upd H1 p (.tup [.str cs, v])))
    hs hf hN hi hln h1 h2 h3 hb (fun a oe cls d pn hz hfs => ?_)) fun D σ H h => ?_
  · refine ⟨fun pins s σ H D I h => ?_⟩
    obtain ⟨C, d', rfl, rfl, FC, hσ, fs, cs, e1, e2, hq⟩ := h
    have hpf := pe_pfld (X := X.suite a ((a, oe) :: pn)) (p := (a, oe)) (pos := p2) (n := "code") List.mem_cons_self FC.xf FC.code hz hfs (pe_var (X := X.suite a ((a, oe) :: pn)) (pos := p1) (i := i) hi hv hdn hcn) rfl
    have hfc := pe_fldcall (X := X) (a := a) (pn := pn) (q1 := p3) (q2 := p4) (pos := p5) GF hr hgG hmG hkG hz hfs FC hi hv hdn hcn hdg
    refine (pss_one (ps_ret (pos := p7) (pe_tup (x1 := k2) (pos := p6) (pa_cons hpf (pa_cons hfc pa_nil rfl) rfl)))).run pins s σ H D I ?_
    refine ⟨.ref a, hσ, rfl, fs, .str cs, e1, e2, hσ, fs, cs, e1, e2, ?_⟩
    exact chainQ_mono hq fun v H1 k => ⟨by show 2 ≤ sizeLine; rw [sizeLine_eq]; omega, k⟩
  · obtain ⟨c, ε, h, r, h', hK, hm, rfl, sr, er, e, fin⟩ := h
    unfold msTryT at e
    cases q : mb ε h with
    | none => rw [q] at e; cases e
    | some z =>
      obtain ⟨r1, h1'⟩ := z
      rw [q] at e
      refine ⟨c, ε, h, r1, h1', hK, hm, rfl, sr, er, q, ?_⟩
      cases r1 with
      | rt d => cases e; exact fin
      | nx ε1 => cases e
      | bk ε1 => cases e
      | ct ε1 => cases e
      | ex x ε1 =>
        have e : tryEnd CL (chainL chain) i x ε1 h1' = some (r, h') := e
        unfold tryEnd at e
        by_cases hc : (CL.contains x.cls && decide (i < ε1.length)) = true
        · rw [if_pos hc] at e
          rw [Bool.and_eq_true, decide_eq_true_eq] at hc
          cases q2 : x.fs.lookup ("code" : Str) with
          | none => rw [q2] at e; cases e
          | some dc =>
            rw [q2] at e
            cases dc with
            | str cs =>
              have e : ((chainD (chainL chain) cs x.fs).map fun d => (RS.rt (.tup [.str cs, d]), h1')) = some (r, h') := e
              cases q3 : chainD (chainL chain) cs x.fs with
              | none => rw [q3] at e; cases e
              | some dd =>
                rw [q3] at e
                cases e
                intro c' σ' cls dx l s en xr
                obtain ⟨Ca, d, vs, rfl, e2, rfl, e4, e5, e6⟩ := xr
                obtain ⟨Ca', m1, m2, FC⟩ := (hC x.cls (List.contains_iff_mem.mp hc.1)).ex
                have : Ca' = Ca := by
                  have e2' : X.mg x.cls = some (.ref Ca) := by rw [← (l.mg.trans hm).mge]; exact e2
                  rw [m1] at e2'
                  cases e2'
                  rfl
                subst this
                refine ⟨m2, fun a na => ⟨Ca', d, rfl, rfl, FC, List.getElem?_set_self (by rw [← en.len]; exact hc.2), vs, ⟨cs.toArray⟩, e4, ?_, ?_⟩⟩
                · obtain ⟨v, g1, g2⟩ := e6.look q2
                  cases g2
                  exact g1
                · refine fldchain_of e6 s q3 fun c2 v l2 s2 rv p np => ?_
                  obtain ⟨l3, s3, f3⟩ := s2.new (o := .tup [.str ⟨cs.toArray⟩, v]) np
                  exact fin _ _ ((l.trans l2).trans l3) s3 (.tup (.inl (.inl upd_same)) (.cons (.str cs) (.cons (rv.le l3) .nil)))
            | _ => cases e
        · rw [if_neg hc] at e; cases e
end
end PD
namespace PD
open PySem PySem.Spec PyProof.Rows L2 PX
theorem oexB_ok {K : PySem.W.Frag} {C : Addr} (h : oexB K C = true) : OexC K C := by
  unfold oexB at h
  obtain ⟨h1, h⟩ := Bool.and_eq_true_iff.mp h
  obtain ⟨h2, h⟩ := Bool.and_eq_true_iff.mp h
  obtain ⟨h3, h⟩ := Bool.and_eq_true_iff.mp h
  obtain ⟨h4, h5⟩ := Bool.and_eq_true_iff.mp h
  refine ⟨?_, of_decide_eq_true h2, of_decide_eq_true h3, of_decide_eq_true h4, h5⟩
  cases q : K.lookup C with
  | none => rw [q] at h1; cases h1
  | some o =>
    obtain ⟨oc, od, dt, sl⟩ := o
    rw [q] at h1
    cases oc with
    | type t =>
      cases dt with
      | cls cd =>
        obtain ⟨g1, g⟩ := Bool.and_eq_true_iff.mp h1
        have g1 := of_decide_eq_true g1
        subst g1
        obtain ⟨nm, bs, mro, ns, qn, hdct, sn, sub, ab, col, hdel⟩ := cd
        obtain ⟨sl⟩ := sl
        match mro, sl, g with
        | .ref C' :: bm, [k0, k1, k2, k3, some (.builtin n), k5], g =>
          obtain ⟨a1, a⟩ := Bool.and_eq_true_iff.mp g
          obtain ⟨a2, a⟩ := Bool.and_eq_true_iff.mp a
          obtain ⟨a3, a⟩ := Bool.and_eq_true_iff.mp a
          obtain ⟨a4, a5⟩ := Bool.and_eq_true_iff.mp a
          have a1 := of_decide_eq_true a1
          have a2 := of_decide_eq_true a2
          have a3 : (!hdel) = true := a3
          have a4 : hdct = true := a4
          subst a1 a2 a4
          have a3 : hdel = false := by simpa using a3
          subst a3
          exact ⟨nm, qn, ns, bs, bm, sn, sub, ab, col, od, k0, k1, k2, k3, k5, rfl, a5⟩
      | _ => cases h1
    | _ => cases h1
theorem overB_ok {K : PySem.W.Frag} {T C : Addr} (h : overB K T C = true) : OverT K T C := by
  unfold overB at h
  obtain ⟨h1, h⟩ := Bool.and_eq_true_iff.mp h
  obtain ⟨h2, h⟩ := Bool.and_eq_true_iff.mp h
  obtain ⟨h3, h⟩ := Bool.and_eq_true_iff.mp h
  obtain ⟨h4, h5⟩ := Bool.and_eq_true_iff.mp h
  exact ⟨oexB_ok h1, of_decide_eq_true h2, of_decide_eq_true h3, of_decide_eq_true h4, of_decide_eq_true h5⟩
theorem clsfnB_ok {K : PySem.W.Frag} {T : Addr} (h : clsvB K T = true) : ClsFn K T "__init__" (He.ma K T "__init__") := by
  unfold clsvB at h
  obtain ⟨h1, h⟩ := Bool.and_eq_true_iff.mp h
  obtain ⟨h2, h⟩ := Bool.and_eq_true_iff.mp h
  obtain ⟨h3, h⟩ := Bool.and_eq_true_iff.mp h
  obtain ⟨h4, h5⟩ := Bool.and_eq_true_iff.mp h
  refine ⟨h1, of_decide_eq_true h2, ?_, of_decide_eq_true h4, h5⟩
  split at h3
  · rename_i f e
    rw [e, of_decide_eq_true h3]
  · cases h3
/-- the text of an __init__ that says super() -/
structure SupT (P : Program) (d : SupD) : Prop where
  body : supBody d.body
  self : ∃ ar, (d.params.posonlyargs ++ d.params.args).head? = some ar ∧ ar.arg = "self"
  cell : ∀ x ∈ d.scope.names, x.2 ≠ .cell
  free : ∀ x ∈ d.scope.names, x.2 = .free → x.1 = "__class__"
  l1 : d.scope.names.lookup ("super" : Str) = some .globalImplicit
  l2 : d.scope.names.lookup ("__class__" : Str) = some .free
  l3 : d.scope.names.lookup ("self" : Str) = some .local
  l4 : d.scope.names.lookup ("code" : Str) = some .local
  kind : d.scope.kind = .function
  co : d.scope.isCoroutine = false
  gen : d.scope.isGenerator = false
  top : (P.main.scope.names.lookup ("super" : Str)).isSome = false
  bind : ∀ (doc pm : Value) (an : Option Addr) (cdv ct : Value) (cc : Addr) (us : List Value), us.length = 2 → bindArgs (PySem.W.ksFn "__init__" d.qual d.params d.body d.scope .none .none doc pm an cdv ct cc) ⟨us, []⟩ = pure ((["self", "code"] : List Str).zip us)
theorem sup_of {P : Program} {K : PySem.W.Frag} {d : SupD} (h : supB K P.main.file d = true) (e : fnC K (d.at_ K) = d.val) (T : SupT P d) : ∃ fd, SupI P K (He.ga K d.C) (d.at_ K) fd ∧ Binds K fd ["self", "code"] [] := by
  unfold supB at h
  obtain ⟨h1, h⟩ := Bool.and_eq_true_iff.mp h
  obtain ⟨h2, h⟩ := Bool.and_eq_true_iff.mp h
  obtain ⟨h3, h4⟩ := Bool.and_eq_true_iff.mp h
  unfold fnC at e
  cases q : K.lookup (d.at_ K) with
  | none => rw [q] at h1; cases h1
  | some o =>
    obtain ⟨oc, od, dt, osl⟩ := o
    rw [q] at h1 e
    cases dt with
    | func fd =>
      obtain ⟨n1, n2, n3, n4, n5, n6, n7, n8, n9, n10, n11, n12, n13, n14, n15⟩ := fd
      have e2 : ((some (n1, n2, n3, n4, n5, n6, n7.map (·.1), n15) : FnC) = (some (("__init__" : Str), d.qual, d.params, .stmts d.body, d.scope, mainGlobals, [("__class__" : Str)], builtinsNs) : FnC)) := e
      simp only [Option.some.injEq, Prod.mk.injEq] at e2
      obtain ⟨e2a, e2b, e2c, e2d, e2e, e2f, e2g, e2h⟩ := e2
      subst e2a e2b e2c e2d e2e e2f e2h
      obtain ⟨g1, g⟩ := Bool.and_eq_true_iff.mp h1
      obtain ⟨g2, g3⟩ := Bool.and_eq_true_iff.mp g
      match n7, e2g, g2 with
      | [(y, cc)], e2g, g2 =>
        have ey : y = "__class__" := by simpa using e2g
        subst ey
        have g2 : (match K.lookup cc with
          | some ⟨_, _, .cell (some (.ref T)), _⟩ => decide (T = He.ga K d.C)
          | _ => false) = true := g2
        obtain ⟨oc3, od3, sl3, hcc⟩ : ∃ oc3 od3 sl3, K.lookup cc = some ⟨oc3, od3, .cell (some (.ref (He.ga K d.C))), sl3⟩ := by
          cases qc : K.lookup cc with
          | none => rw [qc] at g2; cases g2
          | some o =>
            obtain ⟨a1, a2, a3, a4⟩ := o
            rw [qc] at g2
            cases a3 with
            | cell v =>
              cases v with
              | none => cases g2
              | some v =>
                cases v with
                | ref T' =>
                  have g2 : decide (T' = He.ga K d.C) = true := g2
                  rw [of_decide_eq_true g2]
                  exact ⟨_, _, _, rfl⟩
                | _ => cases g2
            | _ => cases g2
        have hnn : n8 = .none ∧ n9 = .none := by
          clear e h1 g g1 g2 q
          cases n8 <;> first | (cases n9 <;> first | exact ⟨rfl, rfl⟩ | cases g3) | cases g3
        obtain ⟨rfl, rfl⟩ := hnn
        cases n13 with
        | ref cda =>
          have g1 : (PySem.W.codeIn K (.ref cda) d.qual && (match K.lookup cda with
            | some ⟨_, _, .fields vs, _⟩ => (match (vs[2]? : Option Value) with
              | some (.str file _) => P.main.file == file
              | _ => false)
            | _ => false)) = true := g1
          obtain ⟨b1, b2⟩ := Bool.and_eq_true_iff.mp g1
          obtain ⟨ar, ha1, ha2⟩ := T.self
          obtain ⟨oc2, od2, vs2, sl2, file, tf, hcda, hvs, hfile⟩ : ∃ oc2 od2 vs2 sl2 file tf, K.lookup cda = some ⟨oc2, od2, .fields vs2, sl2⟩ ∧ (vs2[2]? : Option Value) = some (.str file tf) ∧ ((P.main.file : Str) == file) = true := by
            cases qc : K.lookup cda with
            | none => rw [qc] at b2; cases b2
            | some o =>
              obtain ⟨a1, a2, a3, a4⟩ := o
              rw [qc] at b2
              cases a3 with
              | fields vs =>
                have b2 : (match (vs[2]? : Option Value) with
                  | some (.str file _) => P.main.file == file
                  | _ => false) = true := b2
                split at b2
                · rename_i file tf e
                  exact ⟨_, _, vs, _, file, tf, rfl, e, b2⟩
                · cases b2
              | _ => cases b2
          obtain ⟨cd, hcd⟩ := Option.isSome_iff_exists.mp h2
          exact ⟨_, ⟨⟨d.qual, d.params, ar, d.body, d.scope, oc, od, .none, .none, n10, n11, n12, cda, cc, n14, osl, rfl, T.body, q, b1, ha1, ha2, ⟨oc2, od2, vs2, sl2, file, tf, hcda, hvs, hfile⟩, ⟨oc3, od3, sl3, hcc⟩, T.cell, T.free, T.l1, T.l2, T.l3, T.l4, T.kind, T.co, T.gen⟩, ⟨cd, hcd⟩, of_decide_eq_true h3, T.top, of_decide_eq_true h4⟩, Binds.all fun us hl => T.bind n10 n11 n12 (.ref cda) n14 cc us hl⟩
        | _ => cases g1
    | _ => cases h1
section
variable {P : Program} {w : World} {K : PySem.W.Frag} {mg : Str → Option Value} {base : Heap}
theorem topI_of {d : SupD} (hm : mg d.C = some (.ref (He.ga K d.C))) (h : supB K P.main.file d = true) (e : fnC K (d.at_ K) = d.val) (T : SupT P d) (c : clsvB K (He.ga K d.C) = true) : TopI P w K mg base (L2.CX P w) d.C (He.ga K d.C) := by
  obtain ⟨fd, S, b⟩ := sup_of h e T
  exact ⟨_, fd, hm, clsfnB_ok c, sup_init S, b⟩
theorem excC_of0 [LamTab] {C x code qual : Str} {params : Arguments} {body : List Stmt} {scope : Scope} {fd : FuncData} (hm : mg C = some (.ref (He.ga K C))) (ov : overB K (He.ga K x) (He.ga K C) = true) (ib : initB K (He.ga K C) = true) (G : TopI P w K mg base (L2.CX P w) x (He.ga K x))
    (Fd : FunD K "__init__" qual params body scope [] [] (He.ma K (He.ga K C) "__init__") fd) (S : FnScope ["self"] ["self"] scope) (hb : xBody0 x code body) (bi : Binds K fd ["self"] []) (hg : scope.names.lookup x = some .globalImplicit := by rfl) (hdb : (x == ("__debug__" : Str)) = false := by decide)
    (hs : scope.names.lookup ("self" : Str) = some .local := by rfl) : ExcC P w K mg base C none code := by
  obtain ⟨i1, i2⟩ := Bool.and_eq_true_iff.mp ib
  exact ⟨_, _, _, fd, "", hm, overB_ok ov, of_decide_eq_true i1, of_decide_eq_true i2, exc_init0 Fd S hb hg hdb hs G, bi⟩
theorem excC_of1 [LamTab] {C x code f prm qual : Str} {params : Arguments} {body : List Stmt} {scope : Scope} {fd : FuncData} (hm : mg C = some (.ref (He.ga K C))) (ov : overB K (He.ga K x) (He.ga K C) = true) (ib : initB K (He.ga K C) = true) (nb : noB K (He.ga K C) f = true) (G : TopI P w K mg base (L2.CX P w) x (He.ga K x))
    (Fd : FunD K "__init__" qual params body scope [] [] (He.ma K (He.ga K C) "__init__") fd) (S : FnScope ["self", prm] ["self", prm] scope) (hb : xBody1 x code f prm body) (bi : Binds K fd ["self", prm] []) (hg : scope.names.lookup x = some .globalImplicit := by rfl) (hdb : (x == ("__debug__" : Str)) = false := by decide)
    (hs : scope.names.lookup ("self" : Str) = some .local := by rfl) (hp : scope.names.lookup prm = some .local := by rfl) (hpd : (prm == ("__debug__" : Str)) = false := by decide) (hpc : (prm == ("__classdict__" : Str)) = false := by decide) : ExcC P w K mg base C (some f) code := by
  obtain ⟨i1, i2⟩ := Bool.and_eq_true_iff.mp ib
  exact ⟨_, _, _, fd, prm, hm, overB_ok ov, of_decide_eq_true i1, of_decide_eq_true i2, of_decide_eq_true nb, exc_init1 Fd S hb hg hdb hs hp hpd hpc G, bi⟩
theorem tryC_of {C : Str} {xs : List Str} {chain : List (Str × Str)} (hm : mg C = some (.ref (He.ga K C))) (h : tryB K xs (chain.map (·.2)) C = true) : TryC K mg (xs.map fun x => .ref (He.ga K x)) chain C := by
  obtain ⟨h1, h⟩ := Bool.and_eq_true_iff.mp h
  obtain ⟨h2, h⟩ := Bool.and_eq_true_iff.mp h
  obtain ⟨h3, h4⟩ := Bool.and_eq_true_iff.mp h
  exact ⟨_, hm, of_decide_eq_true h1, xfB_ok h2, of_decide_eq_true h3, fun q hq => of_decide_eq_true (List.all_eq_true.mp h4 q.2 (List.mem_map_of_mem hq))⟩
end
end PD
namespace PD
open PySem PySem.Spec PyProof.Rows L2 PX LamX
theorem walk_pdT {l : PySem.W.OpenLaw} {n k : Nat} {q : Program} {loose : List Str} {XP : (Str → Option Value) → Heap → Prop} {YP : World → Heap → Prop} {d : DefRec} {x : Str} {Fl : IF} {lams : Nat → LamD}
    (hn : l.most = some n) (hn2 : n ≤ sizeLine) (hdf : d.params.defaults = []) (hr : Room k callerA)
    (F : ∀ (w : World) (mg : Str → Option Value) (fa : Addr) (h : Heap), YP w h → h.Ns mainGlobals mg → mg d.name = some (.ref fa) →
      ∃ (K : PySem.W.Frag) (fd : FuncData) (cs : List (Addr × Addr)) (T : List (Addr × Str)), K.In h ∧ (∀ p ∈ cs, h.get? p.2 = some { cls := .none, data := .fields #[] }) ∧ (∀ p ∈ cs, K.lookup p.2 = none) ∧ (∀ p ∈ cs, PySem.W.CodeHd h p.1 p.2) ∧ (∀ p ∈ T, ∃ c, (c, p.1) ∈ cs) ∧
        (∀ (s : Shared) (u : Value), BindsTo s fd ⟨[u], []⟩ [(x, u)]) ∧ ∀ base : Heap, K.In base → base.Ns mainGlobals mg → (∀ p ∈ cs, TabB base mg p.1 p.2) → FnOk l.prog w K mg base (L2.CX l.prog w) k fa fd [x] (@SpI ⟨lams, T⟩ K mg 1 Fl))
    (math : ∀ ns : List Int, ns.length ≤ n → (∀ z ∈ ns, Builtin.Int.intBits z ≤ 1048576) → (∃ h', Fl [.scr (ns.map .int)] [] = some (.ok (.bl true), h')) ∧ ∃ h', Fl [.lst (ns.map .int)] [] = some (.ok (.bl true), h')) :
    PySem.W.WalkO q loose XP YP l.row.toRowW d [] (fun f vs => PySem.call f vs) := by
  refine Att.attach_callB hn hdf fun w s₀ s₁ mg mb fa o pm cd doc a vs ns G Y ho hd hcd hmg hobj hints hlen hbits hg => ?_
  obtain ⟨K, fd, cs, T, KX, hT, nT, C, hTc, hb, hF⟩ := F w mg fa _ Y G.T.g hmg
  refine law_callTs KX G.T.g G.T.b G.T.builtins G.T.nolimit hg hT nT C G.T.bmain hobj hints (Nat.le_trans hlen hn2) hr hF hb (fun H hH hS => ?_) fun H e s' hz => ?_
  · letI : LamTab := ⟨lams, T⟩
    obtain ⟨⟨h1, e1⟩, h2, e2⟩ := math ns hlen hbits
    have tb : MgE (⟨K, mg, fun _ => False, [], H⟩ : RC) mg := ⟨rfl, fun _ p hp => by
      obtain ⟨c, hc⟩ := hTc p hp
      exact TabS.nil (hH _ hc)⟩
    have fin : ∀ (r : R D) (h' : EH) , r = .ok (.bl true) → (∀ d, r = .ok d → ∀ (c' : RC) v, Rep c' d v → v = .bl true) := fun r h' er d ed c' v rv => by
      rw [er] at ed
      cases ed
      cases rv
      rfl
    rcases hS with (hS | ⟨o, hS⟩) | hS
    · exact ⟨⟨K, mg, fun _ => False, [], H⟩, [], [.lst (ns.map .int)], .ok (.bl true), h2, rfl, tb, rfl, SR.nil rfl (fun _ z => z.elim), .cons (.lst hS ⟨fun z => z, List.not_mem_nil⟩ (reps_ints ns)) .nil, rfl, e2, fun d ed c' v l s r => fin _ h2 rfl d ed c' v r, fun e ee => nomatch ee⟩
    · exact ⟨⟨K, mg, fun _ => False, [], H⟩, [], [.scr (ns.map .int)], .ok (.bl true), h1, rfl, tb, rfl, SR.nil rfl (fun _ z => z.elim), .cons (.scr (.inl ⟨o, hS⟩) (reps_ints ns)) .nil, rfl, e1, fun d ed c' v l s r => fin _ h1 rfl d ed c' v r, fun e ee => nomatch ee⟩
    · exact ⟨⟨K, mg, fun _ => False, [], H⟩, [], [.scr (ns.map .int)], .ok (.bl true), h1, rfl, tb, rfl, SR.nil rfl (fun _ z => z.elim), .cons (.scr (.inr hS) (reps_ints ns)) .nil, rfl, e1, fun d ed c' v l s r => fin _ h1 rfl d ed c' v r, fun e ee => nomatch ee⟩
  · obtain ⟨_, _, _, _, _, _, _, _, _, _, _, _, z⟩ := hz
    exact z
end PD
namespace PD
open PySem PySem.Spec PyProof.Rows L2 PX
variable [LamTab]
structure IsoC (K : PySem.W.Frag) (mg : Str → Option Value) (C : Str) : Prop where
  ex : ∃ Ca, mg C = some (.ref Ca) ∧ Cls K Ca ∧ PySem.W.findIn K (.ref Ca) "__class__" = some (some (.builtin "object.__class__")) ∧ PySem.W.specialIn K (.builtin "object.__class__") "__get__" = some (some (.builtin "getset_descriptor.__get__")) ∧
    PySem.W.takesIn K (.builtin "object.__class__") = some true ∧ PySem.W.mroIn K Ca (.type "object") = some true
theorem isoC_of {K : PySem.W.Frag} {mg : Str → Option Value} {C : Str} (hm : mg C = some (.ref (He.ga K C))) (hc : Cls K (He.ga K C)) (h : isoB K C = true) : IsoC K mg C := by
  obtain ⟨h1, h⟩ := Bool.and_eq_true_iff.mp h
  obtain ⟨h2, h⟩ := Bool.and_eq_true_iff.mp h
  obtain ⟨h3, h4⟩ := Bool.and_eq_true_iff.mp h
  exact ⟨_, hm, hc, of_decide_eq_true h1, of_decide_eq_true h2, of_decide_eq_true h3, of_decide_eq_true h4⟩
def mIsO (C : Str) (a : M D) : M D := fun ε h => bR (a ε h) fun d h1 => match insD h1 d with
  | some (C', _) => if C' = C then some (.ok (.bl true), h1) else none
  | none => none
section
variable {X : Cx} {W : WX}
theorem re_isO {C : Str} {e : Expr} {p p2 pos : Pos} {m : M D} (G : IsoC X.K X.mg C) (hm : X.mg "isinstance" = none) (he : RE X W e m) (hg : Gl X "isinstance" := by rfl) (hgx : Gl X C := by rfl) (hdx : (C == ("__debug__" : Str)) = false := by decide)
    (hs1 : starEach [e, .Name C p2] X.env = (false, eval e X.env) :: starEach [.Name C p2] X.env := by rfl) (hs2 : starEach [.Name C p2] X.env = (false, eval (.Name C p2) X.env) :: starEach [] X.env := by rfl)
    (hpl : (backTo pos (starEach [.Name C p2] X.env)).any (·.1) = false := by rfl) : RE X W (.Call (.Name "isinstance" p) [e, .Name C p2] [] pos) (mIsO C m) := by
  obtain ⟨Ca, h1, h2, h3, h4, h5, h6⟩ := G.ex
  refine pe_imp (pe_callB (x := "isinstance") call_isi hg hm (by decide +kernel) (pa_cons he (pa_cons (pe_glob (v := .ref Ca) (u := .ref Ca) hgx h1 rfl hdx) pa_nil hs2) hs1) (by decide) (by decide) hs1 hpl) fun σ H Q h => ?_
  obtain ⟨c, ε, h, r, h', hK, hm, rfl, sr, er, e, px, go⟩ := h
  unfold tCB tCons tC tNil
  refine tX.bind hK hm sr er e px fun d h1' c1 v e1 l1 s1 r1 => ?_
  cases q : insD h1' d with
  | none => rw [q] at e1; cases e1
  | some z =>
    obtain ⟨C', fs⟩ := z
    rw [q] at e1
    have e1 : (if C' = C then some (R.ok (D.bl true), h1') else none) = some (r, h') := e1
    by_cases hc : C' = C
    · rw [if_pos hc] at e1
      cases e1
      subst hc
      obtain ⟨a, Ca', dx, vs, rfl, m1, m2, m3⟩ := insD_ok s1 r1 q
      rw [l1.mg.e', hm.mge, h1] at m1
      cases m1
      have hK1 : c1.K = X.K := l1.K.trans hK
      refine ⟨.ref a, .ref Ca, .ref Ca, .ref Ca, true, rfl, .own Ca, .base (.ins m2 h2 h3 h4 h5 h6), ?_, go _ rfl c1 _ l1 s1 (.bl true)⟩
      show PySem.W.kitOne X.K (.ref Ca) (.ref Ca) = some true
      unfold PySem.W.kitOne
      simp
    · rw [if_neg hc] at e1; cases e1
end
def eqOF (C : Str) (F : PF) (neg : Bool) (h : EH) (x y : D) : Option D := match insD h x, insD h y with
  | some (C1, _), some (C2, _) => if (decide (C1 = C) && decide (C2 = C) && noRef.go [x, y]) = true then (match F [x, y] with
    | some (.ok (.bl r)) => some (.bl (neg != r))
    | _ => none) else none
  | _, _ => none
def rEqO (K : PySem.W.Frag) (mg : Str → Option Value) (Ca : Addr) (F : PF) (neg : Bool) : R2 := fun x y H Q => ∃ a b dx dy fs gs, x = .ref a ∧ y = .ref b ∧ H a = some (.ins Ca dx fs) ∧ H b = some (.ins Ca dy gs) ∧
  SpP K mg 2 F [x, y] H (fun v H' => ∃ r, v = .bl r ∧ Q (.bl (neg != r)) H') fun _ _ _ => False
section
variable {X : Cx} {W : WX}
theorem eqO_run {f : Addr} {fd : FuncData} {ps : List Str} {k : Nat} {F : PF} {neg : Bool} {A : Around} {pins : List (Addr × Obj)} {s : Shared} {σ : L2.St} {H : Hp} {a b : Addr} {Q : VK} {E : Value → Shared → Prop} {Q2 : Value → Shared → Prop} (Fo : FnOk X.prog X.w X.K X.mg X.base (L2.CX X.prog X.w) k f fd ps (SpP X.K X.mg 2 F)) (hb : Binds X.K fd ps []) (hl : ps.length = 2) (hr : Room k A) (hfr : A.frames = X.A.frames) (I : Inv X pins σ H s)
    (sp : SpP X.K X.mg 2 F [.ref a, .ref b] H (fun v H' => ∃ r, v = .bl r ∧ Q (.bl (neg != r)) H') fun _ _ _ => False)
    (fin : ∀ (r : Bool) H' s', Inv X pins σ H' s' → Q (.bl (neg != r)) H' → Q2 (.bool r) s') : wpAny (model X.prog X.w) A (call (.ref f) [.ref a, .ref b]) Q2 E s := by
  have e0 : Env0 X.prog X.w X.K X.mg X.base A X.stack s H := by
    have e := I.env0
    exact ⟨by rw [hfr]; exact e.frames, e.mod, e.bs, e.bsz, e.funs, e.frf, e.hok, e.bare⟩
  refine wpAny_call (codeAny_mono (Fo.run A X.stack s H ⟨[.ref a, .ref b], []⟩ [.ref a, .ref b] [.ref a, .ref b] _ _ hr e0 (by
    have := hb s [.ref a, .ref b] I.kIn (by rw [hl]; rfl)
    simpa using this) (.cons rfl (.cons rfl .nil)) sp) fun r s' hq => ?_)
  cases r with
  | error e => exact (cx_never hq).elim
  | ok fl =>
    cases fl with
    | ret w =>
      obtain ⟨z, H', I', rz, r, ez, q⟩ := I.after hq
      subst ez
      obtain rfl : w = Value.bool r := rz
      exact fin r H' s' I' q
    | next => exact False.elim hq
    | brk => exact False.elim hq
    | cont => exact False.elim hq
theorem op_eqO {Ca f : Addr} {fd : FuncData} {ps : List Str} {k : Nat} {F : PF} (Fo : FnOk X.prog X.w X.K X.mg X.base (L2.CX X.prog X.w) k f fd ps (SpP X.K X.mg 2 F)) (hb : Binds X.K fd ps []) (hl : ps.length = 2) (Me : Meth X.K Ca "__eq__" f) (hr : Room k X.A) : OpR X (compareOp .Eq) (rEqO X.K X.mg Ca F false) := by
  intro pins s σ H x y v u Q I rx ry hq
  obtain ⟨a, b, dx, dy, fs, gs, rfl, rfl, ha, hb', sp⟩ := hq
  obtain rfl : v = Value.ref a := rx
  obtain rfl : u = Value.ref b := ry
  show wpAny (model X.prog X.w) X.A (richCompare .Eq (.ref a) (.ref b)) (EP X pins σ Q) X.xe s
  obtain ⟨mA, J, _⟩ := ins_get I.hok ha
  obtain ⟨mB, J', _⟩ := ins_get I.hok hb'
  obtain ⟨od, J, _⟩ := J.look
  obtain ⟨od', J', _⟩ := J'.look
  obtain ⟨m, hF⟩ := I.fr
  refine PySem.W.cmp_K (op := .Eq) (tb := .ref Ca) hr.units0 hF I.ok.mod.kin J J'.type (by simp [PySem.W.notFirst]) Me.at_ Me.fn ?_
  exact eqO_run (neg := false) (Q := Q) Fo hb hl hr rfl I sp fun r H' s' I' q => ⟨.bl r, H', I', rfl, by simpa using q⟩
theorem eqO_ops {C : Str} {Ca : Addr} {F : PF} {neg : Bool} (hCa : X.mg C = some (.ref Ca)) : OpS X.K X.mg (rEqO X.K X.mg Ca F neg) (eqOF C F neg) := by
  intro c h x y dx dy d Q hK hm sr rx ry e go
  unfold eqOF at e
  cases q1 : insD h dx with
  | none => rw [q1] at e; cases e
  | some z1 =>
    obtain ⟨C1, fs1⟩ := z1
    cases q2 : insD h dy with
    | none => rw [q1, q2] at e; cases e
    | some z2 =>
      obtain ⟨C2, fs2⟩ := z2
      rw [q1, q2] at e
      have e2 : (if (decide (C1 = C) && decide (C2 = C) && noRef.go [dx, dy]) = true then (match F [dx, dy] with
        | some (.ok (.bl r)) => some (.bl (neg != r))
        | _ => none) else none) = some d := e
      clear e
      by_cases hc : (decide (C1 = C) && decide (C2 = C) && noRef.go [dx, dy]) = true
      · rw [if_pos hc] at e2
        rw [Bool.and_eq_true, Bool.and_eq_true, decide_eq_true_eq, decide_eq_true_eq] at hc
        obtain ⟨⟨rfl, rfl⟩, nr⟩ := hc
        obtain ⟨a, Ca1, dx1, vs1, rfl, m1, m2, _⟩ := insD_ok sr rx q1
        obtain ⟨b, Ca2, dx2, vs2, rfl, m3, m4, _⟩ := insD_ok sr ry q2
        rw [hm.mge, hCa] at m1 m3
        cases m1
        cases m3
        cases q : F [dx, dy] with
        | none => rw [q] at e2; cases e2
        | some r =>
          rw [q] at e2
          cases r with
          | ex x => cases e2
          | ok dd =>
            cases dd with
            | bl r =>
              cases e2
              refine ⟨a, b, dx1, dx2, vs1, vs2, rfl, rfl, m2, m4, spP_of hK hm sr (.cons rx (.cons ry .nil)) rfl nr q (fun d' ed c' v l s rd => ?_) fun x ex => nomatch ex⟩
              cases ed
              cases rd
              exact ⟨r, rfl, go c' _ l s (.bl _)⟩
            | _ => cases e2
      · rw [if_neg hc] at e2; cases e2
theorem re_eqO {C : Str} {a b : Expr} {ma mb : M D} {pos : Pos} {k j : Nat} {F : PF} (G : MetP X.prog X.w X.K X.mg X.base C "__eq__" k 2 F) (hr : Room j X.A) (ha : RE X W a ma) (hb : RE X W b mb) (hk : k ≤ j := by decide) (hmk : behindInMarks .Eq b = false := by rfl) :
    RE X W (.Compare a [.Eq] [b] pos) (mBin (eqOF C F false) ma mb) := by
  obtain ⟨Ca, f, fd, ps, h1, h2, h3, h4, h5, h6⟩ := G.ex
  exact re_cmp (op_eqO h6 h4 h5 h3 (hr.mono hk)) (eqO_ops h1) ha hb hmk
end
end PD
namespace PD
open PySem PySem.Spec PyProof.Rows L2 PX
variable [LamTab]
theorem Reps.rep {c : RC} {ds : List D} {vs : List V} (r : Reps c ds vs) : ∀ m : Nat, Reps c (List.replicate m ds).flatten (List.replicate m vs).flatten
  | 0 => .nil
  | m + 1 => by
    rw [List.replicate_succ, List.replicate_succ, List.flatten_cons, List.flatten_cons]
    exact r.append (Reps.rep r m)
end PD
namespace PD
open PySem PySem.Spec PyProof.Rows L2 PX LamX
variable [LamTab]
section
variable {P : Program} {w : World} {K : PySem.W.Frag} {mg : Str → Option Value} {base : Heap}
theorem okC {x qual : Str} {params : Arguments} {body : List Stmt} {scope : Scope} {f : Addr} {fd : FuncData} {dvs : List V} {kws : List (Str × V)} {CX : CXT} {N ps : List Str} {k : Nat} {sp : Sp} {p : He.Defn} (F : FunD K x qual params body scope dvs kws f fd) (hp : f = He.fAd K p) (S : FnScope N ps scope) (len : ∀ vs H Q E, sp vs H Q E → vs.length = ps.length)
    (hbody : ∀ (cdv : Value) (A : Around) (outer : List Env) (s : Shared) (H : Hp) (vs : List V) (Q : VK) (E : XK), cdv = .ref (He.cT K p).1 → Room k (A.deeper (envOfC qual scope s.heap.objs.size f cdv)) → sp vs H Q E →
      ∃ t, PSs (cxOf CX P w K mg base N qual scope f cdv A outer s H E) body t ∧ t { nx := fun _ H' => Q .non H', rt := Q } (L2.start N vs) H) : FnOk P w K mg base CX (k + 1) f fd ps sp := by
  obtain ⟨oc, od, dV, kV, doc, pm, an, cdv, ct, osl, rfl, lk, hcd, _, _⟩ := F.ex
  obtain ⟨c, rfl⟩ := He.codeIn_ref hcd
  have e : He.codeOf K p = c := He.codeOf_eq (by rw [← hp]; exact lk) rfl
  exact fn_of lk hcd S len fun A outer s H vs Q E hr hsp => hbody (.ref c) A outer s H vs Q E (by show Value.ref c = Value.ref (He.codeOf K p); rw [e]) hr hsp
theorem fnIC {x qual : Str} {params : Arguments} {body : List Stmt} {scope : Scope} {f : Addr} {fd : FuncData} {N ps : List Str} {k : Nat} {m : MS} {dvs : List V} {kws : List (Str × V)} {p : He.Defn} (F : FunD K x qual params body scope dvs kws f fd) (hp : f = He.fAd K p) (S : FnScope N ps scope)
    (hb : ∀ (cdv : Value) (A : Around) (outer : List Env) (s : Shared) (H : Hp) (E : XK), cdv = .ref (He.cT K p).1 → Room k (A.deeper (envOfC qual scope s.heap.objs.size f cdv)) → RSs (cxOf (L2.CX P w) P w K mg base N qual scope f cdv A outer s H E) (fun cls d _ H' => E cls d H') body m) :
    FnOk P w K mg base (L2.CX P w) (k + 1) f fd ps (SpI K mg ps.length (runI N.length m)) := by
  refine okC F hp S (fun vs H Q E h => ?_) (fun cdv A outer s H vs Q E hc hr h => ⟨_, hb cdv A outer s H E hc hr, bodyI_of h⟩)
  obtain ⟨c, h, ds, r, h', _, _, _, _, rv, hn, _⟩ := h
  rw [← rv.length, hn]
theorem LamS.mono {i j k : Nat} {F : PF} (h : LamS P w K mg base j i F) (l : j ≤ k) : LamS P w K mg base k i F := by
  obtain ⟨m, e, r⟩ := h.run
  exact ⟨h.ok, m, e, fun cl f c' A outer s H E hr => r cl f c' A outer s H E (hr.mono l)⟩
end
/-- what the text of a lambda needs in the def that makes it -/
structure LamF (env : Env) (N : List Str) (l : LamD) (ks : List Nat) : Prop where
  qual : env.qual ++ "<lambda>" = l.qual
  free : ∀ y ∈ l.scope.names, y.2 = .free → ∃ c, env.cells.lookup y.1 = some c
  ck : ClOk l.caps (cloFrom env.cells l.scope.names [])
  df : (l.df = false ∧ l.params.defaults = [] ∧ l.params.kw_defaults = []) ∨ (l.df = true ∧ (∃ k p, l.params.defaults = [.Constant (.int 0) k p]) ∧ l.params.kw_defaults = [])
  names : ks.map (fun k => N[k]?) = l.caps.map some
  kind : ∀ y ∈ l.caps, env.scope.names.lookup y = some .cell ∨ env.scope.names.lookup y = some .free
  freeN : ∀ y ∈ l.caps, l.scope.names.lookup y = some .free
theorem cells_inj0 : ∀ (names : List (Str × NameKind)) (n : Nat) (acc : List (Str × Addr)), (∀ p ∈ acc, p.2 < n) → (∀ p ∈ acc, ∀ q ∈ acc, p.2 = q.2 → p.1 = q.1) → ∀ p ∈ cellsFrom n names acc, ∀ q ∈ cellsFrom n names acc, p.2 = q.2 → p.1 = q.1
  | [], n, acc, _, h2 => h2
  | (x, k) :: r, n, acc, h1, h2 => by
    unfold cellsFrom
    split
    · refine cells_inj0 r (n + 1) ((x, n) :: acc) (fun p hp => ?_) (fun p hp q hq e => ?_)
      · rcases List.mem_cons.mp hp with rfl | hp
        · exact Nat.lt_succ_self n
        · exact Nat.lt_succ_of_lt (h1 p hp)
      · rcases List.mem_cons.mp hp with rfl | hp <;> rcases List.mem_cons.mp hq with rfl | hq
        · rfl
        · exact absurd e (Nat.ne_of_gt (h1 q hq))
        · exact absurd e (Nat.ne_of_lt (h1 p hp))
        · exact h2 p hp q hq e
    · exact cells_inj0 r n acc h1 h2
theorem cells_inj {names : List (Str × NameKind)} {n : Nat} (x y : Str) (c : Addr) (h1 : (cellsFrom n names []).lookup x = some c) (h2 : (cellsFrom n names []).lookup y = some c) : x = y :=
  cells_inj0 names n [] (fun _ h => absurd h (by simp)) (fun _ h => absurd h (by simp)) (x, c) (PySem.mem_of_lookup h1) (y, c) (PySem.mem_of_lookup h2) rfl
/-- .. of cells alone, by the scopes -/
theorem lamF_of {N : List Str} {qual : Str} {scope : Scope} {n f : Addr} {cd : Value} {l : LamD} {ks : List Nat} (hq : (qual ++ ".<locals>.") ++ "<lambda>" = l.qual)
    (h1 : ∀ y ∈ l.scope.names, y.2 = .free → y.1 ∈ l.caps) (h2 : ∀ y ∈ l.caps, scope.names.lookup y = some .cell) (h3 : ∀ y ∈ l.caps, l.scope.names.lookup y = some .free)
    (hd : (l.df = false ∧ l.params.defaults = [] ∧ l.params.kw_defaults = []) ∨ (l.df = true ∧ (∃ k p, l.params.defaults = [.Constant (.int 0) k p]) ∧ l.params.kw_defaults = [])) (hn : ks.map (fun k => N[k]?) = l.caps.map some) : LamF (envOfC qual scope n f cd) N l ks := by
  have has : ∀ y ∈ l.caps, ∃ c, (cellsFrom (n + 1) scope.names []).lookup y = some c := fun y hy => cell_has (h2 y hy)
  have cm : ∀ {y c}, (cloFrom (cellsFrom (n + 1) scope.names []) l.scope.names []).lookup y = some c → y ∈ l.caps ∧ (cellsFrom (n + 1) scope.names []).lookup y = some c := fun {y c} e => by
    rcases cloFrom_mem (PySem.mem_of_lookup e) with hm | ⟨g1, g2⟩
    · cases hm
    · have hy := h1 _ g1 rfl
      obtain ⟨c1, hc⟩ := has _ hy
      have e2 : c = c1 := by
        rw [g2, hc] <;> rfl
      rw [e2]
      exact ⟨hy, hc⟩
  exact ⟨hq, fun y hy e => has _ (h1 y hy e), ⟨fun y b e => (cm e).1, fun y y' b e e' => cells_inj y y' b (cm e).2 (cm e').2⟩, hd, hn, fun y hy => .inl (h2 y hy), h3⟩
structure LamP (base : Heap) (mg : Str → Option Value) (K : PySem.W.Frag) (env : Env) (p : He.Defn) (q : Str) : Prop where
  TB : TabB base mg (He.cT K p).1 (He.cT K p).2
  code : env.code = .ref (He.cT K p).1
  mem : ((He.cT K p).2, q) ∈ LamTab.T
  uniq : ∀ z ∈ LamTab.T, z.1 = (He.cT K p).2 → z.2 = q
section
variable {X : Cx} {W : WX} {lams : Nat → LamD}
theorem lamW_of {p : He.Defn} {i : Nat} {ks : List Nat} (hl : LamTab.lam = lams) (L : LamF X.env X.N (lams i) ks) (Pq : LamP X.base X.mg X.K X.env p (lams i).qual) : LamW X i (He.cT X.K p).1 (He.cT X.K p).2 ∧ CapN X i ks := by
  subst hl
  exact ⟨⟨Pq.TB, Pq.code, L.qual, Pq.mem, Pq.uniq, L.free, L.ck, L.df⟩, ⟨L.names, L.kind, L.freeN⟩⟩
theorem re_lam1 {x : Str} {p0 pos lpos : Pos} {p : He.Defn} {i : Nat} (ks : List Nat) {e : Expr} {k j : Nat} {F : PF} (hl : LamTab.lam = lams) (L : LamF X.env X.N (lams i) ks) (Pq : LamP X.base X.mg X.K X.env p (lams i).qual) (he : e = .Lambda (lams i).params (lams i).body (lams i).scope lpos) (G : FnP X.prog X.w X.K X.mg X.base x k 1 F) (hr : Room j X.A) (tk : Takes X W) (hfn : ∀ y, X.fn y = true) (hk : k ≤ j := by decide) (hg : Gl X x := by rfl)
    (hdb : (x == ("__debug__" : Str)) = false := by decide) : RE X W (.Call (.Name x p0) [e] [] pos) (mLam1G F i ks) := by
  obtain ⟨h1, h2⟩ := lamW_of hl L Pq
  subst hl
  rw [he]
  exact re_lam1G ks G hr tk hfn h1 h2 hk hg hdb
end
end PD
namespace PD
open PySem PySem.Spec PyProof.Rows L2 PX LamX
variable [LamTab]
theorem SR.extN {c : RC} {h : EH} (s : SR c h) {b : Addr} {φ : Heap → Prop} (e : c.H b = some (.ext φ)) : b ∉ c.ρ := fun z => by
  obtain ⟨n, hn, eq⟩ := List.mem_iff_getElem.mp z
  have h1 : c.ρ[n]? = some b := by rw [List.getElem?_eq_getElem hn, eq]
  have hn' : n < h.length := by rw [← s.len]; exact hn
  have r := s.cells n b _ h1 (List.getElem?_eq_getElem hn')
  cases q : h[n] with
  | lst ds => rw [q] at r; obtain ⟨xs, e2, _⟩ := r; rw [e] at e2; cases e2
  | dic t kvs =>
    rw [q] at r
    obtain ⟨o, zs, e2, i, _⟩ := r
    rw [e] at e2
    cases e2
    rcases i with ⟨_, _, z, _⟩ | ⟨_, z⟩ <;> cases z
  | obj C fs => rw [q] at r; obtain ⟨_, _, _, _, e2, _⟩ := r; rw [e] at e2; cases e2
theorem LamAt.extE {X : Cx} {H H' : Hp} {i : Nat} {f : Addr} (e : ∀ b φ, H b = some (.ext φ) → H' b = some (.ext φ)) (h : LamAt X H i f) : LamAt X H' i f := by
  obtain ⟨dV, c', h1, h2, h3⟩ := h
  refine ⟨dV, c', e _ _ h1, e _ _ h2, ?_⟩
  rcases h3 with h3 | ⟨q, dt, t, e1, e2⟩
  · exact .inl h3
  · exact .inr ⟨q, dt, t, e1, e _ _ e2⟩
theorem LamAts.extE {X : Cx} {H H1 : Hp} (e : ∀ b φ, H b = some (.ext φ) → H1 b = some (.ext φ)) : ∀ {ps : List (Nat × List Nat)} {vs : List V}, LamAts X H ps vs → LamAts X H1 ps vs
  | _, _, .nil => .nil
  | _, _, .cons h t => .cons (h.extE e) (t.extE e)
theorem LAt.le {X : Cx} {ix : Nat} {ps : List (Nat × List Nat)} {c c' : RC} {σ : L2.St} {h : EH} (la : LAt X ix ps c σ) (s : SR c h) (l : c.Le c') {j : Nat} (hj : j ≠ ix) (v : Option V) : LAt X ix ps c' (σ.set j v) := by
  obtain ⟨a, vs, h1, h2, h3, h4⟩ := la
  refine ⟨a, vs, ?_, (l.lstH h2 h3).1, (l.lstH h2 h3).2, h4.extE fun b φ e => (l.keep b _ e (fun _ z => by cases z) (s.extN e)).1⟩
  rw [List.getElem?_set_ne hj]
  exact h1
end PD
namespace PD
open PySem PySem.Spec PyProof.Rows L2 PX LamX
variable [LamTab]
/-- xs.insert(i, y) -/
def insD2 (h : EH) (x i y : D) : Option EH := match x, i with
  | .ref n, .int j => (match h[n]? with
    | some (.lst ds) => if ds.length < sizeLine ∧ 0 ≤ j ∧ j < 2 ^ 62 then some (h.set n (.lst (ds.take j.toNat ++ [y] ++ ds.drop j.toNat))) else none
    | _ => none)
  | _, _ => none
def mInsert (o i e : M D) : M D := fun ε h => bR (o ε h) fun x h1 => if isLc h1 x = true then bR (i ε h1) fun j h2 => bR (e ε h2) fun y h3 => (insD2 h3 x j y).map fun h4 => (.ok .non, h4) else none
section
variable {X : Cx} {W : WX} {a b e o : Expr} {ma mb me mo : M D} {m : M (List D)} {p pos apos cpos : Pos}
theorem re_insert {i : Expr} {mi : M D} (ho : RE X W o mo) (hi : RE X W i mi) (he : RE X W e me)
    (hbase : attributeBase o "insert" X.env (eval o X.env) = eval o X.env := by rfl)
    (hfew : ((backTo cpos (starEach [i, e] X.env)).all (fun x => !x.1) && (backToKw cpos (keywordEach [] X.env)).all (fun x => x.1.isSome) && decide ([i, e].length + ([] : List Keyword).length + (if ([] : List Keyword).isEmpty then 0 else 1) < 30)) = true := by rfl)
    (hline : (apos.endLine == cpos.line) = true := by rfl) (hs1 : starEach [e] X.env = (false, eval e X.env) :: starEach [] X.env := by rfl) (hs : starEach [i, e] X.env = (false, eval i X.env) :: starEach [e] X.env := by rfl) (hpl : (backTo cpos (starEach [e] X.env)).any (·.1) = false := by rfl) :
    RE X W (.Call (.Attribute o "insert" apos) [i, e] [] cpos) (mInsert mo mi me) := by
  refine pe_imp (pe_bm PySem.F.plainAttrs_list PySem.F.slot_list_insert PySem.F.type_list_insert mt_insert ho (pa_cons hi (pa_cons he pa_nil hs1) hs) hbase hfew hline hs hpl) fun σ H Q h => ?_
  obtain ⟨c, ε, h, r, h', hK, hm, rfl, sr, er, e, px, go⟩ := h
  unfold tBM
  refine tX.bind hK hm sr er e px fun x h1 c1 v e1 l1 s1 r1 => ?_
  by_cases hx : isLc h1 x = true
  · rw [if_pos hx] at e1
    obtain ⟨n, a, ds0, xs0, rfl, rfl, hn, _, k1, _⟩ := isLc_ok s1 r1 hx
    refine ⟨.inl ⟨rfl, xs0, .inl (.inl k1)⟩, ?_⟩
    unfold tCons
    refine tX.bind (l1.K.trans hK) (l1.mg.trans hm) s1 (er.le l1) e1 (px.le l1) fun j h2 c2 u e2 l2 s2 r2 => ?_
    refine tX.bind ((l2.K.trans l1.K).trans hK) ((l2.mg.trans l1.mg).trans hm) s2 ((er.le l1).le l2) e2 ((px.le l1).le l2) fun y h3 c3 w e3 l3 s3 r3 => ?_
    have hn3 := l3.pre _ _ (l2.pre _ _ hn)
    cases r2 with
    | int j =>
      unfold insD2 at e3
      dsimp only at e3
      cases q2 : h3[n]? with
      | none => rw [q2] at e3; cases e3
      | some k =>
        rw [q2] at e3
        cases k with
        | lst ds =>
          dsimp only at e3
          by_cases hz : ds.length < sizeLine ∧ 0 ≤ j ∧ j < 2 ^ 62
          · rw [if_pos hz] at e3
            cases e3
            obtain ⟨xs, j1, j2⟩ := s3.cells n a _ hn3 q2
            obtain ⟨l4, s4⟩ := s3.write (o := .lst (xs.take j.toNat ++ [w] ++ xs.drop j.toNat)) (k := .lst (ds.take j.toNat ++ [y] ++ ds.drop j.toNat)) hn3 (fun ys z => by
              rcases z with z | ⟨w, z⟩ <;> rw [j1] at z <;> cases z) (fun o w z => by rw [j1] at z; cases z) fun c' l' eh => ⟨_, eh, (((j2.le l').take _).append (.cons (r3.le l') .nil)).append ((j2.le l').drop _)⟩
            exact ⟨a, xs, j, w, rfl, rfl, j1, by rw [← j2.length]; exact hz.1, hz.2.1, by omega, go _ rfl _ _ (((l1.trans l2).trans l3).trans l4) s4 .non⟩
          · rw [if_neg hz] at e3; cases e3
        | _ => cases e3
    | _ => cases e3
  · rw [if_neg hx] at e1; cases e1
end
end PD
namespace L2
open PySem PySem.Spec PyProof.Rows
theorem tuple_mul1 (l : Addr) (items : Array Value) (n : Nat) (dd : Option Addr) (sl : Array (Option Value)) (u : Tok) :
    Meets (Builtin.«tuple.__mul__» ⟨[.ref l, .int 1 u], []⟩) (fun _ R s => s.heap.get? l = some { cls := .type "tuple", dict := dd, data := .seq items n, slots := sl } ∧ R (.ok (.ret (Value.ref l))) s) :=
  .of_wp fun prog w A R s h => by
    obtain ⟨hp, g, d, tk, os⟩ := s
    obtain ⟨hl, h⟩ := h
    have f1 := AutoSeq1.idx_int
    have c0 : (decide ((1 : Int) < -(2 ^ 63)) || decide ((1 : Int) ≥ 2 ^ 63)) = false := by decide
    have c1 : (items.isEmpty || (1 : Int) == 1) = true := by simp
    wp_walk using wpAny_loadPart' hl
    repeat (first
      | (refine wpAny_ite_false (decide_eq_false (by rw [c0]; exact Bool.false_ne_true)) ?_; wp_walk using wpAny_loadPart' hl)
      | (refine wpAny_ite_true (decide_eq_true (by rw [c1])) ?_; wp_walk using wpAny_loadPart' hl))
    exact ⟨_, rfl, h⟩
theorem tuple_mul0 (l : Addr) (items : Array Value) (n : Nat) (dd : Option Addr) (sl : Array (Option Value)) (x : Int) (u : Tok) (c0 : (decide (x < -(2 ^ 63)) || decide (x ≥ 2 ^ 63)) = false) (c1 : (items.isEmpty || x == 1) = false) (c2 : (decide (x ≤ 0) || items.isEmpty) = true) :
    Meets (Builtin.«tuple.__mul__» ⟨[.ref l, .int x u], []⟩) (fun _ R s => s.heap.get? l = some { cls := .type "tuple", dict := dd, data := .seq items n, slots := sl } ∧
      R (.ok (.ret (Value.ref s.heap.objs.size))) { s with heap := s.heap.push { cls := Value.type "tuple", data := Data.seq #[] }, toks := s.toks }) :=
  .of_wp fun prog w A R s h => by
    obtain ⟨hp, g, d, tk, os⟩ := s
    obtain ⟨hl, h⟩ := h
    have f1 := AutoSeq1.idx_int
    wp_walk using wpAny_loadPart' hl
    repeat (first
      | (refine wpAny_ite_false (decide_eq_false (by rw [c0]; exact Bool.false_ne_true)) ?_; wp_walk using wpAny_loadPart' hl)
      | (refine wpAny_ite_false (decide_eq_false (by rw [c1]; exact Bool.false_ne_true)) ?_; wp_walk using wpAny_loadPart' hl)
      | (refine wpAny_ite_true (decide_eq_true (by rw [c2])) ?_; wp_walk using wpAny_loadPart' hl))
    exact ⟨_, rfl, h⟩
def rRep1 (K : PySem.W.Frag) : R2 := fun x y H Q => ∃ l xs, x = .ref l ∧ y = .int 1 ∧ SqT K H l xs ∧ Q (.ref l) H
def rRep0 (K : PySem.W.Frag) : R2 := fun x y H Q => ∃ l k xs, x = .ref l ∧ y = .int k ∧ SqT K H l xs ∧ xs ≠ [] ∧ -(2 ^ 62) ≤ k ∧ k ≤ 0 ∧ ∀ p, H p = none → Q (.ref p) (upd H p (.tup []))
section
variable {X : Cx}
theorem op_rep1 : OpR X (binaryOp .Mult) (rRep1 X.K) := by
  intro pins s σ H x y v u Q I rx ry h
  obtain ⟨l, xs, rfl, rfl, hT, q⟩ := h
  cases rx
  obtain ⟨t, rfl⟩ := ry
  obtain ⟨its, r, ⟨⟨cls, dd, data, sl⟩, ho, hc, n, hd⟩, hs⟩ := I.tuple hT
  simp only at hc hd
  subst hc hd
  refine wpAny_binaryOp_repeat_ref (T := "tuple") (U := "int") (by decide) ⟨_, ho, rfl⟩ (fun s' => typeIs_int s' 1 t) noFill_tuple_mul F.fills_int_mul F.slot_int_rmul repeat_tuple F.slot_int_index.lookup
    (call_meets F.slot_int_rmul (typeIs_int s 1 t) F.entry_int_rmul (F.args_int_rmul_2 _ _) (int_rmul_tuple 1 t l its.toArray n dd sl)
      ⟨ho, rfl, ⟨_, ho, rfl⟩, call_meets F.slot_tuple_mul ⟨_, ho, rfl⟩ F.entry_tuple_mul (F.args_tuple_mul_2 _ _) (tuple_mul1 l its.toArray n dd sl t) ⟨ho, ?_⟩⟩)
  exact ⟨.ref l, H, I, rfl, q⟩
theorem op_rep0 : OpR X (binaryOp .Mult) (rRep0 X.K) := by
  intro pins s σ H x y v u Q I rx ry h
  obtain ⟨l, k, xs, rfl, rfl, hT, hne, h1, h2, q⟩ := h
  cases rx
  obtain ⟨t, rfl⟩ := ry
  obtain ⟨its, r, ⟨⟨cls, dd, data, sl⟩, ho, hc, n, hd⟩, hs⟩ := I.tuple hT
  simp only at hc hd
  subst hc hd
  have hle : its.length = xs.length := r.length.symm
  have hn : its ≠ [] := fun e => hne (by
    rw [e] at hle
    exact List.eq_nil_of_length_eq_zero hle.symm)
  have hi : its.toArray.isEmpty = false := by
    cases its with
    | nil => exact absurd rfl hn
    | cons a b => rfl
  have c0 : (decide (k < -(2 ^ 63)) || decide (k ≥ 2 ^ 63)) = false := by
    rw [decide_eq_false (by omega), decide_eq_false (by omega)] <;> rfl
  have c1 : (its.toArray.isEmpty || k == 1) = false := by
    rw [hi, Bool.false_or]
    exact beq_eq_false_iff_ne.mpr (by omega)
  have c2 : (decide (k ≤ 0) || its.toArray.isEmpty) = true := by
    rw [decide_eq_true h2]; rfl
  refine wpAny_binaryOp_repeat_ref (T := "tuple") (U := "int") (by decide) ⟨_, ho, rfl⟩ (fun s' => typeIs_int s' k t) noFill_tuple_mul F.fills_int_mul F.slot_int_rmul repeat_tuple F.slot_int_index.lookup
    (call_meets F.slot_int_rmul (typeIs_int s k t) F.entry_int_rmul (F.args_int_rmul_2 _ _) (int_rmul_tuple k t l its.toArray n dd sl)
      ⟨ho, rfl, ⟨_, ho, rfl⟩, call_meets F.slot_tuple_mul ⟨_, ho, rfl⟩ F.entry_tuple_mul (F.args_tuple_mul_2 _ _) (tuple_mul0 l its.toArray n dd sl k t c0 c1 c2) ⟨ho, ?_⟩⟩)
  refine ⟨.ref s.heap.objs.size, _, I.laid (t' := s.toks) (o := .tup []) (fun b ob q => Heap.get?_push_of_some _ q) (Nat.le_refl _) ?_, rfl, q _ (I.hok.fresh (Nat.le_refl _))⟩
  exact ⟨Nat.zero_le _, _, .nil, IsTup.new _ _⟩
end
end L2
namespace PD
open PySem PySem.Spec PyProof.Rows L2 PX LamX
variable [LamTab]
def dRepT (h : EH) (x y : D) : Option D := match x, y with
  | .tup ds, .int k => if k = 1 then some (.tup ds) else if ds.length = 0 then none else if -(2 ^ 62) ≤ k ∧ k ≤ 0 then some (.tup []) else if 2 ≤ k ∧ k ≤ 1000 ∧ ds.length ≤ 1000 then some (.tup (List.replicate k.toNat ds).flatten) else none
  | _, _ => none
theorem ops_repT {K : PySem.W.Frag} {mg : Str → Option Value} : OpS K mg (fun x y H Q => rRep1 K x y H Q ∨ rRep0 K x y H Q ∨ rRepT K x y H Q) dRepT := by
  intro c h x y dx dy d Q hK hm sr rx ry e go
  subst hK
  unfold dRepT at e
  cases rx with
  | @tup a ds xs k1 k2 =>
    cases ry with
    | int k =>
      dsimp only at e
      by_cases q1 : k = 1
      · rw [if_pos q1] at e
        cases e
        subst q1
        exact .inl ⟨a, xs, rfl, rfl, k1, go c _ (.refl c) sr (.tup k1 k2)⟩
      · rw [if_neg q1] at e
        by_cases q0 : ds.length = 0
        · rw [if_pos q0] at e; cases e
        · rw [if_neg q0] at e
          have ne : xs ≠ [] := fun z => q0 (by rw [k2.length, z]; rfl)
          by_cases q2 : -(2 ^ 62) ≤ k ∧ k ≤ 0
          · rw [if_pos q2] at e
            cases e
            refine .inr (.inl ⟨a, k, xs, rfl, rfl, k1, ne, q2.1, q2.2, fun p np => ?_⟩)
            obtain ⟨l, s, f⟩ := sr.new (o := .tup []) np
            exact go _ _ l s (.tup (.inl (.inl upd_same)) .nil)
          · rw [if_neg q2] at e
            by_cases q3 : 2 ≤ k ∧ k ≤ 1000 ∧ ds.length ≤ 1000
            · rw [if_pos q3] at e
              cases e
              refine .inr (.inr ⟨a, k, xs, rfl, rfl, k1, ne, q3.1, q3.2.1, by rw [← k2.length]; exact q3.2.2, fun p np => ?_⟩)
              obtain ⟨l, s, f⟩ := sr.new (o := .tup (List.replicate k.toNat xs).flatten) np
              exact go _ _ l s (.tup (.inl (.inl upd_same)) ((k2.le l).rep _))
            · rw [if_neg q3] at e; cases e
    | _ => cases e
  | _ => cases ry <;> cases e
section
variable {X : Cx} {W : WX}
theorem re_repT {a b : Expr} {ma mb : M D} {pos : Pos} (ha : RE X W a ma) (hb : RE X W b mb) : RE X W (.BinOp a .Mult b pos) (mBin dRepT ma mb) := re_bin (op_rep1.or (op_rep0.or op_repT)) ops_repT ha hb
end
end PD
namespace PD
open PySem PySem.Spec PyProof.Rows L2 PX LamX
section
variable {prog : Program} {w : World} {A : Around} {E : Value → Shared → Prop} {s : Shared} {K : PySem.W.Frag} {x C f : Addr} {ox : Obj} {odd : Option Obj}
theorem len_own {Q : Value → Shared → Prop} (X : K.In s.heap) (I : PySem.W.InstAt s.heap x ox C odd) (hs : PySem.W.findIn K (.ref C) "__len__" = some (some (.ref f))) (hf : PySem.W.isFn K (.ref f) = true)
    (h : wpAny (model prog w) A.in1 (call (.ref f) [.ref x]) (fun r s₁ => ∃ (n : Int) (u : Tok), r = Value.int n u ∧ 0 ≤ n ∧ n < 2 ^ 63 ∧ Q (.int n s₁.toks) { s₁ with toks := s₁.toks + 1 }) E s) : wpAny (model prog w) A (call (.builtin "len") [.ref x]) Q E s := by
  refine Calls.call_function_entry kind_len plain_len entry_len (args_len1 _) ?_
  unfold Builtin.«len»
  refine wpAny_bind (m := oneArg "len" _) (wpAny_pure ?_)
  refine wpAny_bind (m := callSpecial? (.ref x) (Str.ofString "__len__")) (PySem.W.special_fn X I hs (beq_iff_eq.mp hf) (wpAny_mono h (fun r s' hr => ?_) fun _ _ y => y))
  obtain ⟨n, u, rfl, h0, h1, hq⟩ := hr
  refine wpAny_bind (wpAny_holding (wpAny_pure ?_))
  refine wpAny_bind (wpAny_letGo ?_)
  show wpAny _ _ (if n < 0 then _ else _) _ _ _
  rw [if_neg (by omega)]
  show wpAny _ _ (if n ≥ 2 ^ 63 then _ else _) _ _ _
  rw [if_neg (by omega)]
  exact wpAny_bind (wpAny_mkInt (wpAny_pure ⟨_, rfl, hq⟩))
end
variable [LamTab]
def rOwn1 (K : PySem.W.Frag) (mg : Str → Option Value) (Ca : Addr) (F : PF) (G : V → Prop) : List V → Hp → VK → Prop := fun xs H Q => ∃ a dx fs, xs = [.ref a] ∧ H a = some (.ins Ca dx fs) ∧ SpP K mg 1 F [.ref a] H (fun v H' => G v ∧ Q v H') fun _ _ _ => False
def gLen (v : V) : Prop := ∃ i : Int, v = .int i ∧ 0 ≤ i ∧ i < 2 ^ 62
def okLen : D → Bool
  | .int i => decide (0 ≤ i) && decide (i < 4611686018427387904)
  | _ => false
def dOwn1 (C : Str) (F : PF) (ok : D → Bool) (h : EH) (ds : List D) : Option D := match ds with
  | [d] => (match insD h d with
    | some (C1, _) => if (decide (C1 = C) && noRef.go [d]) = true then (match F [d] with
      | some (.ok r) => if ok r = true then some r else none
      | _ => none) else none
    | none => none)
  | _ => none
section
variable {X : Cx} {W : WX}
theorem own1_run {f a : Addr} {fd : FuncData} {ps : List Str} {k : Nat} {F : PF} {A : Around} {pins : List (Addr × Obj)} {s : Shared} {σ : L2.St} {H : Hp} {Q : VK} {E : Value → Shared → Prop} {Q2 : Value → Shared → Prop} (Fo : FnOk X.prog X.w X.K X.mg X.base (L2.CX X.prog X.w) k f fd ps (SpP X.K X.mg 1 F)) (hb : Binds X.K fd ps []) (hl : ps.length = 1) (hr : Room k A) (hfr : A.frames = X.A.frames) (I : Inv X pins σ H s)
    (sp : SpP X.K X.mg 1 F [.ref a] H Q fun _ _ _ => False) (fin : ∀ (v : V) (u : Value) H' s', Inv X pins σ H' s' → RelV v u → Q v H' → Q2 u s') : wpAny (model X.prog X.w) A (call (.ref f) [.ref a]) Q2 E s := by
  have e0 : Env0 X.prog X.w X.K X.mg X.base A X.stack s H := by
    have e := I.env0
    exact ⟨by rw [hfr]; exact e.frames, e.mod, e.bs, e.bsz, e.funs, e.frf, e.hok, e.bare⟩
  refine wpAny_call (codeAny_mono (Fo.run A X.stack s H ⟨[.ref a], []⟩ [.ref a] [.ref a] _ _ hr e0 (by
    have := hb s [.ref a] I.kIn (by rw [hl]; rfl)
    simpa using this) (.cons rfl .nil) sp) fun r s' hq => ?_)
  cases r with
  | error e => exact (cx_never hq).elim
  | ok fl =>
    cases fl with
    | ret w =>
      obtain ⟨z, H', I', rz, q⟩ := I.after hq
      exact fin z w H' s' I' rz q
    | next => exact False.elim hq
    | brk => exact False.elim hq
    | cont => exact False.elim hq
theorem call_lenO {Ca f : Addr} {fd : FuncData} {ps : List Str} {k : Nat} {F : PF} (Fo : FnOk X.prog X.w X.K X.mg X.base (L2.CX X.prog X.w) k f fd ps (SpP X.K X.mg 1 F)) (hb : Binds X.K fd ps []) (hl : ps.length = 1) (Me : Meth X.K Ca "__len__" f) (hr : Room (k + 1) X.A) : CallR X (.builtin "len") (rOwn1 X.K X.mg Ca F gLen) := by
  intro pins s σ H xs us Q I r h
  obtain ⟨a, dx, fs, rfl, ha, sp⟩ := h
  obtain ⟨u, rfl, ru⟩ := r.one
  cases (show u = Value.ref a from ru)
  obtain ⟨mA, J, _⟩ := ins_get I.hok ha
  obtain ⟨od, J, _⟩ := J.look
  refine len_own I.kIn J Me.at_ Me.fn (own1_run Fo hb hl hr.in1 rfl I sp fun v u H' s' I' rz q => ?_)
  obtain ⟨⟨i, rfl, h0, h1⟩, q⟩ := q
  obtain ⟨t, rfl⟩ := (show ∃ t, u = Value.int i t from rz)
  exact ⟨i, t, rfl, h0, by omega, .int i, H', I'.tok _, ⟨_, rfl⟩, q⟩
theorem own1_cs {C : Str} {Ca : Addr} {F : PF} {ok : D → Bool} {G : V → Prop} (hCa : X.mg C = some (.ref Ca)) (hG : ∀ (c : RC) (d : D) (v : V), ok d = true → Rep c d v → G v) : CallS X.K X.mg (rOwn1 X.K X.mg Ca F G) (dOwn1 C F ok) := by
  intro c h xs ds d Q hK hm sr rx e go
  match ds, rx, e with
  | [d0], .cons r0 .nil, e =>
    have e2 : (match insD h d0 with
      | some (C1, _) => if (decide (C1 = C) && noRef.go [d0]) = true then (match F [d0] with
        | some (.ok r) => if ok r = true then some r else none
        | _ => none) else none
      | none => none) = some d := e
    clear e
    cases q1 : insD h d0 with
    | none => rw [q1] at e2; cases e2
    | some z1 =>
      obtain ⟨C1, fs1⟩ := z1
      rw [q1] at e2
      dsimp only at e2
      by_cases hc : (decide (C1 = C) && noRef.go [d0]) = true
      · rw [if_pos hc] at e2
        rw [Bool.and_eq_true, decide_eq_true_eq] at hc
        obtain ⟨rfl, nr⟩ := hc
        obtain ⟨a, Ca1, dx1, vs1, rfl, m1, m2, _⟩ := insD_ok sr r0 q1
        rw [hm.mge, hCa] at m1
        cases m1
        cases q : F [d0] with
        | none => rw [q] at e2; cases e2
        | some r =>
          rw [q] at e2
          cases r with
          | ex x => cases e2
          | ok dd =>
            dsimp only at e2
            by_cases ho : ok dd = true
            · rw [if_pos ho] at e2
              cases e2
              refine ⟨a, dx1, vs1, rfl, m2, spP_of hK hm sr (.cons r0 .nil) rfl nr q (fun d' ed c' v l s rd => ?_) fun x ex => nomatch ex⟩
              cases ed
              exact ⟨hG c' _ v ho rd, go c' v l s rd⟩
            · rw [if_neg ho] at e2; cases e2
      · rw [if_neg hc] at e2; cases e2
  | [], _, e => cases e
  | _ :: _ :: _, _, e => cases e
theorem re_lenO {C : Str} {a : Expr} {ma : M (List D)} {p pos : Pos} {k j : Nat} {F : PF} (G : MetP X.prog X.w X.K X.mg X.base C "__len__" k 1 F) (hr : Room j X.A) (hm : X.mg "len" = none) (ha : RA X W [a] ma) (hk : k + 1 ≤ j := by decide) (hg : Gl X "len" := by rfl) (hs : starEach [a] X.env = (false, eval a X.env) :: starEach [] X.env := by rfl) :
    RE X W (.Call (.Name "len" p) [a] [] pos) (mCall (dOwn1 C F okLen) ma) := by
  obtain ⟨Ca, f, fd, ps, h1, h2, h3, h4, h5, h6⟩ := G.ex
  refine re_callB (call_lenO h6 h4 h5 h3 (hr.mono hk)) (own1_cs h1 fun c d v ho r => ?_) hm ha (by decide +kernel) hg (by decide) (by decide) hs (by rfl)
  cases r with
  | int i =>
    obtain ⟨h0, h1⟩ := Bool.and_eq_true_iff.mp (show (decide (0 ≤ i) && decide (i < 4611686018427387904)) = true from ho)
    exact ⟨i, rfl, of_decide_eq_true h0, of_decide_eq_true h1⟩
  | _ => cases ho
end
end PD
namespace PD
open PySem PySem.Spec PyProof.Rows L2 PX LamX
end PD
namespace PX
open PySem PySem.Spec PyProof.Rows L2 PySem.Calls PD
variable [LamTab]
def lock (z : Addr → Option Obj) (H : Hp) : Hp := fun b => match z b, H b with
  | some o, some (.lst xs) => some (.frz o (.lst xs))
  | _, u => u
/-- z's objects are lists of H -/
def InL (z : Addr → Option Obj) (H : Hp) : Prop := ∀ b o, z b = some o → ∃ xs, H b = some (.lst xs)
section
variable {z : Addr → Option Obj} {H : Hp} {b : Addr}
theorem lock_in {o : Obj} {xs : List V} (h : z b = some o) (e : H b = some (.lst xs)) : lock z H b = some (.frz o (.lst xs)) := by
  unfold lock; rw [h, e]
theorem lock_out (h : z b = none) : lock z H b = H b := by
  unfold lock; rw [h]
theorem inl_out (hz : InL z H) {u : HO} (h : H b = some u) (n : ∀ xs, u ≠ .lst xs) : z b = none := by
  cases y : z b with
  | none => rfl
  | some o =>
    obtain ⟨xs, e⟩ := hz b o y
    rw [h] at e
    exact (n xs (Option.some.inj e)).elim
end
end PX
namespace PD
open PySem PySem.Spec PyProof.Rows L2 PX LamX
/-- data in which the cells of lists are read as locked lists -/
def lkD (h : EH) : D → Option D
  | .ref n => (match h[n]? with
    | some (.lst ds) => if noRef.go ds = true then some (.scr ds) else none
    | _ => none)
  | .lst ds => (go h ds).map .lst
  | .tup ds => (go h ds).map .tup
  | d => if noRef d = true then some d else none
where
  go (h : EH) : List D → Option (List D)
  | [] => some []
  | d :: ds => (match lkD h d, go h ds with
    | some a, some b => some (a :: b)
    | _, _ => none)
variable [LamTab]
abbrev lockC (c : RC) (z : Addr → Option Obj) : RC := { c with H := PX.lock z c.H, ρ := [], B := fun a => c.B a ∨ a ∈ c.ρ }
/-- z has just the cells of lists -/
structure LkZ (c : RC) (z : Addr → Option Obj) : Prop where
  in_ : ∀ b o, z b = some o → b ∈ c.ρ ∧ ∃ xs, c.H b = some (.lst xs)
  all : ∀ b xs, b ∈ c.ρ → c.H b = some (.lst xs) → ∃ o, z b = some o
section
variable {c c' : RC} {h : EH} {z : Addr → Option Obj}
theorem LkZ.inL (k : LkZ c z) : PX.InL z c.H := fun b o y => (k.in_ b o y).2
theorem LkZ.out (k : LkZ c z) {a : Addr} (h : a ∉ c.ρ) : z a = none := by
  cases y : z a with
  | none => rfl
  | some o => exact absurd (k.in_ a o y).1 h
theorem lock_some {H : Hp} {a : Addr} {o : HO} (e : H a = some o) : ∃ o', PX.lock z H a = some o' := by
  cases y : z a with
  | none => exact ⟨o, (lock_out y).trans e⟩
  | some ob =>
    unfold PX.lock
    rw [y, e]
    cases o <;> exact ⟨_, rfl⟩
theorem LkZ.leW (k : LkZ c z) : (c.bare fun a => c.B a ∨ a ∈ c.ρ).LeW (lockC c z) := by
  refine ⟨rfl, rfl, fun a h => .inl h, fun n a h => by simp at h, fun a o e => lock_some e, fun a o e nt nb nr => ⟨?_, nr⟩, fun a xs e => ?_, fun a o u e => ?_⟩
  · exact (lock_out (k.out fun q => nb (.inr q))).trans e
  · rcases e with e | ⟨o, e⟩
    · exact .inl ((lock_out (inl_out k.inL e fun _ q => by cases q)).trans e)
    · exact .inr ⟨o, (lock_out (inl_out k.inL e fun _ q => by cases q)).trans e⟩
  · exact (lock_out (inl_out k.inL e fun _ q => by cases q)).trans e
theorem LkZ.rep (k : LkZ c z) {d : D} {v : V} (r : Rep c d v) (n : noRef d = true) : Rep (lockC c z) d v := Rep.leW k.leW (Rep.bare (fun _ q => q) r n)
theorem LkZ.reps (k : LkZ c z) {ds : List D} {vs : List V} (r : Reps c ds vs) (n : noRef.go ds = true) : Reps (lockC c z) ds vs := Reps.leW k.leW (Reps.bare (fun _ q => q) r n)
section
variable (k : LkZ c z) (s : SR c h)
include k s
mutual
theorem Rep.lk : ∀ {d : D} {v : V}, Rep c d v → ∀ {d' : D}, lkD h d = some d' → Rep (lockC c z) d' v
  | _, _, .non, d', e => by cases e; exact .non
  | _, _, .bl b, d', e => by cases e; exact .bl b
  | _, _, .int i, d', e => by cases e; exact .int i
  | _, _, .str cs, d', e => by cases e; exact .str cs
  | .tup ds, _, .tup q r, d', e => by
    have e' : (lkD.go h ds).map D.tup = some d' := by rw [lkD] at e; exact e
    cases g : lkD.go h ds with
    | none => rw [g] at e'; cases e'
    | some es =>
      rw [g] at e'; cases e'
      refine .tup ?_ (Reps.lk r g)
      rcases q with q | q
      · exact .inl (k.leW.tup _ _ q)
      · exact .inr q
  | .lst ds, _, .lst (a := a) q f r, d', e => by
    have e' : (lkD.go h ds).map D.lst = some d' := by rw [lkD] at e; exact e
    cases g : lkD.go h ds with
    | none => rw [g] at e'; cases e'
    | some es =>
      rw [g] at e'; cases e'
      exact .lst ((lock_out (k.out f.2)).trans q) ⟨fun y => y.elim f.1 f.2, List.not_mem_nil⟩ (Reps.lk r g)
  | .scr ds, _, .scr q r, d', e => by
    have e' : (if noRef (.scr ds) = true then some (D.scr ds) else none) = some d' := by rw [lkD] at e; exact e; all_goals (intro _ q; cases q)
    by_cases n : noRef (.scr ds) = true
    · rw [if_pos n] at e'; cases e'; exact k.rep (.scr q r) n
    · rw [if_neg n] at e'; cases e'
  | .obj C fs, _, .obj m q f r, d', e => by
    have e' : (if noRef (.obj C fs) = true then some (D.obj C fs) else none) = some d' := by rw [lkD] at e; exact e; all_goals (intro _ q; cases q)
    by_cases n : noRef (.obj C fs) = true
    · rw [if_pos n] at e'; cases e'; exact k.rep (.obj m q f r) n
    · rw [if_neg n] at e'; cases e'
  | .dic t kvs, _, .dic q i f r, d', e => by
    have e' : (if noRef (.dic t kvs) = true then some (D.dic t kvs) else none) = some d' := by rw [lkD] at e; exact e; all_goals (intro _ q; cases q)
    by_cases n : noRef (.dic t kvs) = true
    · rw [if_pos n] at e'; cases e'; exact k.rep (.dic q i f r) n
    · rw [if_neg n] at e'; cases e'
  | .fn i ds, _, .fn a1 a2 a3 a4 a5 a6, d', e => by
    have e' : (if noRef (.fn i ds) = true then some (D.fn i ds) else none) = some d' := by rw [lkD] at e; exact e; all_goals (intro _ q; cases q)
    by_cases n : noRef (.fn i ds) = true
    · rw [if_pos n] at e'; cases e'; exact k.rep (.fn a1 a2 a3 a4 a5 a6) n
    · rw [if_neg n] at e'; cases e'
  | .exc C fs, _, .exc a1 a2 a3 a4 a5 a6, d', e => by
    have e' : (if noRef (.exc C fs) = true then some (D.exc C fs) else none) = some d' := by rw [lkD] at e; exact e; all_goals (intro _ q; cases q)
    by_cases n : noRef (.exc C fs) = true
    · rw [if_pos n] at e'; cases e'; exact k.rep (.exc a1 a2 a3 a4 a5 a6) n
    · rw [if_neg n] at e'; cases e'
  | .ref n, _, .ref (a := a) q, d', e => by
    rw [lkD] at e
    have hn : n < h.length := by rw [← s.len]; exact (List.getElem?_eq_some_iff.mp q).1
    cases g : h[n]? with
    | none => rw [g] at e; cases e
    | some x =>
      rw [g] at e
      cases x with
      | lst ds =>
        dsimp only at e
        by_cases nr : noRef.go ds = true
        · rw [if_pos nr] at e
          cases e
          obtain ⟨xs, h1, r⟩ := s.cells n a _ q g
          obtain ⟨o, y⟩ := k.all a xs (List.mem_of_getElem? q) h1
          exact .scr (.inl ⟨o, lock_in y h1⟩) (k.reps r nr)
        · rw [if_neg nr] at e; cases e
      | _ => cases e
theorem Reps.lk : ∀ {ds : List D} {vs : List V}, Reps c ds vs → ∀ {es : List D}, lkD.go h ds = some es → Reps (lockC c z) es vs
  | _, _, .nil, es, e => by cases e; exact .nil
  | d :: ds, _, .cons r t, es, e => by
    rw [lkD.go] at e
    cases g1 : lkD h d with
    | none => rw [g1] at e; cases e
    | some d' =>
      cases g2 : lkD.go h ds with
      | none => rw [g1, g2] at e; cases e
      | some es' =>
        rw [g1, g2] at e
        cases e
        exact .cons (Rep.lk r g1) (Reps.lk t g2)
end
end
theorem LkZ.tabs (k : LkZ c z) (t : c.tabs) : RC.tabs (lockC c z) := fun q hq => codeO_ext (t q hq) (by
    obtain ⟨ps, k1, _⟩ := t q hq
    exact lock_out (inl_out k.inL k1 fun _ z => by cases z)) fun a e => (lock_out (inl_out k.inL e fun _ z => by cases z)).trans e
end
end PD
namespace PX
open PySem PySem.Spec PyProof.Rows L2 PySem.Calls PD
end PX
namespace PD
open PySem PySem.Spec PyProof.Rows L2 PX LamX
end PD
namespace PD
open PySem PySem.Spec PyProof.Rows L2 PX LamX
end PD
namespace PD
open PySem PySem.Spec PyProof.Rows L2 PX LamX
end PD
namespace PD
open PySem PySem.Spec PyProof.Rows L2 PX LamX
end PD
namespace PD
open PySem PySem.Spec PyProof.Rows L2 PX LamX
end PD
namespace PD
open PySem PySem.Spec PyProof.Rows L2 PX LamX
/-- the text of the lambda: its first item -/
structure KeyOk (l : LamD) : Prop where
  kind : l.scope.kind = .function
  co : l.scope.isCoroutine = false
  gen : l.scope.isGenerator = false
  loc : ∀ y ∈ l.scope.names, y.2 ≠ .cell ∧ y.2 ≠ .free
  caps : l.caps = []
  df : l.df = false
  body : ∃ (pn : Str) (p1 p2 p3 : Pos) (j : Option Str), l.body = .Subscript (.Name pn p1) (.Constant (.int 0) 0 p2) p3 ∧ l.scope.names.lookup pn = some .local ∧ (pn == ("__debug__" : Str)) = false ∧ (pn == ("__classdict__" : Str)) = false ∧
    ∀ (cl : List (Str × Addr)) (doc pm cv ctv v : Value), bindArgs (PySem.W.kdv_fn "<lambda>" l.qual l.params (.expr l.body) l.scope cl .none doc pm cv ctv) ⟨[v], []⟩ = pure [(pn, v)]
variable [LamTab]
def keyCx (P : Program) (w : World) (K : PySem.W.Frag) (mg : Str → Option Value) (base : Heap) (l : LamD) (pn : Str) (cl : List (Str × Addr)) (f c' : Addr) (A : Around) (outer : List Env) (s : Shared) (H : Hp) (E : XK) : Cx := { lamCx P w K mg base l cl f c' A outer s H E with N := [pn] }
section
variable {P : Program} {w : World} {K : PySem.W.Frag} {mg : Str → Option Value} {base : Heap}
theorem key_start {l : LamD} (L : KeyOk l) {pn : Str} (hpn : l.scope.names.lookup pn = some .local) {cl : List (Str × Addr)} {f c' : Addr} {A : Around} {outer : List Env} {s : Shared} {H : Hp} {E : XK} {x : V} {u : Value} {h₁ : Heap} {tk : Nat} (hd : A.handled = none) (e0 : Env0 P w K mg base A outer s H)
    (ck : ClOk l.caps cl) (rv : RelV x u) (hns : h₁.Ns s.heap.objs.size (fun y => [(pn, u)].reverse.lookup y)) (hk : ∀ b o, s.heap.get? b = some o → h₁.get? b = some o) :
    Inv (keyCx P w K mg base l pn cl f c' A outer s H E) [] [some x] H { s with heap := h₁, toks := tk } := by
  have noA : ∀ b : Addr, b ∉ (keyCx P w K mg base l pn cl f c' A outer s H E).ex := fun b z => absurd (show b ∈ ([] : List Addr) from z) (by simp)
  have nocl : ∀ y b, cl.lookup y = some b → False := fun y b e => by
    have := ck.1 y b e
    rw [L.caps] at this
    cases this
  refine ⟨⟨e0.mod, L.kind, rfl, rfl, Nat.le_refl _, fun y y' c h1 h2 => (nocl y c h1).elim, fun y hy => ?_, fun y c q h => (nocl y c h).elim, fun _ => hd, Around.frames_deeper e0.frames, .inr ⟨rfl, rfl⟩, fun b z => absurd z (noA b), e0.bs, e0.bsz, fun b _ _ => noA b, fun b z => absurd z (noA b), e0.funs, e0.frf⟩,
    rfl, e0.bare, Un.kept hk, ⟨_, hns, fun i y v h1 h2 h3 => ?_⟩, fun y c h => (nocl y c h).elim, e0.hok.fresh (Nat.le_refl _), fun y c h => (nocl y c h).elim, fun p hp => absurd (show p ∈ ([] : List (Addr × Obj)) from hp) (by simp), e0.hok.kept hk, rfl⟩
  · have hy : l.scope.names.lookup y = some .cell ∨ l.scope.names.lookup y = some .free := hy
    rcases hy with hy | hy
    · exact absurd rfl (L.loc _ (PySem.mem_of_lookup hy)).1
    · exact absurd rfl (L.loc _ (PySem.mem_of_lookup hy)).2
  · have h1 : ([pn] : List Str)[i]? = some y := h1
    cases i with
    | zero =>
      cases h1
      cases h2
      refine ⟨u, rv, .inl ⟨hpn, ?_⟩⟩
      show ([(pn, u)] : List (Str × Value)).lookup pn = some u
      simp [List.lookup]
    | succ i => simp at h1
theorem key_run {l : LamD} (L : KeyOk l) {A : Around} {outer : List Env} {s : Shared} {H : Hp} {E : XK} {cl : List (Str × Addr)} {c' f t : Addr} {k : Int} {rest : List V} (hr : Room 1 A) (e0 : Env0 P w K mg base A outer s H) (hf : H f = some (lamHO l cl .none c' f)) (hc : H c' = some (CodeO c' l.qual))
    (ht : SqT K H t (.int k :: rest)) : codeAny (model P w) A (.call (.ref f) ⟨[.ref t], []⟩) (CR (L2.CX P w) outer P w H s (fun v H1 => v = .int k ∧ H1 = H) E) s := by
  obtain ⟨ck, doc, pm, ctv, hfo⟩ := ext_at e0.hok hf
  obtain ⟨oc, us, tq, hoc, hdc, hvc⟩ := ext_at e0.hok hc
  obtain ⟨pn, p1, p2, p3, j, hb, hpn, n1, n2, bind⟩ := L.body
  have lim : s.heap.NoLimit := e0.mod.nolimit.keeps fun b o e => (e0.bs b o e).1
  refine PySem.W.kla_callFunE hr.depth hfo rfl L.co L.gen rfl ⟨c', oc, us, tq, rfl, hoc, hdc, hvc⟩ ((BindsTo.of_eq (bind cl doc pm (.ref c') ctv (.ref t))) _ _ _ _ ?_)
  refine wpAny_newFunctionEnv (fun y hy => (L.loc y hy).1) (fun y hy => by rw [List.mem_singleton.mp hy]; exact hpn) (fun h₁ hns hsb => ⟨lim.fresh _ hsb, ?_⟩) L.kind
  have kp : ∀ b o, s.heap.get? b = some o → h₁.get? b = some o := fun b o e => hsb.extBut b o (Nat.ne_of_lt (Heap.lt_size e)) (Heap.get?_push_of_some _ e)
  have J : Inv (keyCx P w K mg base l pn cl f c' A outer s H E) [] [some (.ref t)] H { s with heap := h₁, toks := s.toks + [(pn, Value.ref t)].length } :=
    key_start (x := .ref t) (u := .ref t) L hpn hr.hd e0 ck rfl hns kp
  have pe := pe_ix (X := keyCx P w K mg base l pn cl f c' A outer s H E) (pos := p3) ix_tup (pe_var (i := 0) (x := pn) (pos := p1) rfl (Or.inl hpn) n1 n2) (pe_int (i := 0) (j := 0) (pos := p2)) (fun _ _ => rfl)
  rw [← hb] at pe
  refine PySem.W.kla_codeExpr (wpAny_mono (pe.run [] _ _ H (fun v H1 => v = .int k ∧ H1 = H) J ⟨.ref t, rfl, t, _, 0, _, rfl, rfl, ht, L2.atI_nat (j := 0) rfl, rfl, rfl⟩) (fun v s' hq => ?_) fun e s' hq => hq)
  obtain ⟨w', H', J', rv, q⟩ := hq
  exact ⟨w', H', J'.os, J'.bare, J'.base, J'.hok, rv, q⟩
end
end PD
namespace PD
open PySem PySem.Spec PyProof.Rows L2 PX LamX
theorem upd2 {H : Hp} {x : Addr} {o o' : HO} : upd (upd H x o) x o' = upd H x o' := by
  funext b
  by_cases h : b = x
  · subst h; rw [upd_same, upd_same]
  · rw [upd_ne h, upd_ne h, upd_ne h]
theorem upd_comm {H : Hp} {x y : Addr} {o o' : HO} (n : x ≠ y) : upd (upd H x o) y o' = upd (upd H y o') x o := by
  funext b
  by_cases h : b = x
  · subst h; rw [upd_ne n, upd_same, upd_same]
  · by_cases h2 : b = y
    · subst h2; rw [upd_same, upd_ne h, upd_same]
    · rw [upd_ne h2, upd_ne h, upd_ne h, upd_ne h2]
theorem sqT_ext {K : PySem.W.Frag} {H H' : Hp} {t : Addr} {xs : List V} (k : ∀ b u, H b = some u → (∀ xs, u ≠ .lst xs) → H' b = some u) (h : SqT K H t xs) : SqT K H' t xs := by
  rcases h with (h | ⟨o, h⟩) | h
  · exact .inl (.inl (k _ _ h (fun _ z => by cases z)))
  · exact .inl (.inr ⟨o, k _ _ h (fun _ z => by cases z)⟩)
  · exact .inr h
theorem upd_keep {H : Hp} {x : Addr} {o : HO} (hx : H x = none ∨ ∃ xs, H x = some (.lst xs)) : ∀ b u, H b = some u → (∀ xs, u ≠ .lst xs) → upd H x o b = some u := fun b u e n => by
  rw [upd_ne (fun z => ?_)]
  · exact e
  · subst z
    rcases hx with q | ⟨xs, q⟩
    · rw [q] at e; cases e
    · rw [q] at e; exact n xs (Option.some.inj e).symm
theorem perm_inv_ {α β : Type} {f : α → β} {l m : List β} (p : l.Perm m) : ∀ {xs : List α}, m = xs.map f → ∃ ys : List α, l = ys.map f ∧ ys.Perm xs := by
  induction p with
  | nil => intro xs e; cases xs with
    | nil => exact ⟨[], rfl, List.Perm.refl _⟩
    | cons _ _ => cases e
  | cons x p ih => intro xs e; cases xs with
    | nil => cases e
    | cons a xs =>
      rw [List.map_cons] at e
      injection e with e1 e2
      obtain ⟨ys, h1, h2⟩ := ih e2
      exact ⟨a :: ys, by rw [List.map_cons, e1, h1], h2.cons a⟩
  | swap x y l => intro xs e; cases xs with
    | nil => cases e
    | cons a xs => cases xs with
      | nil => cases e
      | cons b xs =>
        rw [List.map_cons, List.map_cons] at e
        injection e with e1 e2
        injection e2 with e2 e3
        exact ⟨b :: a :: xs, by rw [List.map_cons, List.map_cons, e1, e2, e3], List.Perm.swap _ _ _⟩
  | trans p q ih1 ih2 =>
    intro xs e
    obtain ⟨ys, h1, h2⟩ := ih2 e
    obtain ⟨zs, h3, h4⟩ := ih1 h1
    exact ⟨zs, h3, h4.trans h2⟩
theorem refs_of : ∀ {ts : List Addr} {its : List Value}, Vals (ts.map V.ref) its → its = ts.map Value.ref
  | [], _, .nil => rfl
  | _ :: _, _, .cons r q => by cases r; rw [List.map_cons, refs_of q]
variable [LamTab]
section
variable {X : Cx} {pins : List (Addr × Obj)} {σ : L2.St} {H : Hp} {s : Shared}
theorem key_callI {l : LamD} (L : KeyOk l) {A : Around} {cl : List (Str × Addr)} {c' f t : Addr} {k : Int} {rest : List V} {Q : Value → Shared → Prop} {E : Value → Shared → Prop} (hA : A.frames = some X.stack) (hr : Room 1 A) (I : Inv X pins σ H s) (hf : H f = some (lamHO l cl .none c' f)) (hc : H c' = some (CodeO c' l.qual))
    (ht : SqT X.K H t (.int k :: rest)) (h : ∀ s' t', Inv X pins σ H s' → Q (.int k t') s') : wpAny (model X.prog X.w) A (call (.ref f) [.ref t]) Q E s := by
  have e0 := I.env0
  have e1 : Env0 X.prog X.w X.K X.mg X.base A X.stack s H := ⟨hA, e0.mod, e0.bs, e0.bsz, e0.funs, e0.frf, e0.hok, e0.bare⟩
  refine wpAny_call (codeAny_mono (key_run L (E := fun _ _ _ => False) hr e1 hf hc ht) fun rr s' hq => ?_)
  cases rr with
  | error e =>
    obtain ⟨_, _, _, _, _, _, _, _, _, _, _, _, z⟩ := hq
    exact z.elim
  | ok fl =>
    cases fl with
    | ret u =>
      obtain ⟨v, H', I2, rv, ev, eH⟩ := I.after hq
      subst ev
      subst eH
      obtain ⟨t', rfl⟩ := rv
      exact h s' t' I2
    | next => exact False.elim hq
    | brk => exact False.elim hq
    | cont => exact False.elim hq
section
variable {l : LamD} {A : Around} {cl : List (Str × Addr)} {a kS c' f : Addr} {ts : List Addr} {ks : List Int} {od : Obj} {e1 : Nat} {P : PySem.Fin → Shared → Prop} {E : Value → Shared → Prop}
/-- what comes behind the sort -/
def Aft (X : Cx) (pins : List (Addr × Obj)) (σ : L2.St) (H : Hp) (a kS : Addr) (ks : List Int) (ts : List Addr) (P : PySem.Fin → Shared → Prop) : Prop := ∀ (s' : Shared) (rs : List (Int × Addr)), rs.Perm (ks.zip ts) → rs.Pairwise (fun p q => p.1 ≤ q.1) →
  Inv X pins σ (upd (upd H kS (.lst [])) a (.lst (rs.map fun p => V.ref p.2))) s' → P (.done (.ret .none)) s'
theorem tail_I {st : SortSt} {keys : Array Value} (hz : ts.length ≤ 16777216) (hne : kS ≠ a) (ha : H a = some (.frz od (.lst []))) (hod : od = seqObj "list" #[] e1) (hfz : ∀ o' u', X.H_0 a ≠ some (.frz o' u')) (hl : ks.length = ts.length) (hk : IntsAre keys.toList ks)
    (I : Inv X pins σ (upd H kS (.lst (ks.map V.int))) s) (hp : (arrOf st).Perm (keys.zip (ts.map Value.ref).toArray)) (hs : SortedTo (arrOf st) (arrOf st).size) (hfl : failedOf st = none) (h : Aft X pins σ H a kS ks ts P) :
    wpAny (model X.prog X.w) A (ksk_tail a false e1 (.ref kS) st) P E s := by
  obtain ⟨z1, its, n, rv, hlen, e⟩ := I.lstM upd_same
  rw [List.length_map] at hlen z1
  have hsz : keys.size = ts.length := by
    have h1 := hk.length
    rw [Array.length_toList] at h1
    omega
  have hsz2 : (arrOf st).size = ts.length := by rw [hp.size_eq, Array.size_zip, hsz, List.size_toArray, List.length_map, Nat.min_self]
  unfold ksk_tail
  try dsimp only
  have I1 := I.lset (f := fun _ => (#[] : Array Value)) (its' := []) (ys := []) (t' := s.toks) upd_same e rfl .nil (Nat.zero_le _)
  rw [upd2] at I1
  refine wpAny_bind (listUpdate_at e rfl ?_ (by rw [List.size_toArray, ← hlen]; exact z1) (Nat.zero_le _))
  refine wpAny_bind (wpAny_letGo ?_)
  have ha1 : upd H kS (.lst []) a = some (.frz od (.lst [])) := (upd_ne hne.symm).trans ha
  have ga := (I1.hok a _ ha1).1
  rw [hod] at ga
  refine wpAny_bind (seqEpoch_at ga rfl ?_)
  obtain ⟨ps, q1, q2, q3⟩ := ksk_out (b := false) hk hp hs
  have ez : ks.zip (ts.map Value.ref) = (ks.zip ts).map (fun p => (p.1, Value.ref p.2)) := by rw [List.zip_map_right]; rfl
  rw [ez] at q1
  obtain ⟨rs, rfl, q4⟩ := perm_inv_ q1 rfl
  have I2 := I1.unlock ha1 hfz
  have lr : rs.length = ts.length := by rw [q4.length_eq, List.length_zip]; omega
  have vr : Vals (rs.map fun p => V.ref p.2) (rs.map fun p => Value.ref p.2) := by
    clear q1 q2 q3 q4 lr
    induction rs with
    | nil => exact .nil
    | cons p rs ih => exact .cons rfl ih
  have eo : (if false = true then ((arrOf st).map (·.2)).reverse else (arrOf st).map (·.2)) = (rs.map fun p => Value.ref p.2).toArray := by
    apply Array.ext'
    have q2' : (if false = true then ((arrOf st).map (·.2)).reverse else (arrOf st).map (·.2)).toList = _ := q2
    rw [q2', List.map_map]
    simp
  have I3 := I2.lset (f := fun _ => if false = true then ((arrOf st).map (·.2)).reverse else (arrOf st).map (·.2)) (its := []) (its' := rs.map fun p => Value.ref p.2) (ys := rs.map fun p => V.ref p.2) (t' := s.toks) upd_same ga eo vr (by rw [List.length_map, lr, sizeLine_eq]; exact hz)
  rw [upd2] at I3
  refine wpAny_bind (listUpdate_at ga rfl ?_ (Nat.zero_le _) (by rw [eo, List.size_toArray, List.length_map, lr, sizeLine_eq]; omega))
  rw [hfl]
  simp only [bne_self_eq_false, Bool.false_eq_true, if_false]
  simp only [Bool.false_eq_true, if_false] at I3
  refine wpAny_pure (h _ rs q4 ?_ I3)
  have q3' := q3
  rw [List.pairwise_map] at q3'
  exact q3'.imp fun h => h
theorem end_I {keys : Array Value} (hz : ts.length ≤ 16777216) (hne : kS ≠ a) (ha : H a = some (.frz od (.lst []))) (hod : od = seqObj "list" #[] e1) (hfz : ∀ o' u', X.H_0 a ≠ some (.frz o' u')) (hl : ks.length = ts.length) (hk : IntsAre keys.toList ks)
    (I : Inv X pins σ (upd H kS (.lst (ks.map V.int))) s) (h : Aft X pins σ H a kS ks ts P) :
    wpAny (model X.prog X.w) A (ksk_end a false (ts.map Value.ref).toArray e1 (.ref kS) keys) P E s := by
  have hsz : keys.size = ts.length := by
    have h1 := hk.length
    rw [Array.length_toList] at h1
    omega
  have hzs : (keys.zip (ts.map Value.ref).toArray).size = ts.length := by rw [Array.size_zip, hsz, List.size_toArray, List.length_map, Nat.min_self]
  have hstart : (if false = true then (keys.zip (ts.map Value.ref).toArray).reverse else keys.zip (ts.map Value.ref).toArray).Perm (keys.zip (ts.map Value.ref).toArray) := Array.Perm.refl _
  unfold ksk_end
  try dsimp only
  by_cases h2 : (ts.map Value.ref).toArray.size < 2
  · rw [if_pos h2, if_pos h2]
    refine wpAny_bind (wpAny_pure ?_)
    rw [StateT.run_pure]
    refine wpAny_bind (wpAny_pure ?_)
    try dsimp only
    refine tail_I (st := SortSt.mk' general' (if false = true then (keys.zip (ts.map Value.ref).toArray).reverse else keys.zip (ts.map Value.ref).toArray) #[] 7 none) hz hne ha hod hfz hl hk I hstart ?_ rfl h
    intro i j hij hj
    have hj2 : j < (if false = true then (keys.zip (ts.map Value.ref).toArray).reverse else keys.zip (ts.map Value.ref).toArray).size := hj
    rw [hstart.size_eq, hzs] at hj2
    rw [List.size_toArray, List.length_map] at h2
    have : i = j := by omega
    subst this
    exact Int.le_refl _
  · rw [if_neg h2, if_neg h2]
    rw [List.size_toArray, List.length_map] at h2
    rw [ksk_kind hk (by rw [hsz]; omega)]
    refine wpAny_bind (wpAny_pure ?_)
    refine wpAny_bind (wpAny_mono (wpS_sortRunsAny (κ := intKind) (a₀ := keys.zip (ts.map Value.ref).toArray) (st := SortSt.mk' oneType' (if false = true then (keys.zip (ts.map Value.ref).toArray).reverse else keys.zip (ts.map Value.ref).toArray) #[] 7 none)
      (Q := fun _ st' => (arrOf st').Perm (keys.zip (ts.map Value.ref).toArray) ∧ failedOf st' = none ∧ SortedTo (arrOf st') (keys.zip (ts.map Value.ref).toArray).size)
      intKind_oneLt (ksk_keysOfInt (ksk_intKeys hk)) ⟨hstart, rfl, rfl⟩ rfl (by rw [hzs]; omega) fun st' a1 a2 a3 => ⟨a1, a2, sortedTo_of_int a3⟩) ?_ fun _ _ e => e)
    rintro ⟨⟨⟩, st'⟩ s' ⟨rfl, hp, hf, hs⟩
    try dsimp only
    exact tail_I hz hne ha hod hfz hl hk I hp (by rw [hp.size_eq]; exact hs) hf h
theorem rest_I (L : KeyOk l) (hA : A.frames = some X.stack) (hr : Room 1 A) (hz : ts.length ≤ 16777215) (hne : kS ≠ a) (hk0 : H kS = none) (ha : H a = some (.frz od (.lst []))) (hod : od = seqObj "list" #[] e1) (hfz : ∀ o' u', X.H_0 a ≠ some (.frz o' u')) (hl : ks.length = ts.length)
    (hf : H f = some (lamHO l cl .none c' f)) (hc : H c' = some (CodeO c' l.qual)) (rows : ∀ (i : Nat) (t : Addr) (k : Int), ts[i]? = some t → ks[i]? = some k → ∃ rest, SqT X.K H t (.int k :: rest))
    (I : Inv X pins σ (upd H kS (.lst [])) s) (h : Aft X pins σ H a kS ks ts P) :
    wpAny (model X.prog X.w) A (ksk_rest a (.ref f) false (ts.map Value.ref).toArray e1 (.ref kS)) P E s := by
  have nf : f ≠ kS := fun z => by rw [z, hk0] at hf; cases hf
  have nc : c' ≠ kS := fun z => by rw [z, hk0] at hc; cases hc
  unfold ksk_rest
  refine wpAny_bind (wpAny_rule ?_)
  first
    | rw [List.forIn_toArray]
    | (rw [← Array.forIn_toList]; simp only [List.toList_toArray])
    | rw [← Array.forIn_toList]
  refine wpAny_bind (ksk_fold (fun i s' => Inv X pins σ (upd H kS (.lst ((ks.take i).map V.int))) s') (ts.map Value.ref) 0 s (by simpa using I) ?step ?done)
  case step =>
    intro j x s' hx I'
    simp only [Nat.zero_add] at I' ⊢
    rw [List.getElem?_map] at hx
    cases ht : ts[j]? with
    | none => rw [ht] at hx; cases hx
    | some t =>
      rw [ht] at hx
      cases hx
      have hj : j < ts.length := (List.getElem?_eq_some_iff.mp ht).1
      obtain ⟨k, hkj⟩ : ∃ k, ks[j]? = some k := ⟨_, List.getElem?_eq_getElem (by omega)⟩
      obtain ⟨rest, hq⟩ := rows j t k ht hkj
      refine wpAny_bind (wpAny_attempt (key_callI L hA hr I' ((upd_ne nf).trans hf) ((upd_ne nc).trans hc) (sqT_ext (upd_keep (.inl hk0)) hq) fun s'' t' I2 => ?_))
      try dsimp only
      obtain ⟨z1, its, n, rv, hlen, e⟩ := I2.lstM upd_same
      rw [List.length_map, List.length_take] at hlen z1
      have I3 := I2.lset (f := (·.push (.int k t'))) (its' := its ++ [.int k t']) (ys := (ks.take j).map V.int ++ [V.int k]) (t' := s''.toks) upd_same e (by simp) (rv.append (.cons ⟨t', rfl⟩ .nil)) (by
        rw [List.length_append, List.length_map, List.length_take, List.length_singleton, sizeLine_eq]; omega)
      rw [upd2] at I3
      have ek : ks.take (j + 1) = ks.take j ++ [k] := by rw [List.take_add_one, hkj]; simp
      refine wpAny_bind (listUpdate_at e rfl ?_ (by rw [List.size_toArray, ← hlen, sizeLine_eq]; omega) (Nat.le_trans (Nat.le_of_eq (Array.size_push ..)) (by rw [List.size_toArray, ← hlen, sizeLine_eq]; omega)))
      refine wpAny_pure ⟨rfl, ?_⟩
      rw [ek, List.map_append]
      exact I3
  case done =>
    intro s' I'
    have e3 : ks.take (0 + (ts.map Value.ref).length) = ks := List.take_of_length_le (by rw [List.length_map]; omega)
    rw [e3] at I'
    obtain ⟨z1, its, n, rv, hlen, e⟩ := I'.lstM upd_same
    try dsimp only
    refine wpAny_bind (listItems_at e rfl ?_)
    have hk : IntsAre its.toArray.toList ks := by
      rw [List.toList_toArray]
      exact rv.ints
    exact end_I (by omega) hne ha hod hfz hl hk I' h
/-- list.sort(key=f) of a new list -/
theorem tree_I (L : KeyOk l) (hA : A.frames = some X.stack) (hr : Room 1 A) (hz : ts.length ≤ 16777215) (ha : H a = some (.lst (ts.map V.ref))) (hl : ks.length = ts.length) (hf : H f = some (lamHO l cl .none c' f)) (hc : H c' = some (CodeO c' l.qual))
    (rows : ∀ (i : Nat) (t : Addr) (k : Int), ts[i]? = some t → ks[i]? = some k → ∃ rest, SqT X.K H t (.int k :: rest)) (I : Inv X pins σ H s)
    (h : ∀ (s' : Shared) (kS : Addr) (rs : List (Int × Addr)), rs.Perm (ks.zip ts) → rs.Pairwise (fun p q => p.1 ≤ q.1) → H kS = none → Inv X pins σ (upd (upd H a (.lst (rs.map fun p => V.ref p.2))) kS (.lst [])) s' → P (.done (.ret .none)) s') :
    wpAny (model X.prog X.w) A (ksk_tree a (.ref f) false) P E s := by
  obtain ⟨z1, its, n, rv, hlen, e⟩ := I.lstM ha
  have ei : its = ts.map Value.ref := refs_of rv
  subst ei
  have hfz := I.nofrz ha trivial
  have na : ∀ {b u}, H b = some u → (∀ xs, u ≠ .lst xs) → b ≠ a := fun hb n z => by
    subst z
    rw [ha] at hb
    exact n _ (Option.some.inj hb).symm
  have I1 := I.lset (f := fun _ => (#[] : Array Value)) (its' := []) (ys := []) (t' := s.toks) ha e rfl .nil (Nat.zero_le _)
  obtain ⟨od, I2⟩ := I1.lock upd_same trivial
  rw [upd2] at I2
  have oo := I2.hok a _ upd_same
  obtain ⟨g1, _, its0, n0, rv0, g2⟩ := oo
  cases rv0
  have hod : od = seqObj "list" #[] n0 := by
    have := g1.symm.trans g2
    exact Option.some.inj this
  unfold ksk_tree
  refine wpAny_bind (listItems_at e rfl ?_)
  refine wpAny_bind (listUpdate_at e rfl ?_ (by rw [List.size_toArray, List.length_map, sizeLine_eq]; omega) (Nat.zero_le _))
  refine wpAny_bind (seqEpoch_at (g1.trans (congrArg some hod)) rfl ?_)
  refine wpAny_bind (wpAny_newTuple ?_ (by show (ts.map Value.ref).length ≤ _; rw [List.length_map, sizeLine_eq]; omega))
  refine wpAny_bind (wpAny_newList ?_ (Nat.zero_le _))
  refine wpAny_holding ?_
  have I3 := I2.kept (h' := (s.heap.update a (Obj.mapSeq fun _ => (#[] : Array Value))).push (seqObj "tuple" (ts.map Value.ref).toArray 0)) (t' := s.toks) (fun _ _ q => Heap.get?_push_of_some _ q)
  have I4 := I3.lnew (its := []) (ys := []) (t' := s.toks) .nil (Nat.zero_le _)
  have hk0 := I3.fresh
  have kne : ((s.heap.update a (Obj.mapSeq fun _ => (#[] : Array Value))).push (seqObj "tuple" (ts.map Value.ref).toArray 0)).objs.size ≠ a := fun z => by
    rw [z] at hk0
    rw [upd_same] at hk0
    cases hk0
  refine rest_I (H := upd H a (.frz od (.lst []))) (od := od) (kS := ((s.heap.update a (Obj.mapSeq fun _ => (#[] : Array Value))).push (seqObj "tuple" (ts.map Value.ref).toArray 0)).objs.size) L hA hr hz kne hk0 upd_same hod hfz hl ((upd_ne (na hf (fun _ z => by unfold lamHO at z; cases z))).trans hf) ((upd_ne (na hc (fun _ z => by unfold CodeO at z; cases z))).trans hc) (fun i t k h1 h2 => ?_) I4 ?_
  · obtain ⟨rest, hq⟩ := rows i t k h1 h2
    exact ⟨rest, sqT_ext (upd_keep (.inr ⟨_, ha⟩)) hq⟩
  · intro s' rs p1 p2 I5
    have hk1 : H ((s.heap.update a (Obj.mapSeq fun _ => (#[] : Array Value))).push (seqObj "tuple" (ts.map Value.ref).toArray 0)).objs.size = none := by
      rw [upd_ne kne] at hk0
      exact hk0
    refine h s' _ rs p1 p2 hk1 ?_
    rw [upd_comm kne.symm, upd2, upd_comm kne] at I5
    exact I5
end
end
end PD
namespace PD
open PySem PySem.Spec PyProof.Rows L2 PX LamX
def headK : D → Option Int
  | .tup (.int k :: _) => some k
  | _ => none
def keyP : List D → Option (List (Int × D))
  | [] => some []
  | d :: ds => match headK d, keyP ds with
    | some k, some ps => some ((k, d) :: ps)
    | _, _ => none
def insP (p : Int × D) : List (Int × D) → List (Int × D)
  | [] => [p]
  | q :: r => if p.1 ≤ q.1 then p :: q :: r else q :: insP p r
def srtP (ps : List (Int × D)) : List (Int × D) := ps.foldr insP []
theorem insP_perm (p : Int × D) : ∀ l : List (Int × D), (insP p l).Perm (p :: l)
  | [] => List.Perm.refl _
  | q :: r => by
    unfold insP
    by_cases h : p.1 ≤ q.1
    · rw [if_pos h]
    · rw [if_neg h]
      exact ((insP_perm p r).cons q).trans (List.Perm.swap _ _ _)
theorem srtP_perm : ∀ l : List (Int × D), (srtP l).Perm l
  | [] => List.Perm.refl _
  | p :: l => (insP_perm p _).trans ((srtP_perm l).cons p)
theorem insP_srt (p : Int × D) : ∀ {l : List (Int × D)}, l.Pairwise (fun a b => a.1 ≤ b.1) → (insP p l).Pairwise (fun a b => a.1 ≤ b.1)
  | [], _ => List.pairwise_singleton _ _
  | q :: r, h => by
    unfold insP
    rw [List.pairwise_cons] at h
    by_cases g : p.1 ≤ q.1
    · rw [if_pos g, List.pairwise_cons]
      refine ⟨fun z hz => ?_, List.pairwise_cons.mpr h⟩
      rcases List.mem_cons.mp hz with e | hz
      · rw [e]; exact g
      · exact Int.le_trans g (h.1 z hz)
    · rw [if_neg g, List.pairwise_cons]
      refine ⟨fun z hz => ?_, insP_srt p h.2⟩
      rcases List.mem_cons.mp ((insP_perm p r).mem_iff.mp hz) with e | hz
      · rw [e]; omega
      · exact h.1 z hz
theorem srtP_srt : ∀ l : List (Int × D), (srtP l).Pairwise (fun a b => a.1 ≤ b.1)
  | [] => .nil
  | p :: l => insP_srt p (srtP_srt l)
theorem nodup_fst {α : Type} : ∀ {m : List (Int × α)}, (m.map (·.1)).Nodup → ∀ {a b : Int × α}, a ∈ m → b ∈ m → a.1 = b.1 → a = b
  | [], _, _, _, h, _, _ => nomatch h
  | x :: m, nd, a, b, ha, hb, e => by
    rw [List.map_cons, List.nodup_cons] at nd
    rcases List.mem_cons.mp ha with h1 | h1 <;> rcases List.mem_cons.mp hb with h2 | h2
    · rw [h1, h2]
    · exact absurd (List.mem_map.mpr ⟨b, h2, by rw [← e, h1]⟩) nd.1
    · exact absurd (List.mem_map.mpr ⟨a, h1, by rw [e, h2]⟩) nd.1
    · exact nodup_fst nd.2 h1 h2 e
theorem srt_uniq {α : Type} : ∀ {l m : List (Int × α)}, l.Perm m → l.Pairwise (fun a b => a.1 ≤ b.1) → m.Pairwise (fun a b => a.1 ≤ b.1) → (m.map (·.1)).Nodup → l = m
  | [], m, p, _, _, _ => (List.Perm.nil_eq p)
  | a :: l, [], p, _, _, _ => absurd p.length_eq (by simp)
  | a :: l, b :: m, p, h1, h2, nd => by
    have ha : a ∈ b :: m := p.mem_iff.mp List.mem_cons_self
    have hb : b ∈ a :: l := p.mem_iff.mpr List.mem_cons_self
    rw [List.pairwise_cons] at h1 h2
    have le1 : a.1 ≤ b.1 := by
      rcases List.mem_cons.mp hb with e | e
      · rw [e]; exact Int.le_refl _
      · exact h1.1 b e
    have le2 : b.1 ≤ a.1 := by
      rcases List.mem_cons.mp ha with e | e
      · rw [e]; exact Int.le_refl _
      · exact h2.1 a e
    have e : a = b := nodup_fst nd ha List.mem_cons_self (by omega)
    subst e
    rw [List.map_cons, List.nodup_cons] at nd
    rw [srt_uniq (List.Perm.cons_inv p) h1.2 h2.2 nd.2]
def sortKD (h : EH) (ds : List D) : Option D := match ds with
  | [d] => (match asL h d with
    | some rows => (match keyP rows with
      | some ps => if (ps.map (·.1)).Nodup ∧ ps.length ≤ 16777215 then some (.lst ((srtP ps).map (·.2))) else none
      | none => none)
    | none => none)
  | _ => none
def mSortKey (a : M (List D)) : M D := fun ε h => bR (a ε h) fun ds h1 => rt (sortKD h1 ds) h1
variable [LamTab]
theorem keyP_reps {c : RC} : ∀ {rows : List D} {xs : List V} {ps : List (Int × D)}, Reps c rows xs → keyP rows = some ps → ∃ ts : List Addr, xs = ts.map V.ref ∧ ps.map (·.2) = rows ∧ ps.length = ts.length ∧ ∀ (i : Nat) (t : Addr) (p : Int × D), ts[i]? = some t → ps[i]? = some p → (∃ rest, SqT c.K c.H t (.int p.1 :: rest)) ∧ Rep c p.2 (.ref t)
  | [], _, _, .nil, e => by cases e; exact ⟨[], rfl, rfl, rfl, fun _ _ _ h => by simp at h⟩
  | d :: rows, _, ps, .cons r q, e => by
    unfold keyP at e
    cases h1 : headK d with
    | none => rw [h1] at e; cases e
    | some k =>
      cases h2 : keyP rows with
      | none => rw [h1, h2] at e; cases e
      | some ps' =>
        rw [h1, h2] at e
        cases e
        obtain ⟨ts, rfl, i2, i3, i4⟩ := keyP_reps q h2
        have hd : ∃ rest, d = .tup (.int k :: rest) := by
          cases d with
          | tup ds =>
            cases ds with
            | nil => cases h1
            | cons a ds =>
              cases a with
              | int j => cases h1; exact ⟨ds, rfl⟩
              | _ => cases h1
          | _ => cases h1
        obtain ⟨rest, rfl⟩ := hd
        cases r with
        | @tup t _ _ ht hr =>
          cases hr with
          | cons h0 hr =>
            cases h0
            refine ⟨t :: ts, rfl, by rw [List.map_cons, i2], by rw [List.length_cons, List.length_cons, i3], fun i t' p e1 e2 => ?_⟩
            cases i with
            | zero =>
              cases e1
              cases e2
              exact ⟨⟨_, ht⟩, .tup ht (.cons (.int k) hr)⟩
            | succ i => exact i4 i t' p (by simpa using e1) (by simpa using e2)
section
variable {X : Cx} {W : WX}
def rSortK (K : PySem.W.Frag) : List V → List V → Hp → VK → Prop := fun vs zs H Q => ∃ (a f c' : Addr) (l : LamD) (cl : List (Str × Addr)) (ts : List Addr) (ks : List Int), vs = [.ref a] ∧ zs = [.ref f] ∧ KeyOk l ∧ SqL K H a (ts.map V.ref) ∧ ks.length = ts.length ∧ ts.length ≤ 16777215 ∧
  H f = some (lamHO l cl .none c' f) ∧ H c' = some (CodeO c' l.qual) ∧ (∀ (i : Nat) (t : Addr) (k : Int), ts[i]? = some t → ks[i]? = some k → ∃ rest, SqT K H t (.int k :: rest)) ∧
  ∀ (p kS : Addr) (rs : List (Int × Addr)), rs.Perm (ks.zip ts) → rs.Pairwise (fun p q => p.1 ≤ q.1) → H p = none → H kS = none → kS ≠ p → Q (.ref p) (upd (upd H p (.lst (rs.map fun p => V.ref p.2))) kS (.lst []))
theorem cr_sortK (hr : Room 3 X.A) : CallRK X (.builtin "sorted") [Str.ofString "key"] (rSortK X.K) := by
  intro pins s σ H vs zs us ws Q I r rz h
  obtain ⟨a, f, c', l, cl, ts, ks, rfl, rfl, L, hs, hl, hz, hf, hc, rows, q⟩ := h
  obtain rfl := Vals.ref1 r
  obtain ⟨w1, rfl, e1⟩ := vals1 rz
  obtain rfl : w1 = Value.ref f := e1
  obtain ⟨its, rv, pl, hz1⟩ := I.list hs
  obtain rfl := refs_of rv
  have hZ : (ts.map Value.ref).length ≤ sizeLine := by rw [List.length_map, sizeLine_eq]; omega
  refine call_function_entry_kw kind_sorted plain_sorted entry_sorted (ksk_s1 _ _) ?_
  unfold Builtin.«sorted»
  refine wpAny_bind (m := checkCount "sorted" 1 1 _) (wpAny_pure ?_)
  refine wpAny_bind (collect_list pl.isList ?_ hZ)
  refine wpAny_bind (wpAny_newList ?_ hZ)
  have hsz : ((s.heap.push (seqObj "list" #[] 0)).update s.heap.objs.size (Obj.mapSeq (· ++ (ts.map Value.ref).toArray))).objs.size = s.heap.objs.size + 1 := by
    rw [Heap.size_update, size_push']
  have hoL : (((s.heap.push (seqObj "list" #[] 0)).update s.heap.objs.size (Obj.mapSeq (· ++ (ts.map Value.ref).toArray))).push (seqObj "list" (ts.map Value.ref).toArray 0)).get? (s.heap.objs.size + 1) = some (seqObj "list" (ts.map Value.ref).toArray 0) := by
    rw [← hsz]; exact Heap.get?_push_size _ rfl
  have keep : ∀ b o, s.heap.get? b = some o → (((s.heap.push (seqObj "list" #[] 0)).update s.heap.objs.size (Obj.mapSeq (· ++ (ts.map Value.ref).toArray))).push (seqObj "list" (ts.map Value.ref).toArray 0)).get? b = some o := fun b o q => by
    have hlt : b < s.heap.objs.size := Heap.lt_size q
    rw [Heap.get?_push_ne _ _ _ (by rw [hsz]; exact Nat.ne_of_lt (Nat.lt_succ_of_lt hlt)), Heap.get?_update_ne _ _ _ _ (Nat.ne_of_lt hlt), Heap.get?_push_ne _ _ _ (Nat.ne_of_lt hlt)]
    exact q
  have I1 := I.laid (a := s.heap.objs.size + 1) (o := .lst (ts.map V.ref)) (t' := s.toks) keep (Nat.le_succ _) ⟨by rw [List.length_map, sizeLine_eq]; omega, ts.map Value.ref, 0, rv, hoL⟩
  have hn : H (s.heap.objs.size + 1) = none := I.hok.fresh (Nat.le_succ _)
  have ext : ∀ b u, H b = some u → (∀ xs, u ≠ .lst xs) → upd H (s.heap.objs.size + 1) (.lst (ts.map V.ref)) b = some u := upd_keep (.inl hn)
  show wpAny _ _ _ _ _ { s with heap := ((s.heap.push (seqObj "list" #[] 0)).update s.heap.objs.size (Obj.mapSeq (· ++ (ts.map Value.ref).toArray))).push (seqObj "list" (ts.map Value.ref).toArray 0) }
  rw [hsz]
  refine wpAny_bind (wpAny_holding (wpAny_call_entry_kw slot_list_sort ⟨_, hoL, rfl⟩ entry_list_sort ?body (ksk_l1 _ _)))
  case body =>
    show wpAny (model X.prog X.w) X.A.in1.in1 (Builtin.«list.sort» ⟨[.ref (s.heap.objs.size + 1)], [(Str.ofString "key", .ref f)]⟩) _ _ _
    rw [ksk_t1]
    refine tree_I (ks := ks) L (show X.A.in1.in1.frames = some X.stack from I.ok.frames) hr.in1.in1 hz upd_same hl (ext _ _ hf (fun _ z => by unfold lamHO at z; cases z)) (ext _ _ hc (fun _ z => by unfold CodeO at z; cases z)) (fun i t k h1 h2 => ?_) I1 fun s' kS rs p1 p2 hk I2 => ⟨_, rfl, ?_⟩
    · obtain ⟨rest, hq⟩ := rows i t k h1 h2
      exact ⟨rest, sqT_ext ext hq⟩
    · have nk : kS ≠ s.heap.objs.size + 1 := fun z => by rw [z, upd_same] at hk; cases hk
      rw [upd_ne nk] at hk
      rw [upd2] at I2
      exact wpAny_pure ⟨_, rfl, .ref _, _, I2, rfl, q _ kS rs p1 p2 hn hk nk⟩
theorem sortK_read {i : Nat} (L : KeyOk (LamTab.lam i)) {a : M (List D)} {σ : L2.St} {H : Hp} {Q : VK} (h : tE X.K X.mg W (mSortKey a) σ H Q) : tCKw (rSortK X.K) (tA X.K X.mg W a) (tCons (tLam (X := X) i) tNil) σ H Q := by
  obtain ⟨c, ε, h, r, h', hK, hm, rfl, sr, er, e, px, go⟩ := h
  unfold tCKw
  refine tX.bind (k := fun ds h1 => rt (sortKD h1 ds) h1) hK hm sr er e px fun ds h1 c1 vs z1 l1 s1 r1 => ?_
  have hm1 := l1.mg.trans hm
  refine ⟨hm1.t trivial, fun f H1 md la => ?_⟩
  obtain ⟨l2, s2⟩ := s1.made md
  cases ek : sortKD h1 ds with
  | none => rw [ek] at z1; cases z1
  | some d0 =>
    rw [ek] at z1
    cases z1
    unfold sortKD at ek
    cases ds with
    | nil => cases ek
    | cons d ds =>
      cases ds with
      | cons _ _ => cases ek
      | nil =>
        dsimp only at ek
        cases q1 : asL h' d with
        | none => rw [q1] at ek; cases ek
        | some rows =>
          rw [q1] at ek
          dsimp only at ek
          cases q2 : keyP rows with
          | none => rw [q2] at ek; cases ek
          | some ps =>
            rw [q2] at ek
            dsimp only at ek
            by_cases hc : (ps.map (·.1)).Nodup ∧ ps.length ≤ 16777215
            · rw [if_pos hc] at ek
              cases ek
              cases r1 with
              | cons rd rn =>
                cases rn
                obtain ⟨la0, xs, rfl, hsq, rrows⟩ := asL_ok s2 (rd.le l2) q1
                obtain ⟨ts, rfl, i2, i3, i4⟩ := keyP_reps rrows q2
                obtain ⟨dV, c', k1, k2, k3⟩ := la
                have edV : dV = .none := by
                  rcases k3 with ⟨_, z⟩ | ⟨z, _⟩
                  · exact z
                  · rw [L.df] at z; cases z
                subst edV
                have hKK : c1.K = X.K := l1.K.trans hK
                refine ⟨la0, f, c', LamTab.lam i, _, ts, ps.map (·.1), rfl, rfl, L, by rw [← hKK]; exact hsq, by rw [List.length_map, i3], by rw [← i3]; exact hc.2, k1, k2, fun j t k e1 e2 => ?_, fun p kS rs p1 p2 hp hkS nk => ?_⟩
                · rw [List.getElem?_map] at e2
                  cases e3 : ps[j]? with
                  | none => rw [e3] at e2; cases e2
                  | some p =>
                    rw [e3] at e2
                    cases e2
                    have := (i4 j t p e1 e3).1
                    rw [← hKK]
                    exact this
                · -- the triples
                  have ez : (ps.map (·.1)).zip ts = (ps.zip ts).map (fun z => (z.1.1, z.2)) := by rw [List.zip_map_left]; rfl
                  rw [ez] at p1
                  obtain ⟨ws, rfl, pw⟩ := perm_inv_ p1 rfl
                  have e1 : ws.map (fun z : (Int × D) × Addr => z.1) = srtP ps := by
                    refine srt_uniq ((pw.map fun z => z.1).trans ?_) ?_ (srtP_srt ps) ?_
                    · have : (ps.zip ts).map (fun z => z.1) = ps := by
                        have := List.map_fst_zip (l₁ := ps) (l₂ := ts) (by omega)
                        exact this
                      rw [this]
                      exact (srtP_perm ps).symm
                    · rw [List.pairwise_map] at p2 ⊢
                      exact p2
                    · exact ((srtP_perm ps).map (·.1)).nodup_iff.mpr hc.1
                  obtain ⟨l3, s3, f3⟩ := s2.new (o := .lst (ws.map fun z => V.ref z.2)) hp
                  have hk2 : upd H1 p (.lst (ws.map fun z => V.ref z.2)) kS = none := (upd_ne nk).trans hkS
                  obtain ⟨l4, s4, f4⟩ := s3.new (o := .lst []) hk2
                  have rw_ : ∀ (zs : List ((Int × D) × Addr)), (∀ z ∈ zs, Rep { c1 with H := H1 } z.1.2 (.ref z.2)) → Reps { c1 with H := H1 } (zs.map fun z => z.1.2) (zs.map fun z => V.ref z.2) := fun zs hz => by
                    induction zs with
                    | nil => exact .nil
                    | cons z zs ih => exact .cons (hz z List.mem_cons_self) (ih fun y hy => hz y (List.mem_cons_of_mem _ hy))
                  have rr := rw_ ws fun z hz => by
                    have hz2 := pw.mem_iff.mp hz
                    obtain ⟨j, hj, ej⟩ := List.mem_iff_getElem.mp hz2
                    have e2 : (ps.zip ts)[j]? = some z := by rw [List.getElem?_eq_getElem hj, ej]
                    rw [List.getElem?_zip_eq_some] at e2
                    exact (i4 j z.2 z.1 e2.2 e2.1).2
                  have ed : (srtP ps).map (·.2) = ws.map fun z => z.1.2 := by rw [← e1, List.map_map]; rfl
                  have hres : Rep (({ c1 with H := H1 } : RC).put p (.lst (ws.map fun z => V.ref z.2))) (.lst ((srtP ps).map (·.2))) (.ref p) := by
                    rw [ed]
                    exact .lst upd_same f3 (rr.le l3)
                  have g := go _ rfl ((({ c1 with H := H1 } : RC).put p (.lst (ws.map fun z => V.ref z.2))).put kS (.lst [])) (.ref p) (((l1.trans l2).trans l3).trans l4) s4 (hres.le l4)
                  rw [List.map_map]
                  exact g
            · rw [if_neg hc] at ek; cases ek
theorem re_sortKey {i j : Nat} {p pos p4 kpos : Pos} {e : Expr} {m : M (List D)} {c P : Addr} (Wl : LamW X i c P) (L : KeyOk (LamTab.lam i)) (hr : Room j X.A) (hm : X.mg "sorted" = none) (ha : RA X W [e] m) (hk : 3 ≤ j := by decide) (hg : Gl X "sorted" := by rfl)
    (he : backTo pos (starEach [e] X.env) = (false, eval e X.env) :: backTo pos (starEach [] X.env) := by rfl) (hpl : (backTo pos (starEach [e] X.env)).any (·.1) = false := by rfl) :
    RE X W (.Call (.Name "sorted" p) [e] [⟨some "key", .Lambda (LamTab.lam i).params (LamTab.lam i).body (LamTab.lam i).scope p4, kpos⟩] pos) (mSortKey m) :=
  pe_imp (pe_callBK (cr_sortK (hr.mono hk)) hg hm (by rfl) ha (pk_cons (pe_lam Wl) pk_nil) (by decide) (by decide) he hpl (by rfl) (by rfl) (by rfl)) fun σ H Q h => sortK_read L h
end
end PD
namespace PX
open PySem PySem.Spec PyProof.Rows L2 PySem.Calls
end PX
namespace PD
open PySem PySem.Spec PyProof.Rows L2 PX LamX
end PD
namespace PX
open PySem PySem.Spec PyProof.Rows L2 PySem.Calls
end PX
namespace PD
open PySem PySem.Spec PyProof.Rows L2 PX LamX
end PD
namespace PX
open PySem PySem.Spec PyProof.Rows L2 PySem.Calls
/-- what super().__init__ gets: the parameter, or a constant -/
inductive SArg
  | par
  | con (c : Str)
def SArg.N : SArg → List Str
  | .par => ["self", "code"]
  | .con _ => ["self"]
def SArg.is : SArg → List V → Addr → V → Prop
  | .par, vs, a, y => vs = [.ref a, y]
  | .con c, vs, a, y => vs = [.ref a] ∧ y = .str c
def SArg.ex : SArg → Expr → Prop
  | .par, e => ∃ p, e = .Name "code" p
  | .con c, e => ∃ j p, e = .Constant (.str c) j p
def SArg.te : SArg → TE
  | .par => tVar 1
  | .con c => tC (.str c)
end PX
namespace PX
open PySem PySem.Spec PyProof.Rows L2 PySem.Calls
theorem SArg.val {g : SArg} {vs : List V} {a : Addr} {y : V} {H : Hp} {Q : VK} (h : g.is vs a y) (q : Q y H) : g.te (vs.map some) H Q := by
  cases g with
  | par =>
    have h : vs = [.ref a, y] := h
    subst h
    exact ⟨y, rfl, q⟩
  | con c =>
    obtain ⟨rfl, rfl⟩ := h
    exact q
theorem SArg.len {g : SArg} {vs : List V} {a : Addr} {y : V} (h : g.is vs a y) : vs.length = g.N.length := by
  cases g with
  | par =>
    have h : vs = [.ref a, y] := h
    subst h; rfl
  | con c =>
    obtain ⟨rfl, _⟩ := h
    rfl
theorem SArg.self {g : SArg} {vs : List V} {us : List Value} {a : Addr} {y : V} (h : g.is vs a y) (r : Vals vs us) : (g.N.zip us).reverse.lookup ("self" : Str) = some (.ref a) ∧ ∀ (i : Nat) (x : Str) (v : V), g.N[i]? = some x → (vs.map some)[i]? = some (some v) → ∃ u, RelV v u ∧ (g.N.zip us).reverse.lookup x = some u := by
  cases g with
  | par =>
    have h : vs = [.ref a, y] := h
    subst h
    obtain ⟨u0, u1, rfl, r0, r1⟩ := r.two
    cases (show u0 = Value.ref a from r0)
    refine ⟨rfl, fun i x v h1 h2 => ?_⟩
    rcases i with _ | _ | n
    · cases h1; cases h2; exact ⟨_, r0, rfl⟩
    · cases h1; cases h2; exact ⟨_, r1, rfl⟩
    · simp at h2
  | con c =>
    obtain ⟨rfl, _⟩ := h
    match us, r with
    | [u0], .cons r0 .nil =>
      cases (show u0 = Value.ref a from r0)
      refine ⟨rfl, fun i x v h1 h2 => ?_⟩
      rcases i with _ | n
      · cases h1; cases h2; exact ⟨_, r0, rfl⟩
      · simp at h2
end PX
namespace PX
open PySem PySem.Spec PyProof.Rows L2 PySem.Calls
end PX
namespace PD
open PySem PySem.Spec PyProof.Rows L2 PX
end PD
namespace PX
open PySem PySem.Spec PyProof.Rows L2 PySem.Calls
end PX
namespace PD
open PySem PySem.Spec PyProof.Rows L2 PX LamX
variable [LamTab]
section
variable {X : Cx} {W : WX}
theorem re_sortKey2 {lams : Nat → LamD} {i j : Nat} {p pos p4 kpos : Pos} {pd : He.Defn} {ks : List Nat} {e lam : Expr} {m : M (List D)} (hl : LamTab.lam = lams) (L : LamF X.env X.N (lams i) ks) (Pq : LamP X.base X.mg X.K X.env pd (lams i).qual) (Ko : KeyOk (lams i)) (hm : X.mg "sorted" = none) (hr : Room j X.A) (ha : RA X W [e] m)
    (hk : 3 ≤ j := by decide) (hlam : lam = .Lambda (lams i).params (lams i).body (lams i).scope p4 := by rfl) (hg : Gl X "sorted" := by rfl)
    (he : backTo pos (starEach [e] X.env) = (false, eval e X.env) :: backTo pos (starEach [] X.env) := by rfl) (hpl : (backTo pos (starEach [e] X.env)).any (·.1) = false := by rfl) :
    RE X W (.Call (.Name "sorted" p) [e] [⟨some "key", lam, kpos⟩] pos) (mSortKey m) := by
  obtain ⟨h1, _⟩ := lamW_of hl L Pq
  subst hl
  rw [hlam]
  exact re_sortKey h1 Ko hr hm ha hk hg he hpl
end
/-- a method's own address, by the head's names -/
theorem fAd_mk {K : PySem.W.Frag} {mg : Str → Option Value} {C : Str} {Ca f : Addr} (g : mg C = some (.ref Ca)) (gl : mg C = some (.ref (He.ga K C))) (M : Mk K Ca f) : f = He.fAd K (C, some "__init__") := by
  rw [g] at gl
  cases gl
  show f = He.ma K (He.ga K C) "__init__"
  unfold He.ma
  rw [M.init]
end PD
namespace PX
open PySem PySem.Spec PyProof.Rows L2 PySem.Calls
section
open PySem.W
variable {prog : Program} {w : World} {A : Around} {E : Value → Shared → Prop} {s : Shared} {K : Frag} {x C f : Addr} {ox : Obj} {od : Option Obj} {cd : ClassData} {nm : String} {name : Str} {b : Value} {T : String}
theorem fills_own {M : Model} {h : Heap} (X : K.In h) (hcd : clsIn K C = some cd) (hmro : ∃ r, cd.mro = .ref C :: r) (hs : findIn K (.ref C) (dunder nm) = some (some (.ref f))) : Looks M h (fillsNumberSlot (.ref C) nm) true := by
  obtain ⟨r, hr⟩ := hmro
  unfold fillsNumberSlot
  have M0 : Looks M h (mroOf (.ref C)) cd.mro := (looks_clsIn X hcd).andThen .now
  refine M0.andThen ?_
  rw [hr]
  simp only [List.anyM]
  refine Looks.andThen (a := true) ?_ (Looks.now)
  refine Looks.andThen (a := true) ?_ (Looks.now)
  refine (looks_findIn X hs).andThen ?_
  exact Looks.now
theorem bin_own {op : Operator} (hop : op.info.2 = nm) (X : K.In s.heap) (I : InstAt s.heap x ox C od) (hcd : clsIn K C = some cd) (hmro : ∃ r, cd.mro = .ref C :: r) (hs : findIn K (.ref C) (dunder nm) = some (some (.ref f))) (hf : typeIn K (.ref f) = some (.type "function"))
    (hb : Looks (model prog w) s.heap (typeOf b) (.type T)) (hT : fillsNumberSlot (.type T) nm = pure false) {Q : Value → Shared → Prop} (h : wpAny (model prog w) A (call (.ref f) [.ref x, b]) (fun v s' => v ≠ .notImplemented ∧ Q v s') E s) : wpAny (model prog w) A (binaryOp op (.ref x) b) Q E s := by
  unfold binaryOp
  refine wpAny_holding ?_
  rw [show op.info = (op.info.1, nm) by rw [← hop]]
  refine wpAny_bind ?_
  unfold binaryOp1
  refine wpAny_bind (I.type.here (wpAny_bind (hb.here ?_)))
  refine wpAny_bind ((fills_own X hcd hmro hs).here ?_)
  rw [if_neg (by intro z; cases z)]
  refine wpAny_bind (wpAny_of_eq hT ?_)
  simp only [Bool.and_false, Bool.false_and, Bool.false_eq_true, if_false, Bool.true_and, if_true, pure_bind]
  refine wpAny_bind ?_
  unfold tryMethod
  refine wpAny_bind (special_fn X I hs hf (wpAny_mono h (fun v s' hv => ?_) fun _ _ z => z))
  obtain ⟨nv, q⟩ := hv
  cases v <;> first | exact absurd rfl nv | exact wpAny_pure (wpAny_pure (wpAny_pure q))
end
theorem noFill_list_sub : fillsNumberSlot (.type "list") "sub" = pure false := by
  have h1 : typeLookup (.type "list") (dunder "sub") = pure none := by rw [typeLookup_type, builtinLookup_eq_fast]; kernel_rfl
  have h2 : typeLookup (.type "list") (dunderR "sub") = pure none := by rw [typeLookup_type, builtinLookup_eq_fast]; kernel_rfl
  simp only [fillsNumberSlot, h1, h2, pure_bind, Option.isSome_none, Bool.false_and, Bool.or_false]
theorem noFill_tuple_sub : fillsNumberSlot (.type "tuple") "sub" = pure false := by
  have h1 : typeLookup (.type "tuple") (dunder "sub") = pure none := by rw [typeLookup_type, builtinLookup_eq_fast]; kernel_rfl
  have h2 : typeLookup (.type "tuple") (dunderR "sub") = pure none := by rw [typeLookup_type, builtinLookup_eq_fast]; kernel_rfl
  simp only [fillsNumberSlot, h1, h2, pure_bind, Option.isSome_none, Bool.false_and, Bool.or_false]
/-- the operators that are served -/
inductive OpK | add | sub
def OpK.op : OpK → Operator
  | .add => .Add
  | .sub => .Sub
def OpK.nm : OpK → String
  | .add => "add"
  | .sub => "sub"
def OpK.m : OpK → Str
  | .add => "__add__"
  | .sub => "__sub__"
theorem OpK.info (o : OpK) : o.op.info.2 = o.nm := by cases o <;> rfl
theorem OpK.dun (o : OpK) : dunder o.nm = o.m := by cases o <;> rfl
theorem OpK.fill (o : OpK) {T : String} (h : T = "list" ∨ T = "tuple") : fillsNumberSlot (.type T) o.nm = pure false := by
  rcases h with rfl | rfl <;> cases o
  · exact noFill_list_add
  · exact noFill_list_sub
  · exact noFill_tuple_add
  · exact noFill_tuple_sub
theorem relV_ni {v : V} {u : Value} (r : RelV v u) : u ≠ .notImplemented := fun z => by
  subst z
  cases v <;> first | (cases r; done) | (obtain ⟨_, q⟩ := r; cases q)
/-- o + y -/
def tOpO (K : PySem.W.Frag) (C : Addr) (sp : Sp) (E : XK) (ta tb : TE) : TE := fun σ H Q => ta σ H fun x H1 => tb σ H1 fun y H2 => ∃ (a dx : Addr) (fs : List (Str × V)) (T : String), x = .ref a ∧ H2 a = some (.ins C dx fs) ∧ TyX K H2 y (.type T) ∧ (T = "list" ∨ T = "tuple") ∧ sp [x, y] H2 Q E
section
variable {X : Cx} {C f : Addr} {fd : FuncData} {ps : List Str} {sp : Sp} {k : Nat} {CX : CXT} {EE : XK} {a b : Expr} {ta tb : TE} {pos : Pos}
theorem pe_opO (o : OpK) {cd : ClassData} (hcd : PySem.W.clsIn X.K C = some cd) (hmro : ∃ r, cd.mro = .ref C :: r) (M : Meth X.K C o.m f) (F : FnOk X.prog X.w X.K X.mg X.base CX k f fd ps sp) (hr : Room k X.A) (hb : Binds X.K fd ps []) (hx : Passes CX X EE) (ha : PE X a ta) (hb2 : PE X b tb) : PE X (.BinOp a o.op b pos) (tOpO X.K C sp EE ta tb) := by
  refine ⟨fun pins s σ H Q I h => ?_⟩
  refine wpAny_BinOp (bin ha hb2 (R := fun x y H2 => ∃ (a dx : Addr) (fs : List (Str × V)) (T : String), x = .ref a ∧ H2 a = some (.ins C dx fs) ∧ TyX X.K H2 y (.type T) ∧ (T = "list" ∨ T = "tuple") ∧ sp [x, y] H2 Q EE) I h fun v u s2 x y H2 I2 rx ry q => ?_)
  obtain ⟨a, dx, fs, T, rfl, ea, ty, hT, q⟩ := q
  obtain rfl : v = Value.ref a := rx
  obtain ⟨mA, O, _⟩ := ins_get I2.hok ea
  obtain ⟨od, J, _⟩ := O.look
  obtain ⟨Pk, Z, p, _⟩ := kit_of I2 ry ty
  refine bin_own o.info I2.kIn J hcd hmro (by rw [o.dun]; exact M.at_) (beq_iff_eq.mp M.fn) (Z.ty _ _ I2.kIn p) (o.fill hT) ?_
  refine wpAny_mono (run_fn (us := [.ref a, u]) (vs := [.ref a, y]) F hr hb .nil hx I2 (.cons rfl (.cons ry .nil)) q) (fun r s' hq => ?_) fun _ _ z => z
  obtain ⟨v', H', I', rv, q'⟩ := hq
  exact ⟨relV_ni rv, v', H', I', rv, q'⟩
end
end PX
namespace PD
open PySem PySem.Spec PyProof.Rows L2 PX LamX
def seqT (t : Option Ty) : Bool := match t with
  | some .lst => true
  | some .tup => true
  | _ => false
def opOF (C : Str) (F : PF) (x y : D) (h : EH) : O D := match insD h x with
  | some (C1, _) => if C1 = C ∧ seqT (tyD h y) = true ∧ noRef.go [x, y] = true then (match F [x, y] with
    | some r => some (r, h)
    | none => none) else none
  | none => none
def mOpO (C : Str) (F : PF) (a b : M D) : M D := fun ε h => bR (a ε h) fun x h1 => bR (b ε h1) fun y h2 => opOF C F x y h2
variable [LamTab]
section
variable {X : Cx} {W : WX}
theorem seqT_nm {t : Option Ty} (h : seqT t = true) : ∃ u, t = some u ∧ (u.nm = "list" ∨ u.nm = "tuple") := by
  cases t with
  | none => cases h
  | some u => cases u <;> first | (cases h; done) | exact ⟨_, rfl, .inl rfl⟩ | exact ⟨_, rfl, .inr rfl⟩
theorem opO_of {C : Str} {Ca : Addr} {F : PF} {a b : M D} {σ : L2.St} {H : Hp} {Q : VK} (hCa : X.mg C = some (.ref Ca)) (fl : Flat W) (h : tE X.K X.mg W (mOpO C F a b) σ H Q) :
    tOpO X.K Ca (SpP X.K X.mg 2 F) (EW W) (tE X.K X.mg W a) (tE X.K X.mg W b) σ H Q := by
  obtain ⟨c, ε, h, r, h', hK, hm, rfl, sr, er, e, px, go⟩ := h
  unfold tOpO
  refine tX.bind hK hm sr er e px fun x h1 c1 v e1 l1 s1 r1 => ?_
  have hK1 := l1.K.trans hK
  refine tX.bind hK1 (l1.mg.trans hm) s1 (er.le l1) e1 (px.le l1) fun y h2 c2 u e2 l2 s2 r2 => ?_
  have hK2 := l2.K.trans hK1
  have r1' := r1.le l2
  unfold opOF at e2
  cases q : insD h2 x with
  | none => rw [q] at e2; cases e2
  | some z =>
    obtain ⟨C1, fs⟩ := z
    rw [q] at e2
    dsimp only at e2
    by_cases hc : C1 = C ∧ seqT (tyD h2 y) = true ∧ noRef.go [x, y] = true
    · rw [if_pos hc] at e2
      obtain ⟨rfl, hs, hr⟩ := hc
      obtain ⟨p, Cb, dx, vs, rfl, k1, k2, k3⟩ := insD_ok s2 r1' q
      rw [l2.mg.e', l1.mg.e', hm.mge, hCa] at k1
      cases k1
      obtain ⟨t, et, hnm⟩ := seqT_nm hs
      have ty := tyD_ok s2 r2 et
      rw [hK2] at ty
      cases q2 : F [x, y] with
      | none => rw [q2] at e2; cases e2
      | some r2' =>
        rw [q2] at e2
        cases e2
        exact ⟨p, dx, vs, t.nm, rfl, k2, ty, hnm, spP_of hK2 (l2.mg.trans (l1.mg.trans hm)) s2 (.cons r1' (.cons r2 .nil)) rfl hr q2 (fun d ed c' v l s rd => go d ed c' v ((l1.trans l2).trans l) s rd)
          fun y ey c' cls dx l s xr => fl _ _ _ _ _ (px y ey c' cls dx ((l1.trans l2).trans l) s xr)⟩
    · rw [if_neg hc] at e2; cases e2
theorem mroB_ok {K : PySem.W.Frag} {C : Str} (h : mroB K C = true) : ∃ cd, PySem.W.clsIn K (He.ga K C) = some cd ∧ ∃ r, cd.mro = .ref (He.ga K C) :: r := by
  unfold mroB at h
  cases q : PySem.W.clsIn K (He.ga K C) with
  | none => rw [q] at h; cases h
  | some cd =>
    rw [q] at h
    dsimp only at h
    refine ⟨cd, rfl, ?_⟩
    split at h
    · rename_i a r e
      rw [e, of_decide_eq_true h]
      exact ⟨_, rfl⟩
    · cases h
theorem re_opO (o : OpK) {C : Str} {a b : Expr} {ma mb : M D} {pos : Pos} {k j : Nat} {F : PF} (G : MetP X.prog X.w X.K X.mg X.base C o.m k 2 F) (hga : X.mg C = some (.ref (He.ga X.K C))) (N : mroB X.K C = true) (hr : Room j X.A) (tk : Takes X W) (fl : Flat W) (ha : RE X W a ma) (hb : RE X W b mb) (hk : k ≤ j := by decide) :
    RE X W (.BinOp a o.op b pos) (mOpO C F ma mb) := by
  obtain ⟨Ca, f, fd, ps, h1, h2, h3, h4, h5, h6⟩ := G.ex
  rw [hga] at h1
  cases h1
  obtain ⟨cd, m1, m2⟩ := mroB_ok N
  exact pe_imp (pe_opO o m1 m2 h3 h6 (hr.mono hk) h4 (passE tk fl) ha hb) fun σ H Q h => opO_of hga fl h
end
end PD
namespace PX
open PySem PyProof.Rows TS
def hd0 (h : Heap) (v : Value) : Int := (intsOf h v).headD 0
structure TupsH (h : Heap) (vs : List Value) : Prop where
  ok : ∀ v ∈ vs, ∃ m ns, TupInts h v (m :: ns)
  un : ∀ u ∈ vs, ∀ v ∈ vs, hd0 h u = hd0 h v → u = v
theorem hd0_eq {h : Heap} {v : Value} {m : Int} {ns : List Int} (x : TupInts h v (m :: ns)) : hd0 h v = m := by
  unfold hd0; rw [x.ints]; rfl
theorem hd0_keep {h h' : Heap} {v : Value} {m : Int} {ns : List Int} (x : TupInts h v (m :: ns)) (k : ∀ b o, h.get? b = some o → o.cls = .type "tuple" → h'.get? b = some o) : hd0 h' v = hd0 h v := (hd0_eq (x.keeps k)).trans (hd0_eq x).symm
theorem TupsH.keeps {h h' : Heap} {vs : List Value} (x : TupsH h vs) (k : ∀ b o, h.get? b = some o → o.cls = .type "tuple" → h'.get? b = some o) : TupsH h' vs :=
  ⟨fun v hv => let ⟨m, ns, t⟩ := x.ok v hv; ⟨m, ns, t.keeps k⟩, fun u hu v hv e => by
    obtain ⟨m, ns, t⟩ := x.ok u hu
    obtain ⟨m', ns', t'⟩ := x.ok v hv
    exact x.un u hu v hv (by rw [← hd0_keep t k, ← hd0_keep t' k]; exact e)⟩
section
variable {prog : Program} {w : World} {A : Around} {E : Value → Shared → Prop} {s : Shared} {Q : Bool → Shared → Prop}
theorem lex_eq {c : Bool} {xs ys : List Value} {ns : List Int} (i : Nat) (hx : IntsAre xs ns) (hy : IntsAre ys ns) (q : Q false s) : PySem.W.KatLex prog w A c false Q (xs.zip ys) i s := by
  induction hx generalizing ys i with
  | nil =>
    cases hy
    exact PySem.W.kat_nil q
  | @cons p t xs ns hx ih =>
    cases hy with
    | @cons _ u ys _ hy =>
      refine PySem.W.kat_cons (wpAny_eqBool_int ?_)
      rw [beq_self_eq_true]
      exact PySem.W.kat_yes (ih (i + 1) hy)
theorem lex_ne {c d : Bool} {xs ys : List Value} {p q : Int} {ns ms : List Int} (hx : IntsAre xs (p :: ns)) (hy : IntsAre ys (q :: ms)) (ne : p ≠ q) (z : Q (decide (p < q)) s) : PySem.W.KatLex prog w A c d Q (xs.zip ys) 0 s := by
  cases hx with
  | cons hx =>
    cases hy with
    | cons hy =>
      refine PySem.W.kat_cons (wpAny_eqBool_int ?_)
      rw [beq_eq_false_iff_ne.mpr ne]
      exact PySem.W.kat_no (oneLt_ints _ z)
end
theorem firstsH {h : Heap} : ∀ vs : List Value, (∀ v ∈ vs, ∃ m ns, TupInts h v (m :: ns)) → ∃ fs, PySem.W.KatTups h vs fs ∧ fs.length = vs.length ∧ ∀ f ∈ fs, ∃ n t, f = Value.int n t
  | [], _ => ⟨[], PySem.W.KatTups.nil, rfl, fun f hf => nomatch hf⟩
  | v :: vs, x => by
    obtain ⟨fs, k, hl, hi⟩ := firstsH vs fun u hu => x u (List.mem_cons_of_mem _ hu)
    obtain ⟨m, ns, ⟨a, xs, rfl, ⟨o, ho, hc, n, hdt⟩, i⟩⟩ := x v List.mem_cons_self
    obtain ⟨y, ys, e⟩ : ∃ y ys, xs.toList = y :: ys := by
      cases q : xs.toList with
      | nil => rw [q] at i; cases i
      | cons y ys => exact ⟨y, ys, rfl⟩
    obtain ⟨m', t, hy⟩ := i.all y (by rw [e]; exact List.mem_cons_self)
    refine ⟨y :: fs, PySem.W.KatTups.cons ho hc hdt (by have z := congrArg (fun l : List Value => l[0]?) e; simpa using z) k, by rw [List.length_cons, List.length_cons, hl], fun f hf => ?_⟩
    rcases List.mem_cons.mp hf with e | hf
    · exact ⟨m', t, e.trans hy⟩
    · exact hi f hf
section
variable {prog : Program} {w : World} {A : Around} {E : Value → Shared → Prop} {s : Shared}
theorem kindH {vs : List Value} (h2 : 2 ≤ vs.length) (x : TupsH s.heap vs) (r : Value → Int) (hr : ∀ v ∈ vs, r v = hd0 s.heap v) (Q : SortKind → Shared → Prop) (h : ∀ κ, Cmp prog w A s κ (pairsOf vs) r → Q κ s) : wpAny (model prog w) A (keyKind' vs.toArray) Q E s := by
  obtain ⟨fs, k, hl, hi⟩ := firstsH vs x.ok
  refine PySem.W.kat_kind (T := Value.type "int") k (by omega) (fun f hf => ?_) rfl (h _ ?_)
  · obtain ⟨n, t, rfl⟩ := hi f hf
    exact PySem.W.Looks.of_pure rfl
  · intro p q hp hq Q' E' hQ
    rw [pairsOf_toList] at hp hq
    have mp := (mem_zip_self hp).2
    have mq := (mem_zip_self hq).2
    obtain ⟨m, ns, tp⟩ := x.ok _ mp
    obtain ⟨m', ms, tq⟩ := x.ok _ mq
    have ep : r p.1 = m := (hr _ mp).trans (hd0_eq tp)
    have eq : r q.1 = m' := (hr _ mq).trans (hd0_eq tq)
    rw [ep, eq] at hQ
    obtain ⟨a, xs, e1, ⟨o, ho, hc, n, hdt⟩, i⟩ := id tp
    obtain ⟨a', ys, e2, ⟨o', ho', hc', n', hdt'⟩, i'⟩ := id tq
    by_cases e : m = m'
    · have e3 := x.un _ mp _ mq (by rw [hd0_eq tp, hd0_eq tq, e])
      have e4 : m :: ns = m' :: ms := by rw [← tp.ints, ← tq.ints, e3]
      rw [e1, e2]
      refine PySem.W.kat_lt ho hdt ho' hdt' ?_
      have sz : decide (xs.size < ys.size) = false := by
        have l1 := i.length
        have l2 := i'.length
        rw [Array.length_toList] at l1 l2
        rw [← e4] at l2
        exact decide_eq_false (by omega)
      rw [sz]
      refine lex_eq 0 i (by rw [e4]; exact i') ?_
      rw [show decide (m < m') = false from decide_eq_false (by omega)] at hQ
      exact hQ
    · rw [e1, e2]
      exact PySem.W.kat_lt ho hdt ho' hdt' (lex_ne i i' e hQ)
theorem sortH {a : Addr} {vs : List Value} {n : Nat} {P : PySem.Fin → Shared → Prop} (ho : s.heap.get? a = some (seqObj "list" vs.toArray n)) (h64 : vs.length < 64) (x : TupsH s.heap vs) (r : Value → Int) (hr : ∀ v ∈ vs, r v = hd0 s.heap v)
    (h : ∀ out : Array Value, out.toList.Perm vs → out.toList.Pairwise (fun u v => r u ≤ r v) → P (.done (.ret .none)) { s with heap := sortedHeap s.heap a vs out }) : wpAny (model prog w) A (Builtin.«list.sort» ⟨[.ref a], []⟩) P E s := by
  have keep : ∀ b o, s.heap.get? b = some o → o.cls = .type "tuple" → (midHeap s.heap a vs).get? b = some o := fun b o e hc => midHeap_old (fun z => by
    rw [z, ho] at e
    have e' : seqObj "list" vs.toArray n = o := Option.some.inj e
    rw [← e'] at hc
    have c' : Value.type "list" = Value.type "tuple" := hc
    injection c' with c''
    exact absurd c'' (by decide)) e
  refine SK.plain_sort (r := r) ho h64 (fun h2 Q hQ => kindH (s := { s with heap := midHeap s.heap a vs }) h2 (x.keeps keep) r (fun v hv => ?_) Q hQ) fun ps out h1 h2 h3 => ?_
  · obtain ⟨m, ns, t⟩ := x.ok v hv
    exact (hr v hv).trans (hd0_keep t keep).symm
  · obtain ⟨p, o⟩ := out_rank h1 h2 h3
    exact h out p o
theorem sortedH {l : Addr} {vs : List Value} {Q : Value → Shared → Prop} (hl : s.heap.IsList l vs.toArray) (h64 : vs.length < 64) (x : TupsH s.heap vs)
    (h : ∀ out : Array Value, out.toList.Perm vs → out.toList.Pairwise (fun u v => hd0 s.heap u ≤ hd0 s.heap v) → Q (.ref (s.heap.objs.size + 1)) { s with heap := sortedAll s.heap vs out }) : wpAny (model prog w) A (call (.builtin "sorted") [.ref l]) Q E s := by
  refine Calls.call_function_entry kind_sorted plain_sorted entry_sorted (args_sorted1 _) ?_
  unfold Builtin.«sorted»
  refine wpAny_bind (m := checkCount "sorted" 1 1 _) (wpAny_pure (wpAny_bind (collect_list hl (wpAny_bind (wpAny_newList ?_ (by rw [sizeLine_eq]; omega))) (by rw [sizeLine_eq]; omega))))
  have zsz : ((s.heap.push (seqObj "list" #[] 0)).update s.heap.objs.size (Obj.mapSeq (· ++ vs.toArray))).objs.size = s.heap.objs.size + 1 := by rw [Heap.size_update, size_push']
  have atL : (((s.heap.push (seqObj "list" #[] 0)).update s.heap.objs.size (Obj.mapSeq (· ++ vs.toArray))).push (seqObj "list" vs.toArray 0)).get? (s.heap.objs.size + 1) = some (seqObj "list" vs.toArray 0) := by
    rw [← zsz]; exact Heap.get?_push_size _ rfl
  have keep : ∀ b o, s.heap.get? b = some o → o.cls = .type "tuple" → (((s.heap.push (seqObj "list" #[] 0)).update s.heap.objs.size (Obj.mapSeq (· ++ vs.toArray))).push (seqObj "list" vs.toArray 0)).get? b = some o := fun b o q _ => by
    have lt := Heap.lt_size q
    rw [Heap.get?_push_ne _ _ _ (by rw [zsz]; exact Nat.ne_of_lt (Nat.lt_succ_of_lt lt)), Heap.get?_update_ne _ _ _ _ (Nat.ne_of_lt lt), Heap.get?_push_ne _ _ _ (Nat.ne_of_lt lt)]
    exact q
  show wpAny _ _ _ _ _ { s with heap := ((s.heap.push (seqObj "list" #[] 0)).update s.heap.objs.size (Obj.mapSeq (· ++ vs.toArray))).push (seqObj "list" vs.toArray 0) }
  rw [zsz]
  refine wpAny_bind (wpAny_holding (wpAny_call_entry slot_list_sort ⟨_, atL, rfl⟩ entry_list_sort (sortH atL h64 (x.keeps keep) (fun v => hd0 s.heap v) (fun v hv => ?_) fun out a1 a2 => ⟨_, rfl, wpAny_pure ⟨_, rfl, h out a1 a2⟩⟩) (args_list_sort _)))
  obtain ⟨m, ns, t⟩ := x.ok v hv
  exact (hd0_keep t keep).symm
end
end PX
namespace PX
open PySem PySem.Spec PyProof.Rows L2 PD
def rSortF (K : PySem.W.Frag) : List V → Hp → VK → Prop := fun vs H Q => ∃ (la : Addr) (ts : List Addr) (gs : List (List Int)), vs = [V.ref la] ∧ SqL K H la (ts.map V.ref) ∧ ts.length < 64 ∧ gs.length = ts.length ∧ (∀ (i : Nat) t g, ts[i]? = some t → gs[i]? = some g → SqT K H t (g.map V.int) ∧ g ≠ []) ∧ (gs.map fun g => g.headD 0).Nodup ∧
  ∀ (p : Addr) (rs : List (Int × Addr)), rs.Perm ((gs.map fun g => g.headD 0).zip ts) → rs.Pairwise (fun a b => a.1 ≤ b.1) → H p = none → Q (.ref p) (upd H p (.lst (rs.map fun z => V.ref z.2)))
theorem nodup_ix {l : List Int} (nd : l.Nodup) {i j : Nat} {a : Int} (h1 : l[i]? = some a) (h2 : l[j]? = some a) : i = j := by
  obtain ⟨k1, e1⟩ := List.getElem?_eq_some_iff.mp h1
  obtain ⟨k2, e2⟩ := List.getElem?_eq_some_iff.mp h2
  exact (List.getElem_inj nd).mp (e1.trans e2.symm)
theorem cr_sortF {X : Cx} : CallR X (.builtin "sorted") (rSortF X.K) := by
  intro pins s σ H vs us Q I r h
  obtain ⟨la, ts, gs, rfl, hs, h64, hl, hx, nd, q⟩ := h
  obtain ⟨its, rv, hL, hz⟩ := I.list hs
  rw [Vals.ref1 r]
  have eits : its = ts.map Value.ref := by
    clear q hx nd hl h64 hs hL hz
    induction ts generalizing its with
    | nil => cases rv; rfl
    | cons t ts ih =>
      cases rv with
      | cons r0 rv =>
        cases (show _ = Value.ref t from r0)
        rw [List.map_cons, ih _ rv]
  subst eits
  have tup : ∀ (i : Nat) t g, ts[i]? = some t → gs[i]? = some g → TS.TupInts s.heap (.ref t) g ∧ g ≠ [] := fun i t g e1 e2 => ⟨tupI_raw I (hx i t g e1 e2).1, (hx i t g e1 e2).2⟩
  have at_ : ∀ v ∈ ts.map Value.ref, ∃ (i : Nat) (t : Addr) (g : List Int), v = .ref t ∧ ts[i]? = some t ∧ gs[i]? = some g := fun v hv => by
    obtain ⟨t, ht, rfl⟩ := List.mem_map.mp hv
    obtain ⟨i, hi, e⟩ := List.mem_iff_getElem.mp ht
    exact ⟨i, t, gs[i], rfl, by rw [List.getElem?_eq_getElem hi, e], List.getElem?_eq_getElem (by omega)⟩
  have hd_ : ∀ (i : Nat) t g, ts[i]? = some t → gs[i]? = some g → hd0 s.heap (.ref t) = g.headD 0 := fun i t g e1 e2 => by
    unfold hd0; rw [(tup i t g e1 e2).1.ints]
  have TH : TupsH s.heap (ts.map Value.ref) := ⟨fun v hv => by
    obtain ⟨i, t, g, rfl, e1, e2⟩ := at_ v hv
    obtain ⟨z1, z2⟩ := tup i t g e1 e2
    cases g with
    | nil => exact absurd rfl z2
    | cons m ns => exact ⟨m, ns, z1⟩, fun u hu v hv e => by
    obtain ⟨i, t, g, rfl, e1, e2⟩ := at_ u hu
    obtain ⟨j, t', g', rfl, e3, e4⟩ := at_ v hv
    rw [hd_ i t g e1 e2, hd_ j t' g' e3 e4] at e
    have : i = j := nodup_ix nd (a := g.headD 0) (by rw [List.getElem?_map, e2]; rfl) (by rw [List.getElem?_map, e4, e]; rfl)
    subst this
    rw [e1] at e3
    cases e3; rfl⟩
  refine sortedH hL.isList (by rw [List.length_map]; exact h64) TH fun out h1 h2 => ?_
  obtain ⟨ep, he'⟩ := PyProof.Rows.sortedAll_at s.heap (ts.map Value.ref) out
  obtain ⟨ws, ew, pw⟩ := perm_inv_ (f := fun z : Int × Addr => Value.ref z.2) h1 (xs := (gs.map fun g => g.headD 0).zip ts) (by
    have := List.map_snd_zip (l₁ := gs.map fun g => g.headD 0) (l₂ := ts) (by rw [List.length_map]; omega)
    calc ts.map Value.ref = (((gs.map fun g => g.headD 0).zip ts).map Prod.snd).map Value.ref := by rw [this]
      _ = _ := by rw [List.map_map]; rfl)
  have hlen : (ws.map fun z => V.ref z.2).length ≤ sizeLine := by
    rw [List.length_map, pw.length_eq, List.length_zip, List.length_map]; rw [sizeLine_eq]; omega
  have vls : Vals (ws.map fun z => V.ref z.2) out.toList := by
    rw [ew]
    clear ew pw hlen
    induction ws with
    | nil => exact .nil
    | cons z ws ih => exact .cons rfl ih
  refine ⟨.ref _, upd H (s.heap.objs.size + 1) (.lst (ws.map fun z => V.ref z.2)), I.laid (t' := s.toks) (fun _ _ => PyProof.Rows.sortedAll_old) (Nat.le_succ _) ⟨hlen, out.toList, ep, vls, he'⟩, rfl, q _ ws pw ?_ (I.hok.fresh (Nat.le_succ _))⟩
  rw [ew, List.pairwise_map] at h2
  refine List.Pairwise.imp_of_mem (fun {a b} ha hb hab => ?_) h2
  have key : ∀ z ∈ ws, hd0 s.heap (.ref z.2) = z.1 := fun z hz => by
    obtain ⟨i, hi, e⟩ := List.mem_iff_getElem.mp (pw.mem_iff.mp hz)
    have e' : ((gs.map fun g => g.headD 0).zip ts)[i]? = some z := by rw [List.getElem?_eq_getElem hi, e]
    rw [List.getElem?_zip_eq_some, List.getElem?_map] at e'
    obtain ⟨e1, e2⟩ := e'
    cases q1 : gs[i]? with
    | none => rw [q1] at e1; cases e1
    | some g =>
      rw [q1] at e1
      rw [hd_ i _ g e2 q1]
      exact Option.some.inj e1
  rw [key a ha, key b hb] at hab
  exact hab
end PX
namespace PD
open PySem PySem.Spec PyProof.Rows L2 PX LamX
def intsD : List D → Option (List Int)
  | [] => some []
  | .int i :: ds => (intsD ds).map (i :: ·)
  | _ => none
def rowI : D → Option (List Int)
  | .tup (d :: ds) => intsD (d :: ds)
  | _ => none
def rowsI : List D → Option (List (List Int))
  | [] => some []
  | d :: ds => match rowI d, rowsI ds with
    | some g, some gs => some (g :: gs)
    | _, _ => none
def headsI (gs : List (List Int)) : List Int := gs.map fun g => g.headD 0
def sortTD (h : EH) (ds : List D) : Option D := match ds with
  | [d] => (match asL h d with
    | some rows => (match rowsI rows with
      | some gs => if (headsI gs).Nodup ∧ gs.length < 64 then some (.lst ((srtP ((headsI gs).zip rows)).map (·.2))) else none
      | none => none)
    | none => none)
  | _ => none
def mSortTu (a : M (List D)) : M D := fun ε h => bR (a ε h) fun ds h1 => rt (sortTD h1 ds) h1
variable [LamTab]
theorem intsD_reps {c : RC} : ∀ {ds : List D} {vs : List V} {g : List Int}, Reps c ds vs → intsD ds = some g → vs = g.map V.int
  | [], _, _, .nil, e => by cases e; rfl
  | d :: ds, _, g, .cons r q, e => by
    cases d with
    | int i =>
      unfold intsD at e
      cases h : intsD ds with
      | none => rw [h] at e; cases e
      | some g' =>
        rw [h] at e
        cases e
        cases r
        rw [intsD_reps q h]; rfl
    | _ => cases e
theorem rowsI_reps {c : RC} : ∀ {rows : List D} {xs : List V} {gs : List (List Int)}, Reps c rows xs → rowsI rows = some gs → ∃ ts : List Addr, xs = ts.map V.ref ∧ gs.length = ts.length ∧ rows.length = ts.length ∧
    ∀ (i : Nat) (t : Addr) (g : List Int) (d : D), ts[i]? = some t → gs[i]? = some g → rows[i]? = some d → SqT c.K c.H t (g.map V.int) ∧ g ≠ [] ∧ Rep c d (.ref t)
  | [], _, _, .nil, e => by cases e; exact ⟨[], rfl, rfl, rfl, fun _ _ _ _ h => by simp at h⟩
  | d :: rows, _, gs, .cons r q, e => by
    unfold rowsI at e
    cases h1 : rowI d with
    | none => rw [h1] at e; cases e
    | some g =>
      cases h2 : rowsI rows with
      | none => rw [h1, h2] at e; cases e
      | some gs' =>
        rw [h1, h2] at e
        cases e
        obtain ⟨ts, rfl, i1, i2, i3⟩ := rowsI_reps q h2
        cases d with
        | tup ds =>
          cases ds with
          | nil => cases h1
          | cons a ds =>
            have h1 : intsD (a :: ds) = some g := h1
            have hg : g ≠ [] := fun z => by
              subst z
              cases a with
              | int i => unfold intsD at h1; cases hh : intsD ds <;> rw [hh] at h1 <;> cases h1
              | _ => cases h1
            cases r with
            | @tup t _ _ ht hr =>
              have ev := intsD_reps hr h1
              refine ⟨t :: ts, rfl, by rw [List.length_cons, List.length_cons, i1], by rw [List.length_cons, List.length_cons, i2], fun i t' g' d' e1 e2 e3 => ?_⟩
              cases i with
              | zero =>
                cases e1
                cases e2
                cases e3
                exact ⟨by rw [← ev]; exact ht, hg, .tup ht hr⟩
              | succ i => exact i3 i t' g' d' (by simpa using e1) (by simpa using e2) (by simpa using e3)
        | _ => cases h1
section
variable {X : Cx} {W : WX}
theorem sortTu_read {m : M (List D)} {σ : L2.St} {H : Hp} {Q : VK} (h : tE X.K X.mg W (mSortTu m) σ H Q) : tCB (rSortF X.K) (tA X.K X.mg W m) σ H Q := by
  obtain ⟨c, ε, h, r, h', hK, hm, rfl, sr, er, e, px, go⟩ := h
  unfold tCB
  refine tX.bind hK hm sr er e px fun ds h1 c1 vs e1 l1 s1 r1 => ?_
  have hK1 := l1.K.trans hK
  match ds, vs, r1, e1 with
  | [d], [v], .cons rd .nil, e1 =>
    have e1 : rt (sortTD h1 [d]) h1 = some (r, h') := e1
    unfold sortTD at e1
    dsimp only at e1
    cases q1 : asL h1 d with
    | none => rw [q1] at e1; cases e1
    | some rows =>
      rw [q1] at e1
      dsimp only at e1
      cases q2 : rowsI rows with
      | none => rw [q2] at e1; cases e1
      | some gs =>
        rw [q2] at e1
        dsimp only at e1
        by_cases hc : (headsI gs).Nodup ∧ gs.length < 64
        · rw [if_pos hc] at e1
          cases e1
          obtain ⟨la, xs, rfl, hsq, rrows⟩ := asL_ok s1 rd q1
          obtain ⟨ts, rfl, i1, i2, i3⟩ := rowsI_reps rrows q2
          have hz : (headsI gs).length = ts.length := by unfold headsI; rw [List.length_map, i1]
          refine ⟨la, ts, gs, rfl, by rw [← hK1]; exact hsq, by omega, i1, fun i t g e1 e2 => ?_, hc.1, fun p rs pw ps hp => ?_⟩
          · obtain ⟨d', hd'⟩ : ∃ d', rows[i]? = some d' := ⟨rows[i]'(by have := (List.getElem?_eq_some_iff.mp e1).1; omega), List.getElem?_eq_getElem _⟩
            obtain ⟨z1, z2, _⟩ := i3 i t g d' e1 e2 hd'
            rw [← hK1]
            exact ⟨z1, z2⟩
          · have ez : (headsI gs).zip ts = ((headsI gs).zip (rows.zip ts)).map fun z => (z.1, z.2.2) := by
              have : ts = (rows.zip ts).map Prod.snd := (List.map_snd_zip (by omega)).symm
              conv => lhs; rw [this]
              rw [List.zip_map_right]; rfl
            have er_ : (headsI gs).zip rows = ((headsI gs).zip (rows.zip ts)).map fun z => (z.1, z.2.1) := by
              have : rows = (rows.zip ts).map Prod.fst := (List.map_fst_zip (by omega)).symm
              conv => lhs; rw [this]
              rw [List.zip_map_right]; rfl
            rw [show (gs.map fun g => g.headD 0) = headsI gs from rfl, ez] at pw
            obtain ⟨ws, rfl, pz⟩ := perm_inv_ pw rfl
            have e1 : ws.map (fun z : Int × D × Addr => (z.1, z.2.1)) = srtP ((headsI gs).zip rows) := by
              refine srt_uniq ((pz.map fun z : Int × D × Addr => (z.1, z.2.1)).trans ?_) ?_ (srtP_srt _) ?_
              · rw [← er_]; exact (srtP_perm _).symm
              · rw [List.pairwise_map] at ps ⊢
                exact ps
              · refine ((srtP_perm _).map (·.1)).nodup_iff.mpr ?_
                rw [show ((headsI gs).zip rows).map (·.1) = headsI gs from List.map_fst_zip (by omega)]
                exact hc.1
            have hrep : ∀ z ∈ ws, Rep c1 z.2.1 (.ref z.2.2) := fun z hz' => by
              obtain ⟨j, hj, ej⟩ := List.mem_iff_getElem.mp (pz.mem_iff.mp hz')
              have e2 : ((headsI gs).zip (rows.zip ts))[j]? = some z := by rw [List.getElem?_eq_getElem hj, ej]
              rw [List.getElem?_zip_eq_some] at e2
              obtain ⟨e3, e4⟩ := e2
              rw [List.getElem?_zip_eq_some] at e4
              have e5 : ∃ g, gs[j]? = some g := by
                unfold headsI at e3
                rw [List.getElem?_map] at e3
                cases q : gs[j]? with
                | none => rw [q] at e3; cases e3
                | some g => exact ⟨g, rfl⟩
              obtain ⟨g, eg⟩ := e5
              exact (i3 j z.2.2 g z.2.1 e4.2 eg e4.1).2.2
            have rr : ∀ (zs : List (Int × D × Addr)), (∀ z ∈ zs, Rep c1 z.2.1 (.ref z.2.2)) → Reps c1 (zs.map fun z => z.2.1) (zs.map fun z => V.ref z.2.2) := fun zs hz => by
              induction zs with
              | nil => exact .nil
              | cons z zs ih => exact .cons (hz z List.mem_cons_self) (ih fun y hy => hz y (List.mem_cons_of_mem _ hy))
            obtain ⟨l3, s3, f3⟩ := s1.new (o := .lst (ws.map fun z => V.ref z.2.2)) hp
            have ed : (srtP ((headsI gs).zip rows)).map (·.2) = ws.map fun z => z.2.1 := by rw [← e1, List.map_map]; rfl
            have g := go _ rfl (c1.put p (.lst (ws.map fun z => V.ref z.2.2))) (.ref p) (l1.trans l3) s3 (by rw [ed]; exact .lst upd_same f3 ((rr ws hrep).le l3))
            rw [List.map_map]
            exact g
        · rw [if_neg hc] at e1; cases e1
  | [], _, _, e1 => cases e1
  | _ :: _ :: _, _, _, e1 => cases e1
theorem re_sortTu {p pos : Pos} {e : Expr} {m : M (List D)} (hm : X.mg "sorted" = none) (ha : RA X W [e] m) (hg : Gl X "sorted" := by rfl) (he : starEach [e] X.env = (false, eval e X.env) :: starEach [] X.env := by rfl) (hpl : (backTo pos (starEach [] X.env)).any (·.1) = false := by rfl) :
    RE X W (.Call (.Name "sorted" p) [e] [] pos) (mSortTu m) :=
  pe_imp (pe_callB cr_sortF hg hm (by decide +kernel) ha (by decide) (by decide) he hpl) fun σ H Q h => sortTu_read h
end
end PD
namespace PD
open PySem PySem.Spec PyProof.Rows L2 PX LamX
def dInD (neg : Bool) (_ : EH) (x y : D) : Option D := match y with
  | .lst ds => (match toPD x, toPD.go ds with
    | some p, some ps => if SeqAt.shaped p = true ∧ SeqAt.shaped (.list ps) = true then some (.bl (neg != ps.any fun z => PyData.eqv z p)) else none
    | _, _ => none)
  | _ => none
section
variable [LamTab] {K : PySem.W.Frag} {mg : Str → Option Value}
theorem inD_ok {neg : Bool} {c : RC} {h : EH} {x y d : D} {v u : V} (rx : Rep c x v) (ry : Rep c y u) (e : dInD neg h x y = some d) : ∃ p ps, Dp c.K c.H v p ∧ Dp c.K c.H u (.list ps) ∧ SeqAt.shaped p = true ∧ SeqAt.shaped (.list ps) = true ∧ d = .bl (neg != ps.any fun z => PyData.eqv z p) := by
  cases y with
  | lst ds =>
    unfold dInD at e
    dsimp only at e
    cases q1 : toPD x with
    | none => rw [q1] at e; cases e
    | some p =>
      cases q2 : toPD.go ds with
      | none => rw [q1, q2] at e; cases e
      | some ps =>
        rw [q1, q2] at e
        dsimp only at e
        by_cases hc : SeqAt.shaped p = true ∧ SeqAt.shaped (.list ps) = true
        · rw [if_pos hc] at e
          cases e
          exact ⟨p, ps, toPD_ok rx q1, toPD_ok ry (by rw [toPD, q2]; rfl), hc.1, hc.2, rfl⟩
        · rw [if_neg hc] at e; cases e
  | _ => cases e
theorem ops_inD : OpS K mg (rInD K) (dInD false) := by
  intro c eh x y dx dy d Q hK hm sr rx ry e go
  subst hK
  obtain ⟨p, ps, h1, h2, h3, h4, rfl⟩ := inD_ok rx ry e
  exact ⟨p, ps, h1, h2, h3, h4, by have := go c _ (.refl c) sr (.bl _); simpa using this⟩
end
variable [LamTab]
section
variable {X : Cx} {W : WX} {a b : Expr} {ma mb : M D} {pos : Pos} {j : Nat}
theorem room65 (hr : Room j X.A) : X.A.units + 65 < cLine := by
  have := hr.un
  unfold cLine at *
  omega
theorem rt_inD (hr : Room j X.A) (ha : RE X W a ma) (hb : RE X W b mb) (hm : behindInMarks .In b = false := by rfl) : RT X W (.Compare a [.In] [b] pos) (mTst (mBin (dInD false) ma mb)) := rt_cmp (op_inD (room65 hr)) ops_inD ha hb hm
end
end PD
namespace PD
open PySem PySem.Spec PyProof.Rows L2
/-- the run lemmas of the layer ask for a LamTab; any will do -/
instance (priority := low) lamTab0 : LamTab := ⟨fun _ => ⟨"", ⟨[], [], none, [], [], none, []⟩, .Constant .none 0 ⟨0, 0, 0, 0⟩, { kind := .function, names := [], isGenerator := false, isCoroutine := false }, [], false⟩, []⟩
def sq (x : Option (RS × EH)) (b : MS) : Option (RS × EH) := match x with
  | some (.nx ε1, h1) => b ε1 h1
  | some (r, h1) => some (r, h1)
  | none => none
section
variable {α : Type} {ε ε1 : Ev} {h h1 : EH}
theorem seq_ap (a b : MS) : msSeq a b ε h = sq (a ε h) b := (rfl)
theorem sq_nx (b : MS) : sq (some (.nx ε, h)) b = b ε h := (rfl)
theorem sq_rt (d : D) (b : MS) : sq (some (.rt d, h)) b = some (.rt d, h) := (rfl)
theorem sq_bk (b : MS) : sq (some (.bk ε, h)) b = some (.bk ε, h) := (rfl)
theorem sq_ct (b : MS) : sq (some (.ct ε, h)) b = some (.ct ε, h) := (rfl)
theorem sq_ex (e : Ex) (b : MS) : sq (some (.ex e ε, h)) b = some (.ex e ε, h) := (rfl)
theorem bS_ok (a : α) (f : α → EH → Option (RS × EH)) : bS (some (.ok a, h)) ε f = f a h := (rfl)
theorem bS_ex (e : Ex) (f : α → EH → Option (RS × EH)) : bS (some (.ex e, h)) ε f = some (.ex e ε, h) := (rfl)
theorem var_ap (i : Nat) : mVar i ε h = rt (ε.getD i none) h := (rfl)
theorem c_ap (d : D) : mC d ε h = some (.ok d, h) := (rfl)
def binK2 (f : EH → D → D → Option D) (x y : D) (h2 : EH) : O D := rt (f h2 x y) h2
def binK1 (f : EH → D → D → Option D) (b : M D) (ε : Ev) (x : D) (h1 : EH) : O D := bR (b ε h1) (binK2 f x)
theorem bin_ap (f : EH → D → D → Option D) (a b : M D) : mBin f a b ε h = bR (a ε h) (binK1 f b ε) := (rfl)
theorem binK1_ap (f : EH → D → D → Option D) (b : M D) (x : D) : binK1 f b ε x h = bR (b ε h) (binK2 f x) := (rfl)
theorem binK2_ap (f : EH → D → D → Option D) (x y : D) : binK2 f x y h = rt (f h x y) h := (rfl)
def tstK (x : D) (h1 : EH) : O Bool := rt (asB x) h1
theorem tst_ap (m : M D) : mTst m ε h = bR (m ε h) tstK := (rfl)
theorem tstK_b (b : Bool) : tstK (.bl b) h = some (.ok b, h) := (rfl)
def notK (b : Bool) (h1 : EH) : O Bool := some (.ok (!b), h1)
theorem not_ap (a : M Bool) : mNot a ε h = bR (a ε h) notK := (rfl)
theorem notK_ap (b : Bool) : notK b h = some (.ok (!b), h) := (rfl)
def andK (b : M Bool) (ε : Ev) (x : Bool) (h1 : EH) : O Bool := if x = true then b ε h1 else some (.ok false, h1)
def orK (b : M Bool) (ε : Ev) (x : Bool) (h1 : EH) : O Bool := if x = true then some (.ok true, h1) else b ε h1
def ifK (a b : M α) (ε : Ev) (x : Bool) (h1 : EH) : O α := if x = true then a ε h1 else b ε h1
theorem and_ap (a b : M Bool) : mAnd a b ε h = bR (a ε h) (andK b ε) := (rfl)
theorem or_ap (a b : M Bool) : mOr a b ε h = bR (a ε h) (orK b ε) := (rfl)
theorem if_ap (t : M Bool) (a b : M α) : mIf t a b ε h = bR (t ε h) (ifK a b ε) := (rfl)
theorem andK_t (b : M Bool) : andK b ε true h = b ε h := (rfl)
theorem andK_f (b : M Bool) : andK b ε false h = some (.ok false, h) := (rfl)
theorem orK_t (b : M Bool) : orK b ε true h = some (.ok true, h) := (rfl)
theorem orK_f (b : M Bool) : orK b ε false h = b ε h := (rfl)
theorem ifK_t (a b : M α) : ifK a b ε true h = a ε h := (rfl)
theorem ifK_f (a b : M α) : ifK a b ε false h = b ε h := (rfl)
def andV (b : M D) (ε : Ev) (x : D) (h : EH) : O D := match x with
  | .bl true => b ε h
  | .bl false => some (.ok (.bl false), h)
  | _ => none
def orV (b : M D) (ε : Ev) (x : D) (h : EH) : O D := match x with
  | .bl true => some (.ok (.bl true), h)
  | .bl false => b ε h
  | _ => none
theorem andv_ap (a b : M D) : mAndV a b ε h = bR (a ε h) (andV b ε) := (rfl)
theorem orv_ap (a b : M D) : mOrV a b ε h = bR (a ε h) (orV b ε) := (rfl)
theorem andV_t (b : M D) : andV b ε (.bl true) h = b ε h := (rfl)
theorem andV_f (b : M D) : andV b ε (.bl false) h = some (.ok (.bl false), h) := (rfl)
theorem orV_t (b : M D) : orV b ε (.bl true) h = some (.ok (.bl true), h) := (rfl)
theorem orV_f (b : M D) : orV b ε (.bl false) h = b ε h := (rfl)
def notV (x : D) (h : EH) : O D := match x with
  | .bl b => some (.ok (.bl (!b)), h)
  | _ => none
theorem notv_ap (a : M D) : mNotV a ε h = bR (a ε h) notV := (rfl)
theorem notV_c (c : Bool) : notV (.bl c) h = some (.ok (.bl (!c)), h) := (rfl)
theorem nil_ap : mNil ε h = some (.ok [], h) := (rfl)
def consK2 (x : D) (xs : List D) (h2 : EH) : O (List D) := some (.ok (x :: xs), h2)
def consK1 (b : M (List D)) (ε : Ev) (x : D) (h1 : EH) : O (List D) := bR (b ε h1) (consK2 x)
theorem cons_ap (a : M D) (b : M (List D)) : mCons a b ε h = bR (a ε h) (consK1 b ε) := (rfl)
theorem consK1_ap (b : M (List D)) (x : D) : consK1 b ε x h = bR (b ε h) (consK2 x) := (rfl)
theorem consK2_ap (x : D) (xs : List D) : consK2 x xs h = some (.ok (x :: xs), h) := (rfl)
def tupK (ds : List D) (h1 : EH) : O D := rt (szL ds (.tup ds)) h1
def lstK (ds : List D) (h1 : EH) : O D := rt (szL ds (.lst ds)) h1
theorem tup_ap (m : M (List D)) : mTup m ε h = bR (m ε h) tupK := (rfl)
theorem lst_ap (m : M (List D)) : mLst m ε h = bR (m ε h) lstK := (rfl)
theorem tupK_ok {ds : List D} (e : ds.length ≤ 16777216) : tupK ds h = some (.ok (.tup ds), h) := by
  show rt (szL ds (.tup ds)) h = _
  rw [show szL ds (.tup ds) = some (.tup ds) from if_pos e]; rfl
theorem lstK_ok {ds : List D} (e : ds.length ≤ 16777216) : lstK ds h = some (.ok (.lst ds), h) := by
  show rt (szL ds (.lst ds)) h = _
  rw [show szL ds (.lst ds) = some (.lst ds) from if_pos e]; rfl
def callK (f : EH → List D → Option D) (xs : List D) (h1 : EH) : O D := rt (f h1 xs) h1
theorem call_ap (f : EH → List D → Option D) (a : M (List D)) : mCall f a ε h = bR (a ε h) (callK f) := (rfl)
theorem callK_ap (f : EH → List D → Option D) (xs : List D) : callK f xs h = rt (f h xs) h := (rfl)
def callPK (F : PF) (ds : List D) (h1 : EH) : O D := if noRef.go ds = true then (F ds).map fun r => (r, h1) else none
theorem callP_ap (F : PF) (a : M (List D)) : mCallP F a ε h = bR (a ε h) (callPK F) := (rfl)
theorem callPK_ok {F : PF} {ds : List D} {r : R D} (e2 : F ds = some r) (e : noRef.go ds = true) : callPK F ds h = some (r, h) := by
  unfold callPK
  rw [if_pos e, e2]; rfl
theorem callI_ap (F : IF) (a : M (List D)) : mCallI F a ε h = bR (a ε h) F := (rfl)
def permK (p : List Nat) (ds : List D) (h1 : EH) : O (List D) := some (.ok (permL p ds), h1)
theorem perm_ap (p : List Nat) (a : M (List D)) : mPerm p a ε h = bR (a ε h) (permK p) := (rfl)
theorem permK_ap (p : List Nat) (ds : List D) : permK p ds h = some (.ok (permL p ds), h) := (rfl)
theorem nop_ap : mNoP ε h = some (.ok none, h) := (rfl)
def smP (x : D) (h1 : EH) : O (Option Int) := match x with
  | .int i => some (.ok (some i), h1)
  | _ => none
theorem smp_ap (m : M D) : mSmP m ε h = bR (m ε h) smP := (rfl)
theorem smP_int (i : Int) : smP (.int i) h = some (.ok (some i), h) := (rfl)
def slK3 (x : D) (l u : Option Int) (h3 : EH) : O D := rt (dSl h3 x l u) h3
def slK2 (hi : M (Option Int)) (ε : Ev) (x : D) (l : Option Int) (h2 : EH) : O D := bR (hi ε h2) (slK3 x l)
def slK1 (lo hi : M (Option Int)) (ε : Ev) (x : D) (h1 : EH) : O D := bR (lo ε h1) (slK2 hi ε x)
theorem sl_ap (a : M D) (lo hi : M (Option Int)) : mSl a lo hi ε h = bR (a ε h) (slK1 lo hi ε) := (rfl)
theorem slK1_ap (lo hi : M (Option Int)) (x : D) : slK1 lo hi ε x h = bR (lo ε h) (slK2 hi ε x) := (rfl)
theorem slK2_ap (hi : M (Option Int)) (x : D) (l : Option Int) : slK2 hi ε x l h = bR (hi ε h) (slK3 x l) := (rfl)
theorem slK3_ap (x : D) (l u : Option Int) : slK3 x l u h = rt (dSl h x l u) h := (rfl)
theorem sl_lst (ds : List D) (l u : Option Int) : dSl h (.lst ds) l u = some (.lst (cutD ds l u)) := (rfl)
theorem sl_scr (ds : List D) (l u : Option Int) : dSl h (.scr ds) l u = some (.lst (cutD ds l u)) := (rfl)
theorem sl_tup (ds : List D) (l u : Option Int) : dSl h (.tup ds) l u = some (.tup (cutD ds l u)) := (rfl)
theorem sl_str {z : List Nat} (l u : Option Int) (e : z.length ≤ 16777216) : dSl h (.str z) l u = some (.str (cutD z l u)) := if_pos e
def chK4 (g : EH → D → D → Option D) (y z : D) (h4 : EH) : O D := rt (g h4 y z) h4
def chK3 (g : EH → D → D → Option D) (c : M D) (ε : Ev) (y : D) (k : Bool) (h3 : EH) : O D := if k = true then bR (c ε h3) (chK4 g y) else some (.ok (.bl false), h3)
def chK2 (f g : EH → D → D → Option D) (c : M D) (ε : Ev) (x y : D) (h2 : EH) : O D := bR (rt ((f h2 x y).bind asB) h2) (chK3 g c ε y)
def chK1 (f g : EH → D → D → Option D) (b c : M D) (ε : Ev) (x : D) (h1 : EH) : O D := bR (b ε h1) (chK2 f g c ε x)
theorem chain_ap (f g : EH → D → D → Option D) (a b c : M D) : mChain f g a b c ε h = bR (a ε h) (chK1 f g b c ε) := (rfl)
theorem chK1_ap (f g : EH → D → D → Option D) (b c : M D) (x : D) : chK1 f g b c ε x h = bR (b ε h) (chK2 f g c ε x) := (rfl)
theorem chK2_ap (f g : EH → D → D → Option D) (c : M D) (x y : D) : chK2 f g c ε x y h = bR (rt ((f h x y).bind asB) h) (chK3 g c ε y) := (rfl)
theorem chK3_t (g : EH → D → D → Option D) (c : M D) (y : D) : chK3 g c ε y true h = bR (c ε h) (chK4 g y) := (rfl)
theorem chK3_f (g : EH → D → D → Option D) (c : M D) (y : D) : chK3 g c ε y false h = some (.ok (.bl false), h) := (rfl)
theorem chK4_ap (g : EH → D → D → Option D) (y z : D) : chK4 g y z h = rt (g h y z) h := (rfl)
def isiK (ts : List Ty) (d : D) (h1 : EH) : O D := match tyD h1 d with
  | some t => some (.ok (.bl (ts.any (isa t))), h1)
  | none => none
theorem isi_ap (ts : List Ty) (a : M D) : mIsi ts a ε h = bR (a ε h) (isiK ts) := (rfl)
theorem isiK_int (ts : List Ty) (i : Int) : isiK ts (.int i) h = some (.ok (.bl (ts.any (isa .int))), h) := (rfl)
theorem isiK_str (ts : List Ty) (i : List Nat) : isiK ts (.str i) h = some (.ok (.bl (ts.any (isa .str))), h) := (rfl)
theorem isiK_bl (ts : List Ty) (i : Bool) : isiK ts (.bl i) h = some (.ok (.bl (ts.any (isa .bool))), h) := (rfl)
theorem isiK_non (ts : List Ty) : isiK ts .non h = some (.ok (.bl (ts.any (isa .non))), h) := (rfl)
theorem isiK_tup (ts : List Ty) (i : List D) : isiK ts (.tup i) h = some (.ok (.bl (ts.any (isa .tup))), h) := (rfl)
theorem isiK_lst (ts : List Ty) (i : List D) : isiK ts (.lst i) h = some (.ok (.bl (ts.any (isa .lst))), h) := (rfl)
def lcK (vs : List Nat) (g : MG) (t : M Bool) (e : M D) (ε : Ev) (ds : List D) (h1 : EH) : O D := okL (lcL g t e ds (wipeE ε vs) h1)
theorem lc_ap (vs : List Nat) (it : M (List D)) (g : MG) (t : M Bool) (e : M D) : mLc vs it g t e ε h = bR (it ε h) (lcK vs g t e ε) := (rfl)
theorem lcK_ok {vs : List Nat} {g : MG} {t : M Bool} {e : M D} {ds ys : List D} {h' : EH} (q : lcL g t e ds (wipeE ε vs) h = some (ys, h')) (l : ys.length ≤ 16777216) : lcK vs g t e ε ds h = some (.ok (.lst ys), h') := by
  unfold lcK
  rw [q]
  exact if_pos l
def lstCK (ds : List D) (h1 : EH) : O D := if ds.length ≤ sizeLine then some (.ok (.ref h1.length), h1 ++ [.lst ds]) else none
theorem lstC_ap (m : M (List D)) : mLstC m ε h = bR (m ε h) lstCK := (rfl)
theorem lstCK_ok {ds : List D} (e : ds.length ≤ 16777216) : lstCK ds h = some (.ok (.ref h.length), h ++ [.lst ds]) := if_pos e
def mtsK2 (f : EH → List Nat → List D → Option D) (z : List Nat) (ds : List D) (h2 : EH) : O D := rt (f h2 z ds) h2
def mtsK (f : EH → List Nat → List D → Option D) (a : M (List D)) (ε : Ev) (x : D) (h1 : EH) : O D := match x with
  | .str z => bR (a ε h1) (mtsK2 f z)
  | _ => none
theorem mts_ap (f : EH → List Nat → List D → Option D) (o : M D) (a : M (List D)) : mMtS f o a ε h = bR (o ε h) (mtsK f a ε) := (rfl)
theorem mtsK_str (f : EH → List Nat → List D → Option D) (a : M (List D)) (z : List Nat) : mtsK f a ε (.str z) h = bR (a ε h) (mtsK2 f z) := (rfl)
theorem mtsK2_ap (f : EH → List Nat → List D → Option D) (z : List Nat) (ds : List D) : mtsK2 f z ds h = rt (f h z ds) h := (rfl)
theorem yes_ap : mYes ε h = some (.ok true, h) := (rfl)
def ilK (x : D) (h1 : EH) : O (List D) := match x with
  | .lst ds => some (.ok ds, h1)
  | .scr ds => some (.ok ds, h1)
  | _ => none
theorem il_ap (a : M D) : miL a ε h = bR (a ε h) ilK := (rfl)
theorem ilK_lst (ds : List D) : ilK (.lst ds) h = some (.ok ds, h) := (rfl)
theorem ilK_scr (ds : List D) : ilK (.scr ds) h = some (.ok ds, h) := (rfl)
def itK (x : D) (h1 : EH) : O (List D) := match x with
  | .tup ds => some (.ok ds, h1)
  | _ => none
theorem it_ap (a : M D) : miT a ε h = bR (a ε h) itK := (rfl)
theorem itK_tup (ds : List D) : itK (.tup ds) h = some (.ok ds, h) := (rfl)
def isK (x : D) (h1 : EH) : O (List D) := match x with
  | .str z => some (.ok (z.map fun c => .str [c]), h1)
  | _ => none
theorem is_ap (a : M D) : miS a ε h = bR (a ε h) isK := (rfl)
theorem isK_str (z : List Nat) : isK (.str z) h = some (.ok (z.map fun c => .str [c]), h) := (rfl)
def ir1K (xs : List D) (h1 : EH) : O (List D) := match xs with
  | [.int j] => if -(2 ^ 62) ≤ j ∧ j < 2 ^ 62 then some (.ok (rngD 0 j.toNat), h1) else none
  | _ => none
theorem ir1_ap (a : M (List D)) : miR1 a ε h = bR (a ε h) ir1K := (rfl)
theorem ir1K_ok {j : Int} (e : -(2 ^ 62) ≤ j ∧ j < 2 ^ 62) : ir1K [.int j] h = some (.ok (rngD 0 j.toNat), h) := if_pos e
def izK (xs : List D) (h1 : EH) : O (List D) := match xs with
  | [x, y] => (match x, y with
    | .lst as, .lst bs => some (.ok (zipD as bs), h1)
    | .tup as, .tup bs => some (.ok (zipD as bs), h1)
    | _, _ => none)
  | _ => none
theorem iz_ap (a : M (List D)) : miZip a ε h = bR (a ε h) izK := (rfl)
theorem izK_l (as bs : List D) : izK [.lst as, .lst bs] h = some (.ok (zipD as bs), h) := (rfl)
theorem izK_t (as bs : List D) : izK [.tup as, .tup bs] h = some (.ok (zipD as bs), h) := (rfl)
theorem snil_ap : msNil ε h = some (.nx ε, h) := (rfl)
def retK (d : D) (h1 : EH) : Option (RS × EH) := some (.rt d, h1)
theorem ret_ap (a : M D) : msRet a ε h = bS (a ε h) ε retK := (rfl)
theorem retK_ap (d : D) : retK d h = some (.rt d, h) := (rfl)
def sifK (a b : MS) (ε : Ev) (k : Bool) (h1 : EH) : Option (RS × EH) := if k = true then a ε h1 else b ε h1
theorem sif_ap (t : M Bool) (a b : MS) : msIf t a b ε h = bS (t ε h) ε (sifK a b ε) := (rfl)
theorem sifK_t (a b : MS) : sifK a b ε true h = a ε h := (rfl)
theorem sifK_f (a b : MS) : sifK a b ε false h = b ε h := (rfl)
def sexprK (ε : Ev) (_ : D) (h1 : EH) : Option (RS × EH) := some (.nx ε, h1)
theorem sexpr_ap (a : M D) : msExpr a ε h = bS (a ε h) ε (sexprK ε) := (rfl)
theorem sexprK_ap (d : D) : sexprK ε d h = some (.nx ε, h) := (rfl)
theorem bk_ap : msBk ε h = some (.bk ε, h) := (rfl)
theorem ct_ap : msCt ε h = some (.ct ε, h) := (rfl)
def asgK (g : MG) (ε : Ev) (d : D) (h1 : EH) : Option (RS × EH) := bG (g d ε h1)
theorem asg_ap (a : M D) (g : MG) : msAsg a g ε h = bS (a ε h) ε (asgK g ε) := (rfl)
theorem asgK_ap (g : MG) (d : D) : asgK g ε d h = bG (g d ε h) := (rfl)
theorem bG_ok : bG (some (ε, h)) = some (.nx ε, h) := (rfl)
def forK (g : MG) (b : MS) (ε : Ev) (ds : List D) (h1 : EH) : Option (RS × EH) := forL g b ds ε h1
theorem for_ap (it : M (List D)) (g : MG) (b : MS) : msFor it g b ε h = bS (it ε h) ε (forK g b ε) := (rfl)
theorem forK_ap (g : MG) (b : MS) (ds : List D) : forK g b ε ds h = forL g b ds ε h := (rfl)
def parK (i j : Nat) (ε : Ev) (ds : List D) (h1 : EH) : Option (RS × EH) := match ds with
  | [d, e] => some (.nx ((ε.set i (some d)).set j (some e)), h1)
  | _ => none
theorem par_ap (i j : Nat) (m : M (List D)) : msPar i j m ε h = bS (m ε h) ε (parK i j ε) := (rfl)
theorem parK_ok (i j : Nat) (d e : D) : parK i j ε [d, e] h = some (.nx ((ε.set i (some d)).set j (some e)), h) := (rfl)
theorem gname_ap (i : Nat) (d : D) : mgName i d ε h = some (ε.set i (some d), h) := (rfl)
theorem gnil_ap : mgNil [] ε h = some (ε, h) := (rfl)
def gK (x : Option (Ev × EH)) (b : MGs) (r : List D) : Option (Ev × EH) := match x with
  | some (ε1, h1) => b r ε1 h1
  | none => none
theorem gcons_ap (a : MG) (b : MGs) (d : D) (r : List D) : mgCons a b (d :: r) ε h = gK (a d ε h) b r := (rfl)
theorem gK_ok (b : MGs) (r : List D) : gK (some (ε, h)) b r = b r ε h := (rfl)
theorem gtup_ap (n : Nat) (ms : MGs) (ds : List D) : mgTup n ms (.tup ds) ε h = if ds.length = n then ms ds ε h else none := (rfl)
def subK2 (v x : D) (ε : Ev) (z : O D) : Option (Ev × EH) := match z with
  | some (.ok y, h2) => (putL h2 x y v).map fun h3 => (ε, h3)
  | _ => none
def subK1 (v : D) (i : M D) (ε : Ev) (z : O D) : Option (Ev × EH) := match z with
  | some (.ok x, h1) => subK2 v x ε (i ε h1)
  | _ => none
theorem gsub_ap (o i : M D) (v : D) : mgSub o i v ε h = subK1 v i ε (o ε h) := by
  unfold mgSub subK1 subK2
  cases o ε h with
  | none => rfl
  | some z =>
    obtain ⟨r, h1⟩ := z
    cases r <;> rfl
theorem subK1_ok (v x : D) (i : M D) : subK1 v i ε (some (.ok x, h)) = subK2 v x ε (i ε h) := (rfl)
theorem subK2_ok (v x y : D) : subK2 v x ε (some (.ok y, h)) = (putL h x y v).map fun h3 => (ε, h3) := (rfl)
theorem add_int (i j : Int) : dAdd h (.int i) (.int j) = some (.int (i + j)) := (rfl)
theorem add_str {a b : List Nat} (e : a.length + b.length ≤ 16777216) : dAdd h (.str a) (.str b) = some (.str (a ++ b)) := by
  unfold dAdd dCatS dI2
  simp [show a.length + b.length ≤ sizeLine from e]
theorem add_lst {a b : List D} (e : a.length + b.length ≤ 16777216) : dAdd h (.lst a) (.lst b) = some (.lst (a ++ b)) := by
  unfold dAdd dCatS dCatT dCatL dI2
  simp [asO, show a.length + b.length ≤ sizeLine from e]
theorem add_tup {a b : List D} (e : a.length + b.length ≤ 16777216) : dAdd h (.tup a) (.tup b) = some (.tup (a ++ b)) := by
  unfold dAdd dCatS dCatT dCatL dI2
  simp [asO, show a.length + b.length ≤ sizeLine from e]
theorem sub_int (i j : Int) : dSub h (.int i) (.int j) = some (.int (i - j)) := (rfl)
theorem mul_int {i j : Int} (e : CMul i j) : dMul h (.int i) (.int j) = some (.int (i * j)) := if_pos e
theorem div_int {i j : Int} (e : CDiv i j) : dDiv h (.int i) (.int j) = some (.int (i / j)) := if_pos e
theorem mod_int {i j : Int} (e : 0 < j) : dMod h (.int i) (.int j) = some (.int (i % j)) := if_pos e
theorem pow_int {i j : Int} (e : CPow i j) : dPow h (.int i) (.int j) = some (.int (i ^ j.toNat)) := if_pos e
theorem lt_int (i j : Int) : dLt h (.int i) (.int j) = some (.bl (decide (i < j))) := (rfl)
theorem le_int (i j : Int) : dLe h (.int i) (.int j) = some (.bl (decide (i ≤ j))) := (rfl)
theorem gt_int (i j : Int) : dGt h (.int i) (.int j) = some (.bl (decide (j < i))) := (rfl)
theorem ge_int (i j : Int) : dGe h (.int i) (.int j) = some (.bl (decide (j ≤ i))) := (rfl)
theorem eq_int (i j : Int) : dEq h (.int i) (.int j) = some (.bl (decide (i = j))) := (rfl)
theorem eq_str (i j : List Nat) : dEq h (.str i) (.str j) = some (.bl (decide (i = j))) := (rfl)
theorem eq_bl (i j : Bool) : dEq h (.bl i) (.bl j) = some (.bl (decide (i = j))) := (rfl)
theorem eq_is (i : Int) (j : List Nat) : dEq h (.int i) (.str j) = some (.bl false) := (rfl)
theorem eq_si (i : Int) (j : List Nat) : dEq h (.str j) (.int i) = some (.bl false) := (rfl)
theorem eq_bs (i : Bool) (j : List Nat) : dEq h (.bl i) (.str j) = some (.bl false) := (rfl)
theorem eq_sb (i : Bool) (j : List Nat) : dEq h (.str j) (.bl i) = some (.bl false) := (rfl)
theorem eq_nn : dEq h .non .non = some (.bl true) := (rfl)
theorem ne_int (i j : Int) : dNe h (.int i) (.int j) = some (.bl (!decide (i = j))) := (rfl)
theorem ne_str (i j : List Nat) : dNe h (.str i) (.str j) = some (.bl (!decide (i = j))) := (rfl)
theorem ne_bl (i j : Bool) : dNe h (.bl i) (.bl j) = some (.bl (!decide (i = j))) := (rfl)
theorem isn_ap (neg : Bool) (x : D) : dIsN neg h x .non = some (.bl (neg != isNon x)) := (rfl)
theorem isN_int (i : Int) : isNon (.int i) = false := (rfl)
theorem isN_str (i : List Nat) : isNon (.str i) = false := (rfl)
theorem isN_bl (i : Bool) : isNon (.bl i) = false := (rfl)
theorem isN_tup (i : List D) : isNon (.tup i) = false := (rfl)
theorem isN_lst (i : List D) : isNon (.lst i) = false := (rfl)
theorem isN_non : isNon .non = true := (rfl)
theorem ix_lst (ds : List D) (i : Int) : dIx h (.lst ds) (.int i) = atI ds i := (rfl)
theorem ix_tup (ds : List D) (i : Int) : dIx h (.tup ds) (.int i) = atI ds i := (rfl)
theorem ix_scr (ds : List D) (i : Int) : dIx h (.scr ds) (.int i) = atI ds i := (rfl)
theorem ix_str {z : List Nat} {i : Int} (e : z.length ≤ 16777216) : dIx h (.str z) (.int i) = (atI z i).map fun k => .str [k] := if_pos e
theorem len_str {z : List Nat} (e : z.length ≤ 16777216) : dLen h [.str z] = some (.int z.length) := if_pos e
theorem len_lst (ds : List D) : dLen h [.lst ds] = some (.int ds.length) := (rfl)
theorem len_tup (ds : List D) : dLen h [.tup ds] = some (.int ds.length) := (rfl)
theorem int_int (i : Int) : dInt h [.int i] = some (.int i) := (rfl)
theorem list_lst (ds : List D) : dList h [.lst ds] = some (.lst ds) := (rfl)
theorem list_tup (ds : List D) : dList h [.tup ds] = some (.lst ds) := (rfl)
theorem tuple_lst (ds : List D) : dTuple h [.lst ds] = some (.tup ds) := (rfl)
theorem tuple_tup (ds : List D) : dTuple h [.tup ds] = some (.tup ds) := (rfl)
theorem all_lst {ds : List D} {bs : List Bool} (e : asBs ds = some bs) : dAll h [.lst ds] = some (.bl (bs.all id)) := by
  show (asBs ds).map _ = _
  rw [e]; rfl
theorem asB_bl (b : Bool) : asB (.bl b) = some b := (rfl)
theorem getD0 {α : Type} (a : Option α) (r : List (Option α)) : (a :: r).getD 0 none = a := (rfl)
theorem getDS {α : Type} (a : Option α) (r : List (Option α)) (n : Nat) : (a :: r).getD (n + 1) none = r.getD n none := by
  simp
theorem set0 {α : Type} (a b : α) (r : List α) : (a :: r).set 0 b = b :: r := (rfl)
theorem setS {α : Type} (a b : α) (r : List α) (n : Nat) : (a :: r).set (n + 1) b = a :: r.set n b := (rfl)
theorem at0 {α : Type} (a : α) (r : List α) : (a :: r)[0]? = some a := (rfl)
theorem atS {α : Type} (a : α) (r : List α) (n : Nat) : (a :: r)[n + 1]? = r[n]? := (rfl)
theorem atI_nat {α : Type} (xs : List α) (n : Nat) (i : Int) (e : i = (n : Int)) : atI xs i = xs[n]? := by
  subst e
  unfold atI ixN
  by_cases hn : n < xs.length
  · rw [if_pos (by omega), if_pos (by omega)]
    rfl
  · rw [if_pos (by omega), if_neg (by omega), List.getElem?_eq_none (by omega)]
    rfl
theorem endI_rt {d d' : D} {n : Nat} (e : h.length = n) (f : frzI n h d = some d') : endI n (some (.rt d, h)) = some (.ok d', h) := by
  unfold endI trim
  simp only [f, e, if_true]
theorem endI_nx {n : Nat} (e : h.length = n) : endI n (some (.nx ε, h)) = some (.ok .non, h) := by
  unfold endI trim
  simp only [e, if_true, Option.map_some]
theorem endP_rt {d : D} (e : noRef d = true) (f : frz h d = some d) : endP (some (.rt d, h)) = some (.ok d) := by
  show (frz h d).map _ = _
  rw [f]; rfl
theorem map_some' {α β : Type} (f : α → β) (a : α) : (some a).map f = some (f a) := (rfl)
theorem bind_some' {α β : Type} (f : α → Option β) (a : α) : (some a).bind f = f a := (rfl)
end
theorem frz_id {h : EH} : ∀ {d : D}, noRef d = true → frz1 h d = some d
  | .non, _ => rfl
  | .bl _, _ => rfl
  | .int _, _ => rfl
  | .str _, _ => rfl
  | .dic _ _, e => if_pos e
  | .ref _, e => by cases e
  | .tup ds, e => if_pos e
  | .lst ds, e => if_pos e
  | .scr ds, e => if_pos e
  | .obj C fs, e => if_pos e
  | .fn _ _, e => if_pos e
  | .exc _ _, e => if_pos e
theorem frzL_id {h : EH} : ∀ {ds : List D}, noRef.go ds = true → frzL h ds = some ds
  | [], _ => rfl
  | d :: ds, e => by
    rw [noRef.go, Bool.and_eq_true] at e
    unfold frzL
    rw [frz_id e.1, frzL_id e.2]
theorem frzT {h : EH} : ∀ {d : D}, noRef d = true → frz h d = some d
  | .tup ds, e => by
    show (frzL h ds).map D.tup = _
    rw [frzL_id (by rw [noRef] at e; exact e)]; rfl
  | .lst ds, e => by
    show (frzL h ds).map D.lst = _
    rw [frzL_id (by rw [noRef] at e; exact e)]; rfl
  | .non, _ => rfl
  | .bl _, _ => rfl
  | .int _, _ => rfl
  | .str _, _ => rfl
  | .dic _ _, e => if_pos e
  | .ref _, e => by cases e
  | .scr ds, e => if_pos e
  | .obj C fs, e => if_pos e
  | .fn _ _, e => if_pos e
  | .exc _ _, e => if_pos e
theorem frzI_id1 {n : Nat} {h : EH} : ∀ {d : D}, noRef d = true → frz1I n h d = some d
  | .non, _ => rfl
  | .bl _, _ => rfl
  | .int _, _ => rfl
  | .str _, _ => rfl
  | .dic _ _, e => if_pos e
  | .ref _, e => by cases e
  | .tup ds, e => if_pos e
  | .lst ds, e => if_pos e
  | .scr ds, e => if_pos e
  | .obj C fs, e => if_pos e
  | .fn _ _, e => if_pos e
  | .exc _ _, e => if_pos e
theorem frzLI_id {n : Nat} {h : EH} : ∀ {ds : List D}, noRef.go ds = true → frzLI n h ds = some ds
  | [], _ => rfl
  | d :: ds, e => by
    rw [noRef.go, Bool.and_eq_true] at e
    unfold frzLI
    rw [frzI_id1 e.1, frzLI_id e.2]
theorem frzIT {n : Nat} {h : EH} : ∀ {d : D}, noRef d = true → frzI n h d = some d
  | .tup ds, e => by
    show (frzLI n h ds).map D.tup = _
    rw [frzLI_id (by rw [noRef] at e; exact e)]; rfl
  | .lst ds, e => by
    show (frzLI n h ds).map D.lst = _
    rw [frzLI_id (by rw [noRef] at e; exact e)]; rfl
  | .non, _ => rfl
  | .bl _, _ => rfl
  | .int _, _ => rfl
  | .str _, _ => rfl
  | .dic _ _, e => if_pos e
  | .ref _, e => by cases e
  | .scr ds, e => if_pos e
  | .obj C fs, e => if_pos e
  | .fn _ _, e => if_pos e
  | .exc _ _, e => if_pos e
section
variable {h h' : EH} {d : D} {n : Nat}
theorem endP_ok (e : noRef d = true) : endP (some (.rt d, h)) = some (.ok d) := endP_rt e (frzT e)
theorem endI_ok (l : h.length = n) (e : noRef d = true) : endI n (some (.rt d, h)) = some (.ok d, h) := endI_rt l (frzIT e)
end
end PD
namespace PD
open PySem PySem.Spec PyProof.Rows L2
def bagC (cs : List D) (i b s c : Int) : Cell := .lst [.lst cs, .int i, .int b, .int s, .int c]
/-- a bag between two pulls -/
structure BagI (k : Cell) : Prop where
  ex : ∃ (cs : List Int) (i b s c : Int), k = bagC (cs.map .int) i b s c ∧ cs.length ≤ 63 ∧ 0 ≤ i ∧ 0 ≤ b ∧ 0 ≤ s ∧ s < 2147483549
def mPull : MS :=
    (msSeq (msAsg (mBin dAdd (mBin dIx (mVar 0) (mC (.int 4))) (mC (.int 1))) (mgSub (mVar 0) (mC (.int 4))))
    (msSeq (msIf (mAnd (mTst (mBin dEq (mBin dIx (mVar 0) (mC (.int 2))) (mC (.int 0)))) (mTst (mBin dLt (mBin dIx (mVar 0) (mC (.int 1))) (mCall dLen (mCons (mBin dIx (mVar 0) (mC (.int 0))) mNil))))) (msSeq (msAsg (mTup (mCons (mBin dIx (mBin dIx (mVar 0) (mC (.int 0))) (mBin dIx (mVar 0) (mC (.int 1)))) (mCons (mBin dAdd (mBin dIx (mVar 0) (mC (.int 1))) (mC (.int 1))) mNil))) (mgTup 2 (mgCons (mgName 3) (mgCons (mgSub (mVar 0) (mC (.int 1))) mgNil))))
    (msSeq (msIf (mTst (mBin dGe (mVar 3) (mBin dPow (mC (.int 10)) (mC (.int 18))))) (msAsg (mVar 3) (mgSub (mVar 0) (mC (.int 2)))) msNil)
    (msAsg (mBin dMod (mCall dInt (mCons (mBin dAdd (mBin dAdd (mBin dMul (mBin dIx (mVar 0) (mC (.int 3))) (mC (.int 38377))) (mBin dMul (mBin dMod (mCall dInt (mCons (mVar 3) mNil)) (mC (.int 2147483489))) (mC (.int 41143)))) (mC (.int 61))) mNil)) (mC (.int 2147483549))) (mgSub (mVar 0) (mC (.int 3)))))) msNil)
    (msSeq (msIf (mTst (mBin dGt (mBin dIx (mVar 0) (mC (.int 2))) (mC (.int 0)))) (msSeq (msAsg (mTup (mCons (mBin dMod (mCall dInt (mCons (mBin dIx (mVar 0) (mC (.int 2))) mNil)) (mVar 1)) (mCons (mBin dDiv (mBin dIx (mVar 0) (mC (.int 2))) (mVar 1)) mNil))) (mgTup 2 (mgCons (mgName 4) (mgCons (mgSub (mVar 0) (mC (.int 2))) mgNil))))
    (msRet (mVar 4))) msNil)
    (msSeq (msAsg (mBin dIx (mVar 0) (mC (.int 3))) (mgName 2))
    (msSeq (msAsg (mBin dMod (mCall dInt (mCons (mBin dAdd (mBin dAdd (mBin dAdd (mBin dPow (mVar 2) (mC (.int 3))) (mBin dMul (mVar 2) (mC (.int 37813)))) (mBin dMul (mBin dIx (mVar 0) (mC (.int 4))) (mC (.int 1299689)))) (mC (.int 65437))) mNil)) (mC (.int 2147483549))) (mgSub (mVar 0) (mC (.int 3))))
    (msRet (mBin dMod (mCall dInt (mCons (mBin dAdd (mBin dDiv (mBin dIx (mVar 0) (mC (.int 3))) (mC (.int 89))) (mBin dMul (mBin dMod (mCall dInt (mCons (mBin dIx (mVar 0) (mC (.int 3))) mNil)) (mC (.int 7919))) (mC (.int 71)))) mNil)) (mVar 1))))))))
section
variable {cs : List D} {i b s c : Int} {t : EH}
theorem bag0 : dIx (bagC cs i b s c :: t) (.ref 0) (.int 0) = some (.lst cs) := rfl
theorem bag1 : dIx (bagC cs i b s c :: t) (.ref 0) (.int 1) = some (.int i) := rfl
theorem bag2 : dIx (bagC cs i b s c :: t) (.ref 0) (.int 2) = some (.int b) := rfl
theorem bag3 : dIx (bagC cs i b s c :: t) (.ref 0) (.int 3) = some (.int s) := rfl
theorem bag4 : dIx (bagC cs i b s c :: t) (.ref 0) (.int 4) = some (.int c) := rfl
theorem put1 (x : Int) : putL (bagC cs i b s c :: t) (.ref 0) (.int 1) (.int x) = some (bagC cs x b s c :: t) := rfl
theorem put2 (x : Int) : putL (bagC cs i b s c :: t) (.ref 0) (.int 2) (.int x) = some (bagC cs i x s c :: t) := rfl
theorem put3 (x : Int) : putL (bagC cs i b s c :: t) (.ref 0) (.int 3) (.int x) = some (bagC cs i b x c :: t) := rfl
theorem put4 (x : Int) : putL (bagC cs i b s c :: t) (.ref 0) (.int 4) (.int x) = some (bagC cs i b s x :: t) := rfl
end
theorem mul_rc {h : EH} {i j : Int} (e : -18446744073709551616 < j ∧ j < 18446744073709551616) : dMul h (.int i) (.int j) = some (.int (i * j)) := mul_int (.inr e)
theorem pow_c {h : EH} {i j : Int} (e : 0 ≤ j ∧ j ≤ 1000000) (e2 : i.natAbs < 18446744073709551616) : dPow h (.int i) (.int j) = some (.int (i ^ j.toNat)) := pow_int ⟨e.1, e.2, e2⟩
theorem p10_18 {h : EH} : dPow h (.int 10) (.int 18) = some (.int 1000000000000000000) := pow_int ⟨by decide, by decide, by decide⟩
theorem div_c {h : EH} {i j : Int} (e : 0 < j ∧ j < 1073741824) : dDiv h (.int i) (.int j) = some (.int (i / j)) := div_int e
theorem pull_ok {k : Cell} (hk : BagI k) {n : Int} (hn : 0 < n) (hn2 : n < 1073741824) (t : EH) : ∃ d k', runI 5 mPull [.ref 0, .int n] (k :: t) = some (.ok (.int d), k' :: t) ∧ 0 ≤ d ∧ d < n ∧ BagI k' := by
  obtain ⟨cs, i, b, s, c, rfl, hcs, hi, hb, hs, hs2⟩ := hk.ex
  have fin : ∀ {d : Int} {k' : Cell} {ε : Ev}, mPull (startE 5 [.ref 0, .int n]) (bagC (cs.map .int) i b s c :: t) = some (.rt (.int d), k' :: t) → runI 5 mPull [.ref 0, .int n] (bagC (cs.map .int) i b s c :: t) = some (.ok (.int d), k' :: t) := fun e => by
    unfold runI
    rw [e]
    exact endI_ok rfl rfl
  have e0 : startE 5 [.ref 0, .int n] = [some (.ref 0), some (.int n), none, none, none] := rfl
  rw [e0] at fin
  have hs3 : s.natAbs < 18446744073709551616 := by omega
  by_cases q1 : b = 0
  · subst q1
    have M : ∀ z : Int, 0 ≤ z % 2147483549 ∧ z % 2147483549 < 2147483549 := fun z => ⟨Int.emod_nonneg _ (by decide), Int.emod_lt_of_pos _ (by decide)⟩
    by_cases q2 : i < (cs.length : Int)
    · obtain ⟨j, rfl⟩ : ∃ j : Nat, i = (j : Int) := ⟨i.toNat, by omega⟩
      have hj : j < cs.length := by omega
      have eX : atI (cs.map D.int) (j : Int) = some (.int cs[j]) := by
        rw [atI_nat _ j _ rfl, List.getElem?_map, List.getElem?_eq_getElem hj]; rfl
      by_cases q3 : (1000000000000000000 : Int) ≤ cs[j]
      · have q4 : 0 < cs[j] := by omega
        refine ⟨cs[j] % n, bagC (cs.map .int) (j + 1) (cs[j] / n) ((s * 38377 + cs[j] % 2147483489 * 41143 + 61) % 2147483549) (c + 1), ?_, Int.emod_nonneg _ (by omega), Int.emod_lt_of_pos _ hn, ⟨_, _, _, _, _, rfl, hcs, by omega, Int.ediv_nonneg (by omega) (by omega), (M _).1, (M _).2⟩⟩
        refine fin (ε := []) ?_
        simp only [mPull, ↓seq_ap, ↓var_ap, ↓c_ap, ↓bin_ap, ↓tst_ap, ↓not_ap, ↓and_ap, ↓or_ap, ↓if_ap, ↓andv_ap, ↓orv_ap, ↓notv_ap, ↓nil_ap, ↓cons_ap, ↓tup_ap, ↓lst_ap, ↓call_ap, ↓callP_ap, ↓callI_ap, ↓perm_ap, ↓nop_ap, ↓smp_ap, ↓sl_ap, ↓chain_ap, ↓isi_ap, ↓lc_ap, ↓lstC_ap, ↓mts_ap, ↓yes_ap, ↓il_ap, ↓it_ap, ↓is_ap, ↓ir1_ap, ↓iz_ap, ↓snil_ap, ↓ret_ap, ↓sif_ap, ↓sexpr_ap, ↓bk_ap, ↓ct_ap, ↓asg_ap, ↓for_ap, ↓par_ap, ↓gname_ap, ↓gnil_ap, ↓gcons_ap, ↓gtup_ap, ↓gsub_ap, bR_ok, bR_ex, rt_some, sq_nx, sq_rt, sq_bk, sq_ct, sq_ex, bS_ok, bS_ex, binK1_ap, binK2_ap, tstK_b, notK_ap, andK_t, andK_f, orK_t, orK_f, ifK_t, ifK_f, andV_t, andV_f, orV_t, orV_f, notV_c, consK1_ap, consK2_ap, tupK_ok, lstK_ok, callK_ap, permK_ap, smP_int, slK1_ap, slK2_ap, slK3_ap, sl_lst, sl_scr, sl_tup, chK1_ap, chK2_ap, chK3_t, chK3_f, chK4_ap, isiK_int, isiK_str, isiK_bl, isiK_non, isiK_tup, isiK_lst, mtsK_str, mtsK2_ap, ilK_lst, ilK_scr, itK_tup, isK_str, izK_l, izK_t, retK_ap, sifK_t, sifK_f, sexprK_ap, asgK_ap, bG_ok, forK_ap, parK_ok, gK_ok, subK1_ok, subK2_ok, add_int, sub_int, mod_int, lt_int, le_int, gt_int, ge_int, eq_int, eq_str, eq_bl, eq_is, eq_si, eq_bs, eq_sb, eq_nn, ne_int, ne_str, ne_bl, isn_ap, isN_int, isN_str, isN_bl, isN_tup, isN_lst, isN_non, ix_lst, ix_tup, ix_scr, len_lst, len_tup, int_int, list_lst, list_tup, tuple_lst, tuple_tup, asB_bl, getD0, getDS, set0, setS, at0, atS, map_some', bind_some', List.length_cons, List.length_nil, List.any_cons, List.any_nil, bag0, bag1, bag2, bag3, bag4, put1, put2, put3, put4, hn, hn2, q2, q3, q4, eX, decide_true, decide_false, and_self, div_c, mul_rc, p10_18, pow_c, Nat.reduceLeDiff, Nat.reduceAdd, if_true, List.length_map, Int.reduceLT, Int.reduceNeg, Int.reducePow, Int.reduceToNat, Int.reduceLE, Nat.reduceLT]
      · have hs4 := M (s * 38377 + cs[j] % 2147483489 * 41143 + 61)
        generalize hs' : (s * 38377 + cs[j] % 2147483489 * 41143 + 61) % 2147483549 = s' at hs4
        have hs5 : s'.natAbs < 18446744073709551616 := by omega
        generalize hz : (s' ^ 3 + s' * 37813 + (c + 1) * 1299689 + 65437) % 2147483549 = z
        refine ⟨(z / 89 + z % 7919 * 71) % n, bagC (cs.map .int) (j + 1) 0 z (c + 1), ?_, Int.emod_nonneg _ (by omega), Int.emod_lt_of_pos _ hn, ⟨_, _, _, _, _, rfl, hcs, by omega, by omega, by rw [← hz]; exact (M _).1, by rw [← hz]; exact (M _).2⟩⟩
        refine fin (ε := []) ?_
        simp only [mPull, ↓seq_ap, ↓var_ap, ↓c_ap, ↓bin_ap, ↓tst_ap, ↓not_ap, ↓and_ap, ↓or_ap, ↓if_ap, ↓andv_ap, ↓orv_ap, ↓notv_ap, ↓nil_ap, ↓cons_ap, ↓tup_ap, ↓lst_ap, ↓call_ap, ↓callP_ap, ↓callI_ap, ↓perm_ap, ↓nop_ap, ↓smp_ap, ↓sl_ap, ↓chain_ap, ↓isi_ap, ↓lc_ap, ↓lstC_ap, ↓mts_ap, ↓yes_ap, ↓il_ap, ↓it_ap, ↓is_ap, ↓ir1_ap, ↓iz_ap, ↓snil_ap, ↓ret_ap, ↓sif_ap, ↓sexpr_ap, ↓bk_ap, ↓ct_ap, ↓asg_ap, ↓for_ap, ↓par_ap, ↓gname_ap, ↓gnil_ap, ↓gcons_ap, ↓gtup_ap, ↓gsub_ap, bR_ok, bR_ex, rt_some, sq_nx, sq_rt, sq_bk, sq_ct, sq_ex, bS_ok, bS_ex, binK1_ap, binK2_ap, tstK_b, notK_ap, andK_t, andK_f, orK_t, orK_f, ifK_t, ifK_f, andV_t, andV_f, orV_t, orV_f, notV_c, consK1_ap, consK2_ap, tupK_ok, lstK_ok, callK_ap, permK_ap, smP_int, slK1_ap, slK2_ap, slK3_ap, sl_lst, sl_scr, sl_tup, chK1_ap, chK2_ap, chK3_t, chK3_f, chK4_ap, isiK_int, isiK_str, isiK_bl, isiK_non, isiK_tup, isiK_lst, mtsK_str, mtsK2_ap, ilK_lst, ilK_scr, itK_tup, isK_str, izK_l, izK_t, retK_ap, sifK_t, sifK_f, sexprK_ap, asgK_ap, bG_ok, forK_ap, parK_ok, gK_ok, subK1_ok, subK2_ok, add_int, sub_int, mod_int, lt_int, le_int, gt_int, ge_int, eq_int, eq_str, eq_bl, eq_is, eq_si, eq_bs, eq_sb, eq_nn, ne_int, ne_str, ne_bl, isn_ap, isN_int, isN_str, isN_bl, isN_tup, isN_lst, isN_non, ix_lst, ix_tup, ix_scr, len_lst, len_tup, int_int, list_lst, list_tup, tuple_lst, tuple_tup, asB_bl, getD0, getDS, set0, setS, at0, atS, map_some', bind_some', List.length_cons, List.length_nil, List.any_cons, List.any_nil, bag0, bag1, bag2, bag3, bag4, put1, put2, put3, put4, hn, hn2, q2, q3, eX, decide_true, decide_false, and_self, div_c, mul_rc, p10_18, pow_c, Nat.reduceLeDiff, Nat.reduceAdd, if_true, List.length_map, Int.reduceLT, Int.reduceNeg, Int.reducePow, Int.reduceToNat, Int.reduceLE, Nat.reduceLT, hs', hs5, hz]
    · have hs5 : s.natAbs < 18446744073709551616 := by omega
      generalize hz : (s ^ 3 + s * 37813 + (c + 1) * 1299689 + 65437) % 2147483549 = z
      refine ⟨(z / 89 + z % 7919 * 71) % n, bagC (cs.map .int) i 0 z (c + 1), ?_, Int.emod_nonneg _ (by omega), Int.emod_lt_of_pos _ hn, ⟨_, _, _, _, _, rfl, hcs, by omega, by omega, by rw [← hz]; exact (M _).1, by rw [← hz]; exact (M _).2⟩⟩
      refine fin (ε := []) ?_
      simp only [mPull, ↓seq_ap, ↓var_ap, ↓c_ap, ↓bin_ap, ↓tst_ap, ↓not_ap, ↓and_ap, ↓or_ap, ↓if_ap, ↓andv_ap, ↓orv_ap, ↓notv_ap, ↓nil_ap, ↓cons_ap, ↓tup_ap, ↓lst_ap, ↓call_ap, ↓callP_ap, ↓callI_ap, ↓perm_ap, ↓nop_ap, ↓smp_ap, ↓sl_ap, ↓chain_ap, ↓isi_ap, ↓lc_ap, ↓lstC_ap, ↓mts_ap, ↓yes_ap, ↓il_ap, ↓it_ap, ↓is_ap, ↓ir1_ap, ↓iz_ap, ↓snil_ap, ↓ret_ap, ↓sif_ap, ↓sexpr_ap, ↓bk_ap, ↓ct_ap, ↓asg_ap, ↓for_ap, ↓par_ap, ↓gname_ap, ↓gnil_ap, ↓gcons_ap, ↓gtup_ap, ↓gsub_ap, bR_ok, bR_ex, rt_some, sq_nx, sq_rt, sq_bk, sq_ct, sq_ex, bS_ok, bS_ex, binK1_ap, binK2_ap, tstK_b, notK_ap, andK_t, andK_f, orK_t, orK_f, ifK_t, ifK_f, andV_t, andV_f, orV_t, orV_f, notV_c, consK1_ap, consK2_ap, tupK_ok, lstK_ok, callK_ap, permK_ap, smP_int, slK1_ap, slK2_ap, slK3_ap, sl_lst, sl_scr, sl_tup, chK1_ap, chK2_ap, chK3_t, chK3_f, chK4_ap, isiK_int, isiK_str, isiK_bl, isiK_non, isiK_tup, isiK_lst, mtsK_str, mtsK2_ap, ilK_lst, ilK_scr, itK_tup, isK_str, izK_l, izK_t, retK_ap, sifK_t, sifK_f, sexprK_ap, asgK_ap, bG_ok, forK_ap, parK_ok, gK_ok, subK1_ok, subK2_ok, add_int, sub_int, mod_int, lt_int, le_int, gt_int, ge_int, eq_int, eq_str, eq_bl, eq_is, eq_si, eq_bs, eq_sb, eq_nn, ne_int, ne_str, ne_bl, isn_ap, isN_int, isN_str, isN_bl, isN_tup, isN_lst, isN_non, ix_lst, ix_tup, ix_scr, len_lst, len_tup, int_int, list_lst, list_tup, tuple_lst, tuple_tup, asB_bl, getD0, getDS, set0, setS, at0, atS, map_some', bind_some', List.length_cons, List.length_nil, List.any_cons, List.any_nil, bag0, bag1, bag2, bag3, bag4, put1, put2, put3, put4, hn, hn2, q2, decide_true, decide_false, and_self, div_c, mul_rc, p10_18, pow_c, Nat.reduceLeDiff, Nat.reduceAdd, if_true, List.length_map, Int.reduceLT, Int.reduceNeg, Int.reducePow, Int.reduceToNat, Int.reduceLE, Nat.reduceLT, hs5, hz]
  · have q2 : 0 < b := by omega
    refine ⟨b % n, bagC (cs.map .int) i (b / n) s (c + 1), ?_, Int.emod_nonneg _ (by omega), Int.emod_lt_of_pos _ hn, ⟨_, _, _, _, _, rfl, hcs, hi, Int.ediv_nonneg hb (by omega), hs, hs2⟩⟩
    refine fin (ε := []) ?_
    simp only [mPull, ↓seq_ap, ↓var_ap, ↓c_ap, ↓bin_ap, ↓tst_ap, ↓not_ap, ↓and_ap, ↓or_ap, ↓if_ap, ↓andv_ap, ↓orv_ap, ↓notv_ap, ↓nil_ap, ↓cons_ap, ↓tup_ap, ↓lst_ap, ↓call_ap, ↓callP_ap, ↓callI_ap, ↓perm_ap, ↓nop_ap, ↓smp_ap, ↓sl_ap, ↓chain_ap, ↓isi_ap, ↓lc_ap, ↓lstC_ap, ↓mts_ap, ↓yes_ap, ↓il_ap, ↓it_ap, ↓is_ap, ↓ir1_ap, ↓iz_ap, ↓snil_ap, ↓ret_ap, ↓sif_ap, ↓sexpr_ap, ↓bk_ap, ↓ct_ap, ↓asg_ap, ↓for_ap, ↓par_ap, ↓gname_ap, ↓gnil_ap, ↓gcons_ap, ↓gtup_ap, ↓gsub_ap, bR_ok, bR_ex, rt_some, sq_nx, sq_rt, sq_bk, sq_ct, sq_ex, bS_ok, bS_ex, binK1_ap, binK2_ap, tstK_b, notK_ap, andK_t, andK_f, orK_t, orK_f, ifK_t, ifK_f, andV_t, andV_f, orV_t, orV_f, notV_c, consK1_ap, consK2_ap, tupK_ok, lstK_ok, callK_ap, permK_ap, smP_int, slK1_ap, slK2_ap, slK3_ap, sl_lst, sl_scr, sl_tup, chK1_ap, chK2_ap, chK3_t, chK3_f, chK4_ap, isiK_int, isiK_str, isiK_bl, isiK_non, isiK_tup, isiK_lst, mtsK_str, mtsK2_ap, ilK_lst, ilK_scr, itK_tup, isK_str, izK_l, izK_t, retK_ap, sifK_t, sifK_f, sexprK_ap, asgK_ap, bG_ok, forK_ap, parK_ok, gK_ok, subK1_ok, subK2_ok, add_int, sub_int, mod_int, lt_int, le_int, gt_int, ge_int, eq_int, eq_str, eq_bl, eq_is, eq_si, eq_bs, eq_sb, eq_nn, ne_int, ne_str, ne_bl, isn_ap, isN_int, isN_str, isN_bl, isN_tup, isN_lst, isN_non, ix_lst, ix_tup, ix_scr, len_lst, len_tup, int_int, list_lst, list_tup, tuple_lst, tuple_tup, asB_bl, getD0, getDS, set0, setS, at0, atS, map_some', bind_some', List.length_cons, List.length_nil, List.any_cons, List.any_nil, bag0, bag1, bag2, bag3, bag4, put1, put2, put3, put4, hn, hn2, q1, q2, decide_true, decide_false, and_self, div_c, Nat.reduceLeDiff, Nat.reduceAdd, if_true]
end PD
local macro_rules
  | `(tactic| simp? only [$xs,*] $[$l]?) => `(tactic| simp only [↓PD.seq_ap, ↓PD.var_ap, ↓PD.c_ap, ↓PD.bin_ap, ↓PD.tst_ap, ↓PD.not_ap, ↓PD.and_ap, ↓PD.or_ap, ↓PD.if_ap, ↓PD.andv_ap, ↓PD.orv_ap, ↓PD.notv_ap, ↓PD.nil_ap, ↓PD.cons_ap, ↓PD.tup_ap, ↓PD.lst_ap, ↓PD.call_ap, ↓PD.callP_ap, ↓PD.callI_ap, ↓PD.perm_ap, ↓PD.nop_ap, ↓PD.smp_ap, ↓PD.sl_ap, ↓PD.chain_ap, ↓PD.isi_ap, ↓PD.lc_ap, ↓PD.lstC_ap, ↓PD.mts_ap, ↓PD.yes_ap, ↓PD.il_ap, ↓PD.it_ap, ↓PD.is_ap, ↓PD.ir1_ap, ↓PD.iz_ap, ↓PD.snil_ap, ↓PD.ret_ap, ↓PD.sif_ap, ↓PD.sexpr_ap, ↓PD.bk_ap, ↓PD.ct_ap, ↓PD.asg_ap, ↓PD.for_ap, ↓PD.par_ap, ↓PD.gname_ap, ↓PD.gnil_ap, ↓PD.gcons_ap, ↓PD.gtup_ap, ↓PD.gsub_ap, PD.bR_ok, PD.bR_ex, PD.rt_some, PD.sq_nx, PD.sq_rt, PD.sq_bk, PD.sq_ct, PD.sq_ex, PD.bS_ok, PD.bS_ex, PD.binK1_ap, PD.binK2_ap, PD.tstK_b, PD.notK_ap, PD.andK_t, PD.andK_f, PD.orK_t, PD.orK_f, PD.ifK_t, PD.ifK_f, PD.andV_t, PD.andV_f, PD.orV_t, PD.orV_f, PD.notV_c, PD.consK1_ap, PD.consK2_ap, PD.tupK_ok, PD.lstK_ok, PD.callK_ap, PD.permK_ap, PD.smP_int, PD.slK1_ap, PD.slK2_ap, PD.slK3_ap, PD.sl_lst, PD.sl_scr, PD.sl_tup, PD.chK1_ap, PD.chK2_ap, PD.chK3_t, PD.chK3_f, PD.chK4_ap, PD.isiK_int, PD.isiK_str, PD.isiK_bl, PD.isiK_non, PD.isiK_tup, PD.isiK_lst, PD.mtsK_str, PD.mtsK2_ap, PD.ilK_lst, PD.ilK_scr, PD.itK_tup, PD.isK_str, PD.izK_l, PD.izK_t, PD.retK_ap, PD.sifK_t, PD.sifK_f, PD.sexprK_ap, PD.asgK_ap, PD.bG_ok, PD.forK_ap, PD.parK_ok, PD.gK_ok, PD.subK1_ok, PD.subK2_ok, PD.add_int, PD.sub_int, PD.mod_int, PD.lt_int, PD.le_int, PD.gt_int, PD.ge_int, PD.eq_int, PD.eq_str, PD.eq_bl, PD.eq_is, PD.eq_si, PD.eq_bs, PD.eq_sb, PD.eq_nn, PD.ne_int, PD.ne_str, PD.ne_bl, PD.isn_ap, PD.isN_int, PD.isN_str, PD.isN_bl, PD.isN_tup, PD.isN_lst, PD.isN_non, PD.ix_lst, PD.ix_tup, PD.ix_scr, PD.len_lst, PD.len_tup, PD.int_int, PD.list_lst, PD.list_tup, PD.tuple_lst, PD.tuple_tup, PD.asB_bl, PD.getD0, PD.getDS, PD.set0, PD.setS, PD.at0, PD.atS, PD.map_some', PD.bind_some', List.length_cons, List.length_nil, List.any_cons, List.any_nil, decide_true, decide_false, and_self, Nat.reduceLeDiff, Nat.reduceAdd, if_true, Int.reduceLT, Int.reduceNeg, Int.reducePow, Int.reduceToNat, Int.reduceLE, Nat.reduceLT, Int.reduceAdd, Int.reduceSub, Bool.not_true, Bool.not_false, Int.reduceEq, bne_self_eq_false, Bool.false_bne, Bool.true_bne, Int.reduceBNe, $xs,*] $[$l]?)
namespace PD
open PySem PySem.Spec PyProof.Rows L2
def F_pull : IF := runI 5 mPull
theorem lcL_map {g : MG} {t : M Bool} {e : M D} (f : D → D) {ε : Ev} {h : EH} : ∀ {ds : List D}, (∀ d ∈ ds, ∃ ε1, g d ε h = some (ε1, h) ∧ t ε1 h = some (.ok true, h) ∧ e ε1 h = some (.ok (f d), h)) → lcL g t e ds ε h = some (ds.map f, h)
  | [], _ => rfl
  | d :: ds, H => by
    obtain ⟨ε1, h1, h2, h3⟩ := H d List.mem_cons_self
    unfold lcL
    simp only [h1, h2, h3, lcL_map f fun x hx => H x (List.mem_cons_of_mem _ hx), List.map_cons]
theorem lcL_bag {g : MG} {e : M D} {ε : Ev} (P : D → Prop) : ∀ {ds : List D}, (∀ d ∈ ds, ∀ k t, BagI k → ∃ ε1 y k', g d ε (k :: t) = some (ε1, k :: t) ∧ e ε1 (k :: t) = some (.ok y, k' :: t) ∧ P y ∧ BagI k') →
    ∀ k t, BagI k → ∃ ys k', lcL g mYes e ds ε (k :: t) = some (ys, k' :: t) ∧ ys.length = ds.length ∧ (∀ y ∈ ys, P y) ∧ BagI k'
  | [], _, k, t, hk => ⟨[], k, rfl, rfl, (fun _ h => nomatch h), hk⟩
  | d :: ds, H, k, t, hk => by
    obtain ⟨ε1, y, k1, h1, h2, h3, h4⟩ := H d List.mem_cons_self k t hk
    obtain ⟨ys, k2, i1, i2, i3, i4⟩ := lcL_bag P (fun x hx => H x (List.mem_cons_of_mem _ hx)) k1 t h4
    refine ⟨y :: ys, k2, ?_, congrArg Nat.succ i2, fun z hz => ?_, i4⟩
    · unfold lcL
      simp only [h1, yes_ap, h2, i1]
    · rcases List.mem_cons.mp hz with e | e
      · rw [e]; exact h3
      · exact i3 z e
theorem asBs_map {α : Type} (f : α → Bool) : ∀ ds : List α, asBs (ds.map fun d => .bl (f d)) = some (ds.map f)
  | [] => rfl
  | d :: ds => by
    rw [List.map_cons]
    unfold asBs
    rw [asBs_map f ds]; rfl
theorem atI_in {α : Type} {ds : List α} {i : Int} (h0 : 0 ≤ i) (h1 : i < (ds.length : Int)) : ∃ x ∈ ds, atI ds i = some x := by
  have hj : i.toNat < ds.length := by omega
  exact ⟨ds[i.toNat], List.getElem_mem hj, by rw [atI_nat ds i.toNat i (by omega), List.getElem?_eq_getElem hj]⟩
def mAny : MS :=
    (msRet (mBin dIx (mVar 1) (mCallI F_pull (mCons (mVar 0) (mCons (mCall dLen (mCons (mVar 1) mNil)) mNil)))))
def F_any : IF := runI 2 mAny
theorem any_lst {k : Cell} (hk : BagI k) {ds : List D} (h0 : 0 < ds.length) (h1 : ds.length < 1073741824) (hr : ∀ d ∈ ds, noRef d = true) (t : EH) : ∃ d k', F_any [.ref 0, .lst ds] (k :: t) = some (.ok d, k' :: t) ∧ d ∈ ds ∧ BagI k' := by
  obtain ⟨i, k', e, i0, i1, hk'⟩ := pull_ok hk (n := (ds.length : Int)) (by omega) (by omega) t
  obtain ⟨d, hd, ed⟩ := atI_in i0 i1
  refine ⟨d, k', ?_, hd, hk'⟩
  show endI _ (mAny [some (.ref 0), some (.lst ds)] (k :: t)) = _
  have e' : F_pull [.ref 0, .int ds.length] (k :: t) = some (.ok (.int i), k' :: t) := e
  simp only [mAny, ↓seq_ap, ↓var_ap, ↓c_ap, ↓bin_ap, ↓tst_ap, ↓not_ap, ↓and_ap, ↓or_ap, ↓if_ap, ↓andv_ap, ↓orv_ap, ↓notv_ap, ↓nil_ap, ↓cons_ap, ↓tup_ap, ↓lst_ap, ↓call_ap, ↓callP_ap, ↓callI_ap, ↓perm_ap, ↓nop_ap, ↓smp_ap, ↓sl_ap, ↓chain_ap, ↓isi_ap, ↓lc_ap, ↓lstC_ap, ↓mts_ap, ↓yes_ap, ↓il_ap, ↓it_ap, ↓is_ap, ↓ir1_ap, ↓iz_ap, ↓snil_ap, ↓ret_ap, ↓sif_ap, ↓sexpr_ap, ↓bk_ap, ↓ct_ap, ↓asg_ap, ↓for_ap, ↓par_ap, ↓gname_ap, ↓gnil_ap, ↓gcons_ap, ↓gtup_ap, ↓gsub_ap, bR_ok, bR_ex, rt_some, sq_nx, sq_rt, sq_bk, sq_ct, sq_ex, bS_ok, bS_ex, binK1_ap, binK2_ap, tstK_b, notK_ap, andK_t, andK_f, orK_t, orK_f, ifK_t, ifK_f, andV_t, andV_f, orV_t, orV_f, notV_c, consK1_ap, consK2_ap, tupK_ok, lstK_ok, callK_ap, permK_ap, smP_int, slK1_ap, slK2_ap, slK3_ap, sl_lst, sl_scr, sl_tup, chK1_ap, chK2_ap, chK3_t, chK3_f, chK4_ap, isiK_int, isiK_str, isiK_bl, isiK_non, isiK_tup, isiK_lst, mtsK_str, mtsK2_ap, ilK_lst, ilK_scr, itK_tup, isK_str, izK_l, izK_t, retK_ap, sifK_t, sifK_f, sexprK_ap, asgK_ap, bG_ok, forK_ap, parK_ok, gK_ok, subK1_ok, subK2_ok, add_int, sub_int, mod_int, lt_int, le_int, gt_int, ge_int, eq_int, eq_str, eq_bl, eq_is, eq_si, eq_bs, eq_sb, eq_nn, ne_int, ne_str, ne_bl, isn_ap, isN_int, isN_str, isN_bl, isN_tup, isN_lst, isN_non, ix_lst, ix_tup, ix_scr, len_lst, len_tup, int_int, list_lst, list_tup, tuple_lst, tuple_tup, asB_bl, getD0, getDS, set0, setS, at0, atS, map_some', bind_some', List.length_cons, List.length_nil, List.any_cons, List.any_nil, e', ed]
  exact endI_ok rfl (hr d hd)
theorem any_str {k : Cell} (hk : BagI k) {z : List Nat} (h0 : 0 < z.length) (h1 : z.length ≤ 16777216) (t : EH) : ∃ c k', F_any [.ref 0, .str z] (k :: t) = some (.ok (.str [c]), k' :: t) ∧ c ∈ z ∧ BagI k' := by
  obtain ⟨i, k', e, i0, i1, hk'⟩ := pull_ok hk (n := (z.length : Int)) (by omega) (by omega) t
  obtain ⟨c, hd, ed⟩ := atI_in i0 i1
  refine ⟨c, k', ?_, hd, hk'⟩
  show endI _ (mAny [some (.ref 0), some (.str z)] (k :: t)) = _
  have e' : F_pull [.ref 0, .int z.length] (k :: t) = some (.ok (.int i), k' :: t) := e
  simp only [mAny, ↓seq_ap, ↓var_ap, ↓c_ap, ↓bin_ap, ↓tst_ap, ↓not_ap, ↓and_ap, ↓or_ap, ↓if_ap, ↓andv_ap, ↓orv_ap, ↓notv_ap, ↓nil_ap, ↓cons_ap, ↓tup_ap, ↓lst_ap, ↓call_ap, ↓callP_ap, ↓callI_ap, ↓perm_ap, ↓nop_ap, ↓smp_ap, ↓sl_ap, ↓chain_ap, ↓isi_ap, ↓lc_ap, ↓lstC_ap, ↓mts_ap, ↓yes_ap, ↓il_ap, ↓it_ap, ↓is_ap, ↓ir1_ap, ↓iz_ap, ↓snil_ap, ↓ret_ap, ↓sif_ap, ↓sexpr_ap, ↓bk_ap, ↓ct_ap, ↓asg_ap, ↓for_ap, ↓par_ap, ↓gname_ap, ↓gnil_ap, ↓gcons_ap, ↓gtup_ap, ↓gsub_ap, bR_ok, bR_ex, rt_some, sq_nx, sq_rt, sq_bk, sq_ct, sq_ex, bS_ok, bS_ex, binK1_ap, binK2_ap, tstK_b, notK_ap, andK_t, andK_f, orK_t, orK_f, ifK_t, ifK_f, andV_t, andV_f, orV_t, orV_f, notV_c, consK1_ap, consK2_ap, tupK_ok, lstK_ok, callK_ap, permK_ap, smP_int, slK1_ap, slK2_ap, slK3_ap, sl_lst, sl_scr, sl_tup, chK1_ap, chK2_ap, chK3_t, chK3_f, chK4_ap, isiK_int, isiK_str, isiK_bl, isiK_non, isiK_tup, isiK_lst, mtsK_str, mtsK2_ap, ilK_lst, ilK_scr, itK_tup, isK_str, izK_l, izK_t, retK_ap, sifK_t, sifK_f, sexprK_ap, asgK_ap, bG_ok, forK_ap, parK_ok, gK_ok, subK1_ok, subK2_ok, add_int, sub_int, mod_int, lt_int, le_int, gt_int, ge_int, eq_int, eq_str, eq_bl, eq_is, eq_si, eq_bs, eq_sb, eq_nn, ne_int, ne_str, ne_bl, isn_ap, isN_int, isN_str, isN_bl, isN_tup, isN_lst, isN_non, ix_lst, ix_tup, ix_scr, len_lst, len_tup, int_int, list_lst, list_tup, tuple_lst, tuple_tup, asB_bl, getD0, getDS, set0, setS, at0, atS, map_some', bind_some', List.length_cons, List.length_nil, List.any_cons, List.any_nil, len_str h1, ix_str h1, e', ed]
  exact endI_ok rfl rfl
def mDraws : MS :=
    (msSeq (msAsg (mC (.int 5648)) (mgName 1))
    (msSeq (msFor (miL (mSl (mVar 0) mNoP (mSmP (mC (.int 63))))) (mgName 2) (msAsg (mBin dMod (mCall dInt (mCons (mBin dAdd (mBin dAdd (mBin dMul (mVar 1) (mC (.int 44021))) (mBin dMod (mCall dInt (mCons (mVar 2) mNil)) (mC (.int 2147483489)))) (mC (.int 53))) mNil)) (mC (.int 2147483549))) (mgName 1)))
    (msRet (mLstC (mCons (mCall dList (mCons (mSl (mVar 0) mNoP (mSmP (mC (.int 63)))) mNil)) (mCons (mC (.int 0)) (mCons (mC (.int 0)) (mCons (mVar 1) (mCons (mC (.int 0)) mNil)))))))))
def F_draws : IF := runA 3 mDraws
theorem draws_loop {x : D} : ∀ (ns : List Int) (s : Int) (o : Option D), 0 ≤ s → s < 2147483549 → ∃ s' o', forL (mgName 2) (msAsg (mBin dMod (mCall dInt (mCons (mBin dAdd (mBin dAdd (mBin dMul (mVar 1) (mC (.int 44021))) (mBin dMod (mCall dInt (mCons (mVar 2) mNil)) (mC (.int 2147483489)))) (mC (.int 53))) mNil)) (mC (.int 2147483549))) (mgName 1)) (ns.map .int) [some x, some (.int s), o] [] = some (.nx [some x, some (.int s'), o'], []) ∧ 0 ≤ s' ∧ s' < 2147483549
  | [], s, o, h0, h1 => ⟨s, o, rfl, h0, h1⟩
  | n :: ns, s, o, h0, h1 => by
    obtain ⟨s', o', e, r⟩ := draws_loop ns ((s * 44021 + n % 2147483489 + 53) % 2147483549) (some (.int n)) (Int.emod_nonneg _ (by decide)) (Int.emod_lt_of_pos _ (by decide))
    refine ⟨s', o', ?_, r⟩
    rw [List.map_cons]
    unfold forL
    simp? only [mul_rc]
    exact e
theorem cut63 {α : Type} {ns : List α} (h : ns.length ≤ 63) : cutD ns none (some 63) = ns := by
  unfold cutD
  have e1 : HT.sIx ns.length 0 none = 0 := rfl
  have e2 : HT.sIx ns.length ns.length (some 63) = ns.length := by
    show (if (63 : Int) < 0 then ((63 : Int) + (ns.length : Int)).toNat else min (63 : Int).toNat ns.length) = _
    rw [if_neg (by decide)]
    show min 63 ns.length = _
    omega
  rw [e1, e2]
  simp
theorem draws_ok {ns : List Int} (h : ns.length ≤ 63) : ∃ k, F_draws [.scr (ns.map .int)] [] = some (.ok (.ref 0), [k]) ∧ BagI k := by
  obtain ⟨s', o', e, r0, r1⟩ := draws_loop (x := .scr (ns.map .int)) ns 5648 none (by decide) (by decide)
  refine ⟨bagC (ns.map .int) 0 0 s' 0, ?_, ⟨_, _, _, _, _, rfl, h, by decide, by decide, r0, r1⟩⟩
  show endA _ (mDraws [some (.scr (ns.map .int)), none, none] []) = _
  have l : (ns.map D.int).length ≤ 63 := by simpa using h
  simp? only [mDraws, cut63 l, e, lstCK_ok]
  rfl
def mLike (F : PF) : MS :=
    (msSeq (msIf (mTst (mIsi [.lst, .tup] (mVar 1))) (msSeq (msAsg (mAndV (mBin dEq (mIsi [.lst] (mVar 0)) (mIsi [.lst] (mVar 1))) (mBin dEq (mIsi [.tup] (mVar 0)) (mIsi [.tup] (mVar 1)))) (mgName 2))
    (msRet (mAndV (mVar 2) (mAndV (mBin dEq (mCall dLen (mCons (mVar 0) mNil)) (mCall dLen (mCons (mVar 1) mNil))) (mCall dAll (mCons (mLc [3, 4] (miZip (mCons (mVar 0) (mCons (mVar 1) mNil))) (mgTup 2 (mgCons (mgName 3) (mgCons (mgName 4) mgNil))) mYes (mCallP F (mCons (mVar 3) (mCons (mVar 4) mNil)))) mNil)))))) msNil)
    (msSeq (msIf (mOr (mTst (mBin (dIsN false) (mVar 0) (mC .non))) (mOr (mTst (mBin (dIsN false) (mVar 1) (mC .non))) (mTst (mBin dNe (mIsi [.bool] (mVar 0)) (mIsi [.bool] (mVar 1)))))) (msRet (mAndV (mBin (dIsN false) (mVar 0) (mC .non)) (mBin (dIsN false) (mVar 1) (mC .non)))) msNil)
    (msRet (mAndV (mBin dEq (mIsi [.int] (mVar 0)) (mIsi [.int] (mVar 1))) (mAndV (mBin dEq (mIsi [.str] (mVar 0)) (mIsi [.str] (mVar 1))) (mBin dEq (mVar 0) (mVar 1)))))))
def F_like_ : Nat → PF
  | 0 => fun _ => none
  | t + 1 => runP 5 (mLike (F_like_ t))
/-- data of a depth -/
def okD : Nat → D → Bool
  | 0, _ => false
  | _ + 1, .non => true
  | _ + 1, .bl _ => true
  | _ + 1, .int _ => true
  | _ + 1, .str _ => true
  | t + 1, .tup ds => decide (ds.length ≤ 16777216) && ds.all (okD t)
  | t + 1, .lst ds => decide (ds.length ≤ 16777216) && ds.all (okD t)
  | _ + 1, _ => false
theorem noRef_all : ∀ {ds : List D}, (∀ d ∈ ds, noRef d = true) → noRef.go ds = true
  | [], _ => rfl
  | d :: ds, h => by
    rw [noRef.go, h d List.mem_cons_self, noRef_all fun x hx => h x (List.mem_cons_of_mem _ hx)]; rfl
theorem okD_noRef : ∀ {t : Nat} {d : D}, okD t d = true → noRef d = true
  | 0, _, e => by cases e
  | t + 1, .non, _ => rfl
  | t + 1, .bl _, _ => rfl
  | t + 1, .int _, _ => rfl
  | t + 1, .str _, _ => rfl
  | t + 1, .tup ds, e => by
    rw [noRef]
    exact noRef_all fun d hd => okD_noRef (t := t) (List.all_eq_true.mp (Bool.and_eq_true_iff.mp (show (decide (ds.length ≤ 16777216) && ds.all (okD t)) = true from e)).2 d hd)
  | t + 1, .lst ds, e => by
    rw [noRef]
    exact noRef_all fun d hd => okD_noRef (t := t) (List.all_eq_true.mp (Bool.and_eq_true_iff.mp (show (decide (ds.length ≤ 16777216) && ds.all (okD t)) = true from e)).2 d hd)
  | t + 1, .scr _, e => by cases e
  | t + 1, .dic _ _, e => by cases e
  | t + 1, .obj _ _, e => by cases e
  | t + 1, .ref _, e => by cases e
theorem okD_up : ∀ {t : Nat} {d : D}, okD t d = true → okD (t + 1) d = true
  | 0, _, e => by cases e
  | t + 1, .non, _ => rfl
  | t + 1, .bl _, _ => rfl
  | t + 1, .int _, _ => rfl
  | t + 1, .str _, _ => rfl
  | t + 1, .tup ds, e => by
    have e' := Bool.and_eq_true_iff.mp (show (decide (ds.length ≤ 16777216) && ds.all (okD t)) = true from e)
    exact Bool.and_eq_true_iff.mpr ⟨e'.1, List.all_eq_true.mpr fun d hd => okD_up (List.all_eq_true.mp e'.2 d hd)⟩
  | t + 1, .lst ds, e => by
    have e' := Bool.and_eq_true_iff.mp (show (decide (ds.length ≤ 16777216) && ds.all (okD t)) = true from e)
    exact Bool.and_eq_true_iff.mpr ⟨e'.1, List.all_eq_true.mpr fun d hd => okD_up (List.all_eq_true.mp e'.2 d hd)⟩
  | t + 1, .scr _, e => by cases e
  | t + 1, .dic _ _, e => by cases e
  | t + 1, .obj _ _, e => by cases e
  | t + 1, .ref _, e => by cases e
theorem okD_le {t u : Nat} {d : D} (h : okD t d = true) (l : t ≤ u) : okD u d = true := by
  induction l with
  | refl => exact h
  | step _ ih => exact okD_up ih
theorem zip_self : ∀ ds : List D, zipD ds ds = ds.map fun d => .tup [d, d]
  | [] => rfl
  | d :: ds => by
    have := zip_self ds
    unfold zipD at this ⊢
    rw [List.zip_cons_cons, List.map_cons, this, List.map_cons]
theorem like_lc {t : Nat} {ds : List D} {a b c : Option D} (hl : ds.length ≤ 16777216) (hd : ∀ d ∈ ds, noRef d = true) (ih : ∀ d ∈ ds, F_like_ t [d, d] = some (.ok (.bl true))) :
    lcL (mgTup 2 (mgCons (mgName 3) (mgCons (mgName 4) mgNil))) mYes (mCallP (F_like_ t) (mCons (mVar 3) (mCons (mVar 4) mNil))) (zipD ds ds) [a, b, c, none, none] [] = some (ds.map fun _ => .bl true, []) := by
  have := lcL_map (g := mgTup 2 (mgCons (mgName 3) (mgCons (mgName 4) mgNil))) (t := mYes) (e := mCallP (F_like_ t) (mCons (mVar 3) (mCons (mVar 4) mNil))) (fun _ => .bl true) (ε := [a, b, c, none, none]) (h := []) (ds := zipD ds ds) fun x hx => by
    rw [zip_self] at hx
    obtain ⟨d, hd1, rfl⟩ := List.mem_map.mp hx
    refine ⟨[a, b, c, some d, some d], rfl, rfl, ?_⟩
    have e2 : noRef.go [d, d] = true := by rw [noRef.go, noRef.go, hd d hd1]; rfl
    simp only [↓seq_ap, ↓var_ap, ↓c_ap, ↓bin_ap, ↓tst_ap, ↓not_ap, ↓and_ap, ↓or_ap, ↓if_ap, ↓andv_ap, ↓orv_ap, ↓notv_ap, ↓nil_ap, ↓cons_ap, ↓tup_ap, ↓lst_ap, ↓call_ap, ↓callP_ap, ↓callI_ap, ↓perm_ap, ↓nop_ap, ↓smp_ap, ↓sl_ap, ↓chain_ap, ↓isi_ap, ↓lc_ap, ↓lstC_ap, ↓mts_ap, ↓yes_ap, ↓il_ap, ↓it_ap, ↓is_ap, ↓ir1_ap, ↓iz_ap, ↓snil_ap, ↓ret_ap, ↓sif_ap, ↓sexpr_ap, ↓bk_ap, ↓ct_ap, ↓asg_ap, ↓for_ap, ↓par_ap, ↓gname_ap, ↓gnil_ap, ↓gcons_ap, ↓gtup_ap, ↓gsub_ap, bR_ok, bR_ex, rt_some, sq_nx, sq_rt, sq_bk, sq_ct, sq_ex, bS_ok, bS_ex, binK1_ap, binK2_ap, tstK_b, notK_ap, andK_t, andK_f, orK_t, orK_f, ifK_t, ifK_f, andV_t, andV_f, orV_t, orV_f, notV_c, consK1_ap, consK2_ap, tupK_ok, lstK_ok, callK_ap, permK_ap, smP_int, slK1_ap, slK2_ap, slK3_ap, sl_lst, sl_scr, sl_tup, chK1_ap, chK2_ap, chK3_t, chK3_f, chK4_ap, isiK_int, isiK_str, isiK_bl, isiK_non, isiK_tup, isiK_lst, mtsK_str, mtsK2_ap, ilK_lst, ilK_scr, itK_tup, isK_str, izK_l, izK_t, retK_ap, sifK_t, sifK_f, sexprK_ap, asgK_ap, bG_ok, forK_ap, parK_ok, gK_ok, subK1_ok, subK2_ok, add_int, sub_int, mod_int, lt_int, le_int, gt_int, ge_int, eq_int, eq_str, eq_bl, eq_is, eq_si, eq_bs, eq_sb, eq_nn, ne_int, ne_str, ne_bl, isn_ap, isN_int, isN_str, isN_bl, isN_tup, isN_lst, isN_non, ix_lst, ix_tup, ix_scr, len_lst, len_tup, int_int, list_lst, list_tup, tuple_lst, tuple_tup, asB_bl, getD0, getDS, set0, setS, at0, atS, map_some', bind_some', List.length_cons, List.length_nil, List.any_cons, List.any_nil, callPK_ok (ih d hd1) e2]
  rw [this, zip_self, List.map_map]
  rfl
theorem like_refl : ∀ {t : Nat} {d : D}, okD t d = true → F_like_ t [d, d] = some (.ok (.bl true))
  | 0, _, e => by cases e
  | t + 1, .non, _ => by
    show endP (mLike (F_like_ t) [some .non, some .non, none, none, none] []) = _
    simp? only [mLike, isa, Bool.or_false, Bool.or_true, Bool.and_true, Bool.and_false, Bool.or_self]
    exact endP_ok rfl
  | t + 1, .bl b, _ => by
    show endP (mLike (F_like_ t) [some (.bl b), some (.bl b), none, none, none] []) = _
    simp? only [mLike, isa, Bool.or_false, Bool.or_true, Bool.and_true, Bool.and_false, Bool.or_self]
    exact endP_ok rfl
  | t + 1, .int i, _ => by
    show endP (mLike (F_like_ t) [some (.int i), some (.int i), none, none, none] []) = _
    simp? only [mLike, isa, Bool.or_false, Bool.or_true, Bool.and_true, Bool.and_false, Bool.or_self]
    exact endP_ok rfl
  | t + 1, .str z, _ => by
    show endP (mLike (F_like_ t) [some (.str z), some (.str z), none, none, none] []) = _
    simp? only [mLike, isa, Bool.or_false, Bool.or_true, Bool.and_true, Bool.and_false, Bool.or_self]
    exact endP_ok rfl
  | t + 1, .tup ds, e => by
    obtain ⟨e1, e2⟩ := Bool.and_eq_true_iff.mp (show (decide (ds.length ≤ 16777216) && ds.all (okD t)) = true from e)
    have hl : ds.length ≤ 16777216 := of_decide_eq_true e1
    have hA := List.all_eq_true.mp e2
    have lc := like_lc (t := t) (a := some (.tup ds)) (b := some (.tup ds)) (c := some (.bl true)) hl (fun d hd => okD_noRef (hA d hd)) fun d hd => like_refl (hA d hd)
    have lk := lcK_ok (vs := [3, 4]) (ε := [some (.tup ds), some (.tup ds), some (.bl true), none, none]) (h := []) lc (by simpa using hl)
    show endP (mLike (F_like_ t) [some (.tup ds), some (.tup ds), none, none, none] []) = _
    simp? only [mLike, isa, Bool.or_false, Bool.or_true, Bool.and_true, Bool.and_false, Bool.or_self, lk, all_lst (asBs_map (fun _ => true) ds)]
    rw [show (ds.map fun _ => true).all id = true by simp]
    exact endP_ok rfl
  | t + 1, .lst ds, e => by
    obtain ⟨e1, e2⟩ := Bool.and_eq_true_iff.mp (show (decide (ds.length ≤ 16777216) && ds.all (okD t)) = true from e)
    have hl : ds.length ≤ 16777216 := of_decide_eq_true e1
    have hA := List.all_eq_true.mp e2
    have lc := like_lc (t := t) (a := some (.lst ds)) (b := some (.lst ds)) (c := some (.bl true)) hl (fun d hd => okD_noRef (hA d hd)) fun d hd => like_refl (hA d hd)
    have lk := lcK_ok (vs := [3, 4]) (ε := [some (.lst ds), some (.lst ds), some (.bl true), none, none]) (h := []) lc (by simpa using hl)
    show endP (mLike (F_like_ t) [some (.lst ds), some (.lst ds), none, none, none] []) = _
    simp? only [mLike, isa, Bool.or_false, Bool.or_true, Bool.and_true, Bool.and_false, Bool.or_self, lk, all_lst (asBs_map (fun _ => true) ds)]
    rw [show (ds.map fun _ => true).all id = true by simp]
    exact endP_ok rfl
  | t + 1, .scr _, e => by cases e
  | t + 1, .dic _ _, e => by cases e
  | t + 1, .obj _ _, e => by cases e
  | t + 1, .ref _, e => by cases e
end PD
namespace PD
open PySem PySem.Spec PyProof.Rows L2
def abc : List Nat := [97, 98, 99, 100, 101, 102, 103, 104, 105, 106, 107, 108, 109, 110, 111, 112, 113, 114, 115, 116, 117, 118, 119, 120, 121, 122]
def resv : List (List Nat) := [[97, 110, 100], [102, 111, 117, 110, 100], [107, 101, 121], [110, 101, 120, 116], [110, 111, 116], [111, 114], [111, 119, 110], [115, 101, 116], [116, 114, 117, 101], [119, 104, 101, 114, 101]]
def isNm (z : List Nat) : Bool := decide (1 ≤ z.length) && (decide (z.length ≤ 6) && (!decide (z ∈ resv) && z.all fun c => decide (c ∈ abc)))
def isCol (z : List Nat) : Bool := decide (z = [107, 101, 121]) || isNm z
def dAbc : D := (.str abc)
def dResv : D := (.tup [(.str [97, 110, 100]), (.str [102, 111, 117, 110, 100]), (.str [107, 101, 121]), (.str [110, 101, 120, 116]), (.str [110, 111, 116]), (.str [111, 114]), (.str [111, 119, 110]), (.str [115, 101, 116]), (.str [116, 114, 117, 101]), (.str [119, 104, 101, 114, 101])])
theorem in_strs {h : EH} {z : List Nat} (ws : List (List Nat)) : dInA h (.str z) (.tup (ws.map .str)) = some (.bl (decide (z ∈ ws))) := by
  show (dInS false h (.str z) (.tup (ws.map .str))).or (dIn false h (.str z) (.tup (ws.map .str))) = _
  have e1 : dInS false h (.str z) (.tup (ws.map .str)) = none := rfl
  have e2 : (ws.map D.str).all flatD = true := by
    rw [List.all_eq_true]
    intro d hd
    obtain ⟨w, _, rfl⟩ := List.mem_map.mp hd
    rfl
  have e3 : dIn false h (.str z) (.tup (ws.map .str)) = some (.bl (false != (ws.map D.str).any fun y => eqF y (.str z))) := if_pos ⟨rfl, e2⟩
  rw [e1, e3]
  show some (D.bl (false != (ws.map D.str).any fun y => eqF y (.str z))) = _
  congr 2
  rw [Bool.eq_iff_iff]
  simp only [Bool.false_bne, List.any_eq_true, List.mem_map, decide_eq_true_eq]
  constructor
  · rintro ⟨d, ⟨w, hw, rfl⟩, e⟩
    have : w = z := by simpa [eqF] using e
    exact this ▸ hw
  · intro hz
    exact ⟨.str z, ⟨z, hz, rfl⟩, by simp [eqF]⟩
theorem in_strsL {h : EH} {z : List Nat} (ws : List (List Nat)) : dInA h (.str z) (.lst (ws.map .str)) = some (.bl (decide (z ∈ ws))) := by
  show (dInS false h (.str z) (.lst (ws.map .str))).or (dIn false h (.str z) (.lst (ws.map .str))) = _
  have e1 : dInS false h (.str z) (.lst (ws.map .str)) = none := rfl
  have e2 : (ws.map D.str).all flatD = true := by
    rw [List.all_eq_true]
    intro d hd
    obtain ⟨w, _, rfl⟩ := List.mem_map.mp hd
    rfl
  have e3 : dIn false h (.str z) (.lst (ws.map .str)) = some (.bl (false != (ws.map D.str).any fun y => eqF y (.str z))) := if_pos ⟨rfl, e2⟩
  rw [e1, e3]
  show some (D.bl (false != (ws.map D.str).any fun y => eqF y (.str z))) = _
  congr 2
  rw [Bool.eq_iff_iff]
  simp only [Bool.false_bne, List.any_eq_true, List.mem_map, decide_eq_true_eq]
  constructor
  · rintro ⟨d, ⟨w, hw, rfl⟩, e⟩
    have : w = z := by simpa [eqF] using e
    exact this ▸ hw
  · intro hz
    exact ⟨.str z, ⟨z, hz, rfl⟩, by simp [eqF]⟩
theorem in_resv {h : EH} {z : List Nat} : dInA h (.str z) dResv = some (.bl (decide (z ∈ resv))) := in_strs resv
theorem in_sign {h : EH} {c : Nat} {z : List Nat} : dInA h (.str [c]) (.str z) = some (.bl (decide (c ∈ z))) := by
  show (some (D.bl (false != decide (c ∈ z)))).or _ = _
  rw [Bool.false_bne]; rfl
def mIsName : MS :=
    (msSeq (msIf (mOr (mNot (mTst (mIsi [.str] (mVar 0)))) (mOr (mNot (mTst (mChain dLe dLe (mC (.int 1)) (mCall dLen (mCons (mVar 0) mNil)) (mC (.int 6))))) (mTst (mBin dInA (mVar 0) (mC dResv))))) (msRet (mC (.bl false))) msNil)
    (msRet (mCall dAll (mCons (mLc [1] (miS (mVar 0)) (mgName 1) mYes (mBin dInA (mVar 1) (mC dAbc))) mNil))))
def F_isName : PF := runP 2 mIsName
theorem isName_str {z : List Nat} (hz : z.length ≤ 16777216) : F_isName [.str z] = some (.ok (.bl (isNm z))) := by
  show endP (mIsName [some (.str z), none] []) = _
  by_cases q1 : 1 ≤ z.length
  · by_cases q2 : z.length ≤ 6
    · by_cases q3 : z ∈ resv
      · have e1 : (1 : Int) ≤ z.length := by omega
        have e2 : (z.length : Int) ≤ 6 := by omega
        simp? only [mIsName, isa, Bool.or_false, len_str hz, e1, e2, in_resv, q3, isNm, q1, q2, Bool.true_and, Bool.false_and]
        rfl
      · have e1 : (1 : Int) ≤ z.length := by omega
        have e2 : (z.length : Int) ≤ 6 := by omega
        have lc := lcL_map (g := mgName 1) (t := mYes) (e := mBin dInA (mVar 1) (mC dAbc)) (ε := [some (.str z), none]) (h := []) (ds := z.map fun c => D.str [c]) (fun d => match d with
          | .str [c] => .bl (decide (c ∈ abc))
          | _ => .non) fun d hd => by
            obtain ⟨c, _, rfl⟩ := List.mem_map.mp hd
            refine ⟨[some (.str z), some (.str [c])], rfl, rfl, ?_⟩
            simp only [↓seq_ap, ↓var_ap, ↓c_ap, ↓bin_ap, ↓tst_ap, ↓not_ap, ↓and_ap, ↓or_ap, ↓if_ap, ↓andv_ap, ↓orv_ap, ↓notv_ap, ↓nil_ap, ↓cons_ap, ↓tup_ap, ↓lst_ap, ↓call_ap, ↓callP_ap, ↓callI_ap, ↓perm_ap, ↓nop_ap, ↓smp_ap, ↓sl_ap, ↓chain_ap, ↓isi_ap, ↓lc_ap, ↓lstC_ap, ↓mts_ap, ↓yes_ap, ↓il_ap, ↓it_ap, ↓is_ap, ↓ir1_ap, ↓iz_ap, ↓snil_ap, ↓ret_ap, ↓sif_ap, ↓sexpr_ap, ↓bk_ap, ↓ct_ap, ↓asg_ap, ↓for_ap, ↓par_ap, ↓gname_ap, ↓gnil_ap, ↓gcons_ap, ↓gtup_ap, ↓gsub_ap, bR_ok, bR_ex, rt_some, sq_nx, sq_rt, sq_bk, sq_ct, sq_ex, bS_ok, bS_ex, binK1_ap, binK2_ap, tstK_b, notK_ap, andK_t, andK_f, orK_t, orK_f, ifK_t, ifK_f, andV_t, andV_f, orV_t, orV_f, notV_c, consK1_ap, consK2_ap, tupK_ok, lstK_ok, callK_ap, permK_ap, smP_int, slK1_ap, slK2_ap, slK3_ap, sl_lst, sl_scr, sl_tup, chK1_ap, chK2_ap, chK3_t, chK3_f, chK4_ap, isiK_int, isiK_str, isiK_bl, isiK_non, isiK_tup, isiK_lst, mtsK_str, mtsK2_ap, ilK_lst, ilK_scr, itK_tup, isK_str, izK_l, izK_t, retK_ap, sifK_t, sifK_f, sexprK_ap, asgK_ap, bG_ok, forK_ap, parK_ok, gK_ok, subK1_ok, subK2_ok, add_int, sub_int, mod_int, lt_int, le_int, gt_int, ge_int, eq_int, eq_str, eq_bl, eq_is, eq_si, eq_bs, eq_sb, eq_nn, ne_int, ne_str, ne_bl, isn_ap, isN_int, isN_str, isN_bl, isN_tup, isN_lst, isN_non, ix_lst, ix_tup, ix_scr, len_lst, len_tup, int_int, list_lst, list_tup, tuple_lst, tuple_tup, asB_bl, getD0, getDS, set0, setS, at0, atS, map_some', bind_some', List.length_cons, List.length_nil, List.any_cons, List.any_nil, dAbc, in_sign]
        rw [List.map_map] at lc
        have lk := lcK_ok (vs := [1]) (ε := [some (.str z), none]) (h := []) lc (by simpa using hz)
        have ab : asBs (z.map fun c => D.bl (decide (c ∈ abc))) = some (z.map fun c => decide (c ∈ abc)) := asBs_map _ z
        have lk' : lcK [1] (mgName 1) mYes (mBin dInA (mVar 1) (mC dAbc)) [some (D.str z), none] (z.map fun c => D.str [c]) [] = some (.ok (.lst (z.map fun c => D.bl (decide (c ∈ abc)))), []) := lk
        simp? only [mIsName, isa, Bool.or_false, len_str hz, e1, e2, in_resv, q3, isNm, q1, q2, Bool.true_and, Bool.false_and, lk', all_lst ab]
        rw [endP_ok rfl, List.all_map]
        rfl
    · have e1 : (1 : Int) ≤ z.length := by omega
      have e2 : ¬ (z.length : Int) ≤ 6 := by omega
      simp? only [mIsName, isa, Bool.or_false, len_str hz, e1, e2, isNm, q1, q2, Bool.true_and, Bool.false_and]
      rfl
  · have e1 : ¬ (1 : Int) ≤ z.length := by omega
    simp? only [mIsName, isa, Bool.or_false, len_str hz, e1, isNm, q1, Bool.true_and, Bool.false_and]
    rfl
theorem isNm_len {z : List Nat} (h : isNm z = true) : 1 ≤ z.length ∧ z.length ≤ 6 := by
  unfold isNm at h
  simp only [Bool.and_eq_true, decide_eq_true_eq] at h
  exact ⟨h.1, h.2.1⟩
theorem isName_nm {z : List Nat} (h : isNm z = true) : F_isName [.str z] = some (.ok (.bl true)) := by
  rw [isName_str (by have := isNm_len h; omega), h]
def isCon (i : Int) : Bool := decide (0 - 1000000000000000000000000000000 ≤ i) && decide (i ≤ 1000000000000000000000000000000)
def sField : List Nat := [102, 105, 101, 108, 100]
def sNumber : List Nat := [110, 117, 109, 98, 101, 114]
def sName : List Nat := [110, 97, 109, 101]
def sOwn : List Nat := [111, 119, 110]
def sNext : List Nat := [110, 101, 120, 116]
def sPlus : List Nat := [112, 108, 117, 115]
inductive Pl where
  | num (n : Int) | name (z : List Nat) | field (z y : List Nat) | own (y : List Nat) | next (y : List Nat)
  deriving DecidableEq
def Pl.d : Pl → D
  | .num n => .tup [.str sNumber, .int n]
  | .name z => .tup [.str sName, .str z]
  | .field z y => .tup [.str sField, .str z, .str y]
  | .own y => .tup [.str sOwn, .str y]
  | .next y => .tup [.str sNext, .str y]
def Pl.ok : Pl → Bool
  | .num n => isCon n
  | .name z => isNm z
  | .field z y => isNm z && isCol y
  | .own y => isCol y
  | .next y => isCol y
inductive Vl where
  | pl (p : Pl) | plus (p : Pl) (m : Int)
  deriving DecidableEq
def Vl.d : Vl → D
  | .pl p => p.d
  | .plus p m => .tup [.str sPlus, p.d, .int m]
def Vl.ok : Vl → Bool
  | .pl p => p.ok
  | .plus p m => p.ok && isCon m
theorem atl0 {a : D} {r : List D} : atI (a :: r) 0 = some a := by
  rw [atI_nat _ 0 0 rfl]; rfl
theorem go1 {d : D} (h : noRef d = true) : noRef.go [d] = true := by rw [noRef.go, h]; rfl
end PD
namespace PD
open PySem PySem.Spec PyProof.Rows L2
theorem asTs_map : ∀ zs : List (List Nat), asTs (zs.map .str) = some zs
  | [] => rfl
  | z :: zs => by
    rw [List.map_cons]
    unfold asTs
    rw [asTs_map zs]; rfl
theorem join_nil : ∀ zs : List (List Nat), joinT [] zs = zs.flatten
  | [] => rfl
  | [x] => by simp [joinT]
  | x :: y :: r => by
    have := join_nil (y :: r)
    unfold joinT
    rw [this]
    simp
theorem join_lst {h : EH} {zs : List (List Nat)} (e : (zs.map List.length).sum ≤ 16777216) : dJoin h [] [.lst (zs.map .str)] = some (.str zs.flatten) := by
  show (match asTs (zs.map .str) with
      | some zs => if (zs.map List.length).sum + zs.length * 0 ≤ 16777216 then some (D.str (joinT [] zs)) else none
      | none => none) = _
  rw [asTs_map]
  show (if (zs.map List.length).sum + zs.length * 0 ≤ 16777216 then some (D.str (joinT [] zs)) else none) = _
  rw [if_pos (by omega), join_nil]
theorem singles : ∀ {ys : List D}, (∀ y ∈ ys, ∃ c ∈ abc, y = .str [c]) → ∃ cs : List Nat, cs.length = ys.length ∧ (∀ c ∈ cs, c ∈ abc) ∧ ys = (cs.map fun c => [c]).map .str
  | [], _ => ⟨[], rfl, (fun _ h => nomatch h), rfl⟩
  | y :: ys, h => by
    obtain ⟨c, hc, e⟩ := h y List.mem_cons_self
    obtain ⟨cs, h1, h2, h3⟩ := singles fun z hz => h z (List.mem_cons_of_mem _ hz)
    refine ⟨c :: cs, congrArg Nat.succ h1, fun z hz => ?_, by rw [e, h3]; rfl⟩
    rcases List.mem_cons.mp hz with e | e
    · rw [e]; exact hc
    · exact h2 z e
theorem flat_singles (cs : List Nat) : (cs.map fun c => [c]).flatten = cs := by
  induction cs with
  | nil => rfl
  | cons c cs ih => simp [ih]
theorem sum_singles (cs : List Nat) : ((cs.map fun c => [c]).map List.length).sum = cs.length := by
  induction cs with
  | nil => rfl
  | cons c cs ih =>
    simp only [List.map_cons, List.sum_cons, ih, List.length_cons, List.length_nil]
    omega
theorem cut_lo {α : Type} {xs : List α} {a : Nat} (h : a ≤ xs.length) : cutD xs none (some (a : Int)) = xs.take a := by
  unfold cutD
  have e1 : HT.sIx xs.length 0 none = 0 := rfl
  have e2 : HT.sIx xs.length xs.length (some (a : Int)) = a := by
    show (if ((a : Int)) < 0 then ((a : Int) + (xs.length : Int)).toNat else min (a : Int).toNat xs.length) = _
    rw [if_neg (by omega)]
    show min a xs.length = _
    omega
  rw [e1, e2]
  simp
theorem cut_hi {α : Type} {xs : List α} {a : Nat} (h : a ≤ xs.length) : cutD xs (some (a : Int)) none = xs.drop a := by
  unfold cutD
  have e1 : HT.sIx xs.length xs.length none = xs.length := rfl
  have e2 : HT.sIx xs.length 0 (some (a : Int)) = a := by
    show (if ((a : Int)) < 0 then ((a : Int) + (xs.length : Int)).toNat else min (a : Int).toNat xs.length) = _
    rw [if_neg (by omega)]
    show min a xs.length = _
    omega
  rw [e1, e2]
  rw [List.take_of_length_le (by rw [List.length_drop]; omega)]
def abcAt (n : Nat) : Nat := abc.getD (n % 26) 0
theorem abc_at {f k : Nat} (hf : f < 26) (hk : k ≤ 26) : atI abc ((f : Int) + (k : Int) - 26) = some (abcAt (f + k)) := by
  have key : ∀ n : Nat, n < 52 → atI abc ((n : Int) - 26) = some (abcAt n) := by decide +kernel
  have := key (f + k) (by omega)
  rw [← this]
  congr 1
theorem abcAt_mem (n : Nat) : abcAt n ∈ abc := by
  have key : ∀ m : Nat, m < 26 → abc.getD m 0 ∈ abc := by decide +kernel
  exact key _ (Nat.mod_lt _ (by decide))
theorem abcAt_inj {f i j : Nat} (hi : i < 26) (hj : j < 26) (e : abcAt (f + i) = abcAt (f + j)) : i = j := by
  have key : ∀ a : Nat, a < 26 → ∀ b : Nat, b < 26 → abc.getD a 0 = abc.getD b 0 → a = b := by decide +kernel
  have := key _ (Nat.mod_lt (f + i) (by decide)) _ (Nat.mod_lt (f + j) (by decide)) e
  omega
def row (stem : List Nat) (a f k : Nat) : List Nat := stem.take a ++ [abcAt (f + k)] ++ stem.drop a
def fixR (r : List Nat) : List Nat := if r ∈ resv then r ++ [113] else r
theorem row_len {stem : List Nat} {a f k : Nat} (h : a ≤ stem.length) : (row stem a f k).length = stem.length + 1 := by
  unfold row
  simp
  omega
theorem row_abc {stem : List Nat} {a f k : Nat} (h : ∀ c ∈ stem, c ∈ abc) : ∀ c ∈ row stem a f k, c ∈ abc := by
  intro c hc
  unfold row at hc
  simp only [List.mem_append, List.mem_singleton] at hc
  rcases hc with (hc | hc) | hc
  · exact h c (List.mem_of_mem_take hc)
  · rw [hc]; exact abcAt_mem _
  · exact h c (List.mem_of_mem_drop hc)
theorem row_inj {stem : List Nat} {a f i j : Nat} (hi : i < 26) (hj : j < 26) (e : row stem a f i = row stem a f j) : i = j := by
  unfold row at e
  have e1 := List.append_inj_left e (by simp)
  have e2 := List.append_inj_right e1 rfl
  exact abcAt_inj hi hj (by simpa using e2)
theorem fix_nm {r : List Nat} (h1 : 1 ≤ r.length) (h5 : r.length ≤ 5) (ha : ∀ c ∈ r, c ∈ abc) : isNm (fixR r) = true := by
  unfold fixR
  by_cases q : r ∈ resv
  · rw [if_pos q]
    have key : ∀ w ∈ resv, isNm (w ++ [113]) = true := by decide +kernel
    exact key r q
  · rw [if_neg q]
    unfold isNm
    simp only [Bool.and_eq_true, decide_eq_true_eq, List.all_eq_true, Bool.not_eq_true', decide_eq_false_iff_not]
    exact ⟨h1, by omega, q, ha⟩
theorem fix_inj {r s : List Nat} (l : r.length = s.length) (e : fixR r = fixR s) : r = s := by
  unfold fixR at e
  by_cases q : r ∈ resv <;> by_cases p : s ∈ resv
  · rw [if_pos q, if_pos p] at e
    exact List.append_inj_left e l
  · rw [if_pos q, if_neg p] at e
    have := congrArg List.length e
    simp at this
    omega
  · rw [if_neg q, if_pos p] at e
    have := congrArg List.length e
    simp at this
    omega
  · rw [if_neg q, if_neg p] at e
    exact e
def mReserved : MS :=
    (msRet (mLst (mCons (mC (.str [97, 110, 100])) (mCons (mC (.str [102, 111, 117, 110, 100])) (mCons (mC (.str [107, 101, 121])) (mCons (mC (.str [110, 101, 120, 116])) (mCons (mC (.str [110, 111, 116])) (mCons (mC (.str [111, 114])) (mCons (mC (.str [111, 119, 110])) (mCons (mC (.str [115, 101, 116])) (mCons (mC (.str [116, 114, 117, 101])) (mCons (mC (.str [119, 104, 101, 114, 101])) mNil))))))))))))
def F_reserved : PF := runP 0 mReserved
theorem reserved_ok : F_reserved [] = some (.ok (.lst (resv.map .str))) := rfl
def mNew : MS :=
    (msSeq (msAsg (mC (.str [97, 98, 99, 100, 101, 102, 103, 104, 105, 106, 107, 108, 109, 110, 111, 112, 113, 114, 115, 116, 117, 118, 119, 120, 121, 122])) (mgName 2))
    (msSeq (msAsg (mMtS dJoin (mC (.str [])) (mCons (mLc [7] (miR1 (mCons (mCallI F_pull (mCons (mVar 0) (mCons (mC (.int 5)) mNil))) mNil)) (mgName 7) mYes (mCallI F_any (mCons (mVar 0) (mCons (mVar 2) mNil)))) mNil)) (mgName 3))
    (msSeq (msAsg (mTup (mCons (mCallI F_pull (mCons (mVar 0) (mCons (mBin dAdd (mCall dLen (mCons (mVar 3) mNil)) (mC (.int 1))) mNil))) (mCons (mCallI F_pull (mCons (mVar 0) (mCons (mC (.int 26)) mNil))) mNil))) (mgTup 2 (mgCons (mgName 5) (mgCons (mgName 6) mgNil))))
    (msSeq (msAsg (mLc [7] (miR1 (mCons (mVar 1) mNil)) (mgName 7) mYes (mBin dAdd (mBin dAdd (mSl (mVar 3) mNoP (mSmP (mVar 5))) (mBin dIx (mVar 2) (mBin dSub (mBin dAdd (mVar 6) (mVar 7)) (mC (.int 26))))) (mSl (mVar 3) (mSmP (mVar 5)) mNoP))) (mgName 4))
    (msRet (mLc [8] (miL (mVar 4)) (mgName 8) mYes (mIf (mTst (mBin dInA (mVar 8) (mCallP F_reserved mNil))) (mBin dAdd (mVar 8) (mC (.str [113]))) (mVar 8))))))))
def F_new : IF := runI 9 mNew
/-- no drawn name: six letters that are the same -/
def six (c : Nat) : List Nat := [c, c, c, c, c, c]
theorem fix_six {z : List Nat} (l : z.length ≤ 5) (c : Nat) (hc : c ≠ 113) : fixR z ≠ six c := fun e => by
  unfold fixR at e
  by_cases q : z ∈ resv
  · rw [if_pos q] at e
    have h := congrArg List.getLast? e
    rw [List.getLast?_append] at h
    simp [six] at h
    omega
  · rw [if_neg q] at e
    have h := congrArg List.length e
    simp [six] at h
    omega
theorem new_namesX {k : Cell} (hk : BagI k) {many : Nat} (hm : many ≤ 26) (t : EH) : ∃ (zs : List (List Nat)) (k' : Cell), F_new [.ref 0, .int many] (k :: t) = some (.ok (.lst (zs.map .str)), k' :: t) ∧ BagI k' ∧ zs.length = many ∧ (∀ z ∈ zs, isNm z = true ∧ ∀ c, c ≠ 113 → z ≠ six c) ∧ zs.Nodup := by
  obtain ⟨n, k1, e1, n0, n5, hk1⟩ := pull_ok hk (n := 5) (by decide) (by decide) t
  obtain ⟨ys, k2, e2, ly, py, hk2⟩ := lcL_bag (g := mgName 7) (e := mCallI F_any (mCons (mVar 0) (mCons (mVar 2) mNil))) (ε := [some (.ref 0), some (.int many), some (.str abc), none, none, none, none, none, none]) (fun y => ∃ c ∈ abc, y = .str [c]) (ds := rngD 0 n.toNat) (fun d _ k t hk => by
    obtain ⟨c, k', e, hc, hk'⟩ := any_str hk (z := abc) (by decide) (by decide) t
    refine ⟨[some (.ref 0), some (.int many), some (.str abc), none, none, none, none, some d, none], .str [c], k', rfl, ?_, ⟨c, hc, rfl⟩, hk'⟩
    simp only [↓seq_ap, ↓var_ap, ↓c_ap, ↓bin_ap, ↓tst_ap, ↓not_ap, ↓and_ap, ↓or_ap, ↓if_ap, ↓andv_ap, ↓orv_ap, ↓notv_ap, ↓nil_ap, ↓cons_ap, ↓tup_ap, ↓lst_ap, ↓call_ap, ↓callP_ap, ↓callI_ap, ↓perm_ap, ↓nop_ap, ↓smp_ap, ↓sl_ap, ↓chain_ap, ↓isi_ap, ↓lc_ap, ↓lstC_ap, ↓mts_ap, ↓yes_ap, ↓il_ap, ↓it_ap, ↓is_ap, ↓ir1_ap, ↓iz_ap, ↓snil_ap, ↓ret_ap, ↓sif_ap, ↓sexpr_ap, ↓bk_ap, ↓ct_ap, ↓asg_ap, ↓for_ap, ↓par_ap, ↓gname_ap, ↓gnil_ap, ↓gcons_ap, ↓gtup_ap, ↓gsub_ap, bR_ok, bR_ex, rt_some, sq_nx, sq_rt, sq_bk, sq_ct, sq_ex, bS_ok, bS_ex, binK1_ap, binK2_ap, tstK_b, notK_ap, andK_t, andK_f, orK_t, orK_f, ifK_t, ifK_f, andV_t, andV_f, orV_t, orV_f, notV_c, consK1_ap, consK2_ap, tupK_ok, lstK_ok, callK_ap, permK_ap, smP_int, slK1_ap, slK2_ap, slK3_ap, sl_lst, sl_scr, sl_tup, chK1_ap, chK2_ap, chK3_t, chK3_f, chK4_ap, isiK_int, isiK_str, isiK_bl, isiK_non, isiK_tup, isiK_lst, mtsK_str, mtsK2_ap, ilK_lst, ilK_scr, itK_tup, isK_str, izK_l, izK_t, retK_ap, sifK_t, sifK_f, sexprK_ap, asgK_ap, bG_ok, forK_ap, parK_ok, gK_ok, subK1_ok, subK2_ok, add_int, sub_int, mod_int, lt_int, le_int, gt_int, ge_int, eq_int, eq_str, eq_bl, eq_is, eq_si, eq_bs, eq_sb, eq_nn, ne_int, ne_str, ne_bl, isn_ap, isN_int, isN_str, isN_bl, isN_tup, isN_lst, isN_non, ix_lst, ix_tup, ix_scr, len_lst, len_tup, int_int, list_lst, list_tup, tuple_lst, tuple_tup, asB_bl, getD0, getDS, set0, setS, at0, atS, map_some', bind_some', List.length_cons, List.length_nil, List.any_cons, List.any_nil, e]) k1 t hk1
  obtain ⟨cs, lc, ac, rfl⟩ := singles py
  have ln : cs.length ≤ 4 := by
    rw [lc, ly]
    unfold rngD
    simp
    omega
  have lk := lcK_ok (vs := [7]) (ε := [some (.ref 0), some (.int many), some (.str abc), none, none, none, none, none, none]) e2 (by rw [← lc]; omega)
  have ej : ∀ h : EH, dJoin h [] [.lst ((cs.map fun c => [c]).map .str)] = some (.str cs) := fun h => by
    rw [join_lst (by rw [sum_singles]; omega), flat_singles]
  obtain ⟨a, k3, e3, a0, a1, hk3⟩ := pull_ok hk2 (n := (cs.length : Int) + 1) (by omega) (by omega) t
  obtain ⟨f, k4, e4, f0, f1, hk4⟩ := pull_ok hk3 (n := 26) (by decide) (by decide) t
  obtain ⟨a, rfl⟩ : ∃ b : Nat, a = (b : Int) := ⟨a.toNat, by omega⟩
  obtain ⟨f, rfl⟩ : ∃ b : Nat, f = (b : Int) := ⟨f.toNat, by omega⟩
  have ha : a ≤ cs.length := by omega
  have hf : f < 26 := by omega
  have lr := lcL_map (g := mgName 7) (t := mYes) (e := mBin dAdd (mBin dAdd (mSl (mVar 3) mNoP (mSmP (mVar 5))) (mBin dIx (mVar 2) (mBin dSub (mBin dAdd (mVar 6) (mVar 7)) (mC (.int 26))))) (mSl (mVar 3) (mSmP (mVar 5)) mNoP))
    (ε := [some (.ref 0), some (.int many), some (.str abc), some (.str cs), none, some (.int a), some (.int f), none, none]) (h := k4 :: t) (ds := rngD 0 many) (fun d => match d with
      | .int i => .str (row cs a f i.toNat)
      | _ => .non) fun d hd => by
      unfold rngD at hd
      obtain ⟨i, hi, rfl⟩ := List.mem_map.mp hd
      have hi' : i < many := List.mem_range.mp hi
      refine ⟨[some (.ref 0), some (.int many), some (.str abc), some (.str cs), none, some (.int a), some (.int f), some (.int (0 + (i : Nat))), none], rfl, rfl, ?_⟩
      have l1 : (cs.take a).length + ([abcAt (f + i)] : List Nat).length ≤ 16777216 := by simp; omega
      have l2 : (cs.take a ++ [abcAt (f + i)]).length + (cs.drop a).length ≤ 16777216 := by simp; omega
      simp? only [sl_str _ _ (show cs.length ≤ 16777216 by omega), cut_lo ha, cut_hi ha, ix_str (show abc.length ≤ 16777216 by decide), Int.zero_add, abc_at hf (show i ≤ 26 by omega), add_str l1, add_str l2]
      rfl
  have er : (rngD 0 many).map (fun d => match d with
      | .int i => .str (row cs a f i.toNat)
      | _ => .non) = (((List.range many).map fun i => row cs a f i).map D.str) := by
    unfold rngD
    rw [List.map_map, List.map_map]
    refine List.map_congr_left fun i _ => ?_
    show D.str (row cs a f ((0 : Int) + (i : Int)).toNat) = .str (row cs a f i)
    rw [Int.zero_add]; rfl
  rw [er] at lr
  have lk2 := lcK_ok (vs := [7]) (ε := [some (.ref 0), some (.int many), some (.str abc), some (.str cs), none, some (.int a), some (.int f), none, none]) lr (by simp; omega)
  have lf := lcL_map (g := mgName 8) (t := mYes) (e := mIf (mTst (mBin dInA (mVar 8) (mCallP F_reserved mNil))) (mBin dAdd (mVar 8) (mC (.str [113]))) (mVar 8))
    (ε := [some (.ref 0), some (.int many), some (.str abc), some (.str cs), some (.lst (((List.range many).map fun i => row cs a f i).map D.str)), some (.int a), some (.int f), none, none]) (h := k4 :: t) (ds := ((List.range many).map fun i => row cs a f i).map D.str) (fun d => match d with
      | .str z => .str (fixR z)
      | _ => .non) fun d hd => by
      obtain ⟨z, hz, rfl⟩ := List.mem_map.mp hd
      obtain ⟨i, hi, rfl⟩ := List.mem_map.mp hz
      have lz : (row cs a f i).length = cs.length + 1 := row_len ha
      refine ⟨_, rfl, rfl, ?_⟩
      have l1 : (row cs a f i).length + ([113] : List Nat).length ≤ 16777216 := by rw [lz]; simp; omega
      by_cases q : row cs a f i ∈ resv
      · simp? only [callPK_ok reserved_ok rfl, in_strsL, q, add_str l1, fixR]
      · simp? only [callPK_ok reserved_ok rfl, in_strsL, q, add_str l1, fixR, if_false]
  have lk3 := lcK_ok (vs := [8]) (ε := [some (.ref 0), some (.int many), some (.str abc), some (.str cs), some (.lst (((List.range many).map fun i => row cs a f i).map D.str)), some (.int a), some (.int f), none, none]) lf (by simp; omega)
  refine ⟨((List.range many).map fun i => row cs a f i).map fixR, k4, ?_, hk4, by simp, fun z hz => ?_, ?_⟩
  · show endI _ (mNew [some (.ref 0), some (.int many), none, none, none, none, none, none, none] (k :: t)) = _
    have e1' : F_pull [.ref 0, .int 5] (k :: t) = some (.ok (.int n), k1 :: t) := e1
    have e3' : F_pull [.ref 0, .int ((cs.length : Int) + 1)] (k2 :: t) = some (.ok (.int a), k3 :: t) := e3
    have e4' : F_pull [.ref 0, .int 26] (k3 :: t) = some (.ok (.int f), k4 :: t) := e4
    have hn : -(2 ^ 62) ≤ n ∧ n < 2 ^ 62 := by omega
    have hmany : -(2 ^ 62) ≤ (many : Int) ∧ (many : Int) < 2 ^ 62 := by omega
    have r1 : ∀ h : EH, ir1K [.int n] h = some (.ok (rngD 0 n.toNat), h) := fun h => ir1K_ok hn
    have r2 : ∀ h : EH, ir1K [.int many] h = some (.ok (rngD 0 many), h) := fun h => ir1K_ok hmany
    have lk' : lcK [7] (mgName 7) mYes (mCallI F_any (mCons (mVar 0) (mCons (mVar 2) mNil))) [some (.ref 0), some (.int many), some (.str [97, 98, 99, 100, 101, 102, 103, 104, 105, 106, 107, 108, 109, 110, 111, 112, 113, 114, 115, 116, 117, 118, 119, 120, 121, 122]), none, none, none, none, none, none] (rngD 0 n.toNat) (k1 :: t) = some (.ok (.lst ((cs.map fun c => [c]).map .str)), k2 :: t) := lk
    have lk2' : lcK [7] (mgName 7) mYes (mBin dAdd (mBin dAdd (mSl (mVar 3) mNoP (mSmP (mVar 5))) (mBin dIx (mVar 2) (mBin dSub (mBin dAdd (mVar 6) (mVar 7)) (mC (.int 26))))) (mSl (mVar 3) (mSmP (mVar 5)) mNoP)) [some (.ref 0), some (.int many), some (.str [97, 98, 99, 100, 101, 102, 103, 104, 105, 106, 107, 108, 109, 110, 111, 112, 113, 114, 115, 116, 117, 118, 119, 120, 121, 122]), some (.str cs), none, some (.int a), some (.int f), none, none] (rngD 0 many) (k4 :: t) = some (.ok (.lst (((List.range many).map fun i => row cs a f i).map D.str)), k4 :: t) := lk2
    have lk3' : lcK [8] (mgName 8) mYes (mIf (mTst (mBin dInA (mVar 8) (mCallP F_reserved mNil))) (mBin dAdd (mVar 8) (mC (.str [113]))) (mVar 8)) [some (.ref 0), some (.int many), some (.str [97, 98, 99, 100, 101, 102, 103, 104, 105, 106, 107, 108, 109, 110, 111, 112, 113, 114, 115, 116, 117, 118, 119, 120, 121, 122]), some (.str cs), some (.lst (((List.range many).map fun i => row cs a f i).map D.str)), some (.int a), some (.int f), none, none] (((List.range many).map fun i => row cs a f i).map D.str) (k4 :: t) = some (.ok (.lst ((((List.range many).map fun i => row cs a f i).map fixR).map .str)), k4 :: t) := by
      rw [show ((((List.range many).map fun i => row cs a f i).map fixR).map D.str) = (((List.range many).map fun i => row cs a f i).map D.str).map (fun d => match d with
      | .str z => .str (fixR z)
      | _ => .non) by simp only [List.map_map]; rfl]
      exact lk3
    simp? only [mNew, e1', r1, lk', ej, len_str (show cs.length ≤ 16777216 by omega), e3', e4', r2, lk2', lk3']
    refine endI_ok rfl ?_
    rw [noRef]
    exact noRef_all fun d hd => by
      obtain ⟨z, _, rfl⟩ := List.mem_map.mp hd
      rfl
  · obtain ⟨r, hr, rfl⟩ := List.mem_map.mp hz
    obtain ⟨i, hi, rfl⟩ := List.mem_map.mp hr
    have lz : (row cs a f i).length = cs.length + 1 := row_len ha
    exact ⟨fix_nm (by omega) (by omega) (row_abc ac), fun c hc => fix_six (by omega) c hc⟩
  · rw [List.map_map]
    refine List.pairwise_map.mpr (List.Pairwise.imp_of_mem (R := (· ≠ ·)) (fun {i j} hi hj ne e => ne ?_) List.nodup_range)
    have hi' : i < many := List.mem_range.mp hi
    have hj' : j < many := List.mem_range.mp hj
    exact row_inj (by omega) (by omega) (fix_inj (by rw [row_len ha, row_len ha]) e)
end PD
namespace PD
open PySem PySem.Spec PyProof.Rows L2
theorem nm_mem {z : List Nat} (h : isNm z = true) {c : Nat} (hc : c ∈ z) : c ∈ abc := by
  unfold isNm at h
  simp only [Bool.and_eq_true, List.all_eq_true, decide_eq_true_eq] at h
  exact h.2.2.2 c hc
theorem abc_rng {c : Nat} (h : c ∈ abc) : 97 ≤ c ∧ c ≤ 122 := by
  have key : ∀ c ∈ abc, 97 ≤ c ∧ c ≤ 122 := by decide
  exact key c h
end PD
namespace PD
open PySem PySem.Spec PyProof.Rows L2
section
variable {ε : Ev} {h : EH}
def fldK (Cs : List Str) (f : Str) (x : D) (h1 : EH) : O D := rt (dFld Cs f h1 x) h1
theorem fld_ap (Cs : List Str) (f : Str) (a : M D) : mFld Cs f a ε h = bR (a ε h) (fldK Cs f) := (rfl)
theorem fldK_ap (Cs : List Str) (f : Str) (x : D) : fldK Cs f x h = rt (dFld Cs f h x) h := (rfl)
def meiK2 (F : IF) (x : D) (ds : List D) (h2 : EH) : O D := F (x :: ds) h2
def meiK (C m : Str) (F : IF) (a : M (List D)) (ε : Ev) (x : D) (h1 : EH) : O D := match insD h1 x with
  | some (C', fs) => if C' = C ∧ fs.lookup m = none then bR (a ε h1) (meiK2 F x) else none
  | none => none
theorem mei_ap (C m : Str) (F : IF) (o : M D) (a : M (List D)) : mMeI C m F o a ε h = bR (o ε h) (meiK C m F a ε) := (rfl)
theorem meiK2_ap (F : IF) (x : D) (ds : List D) : meiK2 F x ds h = F (x :: ds) h := (rfl)
def faugK2 (Cs : List Str) (f : Str) (x z : D) (h1 : EH) (ε : Ev) (y : D) (h2 : EH) : Option (RS × EH) := match addI z y with
    | some w => if (insD h1 x).map (·.1) = (insD h2 x).map (·.1) then (putO Cs f h2 x w).map fun h3 => (.nx ε, h3) else none
    | none => none
def faugK (Cs : List Str) (f : Str) (v : M D) (ε : Ev) (x : D) (h1 : EH) : Option (RS × EH) := match dFld Cs f h1 x with
  | some z => bS (v ε h1) ε (faugK2 Cs f x z h1 ε)
  | none => none
theorem faug_ap (Cs : List Str) (f : Str) (o v : M D) : msFAug Cs f o v ε h = bS (o ε h) ε (faugK Cs f v ε) := (rfl)
def sfldK2 (Cs : List Str) (f : Str) (ε : Ev) (y x : D) (h2 : EH) : Option (RS × EH) := (putO Cs f h2 x y).map fun h3 => (.nx ε, h3)
def sfldK (Cs : List Str) (f : Str) (o : M D) (ε : Ev) (y : D) (h1 : EH) : Option (RS × EH) := bS (o ε h1) ε (sfldK2 Cs f ε y)
theorem sfld_ap (Cs : List Str) (f : Str) (o v : M D) : msFld Cs f o v ε h = bS (v ε h) ε (sfldK Cs f o ε) := (rfl)
theorem sfldK_ap (Cs : List Str) (f : Str) (o : M D) (y : D) : sfldK Cs f o ε y h = bS (o ε h) ε (sfldK2 Cs f ε y) := (rfl)
theorem sfldK2_ap (Cs : List Str) (f : Str) (y x : D) : sfldK2 Cs f ε y x h = (putO Cs f h x y).map fun h3 => (.nx ε, h3) := (rfl)
def c1K (f : D → Option D) (x : D) (h1 : EH) : O D := rt (f x) h1
theorem c1_ap (f : D → Option D) (a : M D) : mC1 f a ε h = bR (a ε h) (c1K f) := (rfl)
theorem c1K_ap (f : D → Option D) (x : D) : c1K f x h = rt (f x) h := (rfl)
def ir2K (xs : List D) (h1 : EH) : O (List D) := match xs with
  | [.int i, .int j] => if -(2 ^ 62) ≤ i ∧ i < 2 ^ 62 ∧ -(2 ^ 62) ≤ j ∧ j < 2 ^ 62 then some (.ok (rngD i (j - i).toNat), h1) else none
  | _ => none
theorem ir2_ap (a : M (List D)) : miR2 a ε h = bR (a ε h) ir2K := (rfl)
theorem forL_nx {g : MG} {b : MS} {d : D} {ds : List D} {ε1 ε2 : Ev} {h1 h2 : EH} (e1 : g d ε h = some (ε1, h1)) (e2 : b ε1 h1 = some (.nx ε2, h2)) : forL g b (d :: ds) ε h = forL g b ds ε2 h2 := by
  show (match g d ε h with
    | none => none
    | some (ε1, h1) => match b ε1 h1 with
      | some (.nx ε2, h2) => forL g b ds ε2 h2
      | some (.ct ε2, h2) => forL g b ds ε2 h2
      | some (.bk ε2, h2) => some (.nx ε2, h2)
      | some (.rt d, h2) => some (.rt d, h2)
      | some (.ex e ε2, h2) => some (.ex e ε2, h2)
      | none => none) = _
  rw [e1]
  dsimp only
  rw [e2]
end
end PD
namespace PD
open PySem PySem.Spec PyProof.Rows L2
end PD
namespace PD
open PySem PySem.Spec PyProof.Rows L2
/-- data without a bool, of a depth, with right signs -/
def okE : Nat → D → Bool
  | 0, _ => false
  | _ + 1, .non => true
  | _ + 1, .int _ => true
  | _ + 1, .str z => z.all fun c => decide (c < 1114112)
  | t + 1, .tup ds => ds.all (okE t)
  | t + 1, .lst ds => ds.all (okE t)
  | _ + 1, _ => false
/-- of the same data -/
def pdOf : Nat → D → PyData
  | 0, _ => .none
  | _ + 1, .non => .none
  | _ + 1, .int i => .int i
  | _ + 1, .str z => .str (toS z)
  | t + 1, .tup ds => .tuple (ds.map (pdOf t))
  | t + 1, .lst ds => .list (ds.map (pdOf t))
  | _ + 1, _ => .none
theorem toPD_all {f : D → PyData} : ∀ {ds : List D}, (∀ d ∈ ds, toPD d = some (f d)) → toPD.go ds = some (ds.map f)
  | [], _ => rfl
  | d :: ds, h => by
    rw [toPD.go, h d List.mem_cons_self, toPD_all fun x hx => h x (List.mem_cons_of_mem _ hx)]
    rfl
theorem lay_all {ds : List PyData} (h : ∀ d ∈ ds, d.canLay0 = true) : PyData.canLayAll0 ds = true := by
  induction ds with
  | nil => rfl
  | cons d ds ih =>
    rw [PyData.canLayAll0, h d List.mem_cons_self, ih fun x hx => h x (List.mem_cons_of_mem _ hx)]; rfl
theorem dep_all {n : Nat} {ds : List PyData} (h : ∀ d ∈ ds, d.depth ≤ n) : PyData.depthAll ds ≤ n := by
  induction ds with
  | nil => exact Nat.zero_le _
  | cons d ds ih =>
    rw [PyData.depthAll]
    exact Nat.max_le.mpr ⟨h d List.mem_cons_self, ih fun x hx => h x (List.mem_cons_of_mem _ hx)⟩
theorem pd_ok : ∀ {t : Nat} {d : D}, okE t d = true → toPD d = some (pdOf t d) ∧ (pdOf t d).canLay0 = true ∧ (pdOf t d).depth ≤ t
  | 0, _, e => by cases e
  | t + 1, .non, _ => ⟨rfl, rfl, Nat.zero_le _⟩
  | t + 1, .int _, _ => ⟨rfl, rfl, Nat.zero_le _⟩
  | t + 1, .str z, e => by
    refine ⟨rfl, ?_, Nat.zero_le _⟩
    show (z.toArray).all (fun c => decide (c < 0x110000)) = true
    have e' : z.all (fun c => decide (c < 1114112)) = true := e
    simpa using e'
  | t + 1, .tup ds, e => by
    have h := List.all_eq_true.mp (show ds.all (okE t) = true from e)
    refine ⟨?_, ?_, ?_⟩
    · rw [toPD, toPD_all fun d hd => (pd_ok (h d hd)).1]; rfl
    · show PyData.canLayAll0 (ds.map (pdOf t)) = true
      refine lay_all fun d hd => ?_
      obtain ⟨x, hx, rfl⟩ := List.mem_map.mp hd
      exact (pd_ok (h x hx)).2.1
    · show PyData.depthAll (ds.map (pdOf t)) + 1 ≤ t + 1
      refine Nat.succ_le_succ (dep_all fun d hd => ?_)
      obtain ⟨x, hx, rfl⟩ := List.mem_map.mp hd
      exact (pd_ok (h x hx)).2.2
  | t + 1, .lst ds, e => by
    have h := List.all_eq_true.mp (show ds.all (okE t) = true from e)
    refine ⟨?_, ?_, ?_⟩
    · rw [toPD, toPD_all fun d hd => (pd_ok (h d hd)).1]; rfl
    · show PyData.canLayAll0 (ds.map (pdOf t)) = true
      refine lay_all fun d hd => ?_
      obtain ⟨x, hx, rfl⟩ := List.mem_map.mp hd
      exact (pd_ok (h x hx)).2.1
    · show PyData.depthAll (ds.map (pdOf t)) + 1 ≤ t + 1
      refine Nat.succ_le_succ (dep_all fun d hd => ?_)
      obtain ⟨x, hx, rfl⟩ := List.mem_map.mp hd
      exact (pd_ok (h x hx)).2.2
  | t + 1, .bl _, e => by cases e
  | t + 1, .scr _, e => by cases e
  | t + 1, .dic _ _, e => by cases e
  | t + 1, .obj _ _, e => by cases e
  | t + 1, .ref _, e => by cases e
theorem eqvAll_iff {f g : D → PyData} : ∀ {xs ys : List D}, (∀ x ∈ xs, ∀ y ∈ ys, PyData.eqv (f x) (g y) = true ↔ x = y) → (PyData.eqvAll (xs.map f) (ys.map g) = true ↔ xs = ys)
  | [], [], _ => ⟨fun _ => rfl, fun _ => rfl⟩
  | [], _ :: _, _ => ⟨fun h => (by cases h), fun h => (by cases h)⟩
  | _ :: _, [], _ => ⟨fun h => (by cases h), fun h => (by cases h)⟩
  | x :: xs, y :: ys, h => by
    rw [List.map_cons, List.map_cons, PyData.eqvAll, Bool.and_eq_true, h x List.mem_cons_self y List.mem_cons_self, eqvAll_iff fun a ha b hb => h a (List.mem_cons_of_mem _ ha) b (List.mem_cons_of_mem _ hb)]
    simp
theorem toS_inj {a b : List Nat} (h : toS a = toS b) : a = b := by
  have : (toS a).cps.toList = (toS b).cps.toList := by rw [h]
  simpa [toS] using this
theorem eqv_iff : ∀ {t u : Nat} {x y : D}, okE t x = true → okE u y = true → (PyData.eqv (pdOf t x) (pdOf u y) = true ↔ x = y)
  | 0, _, _, _, e, _ => by cases e
  | _ + 1, 0, _, _, _, e => by cases e
  | t + 1, u + 1, x, y, ex, ey => by
    cases x with
    | non => cases y <;> first | (cases ey; done) | simp [pdOf, PyData.eqv]
    | int i => cases y <;> first | (cases ey; done) | simp [pdOf, PyData.eqv]
    | str z =>
      cases y <;> first
        | (cases ey; done)
        | (simp only [pdOf, PyData.eqv, beq_iff_eq, D.str.injEq]; exact ⟨toS_inj, fun h => by rw [h]⟩)
        | simp [pdOf, PyData.eqv]
    | tup xs =>
      have hx := List.all_eq_true.mp (show xs.all (okE t) = true from ex)
      cases y with
      | tup ys =>
        have hy := List.all_eq_true.mp (show ys.all (okE u) = true from ey)
        simp only [pdOf, PyData.eqv, D.tup.injEq]
        exact eqvAll_iff fun a ha b hb => eqv_iff (hx a ha) (hy b hb)
      | non => simp [pdOf, PyData.eqv]
      | int _ => simp [pdOf, PyData.eqv]
      | str _ => simp [pdOf, PyData.eqv]
      | lst _ => simp [pdOf, PyData.eqv]
      | _ => cases ey
    | lst xs =>
      have hx := List.all_eq_true.mp (show xs.all (okE t) = true from ex)
      cases y with
      | lst ys =>
        have hy := List.all_eq_true.mp (show ys.all (okE u) = true from ey)
        simp only [pdOf, PyData.eqv, D.lst.injEq]
        exact eqvAll_iff fun a ha b hb => eqv_iff (hx a ha) (hy b hb)
      | non => simp [pdOf, PyData.eqv]
      | int _ => simp [pdOf, PyData.eqv]
      | str _ => simp [pdOf, PyData.eqv]
      | tup _ => simp [pdOf, PyData.eqv]
      | _ => cases ey
    | _ => cases ex
theorem dEqv_iff {t u : Nat} {x y : D} (hx : okE t x = true) (hy : okE u y = true) (ht : t ≤ 64) (hu : u ≤ 64) : ∃ b, dEqv x y = some b ∧ (b = true ↔ x = y) := by
  obtain ⟨a1, a2, a3⟩ := pd_ok hx
  obtain ⟨b1, b2, b3⟩ := pd_ok hy
  refine ⟨PyData.eqv (pdOf t x) (pdOf u y), ?_, eqv_iff hx hy⟩
  unfold dEqv
  rw [a1, b1]
  refine if_pos ⟨?_, ?_⟩
  · exact Bool.and_eq_true_iff.mpr ⟨a2, decide_eq_true (Nat.le_trans a3 ht)⟩
  · exact Bool.and_eq_true_iff.mpr ⟨b2, decide_eq_true (Nat.le_trans b3 hu)⟩
theorem scalD_iff {t u : Nat} {x y : D} (hx : okE t x = true) (hy : okE u y = true) {b : Bool} (e : scalD x y = some b) : b = true ↔ x = y := by
  cases t with
  | zero => cases hx
  | succ t =>
    cases u with
    | zero => cases hy
    | succ u =>
      cases x <;> first
        | (cases hx; done)
        | (cases y <;> first
            | (cases hy; done)
            | (cases e; done)
            | (cases e; simp))
theorem eq_data {h : EH} {t u : Nat} {x y : D} (hx : okE t x = true) (hy : okE u y = true) (ht : t ≤ 64) (hu : u ≤ 64) : ∃ b, dEq h x y = some (.bl b) ∧ dNe h x y = some (.bl (!b)) ∧ (b = true ↔ x = y) := by
  obtain ⟨b, e, i⟩ := dEqv_iff hx hy ht hu
  unfold dEq dNe dEqD
  cases q : scalD x y with
  | some c => exact ⟨c, rfl, rfl, scalD_iff hx hy q⟩
  | none =>
    rw [e]
    refine ⟨b, ?_, ?_, i⟩
    · show some (D.bl (false != b)) = _
      rw [Bool.false_bne]
    · show some (D.bl (true != b)) = _
      rw [Bool.true_bne]
theorem dEq_t {h : EH} {t : Nat} {x : D} (hx : okE t x = true) (ht : t ≤ 64) : dEq h x x = some (.bl true) := by
  obtain ⟨b, e, _, i⟩ := eq_data (h := h) hx hx ht ht
  rw [e, i.mpr rfl]
theorem dNe_f {h : EH} {t : Nat} {x : D} (hx : okE t x = true) (ht : t ≤ 64) : dNe h x x = some (.bl false) := by
  obtain ⟨b, _, e, i⟩ := eq_data (h := h) hx hx ht ht
  rw [e, i.mpr rfl]; rfl
theorem dNe_t {h : EH} {t u : Nat} {x y : D} (hx : okE t x = true) (hy : okE u y = true) (ht : t ≤ 64) (hu : u ≤ 64) (n : x ≠ y) : dNe h x y = some (.bl true) := by
  obtain ⟨b, _, e, i⟩ := eq_data (h := h) hx hy ht hu
  cases b with
  | true => exact absurd (i.mp rfl) n
  | false => exact e
theorem forL_ct {g : MG} {b : MS} {d : D} {ds : List D} {ε ε1 ε2 : Ev} {h h1 h2 : EH} (e1 : g d ε h = some (ε1, h1)) (e2 : b ε1 h1 = some (.ct ε2, h2)) : forL g b (d :: ds) ε h = forL g b ds ε2 h2 := by
  show (match g d ε h with
    | none => none
    | some (ε1, h1) => match b ε1 h1 with
      | some (.nx ε2, h2) => forL g b ds ε2 h2
      | some (.ct ε2, h2) => forL g b ds ε2 h2
      | some (.bk ε2, h2) => some (.nx ε2, h2)
      | some (.rt d, h2) => some (.rt d, h2)
      | some (.ex e ε2, h2) => some (.ex e ε2, h2)
      | none => none) = _
  rw [e1]
  dsimp only
  rw [e2]
theorem forL_bag {g : MG} {b : MS} {n : Nat} {x : D} (body : ∀ (d : D) (k : Cell) (r : Ev), BagI k → r.length = n → ∃ (ε1 r' : Ev) (k' : Cell), g d (some x :: some (.ref 0) :: r) [k] = some (ε1, [k]) ∧
    (b ε1 [k] = some (.nx (some x :: some (.ref 0) :: r'), [k']) ∨ b ε1 [k] = some (.ct (some x :: some (.ref 0) :: r'), [k'])) ∧ r'.length = n ∧ BagI k') : ∀ (ds : List D) (k : Cell) (r : Ev), BagI k → r.length = n →
    ∃ (r' : Ev) (k' : Cell), forL g b ds (some x :: some (.ref 0) :: r) [k] = some (.nx (some x :: some (.ref 0) :: r'), [k']) ∧ r'.length = n ∧ BagI k'
  | [], k, r, hk, hr => ⟨r, k, rfl, hr, hk⟩
  | d :: ds, k, r, hk, hr => by
    obtain ⟨ε1, r1, k1, e1, e2, l1, hk1⟩ := body d k r hk hr
    obtain ⟨r2, k2, e3, l2, hk2⟩ := forL_bag body ds k1 r1 hk1 l1
    refine ⟨r2, k2, ?_, l2, hk2⟩
    rcases e2 with e2 | e2
    · rw [forL_nx e1 e2, e3]
    · rw [forL_ct e1 e2, e3]
end PD
namespace PD
open PySem PySem.Spec PyProof.Rows L2
section
variable {ε : Ev} {h : EH}
def iaK (x : D) (h1 : EH) : O (List D) := match x with
  | .lst ds => some (.ok ds, h1)
  | .scr ds => some (.ok ds, h1)
  | .tup ds => some (.ok ds, h1)
  | _ => none
theorem ia_ap (a : M D) : miA a ε h = bR (a ε h) iaK := by
  unfold miA miL miT
  cases a ε h with
  | none => rfl
  | some z =>
    obtain ⟨r, h1⟩ := z
    cases r with
    | ex e => rfl
    | ok x => cases x <;> rfl
theorem iaK_lst (ds : List D) : iaK (.lst ds) h = some (.ok ds, h) := (rfl)
theorem iaK_tup (ds : List D) : iaK (.tup ds) h = some (.ok ds, h) := (rfl)
def ienK (xs : List D) (h1 : EH) : O (List D) := match xs with
  | [x] => (match x with
    | .lst as => some (.ok (enumD as), h1)
    | .tup as => some (.ok (enumD as), h1)
    | _ => none)
  | _ => none
theorem ien_ap (a : M (List D)) : miEn a ε h = bR (a ε h) ienK := (rfl)
theorem ienK_lst (ds : List D) : ienK [.lst ds] h = some (.ok (enumD ds), h) := (rfl)
theorem ienK_tup (ds : List D) : ienK [.tup ds] h = some (.ok (enumD ds), h) := (rfl)
def sortK (x : D) (h1 : EH) : O D := rt ((txD h1 x).map fun zs => .lst ((srtU zs).map .str)) h1
def lenTK (x : D) (h1 : EH) : O D := rt ((txD h1 x).map fun zs => .int (srtU zs).length) h1
theorem sort_ap (a : M D) : mSortT a ε h = bR (a ε h) sortK := (rfl)
theorem lenT_ap (a : M D) : mLenT a ε h = bR (a ε h) lenTK := (rfl)
theorem txD_lst {zs : List (List Nat)} (l : zs.length < 1000) : txD h (.lst (zs.map .str)) = some zs := by
  have e : asS h (.lst (zs.map .str)) = some (zs.map .str) := rfl
  unfold txD
  rw [e]
  dsimp only
  rw [asTs_map]
  exact if_pos (by unfold scanBound; omega)
theorem txD_tup {zs : List (List Nat)} (l : zs.length < 1000) : txD h (.tup (zs.map .str)) = some zs := by
  have e : asS h (.tup (zs.map .str)) = some (zs.map .str) := rfl
  unfold txD
  rw [e]
  dsimp only
  rw [asTs_map]
  exact if_pos (by unfold scanBound; omega)
theorem lenTK_lst {zs : List (List Nat)} (l : zs.length < 1000) : lenTK (.lst (zs.map .str)) h = some (.ok (.int (srtU zs).length), h) := by
  unfold lenTK; rw [txD_lst l]; rfl
theorem lenTK_tup {zs : List (List Nat)} (l : zs.length < 1000) : lenTK (.tup (zs.map .str)) h = some (.ok (.int (srtU zs).length), h) := by
  unfold lenTK; rw [txD_tup l]; rfl
/-- unlike ones keep their number -/
theorem insU_len {x : List Nat} : ∀ {l : List (List Nat)}, x ∉ l → (insU x l).length = l.length + 1
  | [], _ => rfl
  | y :: r, hx => by
    unfold insU
    split
    · rfl
    · split
      · rw [List.length_cons, insU_len (fun z => hx (List.mem_cons_of_mem _ z)), List.length_cons]
      · rename_i h1 h2
        exact absurd ((lt3 x y).elim (fun h => absurd h h1) fun h => h.elim id fun h => absurd h h2) (fun e => hx (e ▸ List.mem_cons_self))
theorem srtU_len : ∀ {l : List (List Nat)}, l.Nodup → (srtU l).length = l.length
  | [], _ => rfl
  | y :: r, nd => by
    obtain ⟨h1, h2⟩ := List.nodup_cons.mp nd
    show (insU y (srtU r)).length = _
    rw [insU_len (fun z => h1 (srtU_mem.mp z)), srtU_len h2, List.length_cons]
def cgetK2 (kvs : List (List Nat × D)) (k : List Nat) (z : D) (h2 : EH) : O D := some (.ok ((lkS k kvs).getD z), h2)
def cgetK (kvs : List (List Nat × D)) (b : M D) (ε : Ev) (y : D) (h1 : EH) : O D := match y with
  | .str k => bR (b ε h1) (cgetK2 kvs k)
  | _ => none
theorem cget_ap (kvs : List (List Nat × D)) (a b : M D) : mCGet kvs a b ε h = bR (a ε h) (cgetK kvs b ε) := (rfl)
theorem cgetK_str (kvs : List (List Nat × D)) (b : M D) (k : List Nat) : cgetK kvs b ε (.str k) h = bR (b ε h) (cgetK2 kvs k) := (rfl)
theorem cgetK2_ap (kvs : List (List Nat × D)) (k : List Nat) (z : D) : cgetK2 kvs k z h = some (.ok ((lkS k kvs).getD z), h) := (rfl)
def apK2 (x y : D) (h2 : EH) : O D := (apD h2 x y).map fun h3 => (.ok .non, h3)
def apK (e : M D) (ε : Ev) (x : D) (h1 : EH) : O D := if isLc h1 x = true then bR (e ε h1) (apK2 x) else none
theorem append_ap (o e : M D) : mAppend o e ε h = bR (o ε h) (apK e ε) := (rfl)
theorem apK_ok {e : M D} {x : D} (q : isLc h x = true) : apK e ε x h = bR (e ε h) (apK2 x) := if_pos q
theorem apK2_ap (x y : D) : apK2 x y h = (apD h x y).map fun h3 => (.ok .non, h3) := (rfl)
def app2K2 (xs ys : List D) (h2 : EH) : O (List D) := some (.ok (xs ++ ys), h2)
def app2K (b : M (List D)) (ε : Ev) (xs : List D) (h1 : EH) : O (List D) := bR (b ε h1) (app2K2 xs)
theorem app2_ap (a b : M (List D)) : mApp2 a b ε h = bR (a ε h) (app2K b ε) := (rfl)
theorem app2K_ap (b : M (List D)) (xs : List D) : app2K b ε xs h = bR (b ε h) (app2K2 xs) := (rfl)
theorem app2K2_ap (xs ys : List D) : app2K2 xs ys h = some (.ok (xs ++ ys), h) := (rfl)
def par3K (i j l : Nat) (ε : Ev) (ds : List D) (h1 : EH) : Option (RS × EH) := match ds with
  | [d, e, f] => some (.nx (((ε.set i (some d)).set j (some e)).set l (some f)), h1)
  | _ => none
theorem par3_ap (i j l : Nat) (m : M (List D)) : msPar3 i j l m ε h = bS (m ε h) ε (par3K i j l ε) := (rfl)
theorem par3K_ok (i j l : Nat) (d e f : D) : par3K i j l ε [d, e, f] h = some (.nx (((ε.set i (some d)).set j (some e)).set l (some f)), h) := (rfl)
def lc2K (vs : List Nat) (g : MG) (t : M Bool) (mi1 : M (List D)) (g1 : MG) (t1 : M Bool) (e : M D) (vs1 : List Nat) (ε : Ev) (ds : List D) (h1 : EH) : O D := okL (lcL2 g t mi1 g1 t1 e vs1 ds (wipeE ε vs) h1)
theorem lc2_ap (vs : List Nat) (mi : M (List D)) (g : MG) (t : M Bool) (mi1 : M (List D)) (g1 : MG) (t1 : M Bool) (e : M D) (vs1 : List Nat) : mLc2 vs mi g t mi1 g1 t1 e vs1 ε h = bR (mi ε h) (lc2K vs g t mi1 g1 t1 e vs1 ε) := (rfl)
def prpK (C : Str) (F : PF) (x : D) (h1 : EH) : O D := match insD h1 x with
  | some (C', _) => if C' = C ∧ noRef.go [x] = true then (match F [x] with
    | some (.ok d) => some (.ok d, h1)
    | _ => none) else none
  | none => none
theorem prp_ap (C : Str) (F : PF) (o : M D) : mPrp C F o ε h = bR (o ε h) (prpK C F) := (rfl)
def mepK2 (F : PF) (x : D) (ds : List D) (h2 : EH) : O D := if noRef.go (x :: ds) = true then (F (x :: ds)).map fun r => (r, h2) else none
def mepK (C m : Str) (F : PF) (a : M (List D)) (ε : Ev) (x : D) (h1 : EH) : O D := match insD h1 x with
  | some (C', fs) => if C' = C ∧ fs.lookup m = none then bR (a ε h1) (mepK2 F x) else none
  | none => none
theorem mep_ap (C m : Str) (F : PF) (o : M D) (a : M (List D)) : mMeP C m F o a ε h = bR (o ε h) (mepK C m F a ε) := (rfl)
theorem mepK_ok {C m : Str} {F : PF} {a : M (List D)} {fs : List (Str × D)} (l : fs.lookup m = none) : mepK C m F a ε (.obj C fs) h = bR (a ε h) (mepK2 F (.obj C fs)) := by
  unfold mepK
  rw [show insD h (.obj C fs) = some (C, fs) from rfl]
  exact if_pos ⟨rfl, l⟩
theorem mepK2_ok {F : PF} {x : D} {ds : List D} {r : R D} (n : noRef.go (x :: ds) = true) (e : F (x :: ds) = some r) : mepK2 F x ds h = some (r, h) := by
  unfold mepK2
  rw [if_pos n, e]; rfl
def mkpK (C : Str) (dd : List D) (F : IF) (ds : List D) (h1 : EH) : O D := match F (.ref h1.length :: (ds ++ dd)) (h1 ++ [.obj C []]) with
  | some (.ok .non, h2) => (match frzI h1.length h2 (.ref h1.length), trim h1.length h2 with
    | some d, some h3 => some (.ok d, h3)
    | _, _ => none)
  | some (.ex e, h2) => if noRef.gf e.fs = true then (trim h1.length h2).map fun h3 => (.ex e, h3) else none
  | _ => none
theorem mkp_ap (C : Str) (dd : List D) (F : IF) (a : M (List D)) : mMkP C dd F a ε h = bR (a ε h) (mkpK C dd F) := (rfl)
theorem mkpK_ok {C : Str} {F : IF} {ds : List D} {fs : List (Str × D)} (hp : h.all pureC = true) (hf : noRef.gf fs = true) (e : F (.ref h.length :: (ds ++ [])) (h ++ [.obj C []]) = some (.ok .non, h ++ [.obj C fs])) : mkpK C [] F ds h = some (.ok (.obj C fs), h) := by
  have tr : trim h.length (h ++ [.obj C fs]) = some h := by
    unfold trim
    rw [if_neg (by simp), List.take_left, if_pos hp]
  have fr : frzI h.length (h ++ [.obj C fs]) (.ref h.length) = some (.obj C fs) := by
    show frz1I h.length (h ++ [.obj C fs]) (.ref h.length) = _
    unfold frz1I
    dsimp only
    rw [if_neg (Nat.lt_irrefl _), List.getElem?_append_right (Nat.le_refl _), Nat.sub_self]
    exact if_pos hf
  unfold mkpK
  rw [e]
  dsimp only
  rw [fr, tr]
theorem max2_ap (i j : Int) : dMax2 h [.int i, .int j] = some (.int (if j > i then j else i)) := (rfl)
def augK (i : Nat) (x : D) (ε : Ev) (y : D) (h1 : EH) : Option (RS × EH) := (addI x y).map fun z => (.nx (ε.set i (some z)), h1)
theorem augK_int {i : Nat} {a b : Int} : augK i (.int a) ε (.int b) h = some (.nx (ε.set i (some (.int (a + b)))), h) := (rfl)
def negK (x : D) (h1 : EH) : O D := match x with
  | .int i => some (.ok (.int (-i)), h1)
  | _ => none
theorem neg_ap (a : M D) : mNeg a ε h = bR (a ε h) negK := (rfl)
theorem negK_int (i : Int) : negK (.int i) h = some (.ok (.int (-i)), h) := (rfl)
end
end PD
namespace PV
open PySem PySem.Spec PyProof.Rows L2 PD
def g_GREATEST : D := (.int 1000000000000000000000000000000)
def g_LETTERS : D := (.str [97, 98, 99, 100, 101, 102, 103, 104, 105, 106, 107, 108, 109, 110, 111, 112, 113, 114, 115, 116, 117, 118, 119, 120, 121, 122])
def g_RESERVED : D := (.tup [(.str [97, 110, 100]), (.str [102, 111, 117, 110, 100]), (.str [107, 101, 121]), (.str [110, 101, 120, 116]), (.str [110, 111, 116]), (.str [111, 114]), (.str [111, 119, 110]), (.str [115, 101, 116]), (.str [116, 114, 117, 101]), (.str [119, 104, 101, 114, 101])])
def g_MOST_DEPTH : D := (.int 6)
def kv_SIGNS : List (List Nat × D) := [([97, 116, 109, 111, 115, 116], (.str [60, 61])), ([98, 101, 108, 111, 119], (.str [60])), ([115, 97, 109, 101], (.str [61]))]
def N__law_draws : List Str := ["_law_script", "_law_seed", "_law_cell"]
def mb__law_draws_0 : MS :=
    (msAsg (mBin dMod (mCall dInt (mCons (mBin dAdd (mBin dAdd (mBin dMul (mVar 1) (mC (.int 44021))) (mBin dMod (mCall dInt (mCons (mVar 2) mNil)) (mC (.int 2147483489)))) (mC (.int 53))) mNil)) (mC (.int 2147483549))) (mgName 1))
def m__law_draws : MS :=
    (msSeq (msAsg (mC (.int 5648)) (mgName 1))
    (msSeq (msFor (miL (mSl (mVar 0) mNoP (mSmP (mC (.int 63))))) (mgName 2) mb__law_draws_0)
    (msRet (mLstC (mCons (mCall dList (mCons (mSl (mVar 0) mNoP (mSmP (mC (.int 63)))) mNil)) (mCons (mC (.int 0)) (mCons (mC (.int 0)) (mCons (mVar 1) (mCons (mC (.int 0)) mNil)))))))))
def F__law_draws : IF := runA N__law_draws.length m__law_draws
def N__law_like : List Str := ["_law_a", "_law_b", "_law_same", "_law_c", "_law_d"]
def m__law_like (F : PF) : MS :=
    (msSeq (msIf (mTst (mIsi [.lst, .tup] (mVar 1))) (msSeq (msAsg (mAndV (mBin dEq (mIsi [.lst] (mVar 0)) (mIsi [.lst] (mVar 1))) (mBin dEq (mIsi [.tup] (mVar 0)) (mIsi [.tup] (mVar 1)))) (mgName 2))
    (msRet (mAndV (mVar 2) (mAndV (mBin dEq (mCall dLen (mCons (mVar 0) mNil)) (mCall dLen (mCons (mVar 1) mNil))) (mCall dAll (mCons (mLc [3, 4] (miZip (mCons (mVar 0) (mCons (mVar 1) mNil))) (mgTup 2 (mgCons (mgName 3) (mgCons (mgName 4) mgNil))) mYes (mCallP F (mCons (mVar 3) (mCons (mVar 4) mNil)))) mNil)))))) msNil)
    (msSeq (msIf (mOr (mTst (mBin (dIsN false) (mVar 0) (mC .non))) (mOr (mTst (mBin (dIsN false) (mVar 1) (mC .non))) (mTst (mBin dNe (mIsi [.bool] (mVar 0)) (mIsi [.bool] (mVar 1)))))) (msRet (mAndV (mBin (dIsN false) (mVar 0) (mC .non)) (mBin (dIsN false) (mVar 1) (mC .non)))) msNil)
    (msRet (mAndV (mBin dEq (mIsi [.int] (mVar 0)) (mIsi [.int] (mVar 1))) (mAndV (mBin dEq (mIsi [.str] (mVar 0)) (mIsi [.str] (mVar 1))) (mBin dEq (mVar 0) (mVar 1)))))))
def F__law_like_ : Nat → PF
  | 0 => fun _ => none
  | t + 1 => runP N__law_like.length (m__law_like (F__law_like_ t))
def F__law_like : PF := F__law_like_ 30
def N__law_pull : List Str := ["_law_bag", "_law_sides", "_law_seed", "_law_cell", "_law_digit"]
def m__law_pull : MS :=
    (msSeq (msAsg (mBin dAdd (mBin dIx (mVar 0) (mC (.int 4))) (mC (.int 1))) (mgSub (mVar 0) (mC (.int 4))))
    (msSeq (msIf (mAnd (mTst (mBin dEq (mBin dIx (mVar 0) (mC (.int 2))) (mC (.int 0)))) (mTst (mBin dLt (mBin dIx (mVar 0) (mC (.int 1))) (mCall dLen (mCons (mBin dIx (mVar 0) (mC (.int 0))) mNil))))) (msSeq (msAsg (mTup (mCons (mBin dIx (mBin dIx (mVar 0) (mC (.int 0))) (mBin dIx (mVar 0) (mC (.int 1)))) (mCons (mBin dAdd (mBin dIx (mVar 0) (mC (.int 1))) (mC (.int 1))) mNil))) (mgTup 2 (mgCons (mgName 3) (mgCons (mgSub (mVar 0) (mC (.int 1))) mgNil))))
    (msSeq (msIf (mTst (mBin dGe (mVar 3) (mBin dPow (mC (.int 10)) (mC (.int 18))))) (msAsg (mVar 3) (mgSub (mVar 0) (mC (.int 2)))) msNil)
    (msAsg (mBin dMod (mCall dInt (mCons (mBin dAdd (mBin dAdd (mBin dMul (mBin dIx (mVar 0) (mC (.int 3))) (mC (.int 38377))) (mBin dMul (mBin dMod (mCall dInt (mCons (mVar 3) mNil)) (mC (.int 2147483489))) (mC (.int 41143)))) (mC (.int 61))) mNil)) (mC (.int 2147483549))) (mgSub (mVar 0) (mC (.int 3)))))) msNil)
    (msSeq (msIf (mTst (mBin dGt (mBin dIx (mVar 0) (mC (.int 2))) (mC (.int 0)))) (msSeq (msAsg (mTup (mCons (mBin dMod (mCall dInt (mCons (mBin dIx (mVar 0) (mC (.int 2))) mNil)) (mVar 1)) (mCons (mBin dDiv (mBin dIx (mVar 0) (mC (.int 2))) (mVar 1)) mNil))) (mgTup 2 (mgCons (mgName 4) (mgCons (mgSub (mVar 0) (mC (.int 2))) mgNil))))
    (msRet (mVar 4))) msNil)
    (msSeq (msAsg (mBin dIx (mVar 0) (mC (.int 3))) (mgName 2))
    (msSeq (msAsg (mBin dMod (mCall dInt (mCons (mBin dAdd (mBin dAdd (mBin dAdd (mBin dPow (mVar 2) (mC (.int 3))) (mBin dMul (mVar 2) (mC (.int 37813)))) (mBin dMul (mBin dIx (mVar 0) (mC (.int 4))) (mC (.int 1299689)))) (mC (.int 65437))) mNil)) (mC (.int 2147483549))) (mgSub (mVar 0) (mC (.int 3))))
    (msRet (mBin dMod (mCall dInt (mCons (mBin dAdd (mBin dDiv (mBin dIx (mVar 0) (mC (.int 3))) (mC (.int 89))) (mBin dMul (mBin dMod (mCall dInt (mCons (mBin dIx (mVar 0) (mC (.int 3))) mNil)) (mC (.int 7919))) (mC (.int 71)))) mNil)) (mVar 1))))))))
def F__law_pull : IF := runI N__law_pull.length m__law_pull
def N__law_any : List Str := ["_law_bag", "_law_rows"]
def m__law_any : MS :=
    (msRet (mBin dIx (mVar 1) (mCallI F__law_pull (mCons (mVar 0) (mCons (mCall dLen (mCons (mVar 1) mNil)) mNil)))))
def F__law_any : IF := runI N__law_any.length m__law_any
def N__law_reserved : List Str := []
def m__law_reserved : MS :=
    (msRet (mLst (mCons (mC (.str [97, 110, 100])) (mCons (mC (.str [102, 111, 117, 110, 100])) (mCons (mC (.str [107, 101, 121])) (mCons (mC (.str [110, 101, 120, 116])) (mCons (mC (.str [110, 111, 116])) (mCons (mC (.str [111, 114])) (mCons (mC (.str [111, 119, 110])) (mCons (mC (.str [115, 101, 116])) (mCons (mC (.str [116, 114, 117, 101])) (mCons (mC (.str [119, 104, 101, 114, 101])) mNil))))))))))))
def F__law_reserved : PF := runP N__law_reserved.length m__law_reserved
def N__law_new_names : List Str := ["_law_bag", "_law_many", "_law_abc", "_law_stem", "_law_rows", "_law_at", "_law_first", "_law_k", "_law_row"]
def me__law_new_names_0 : M D :=
    (mIf (mTst (mBin dInA (mVar 8) (mCallP F__law_reserved mNil))) (mBin dAdd (mVar 8) (mC (.str [113]))) (mVar 8))
def me__law_new_names_1 : M D :=
    (mBin dAdd (mBin dAdd (mSl (mVar 3) mNoP (mSmP (mVar 5))) (mBin dIx (mVar 2) (mBin dSub (mBin dAdd (mVar 6) (mVar 7)) (mC (.int 26))))) (mSl (mVar 3) (mSmP (mVar 5)) mNoP))
def m__law_new_names : MS :=
    (msSeq (msAsg (mC (.str [97, 98, 99, 100, 101, 102, 103, 104, 105, 106, 107, 108, 109, 110, 111, 112, 113, 114, 115, 116, 117, 118, 119, 120, 121, 122])) (mgName 2))
    (msSeq (msAsg (mMtS dJoin (mC (.str [])) (mCons (mLc [7] (miR1 (mCons (mCallI F__law_pull (mCons (mVar 0) (mCons (mC (.int 5)) mNil))) mNil)) (mgName 7) mYes (mCallI F__law_any (mCons (mVar 0) (mCons (mVar 2) mNil)))) mNil)) (mgName 3))
    (msSeq (msAsg (mTup (mCons (mCallI F__law_pull (mCons (mVar 0) (mCons (mBin dAdd (mCall dLen (mCons (mVar 3) mNil)) (mC (.int 1))) mNil))) (mCons (mCallI F__law_pull (mCons (mVar 0) (mCons (mC (.int 26)) mNil))) mNil))) (mgTup 2 (mgCons (mgName 5) (mgCons (mgName 6) mgNil))))
    (msSeq (msAsg (mLc [7] (miR1 (mCons (mVar 1) mNil)) (mgName 7) mYes me__law_new_names_1) (mgName 4))
    (msRet (mLc [8] (miL (mVar 4)) (mgName 8) mYes me__law_new_names_0))))))
def F__law_new_names : IF := runI N__law_new_names.length m__law_new_names
def N__law_near : List Str := ["_law_bag"]
def m__law_near : MS :=
    (msRet (mCallI F__law_any (mCons (mVar 0) (mCons (mLst (mCons (mC (.int 0)) (mCons (mC (.int 1)) (mCons (mC (.int 1)) (mCons (mC (.int 2)) (mCons (mC (.int 3)) (mCons (mBin dSub (mC (.int 0)) (mC (.int 1))) (mCons (mBin dSub (mC (.int 0)) (mC (.int 2))) mNil)))))))) mNil))))
def F__law_near : IF := runI N__law_near.length m__law_near
def N__law_some_value : List Str := ["_law_bag", "_law_pool", "_law_plain"]
def m__law_some_value : MS :=
    (msSeq (msAsg (mCallI F__law_any (mCons (mVar 0) (mCons (mBin dAdd (mVar 1) (mLst (mCons (mTup (mCons (mC (.str [110, 117, 109, 98, 101, 114])) (mCons (mCallI F__law_near (mCons (mVar 0) mNil)) mNil))) mNil))) mNil))) (mgName 2))
    (msRet (mIf (mTst (mBin dEq (mCallI F__law_pull (mCons (mVar 0) (mCons (mC (.int 3)) mNil))) (mC (.int 0)))) (mTup (mCons (mC (.str [112, 108, 117, 115])) (mCons (mVar 2) (mCons (mCallI F__law_near (mCons (mVar 0) mNil)) mNil)))) (mVar 2))))
def F__law_some_value : IF := runI N__law_some_value.length m__law_some_value
def N__law_some_compared : List Str := ["_law_bag", "_law_pool", "_law_one"]
def m__law_some_compared : MS :=
    (msSeq (msAsg (mIf (mTst (mBin dNe (mVar 1) (mLst mNil))) (mCallI F__law_any (mCons (mVar 0) (mCons (mVar 1) mNil))) (mTup (mCons (mC (.str [110, 117, 109, 98, 101, 114])) (mCons (mCallI F__law_near (mCons (mVar 0) mNil)) mNil)))) (mgName 2))
    (msSeq (msIf (mTst (mBin dEq (mCallI F__law_pull (mCons (mVar 0) (mCons (mC (.int 4)) mNil))) (mC (.int 0)))) (msAsg (mTup (mCons (mC (.str [112, 108, 117, 115])) (mCons (mVar 2) (mCons (mCallI F__law_near (mCons (mVar 0) mNil)) mNil)))) (mgName 2)) msNil)
    (msRet (mTup (mCons (mCallI F__law_any (mCons (mVar 0) (mCons (mLst (mCons (mC (.str [97, 116, 109, 111, 115, 116])) (mCons (mC (.str [98, 101, 108, 111, 119])) (mCons (mC (.str [98, 101, 108, 111, 119])) (mCons (mC (.str [115, 97, 109, 101])) mNil))))) mNil))) (mCons (mVar 2) (mCons (mCallI F__law_some_value (mCons (mVar 0) (mCons (mVar 1) mNil))) mNil)))))))
def F__law_some_compared : IF := runI N__law_some_compared.length m__law_some_compared
def N__law_some_condition : List Str := ["_law_bag", "_law_pool", "_law_deep", "_law_way", "_law_word"]
def m__law_some_condition (F : IF) : MS :=
    (msSeq (msAsg (mIf (mTst (mBin dGt (mVar 2) (mC (.int 0)))) (mCallI F__law_pull (mCons (mVar 0) (mCons (mC (.int 7)) mNil))) (mCallI F__law_pull (mCons (mVar 0) (mCons (mC (.int 3)) mNil)))) (mgName 3))
    (msSeq (msIf (mTst (mBin dLt (mVar 3) (mC (.int 1)))) (msRet (mTup (mCons (mC (.str [116, 114, 117, 101])) mNil))) msNil)
    (msSeq (msIf (mTst (mBin dLt (mVar 3) (mC (.int 4)))) (msRet (mCallI F__law_some_compared (mCons (mVar 0) (mCons (mVar 1) mNil)))) msNil)
    (msSeq (msIf (mTst (mBin dEq (mVar 3) (mC (.int 4)))) (msRet (mTup (mCons (mC (.str [110, 111, 116])) (mCons (mCallI F (mCons (mVar 0) (mCons (mVar 1) (mCons (mBin dSub (mVar 2) (mC (.int 1))) mNil)))) mNil)))) msNil)
    (msSeq (msAsg (mIf (mTst (mBin dEq (mVar 3) (mC (.int 5)))) (mC (.str [97, 110, 100])) (mC (.str [111, 114]))) (mgName 4))
    (msRet (mTup (mCons (mVar 4) (mCons (mCallI F (mCons (mVar 0) (mCons (mVar 1) (mCons (mBin dSub (mVar 2) (mC (.int 1))) mNil)))) (mCons (mCallI F (mCons (mVar 0) (mCons (mVar 1) (mCons (mBin dSub (mVar 2) (mC (.int 1))) mNil)))) mNil))))))))))
def F__law_some_condition_ : Nat → IF
  | 0 => fun _ _ => none
  | t + 1 => runI N__law_some_condition.length (m__law_some_condition (F__law_some_condition_ t))
def F__law_some_condition : IF := F__law_some_condition_ 8
def N_is_integer : List Str := ["value"]
def m_is_integer : MS :=
    (msRet (mAndV (mIsi [.int] (mVar 0)) (mNotV (mIsi [.bool] (mVar 0)))))
def F_is_integer : PF := runP N_is_integer.length m_is_integer
def N_is_constant : List Str := ["value"]
def m_is_constant : MS :=
    (msRet (mAndV (mCallP F_is_integer (mCons (mVar 0) mNil)) (mChain dLe dLe (mBin dSub (mC (.int 0)) (mC g_GREATEST)) (mVar 0) (mC g_GREATEST))))
def F_is_constant : PF := runP N_is_constant.length m_is_constant
def N_is_name : List Str := ["value", "letter"]
def m_is_name : MS :=
    (msSeq (msIf (mOr (mNot (mTst (mIsi [.str] (mVar 0)))) (mOr (mNot (mTst (mChain dLe dLe (mC (.int 1)) (mCall dLen (mCons (mVar 0) mNil)) (mC (.int 6))))) (mTst (mBin dInA (mVar 0) (mC g_RESERVED))))) (msRet (mC (.bl false))) msNil)
    (msRet (mCall dAll (mCons (mLc [1] (miS (mVar 0)) (mgName 1) mYes (mBin dInA (mVar 1) (mC g_LETTERS))) mNil))))
def F_is_name : PF := runP N_is_name.length m_is_name
def N_is_column : List Str := ["value"]
def m_is_column : MS :=
    (msRet (mAndV (mIsi [.str] (mVar 0)) (mOrV (mBin dEq (mVar 0) (mC (.str [107, 101, 121]))) (mCallP F_is_name (mCons (mVar 0) mNil)))))
def F_is_column : PF := runP N_is_column.length m_is_column
def N_is_plain : List Str := ["value"]
def m_is_plain : MS :=
    (msSeq (msIf (mOr (mNot (mTst (mIsi [.tup] (mVar 0)))) (mOr (mTst (mBin dLt (mCall dLen (mCons (mVar 0) mNil)) (mC (.int 2)))) (mNot (mTst (mIsi [.str] (mBin dIx (mVar 0) (mC (.int 0)))))))) (msRet (mC (.bl false))) msNil)
    (msSeq (msIf (mTst (mBin dEq (mBin dIx (mVar 0) (mC (.int 0))) (mC (.str [102, 105, 101, 108, 100])))) (msRet (mAndV (mBin dEq (mCall dLen (mCons (mVar 0) mNil)) (mC (.int 3))) (mAndV (mCallP F_is_name (mCons (mBin dIx (mVar 0) (mC (.int 1))) mNil)) (mCallP F_is_column (mCons (mBin dIx (mVar 0) (mC (.int 2))) mNil))))) msNil)
    (msSeq (msIf (mTst (mBin dNe (mCall dLen (mCons (mVar 0) mNil)) (mC (.int 2)))) (msRet (mC (.bl false))) msNil)
    (msSeq (msIf (mTst (mBin dEq (mBin dIx (mVar 0) (mC (.int 0))) (mC (.str [110, 117, 109, 98, 101, 114])))) (msRet (mCallP F_is_constant (mCons (mBin dIx (mVar 0) (mC (.int 1))) mNil))) msNil)
    (msSeq (msIf (mTst (mBin dEq (mBin dIx (mVar 0) (mC (.int 0))) (mC (.str [110, 97, 109, 101])))) (msRet (mCallP F_is_name (mCons (mBin dIx (mVar 0) (mC (.int 1))) mNil))) msNil)
    (msRet (mAndV (mBin dInA (mBin dIx (mVar 0) (mC (.int 0))) (mTup (mCons (mC (.str [111, 119, 110])) (mCons (mC (.str [110, 101, 120, 116])) mNil)))) (mCallP F_is_column (mCons (mBin dIx (mVar 0) (mC (.int 1))) mNil)))))))))
def F_is_plain : PF := runP N_is_plain.length m_is_plain
def N_is_value : List Str := ["value"]
def m_is_value : MS :=
    (msSeq (msIf (mAnd (mTst (mIsi [.tup] (mVar 0))) (mAnd (mTst (mBin dEq (mCall dLen (mCons (mVar 0) mNil)) (mC (.int 3)))) (mAnd (mTst (mIsi [.str] (mBin dIx (mVar 0) (mC (.int 0))))) (mTst (mBin dEq (mBin dIx (mVar 0) (mC (.int 0))) (mC (.str [112, 108, 117, 115]))))))) (msRet (mAndV (mCallP F_is_plain (mCons (mBin dIx (mVar 0) (mC (.int 1))) mNil)) (mCallP F_is_constant (mCons (mBin dIx (mVar 0) (mC (.int 2))) mNil)))) msNil)
    (msRet (mCallP F_is_plain (mCons (mVar 0) mNil))))
def F_is_value : PF := runP N_is_value.length m_is_value
def N_inner_parts : List Str := ["condition", "at"]
def me_inner_parts_0 : M D :=
    (mTup (mCons (mVar 1) (mCons (mBin dIx (mVar 0) (mVar 1)) mNil)))
def m_inner_parts : MS :=
    (msSeq (msIf (mTst (mBin dNinA (mBin dIx (mVar 0) (mC (.int 0))) (mTup (mCons (mC (.str [110, 111, 116])) (mCons (mC (.str [97, 110, 100])) (mCons (mC (.str [111, 114])) mNil)))))) (msRet (mLst mNil)) msNil)
    (msRet (mLc [1] (miR2 (mCons (mC (.int 1)) (mCons (mCall dLen (mCons (mVar 0) mNil)) mNil))) (mgName 1) mYes me_inner_parts_0)))
def F_inner_parts : PF := runP N_inner_parts.length m_inner_parts
def N_has_form : List Str := ["condition", "word"]
def m_has_form : MS :=
    (msSeq (msIf (mOr (mNot (mTst (mIsi [.tup] (mVar 0)))) (mOr (mTst (mBin dEq (mCall dLen (mCons (mVar 0) mNil)) (mC (.int 0)))) (mNot (mTst (mIsi [.str] (mBin dIx (mVar 0) (mC (.int 0)))))))) (msRet (mC (.bl false))) msNil)
    (msSeq (msAsg (mBin dIx (mVar 0) (mC (.int 0))) (mgName 1))
    (msSeq (msIf (mTst (mC1 (dCIn false kv_SIGNS) (mVar 1))) (msRet (mAndV (mBin dEq (mCall dLen (mCons (mVar 0) mNil)) (mC (.int 3))) (mAndV (mCallP F_is_value (mCons (mBin dIx (mVar 0) (mC (.int 1))) mNil)) (mCallP F_is_value (mCons (mBin dIx (mVar 0) (mC (.int 2))) mNil))))) msNil)
    (msSeq (msIf (mTst (mBin dEq (mVar 1) (mC (.str [102, 111, 117, 110, 100])))) (msRet (mAndV (mBin dEq (mCall dLen (mCons (mVar 0) mNil)) (mC (.int 2))) (mCallP F_is_name (mCons (mBin dIx (mVar 0) (mC (.int 1))) mNil)))) msNil)
    (msRet (mBin dEq (mCall dLen (mCons (mVar 0) mNil)) (mDGet2 (mDisp [((mC (.str [116, 114, 117, 101])), (mC (.int 1))), ((mC (.str [110, 111, 116])), (mC (.int 2))), ((mC (.str [97, 110, 100])), (mC (.int 3))), ((mC (.str [111, 114])), (mC (.int 3)))]) (mVar 1) (mC (.int 0)))))))))
def F_has_form : PF := runP N_has_form.length m_has_form
def N_wrong_path : List Str := ["condition", "path", "at", "inner", "found"]
def mb_wrong_path_0 (F : PF) : MS :=
    (msSeq (msAsg (mCallP F (mCons (mVar 3) (mCons (mTup (mStar (mVar 1) (mCons (mVar 2) mNil))) mNil))) (mgName 4))
    (msIf (mTst (mBin (dIsN true) (mVar 4) (mC .non))) (msRet (mVar 4)) msNil))
def m_wrong_path (F : PF) : MS :=
    (msSeq (msIf (mOr (mTst (mBin dGe (mCall dLen (mCons (mVar 1) mNil)) (mC g_MOST_DEPTH))) (mNot (mTst (mCallP F_has_form (mCons (mVar 0) mNil))))) (msRet (mVar 1)) msNil)
    (msSeq (msFor (miL (mCallP F_inner_parts (mCons (mVar 0) mNil))) (mgTup 2 (mgCons (mgName 2) (mgCons (mgName 3) mgNil))) (mb_wrong_path_0 F))
    (msRet (mC .non))))
def F_wrong_path_ : Nat → PF
  | 0 => fun _ => none
  | t + 1 => runP N_wrong_path.length (m_wrong_path (F_wrong_path_ t))
def F_wrong_path : PF := F_wrong_path_ 12
def N_is_condition : List Str := ["value"]
def m_is_condition : MS :=
    (msRet (mBin (dIsN false) (mCallP F_wrong_path (mCons (mVar 0) (mCons (mTup mNil) mNil))) (mC .non)))
def F_is_condition : PF := runP N_is_condition.length m_is_condition
def N_check_condition : List Str := ["condition", "path"]
def m_check_condition : MS :=
    (msSeq (msAsg (mCallP F_wrong_path (mCons (mVar 0) (mCons (mTup mNil) mNil))) (mgName 1))
    (msIf (mTst (mBin (dIsN true) (mVar 1) (mC .non))) (msRaise "InvalidCondition" (some "path") [73, 110, 118, 97, 108, 105, 100, 67, 111, 110, 100, 105, 116, 105, 111, 110] (mCons (mVar 1) mNil)) msNil))
def F_check_condition : PF := runP N_check_condition.length m_check_condition
end PV
namespace PV
open PySem PD
theorem e_pull : F__law_pull = F_pull := rfl
theorem e_any : F__law_any = F_any := rfl
theorem e_new : F__law_new_names = F_new := rfl
theorem e_like : ∀ t, F__law_like_ t = F_like_ t
  | 0 => rfl
  | t + 1 => by
    unfold F__law_like_ F_like_
    rw [e_like t]; rfl
end PV
local macro_rules
  | `(tactic| dsimp! only [$xs,*] $[$l]?) => `(tactic| simp only [↓PD.seq_ap, ↓PD.var_ap, ↓PD.c_ap, ↓PD.bin_ap, ↓PD.tst_ap, ↓PD.not_ap, ↓PD.and_ap, ↓PD.or_ap, ↓PD.if_ap, ↓PD.andv_ap, ↓PD.orv_ap, ↓PD.notv_ap, ↓PD.nil_ap, ↓PD.cons_ap, ↓PD.tup_ap, ↓PD.lst_ap, ↓PD.call_ap, ↓PD.callP_ap, ↓PD.callI_ap, ↓PD.perm_ap, ↓PD.nop_ap, ↓PD.smp_ap, ↓PD.sl_ap, ↓PD.chain_ap, ↓PD.isi_ap, ↓PD.lc_ap, ↓PD.lstC_ap, ↓PD.mts_ap, ↓PD.yes_ap, ↓PD.il_ap, ↓PD.it_ap, ↓PD.is_ap, ↓PD.ir1_ap, ↓PD.iz_ap, ↓PD.snil_ap, ↓PD.ret_ap, ↓PD.sif_ap, ↓PD.sexpr_ap, ↓PD.bk_ap, ↓PD.ct_ap, ↓PD.asg_ap, ↓PD.for_ap, ↓PD.par_ap, ↓PD.gname_ap, ↓PD.gnil_ap, ↓PD.gcons_ap, ↓PD.gtup_ap, ↓PD.gsub_ap, PD.bR_ok, PD.bR_ex, PD.rt_some, PD.sq_nx, PD.sq_rt, PD.sq_bk, PD.sq_ct, PD.sq_ex, PD.bS_ok, PD.bS_ex, PD.binK1_ap, PD.binK2_ap, PD.tstK_b, PD.notK_ap, PD.andK_t, PD.andK_f, PD.orK_t, PD.orK_f, PD.ifK_t, PD.ifK_f, PD.andV_t, PD.andV_f, PD.orV_t, PD.orV_f, PD.notV_c, PD.consK1_ap, PD.consK2_ap, PD.tupK_ok, PD.lstK_ok, PD.callK_ap, PD.permK_ap, PD.smP_int, PD.slK1_ap, PD.slK2_ap, PD.slK3_ap, PD.sl_lst, PD.sl_scr, PD.sl_tup, PD.chK1_ap, PD.chK2_ap, PD.chK3_t, PD.chK3_f, PD.chK4_ap, PD.isiK_int, PD.isiK_str, PD.isiK_bl, PD.isiK_non, PD.isiK_tup, PD.isiK_lst, PD.mtsK_str, PD.mtsK2_ap, PD.ilK_lst, PD.ilK_scr, PD.itK_tup, PD.isK_str, PD.izK_l, PD.izK_t, PD.retK_ap, PD.sifK_t, PD.sifK_f, PD.sexprK_ap, PD.asgK_ap, PD.bG_ok, PD.forK_ap, PD.parK_ok, PD.gK_ok, PD.subK1_ok, PD.subK2_ok, PD.add_int, PD.sub_int, PD.mod_int, PD.lt_int, PD.le_int, PD.gt_int, PD.ge_int, PD.eq_int, PD.eq_str, PD.eq_bl, PD.eq_is, PD.eq_si, PD.eq_bs, PD.eq_sb, PD.eq_nn, PD.ne_int, PD.ne_str, PD.ne_bl, PD.isn_ap, PD.isN_int, PD.isN_str, PD.isN_bl, PD.isN_tup, PD.isN_lst, PD.isN_non, PD.ix_lst, PD.ix_tup, PD.ix_scr, PD.len_lst, PD.len_tup, PD.int_int, PD.list_lst, PD.list_tup, PD.tuple_lst, PD.tuple_tup, PD.asB_bl, PD.getD0, PD.getDS, PD.set0, PD.setS, PD.at0, PD.atS, PD.map_some', PD.bind_some', List.length_cons, List.length_nil, List.any_cons, List.any_nil, ↓PD.fld_ap, ↓PD.mei_ap, ↓PD.faug_ap, ↓PD.c1_ap, ↓PD.ir2_ap, ↓PD.sfld_ap, PD.fldK_ap, PD.meiK2_ap, PD.c1K_ap, PD.sfldK_ap, PD.sfldK2_ap, decide_true, decide_false, and_self, Nat.reduceLeDiff, Nat.reduceAdd, if_true, Int.reduceLT, Int.reduceNeg, Int.reducePow, Int.reduceToNat, Int.reduceLE, Nat.reduceLT, Int.reduceAdd, Int.reduceSub, Bool.not_true, Bool.not_false, Int.reduceEq, bne_self_eq_false, Bool.false_bne, Bool.true_bne, Int.reduceBNe, $xs,*] $[$l]?)
namespace PV
open PySem PD
def rdF (s : List Nat) (k : Nat) : List (Str × D) := [("source", .str s), ("spot", .int k)]
def rd (s : List Nat) (k : Nat) : Cell := .obj "ConditionReader" (rdF s k)
section
variable {t : EH} {s : List Nat} {k : Nat} {ε : Ev}
theorem last_at {x : Cell} : (t ++ [x])[t.length]? = some x := by
  rw [List.getElem?_append_right (Nat.le_refl _), Nat.sub_self]; rfl
theorem last_set {x y : Cell} : (t ++ [x]).set t.length y = t ++ [y] := by
  rw [List.set_append_right _ _ (Nat.le_refl _), Nat.sub_self]; rfl
end
def stops : List Nat := [32, 40, 41]
end PV
namespace PD
theorem star_ap {ε : Ev} {h : EH} {a : M D} {b : M (List D)} {x : D} {xs : List D} {h1 : EH} (e : a ε h = some (.ok x, h1)) (e2 : asS h1 x = some xs) : mStar a b ε h = bR (b ε h1) fun ys h2 => some (.ok (xs ++ ys), h2) := by
  unfold mStar
  rw [e, bR_ok, e2]
end PD
namespace PV
open PySem PD
inductive Cw where
  | am | be | sa
  deriving DecidableEq
def Cw.w : Cw → List Nat
  | .am => [97, 116, 109, 111, 115, 116]
  | .be => [98, 101, 108, 111, 119]
  | .sa => [115, 97, 109, 101]
def jw (j : Bool) : List Nat := if j = true then [97, 110, 100] else [111, 114]
inductive Cd where
  | cmp (o : Cw) (a b : Vl) | tru | fnd (z : List Nat) | nt (c : Cd) | bin (j : Bool) (c d : Cd)
def Cd.d : Cd → D
  | .cmp o a b => .tup [.str o.w, a.d, b.d]
  | .tru => .tup [.str [116, 114, 117, 101]]
  | .fnd z => .tup [.str [102, 111, 117, 110, 100], .str z]
  | .nt c => .tup [.str [110, 111, 116], c.d]
  | .bin j c d => .tup [.str (jw j), c.d, d.d]
def Cd.ok : Cd → Bool
  | .cmp _ a b => a.ok && b.ok
  | .tru => true
  | .fnd z => isNm z
  | .nt c => c.ok
  | .bin _ c d => c.ok && d.ok
def Cd.dep : Cd → Nat
  | .nt c => c.dep + 1
  | .bin _ c d => max c.dep d.dep + 1
  | _ => 1
end PV
namespace PV
open PySem PD
end PV
namespace PV
open PySem PD
end PV
namespace PV
open PySem PD
end PV
namespace PD
open PySem
end PD
namespace PV
open PySem PD
theorem near_ok {k : Cell} (hk : BagI k) (t : EH) : ∃ (i : Int) (k' : Cell), F__law_near [.ref 0] (k :: t) = some (.ok (.int i), k' :: t) ∧ (-2 ≤ i ∧ i ≤ 3) ∧ BagI k' := by
  obtain ⟨d, k3, e3, hd, hk3⟩ := any_lst hk (ds := [.int 0, .int 1, .int 1, .int 2, .int 3, .int (-1), .int (-2)]) (by simp) (by simp) (by simp [PD.noRef]) t
  have key : ∃ i : Int, d = .int i ∧ (-2 ≤ i ∧ i ≤ 3) := by
    simp only [List.mem_cons, List.not_mem_nil, or_false] at hd
    rcases hd with rfl | rfl | rfl | rfl | rfl | rfl | rfl <;> exact ⟨_, rfl, by omega⟩
  obtain ⟨i, rfl, hi⟩ := key
  refine ⟨i, k3, ?_, hi, hk3⟩
  have e3' : F__law_any [.ref 0, .lst [.int 0, .int 1, .int 1, .int 2, .int 3, .int (-1), .int (-2)]] (k :: t) = some (.ok (.int i), k3 :: t) := e3
  show endI _ (m__law_near [some (.ref 0)] (k :: t)) = _
  dsimp! only [m__law_near, e3']
  exact endI_ok rfl rfl
/-- a pool of values without a plus -/
structure PoolOk (ds : List D) : Prop where
  at_ : ∀ d ∈ ds, ∃ p : Pl, d = p.d ∧ p.ok = true
  len : ds.length ≤ 1000
theorem okE_abc {z : List Nat} (h : isNm z = true) : (z.all fun c => decide (c < 1114112)) = true := by
  rw [List.all_eq_true]
  intro c hc
  have := abc_rng (nm_mem h hc)
  exact decide_eq_true (by omega)
theorem okE_col {z : List Nat} (h : isCol z = true) : (z.all fun c => decide (c < 1114112)) = true := by
  unfold isCol at h
  rw [Bool.or_eq_true] at h
  rcases h with h | h
  · rw [of_decide_eq_true h]; rfl
  · exact okE_abc h
end PV
namespace PQ
open PySem PySem.Spec PyProof.Rows L2 PD PV
def g_FAILS : D := (.tup [(.str [102, 97, 105, 108]), (.str [105, 110, 115, 101, 114, 116]), (.str [109, 111, 118, 101]), (.str [100, 101, 108, 101, 116, 101]), (.str [115, 101, 116]), (.str [115, 116, 101, 112])])
def g_CHANGES : D := (.tup [(.str [105, 110, 115, 101, 114, 116]), (.str [100, 101, 108, 101, 116, 101]), (.str [115, 101, 116]), (.str [99, 108, 101, 97, 114]), (.str [99, 104, 97, 110, 103, 101]), (.str [109, 111, 118, 101])])
def g_MOST_VALUES : D := (.int 4)
def g_MOST_NESTED : D := (.int 3)
def g_MOST_ALL : D := (.int 24)
def g_MOST_OWN : D := (.int 12)
def g_MOST_ARGUMENTS : D := (.int 3)
def kv_WAYS : List (List Nat × D) := [([102, 105, 110, 100], (.tup [(.str [102, 105, 114, 115, 116]), (.str [108, 97, 115, 116])])), ([115, 116, 101, 112], (.tup [(.str [110, 101, 120, 116]), (.str [112, 114, 105, 111, 114])]))]
def kv_SIZES : List (List Nat × D) := [([102, 105, 110, 100], (.int 5)), ([115, 116, 101, 112], (.int 4)), ([105, 110, 115, 101, 114, 116], (.int 3)), ([100, 101, 108, 101, 116, 101], (.int 2)), ([115, 101, 116], (.int 4)), ([99, 108, 101, 97, 114], (.int 3)), ([99, 104, 97, 110, 103, 101], (.int 5)), ([109, 111, 118, 101], (.int 3)), ([105, 102], (.int 4)), ([102, 97, 105, 108], (.int 2)), ([114, 101, 116, 117, 114, 110], (.int 2))]
def kv_LOOKS : List (List Nat × D) := [([102, 105, 110, 100], (.int 1)), ([115, 116, 101, 112], (.int 1)), ([105, 110, 115, 101, 114, 116], (.int 1)), ([109, 111, 118, 101], (.int 2))]
def N__law_some_columns : List Str := ["_law_bag"]
def m__law_some_columns : MS :=
    (msRet (mBin dAdd (mTup (mCons (mC (.str [107, 101, 121])) mNil)) (mCall dTuple (mCons (mCallI F__law_new_names (mCons (mVar 0) (mCons (mCallI F__law_any (mCons (mVar 0) (mCons (mLst (mCons (mC (.int 0)) (mCons (mC (.int 1)) (mCons (mC (.int 1)) (mCons (mC (.int 2)) (mCons (mC (.int 3)) mNil)))))) mNil))) mNil))) mNil))))
def F__law_some_columns : IF := runI N__law_some_columns.length m__law_some_columns
def N__law_pool : List Str := ["_law_columns", "_law_arguments", "_law_founds_here", "_law_own", "_law_found", "_law_a", "_law_r", "_law_c"]
def me__law_pool_0 : M D :=
    (mTup (mCons (mC (.str [111, 119, 110])) (mCons (mVar 7) mNil)))
def me__law_pool_1 : M D :=
    (mTup (mCons (mC (.str [102, 105, 101, 108, 100])) (mCons (mVar 6) (mCons (mBin dIx (mVar 0) (mBin dSub (mCall dLen (mCons (mVar 0) mNil)) (mC (.int 1)))) mNil))))
def me__law_pool_2 : M D :=
    (mTup (mCons (mC (.str [110, 97, 109, 101])) (mCons (mVar 5) mNil)))
def me__law_pool_3 : M D :=
    (mTup (mCons (mC (.str [102, 105, 101, 108, 100])) (mCons (mVar 6) (mCons (mBin dIx (mVar 0) (mC (.int 0))) mNil))))
def m__law_pool : MS :=
    (msSeq (msAsg (mBin dAdd (mLc [5] (miT (mVar 1)) (mgName 5) mYes me__law_pool_2) (mLc [6] (miL (mVar 2)) (mgName 6) mYes me__law_pool_3)) (mgName 4))
    (msSeq (msAsg (mBin dAdd (mVar 4) (mLc [6] (miL (mVar 2)) (mgName 6) mYes me__law_pool_1)) (mgName 4))
    (msRet (mBin dAdd (mVar 4) (mIf (mTst (mVar 3)) (mLc [7] (miT (mVar 0)) (mgName 7) mYes me__law_pool_0) (mLst mNil))))))
def F__law_pool : PF := runP N__law_pool.length m__law_pool
def N__law_some_test : List Str := ["_law_bag", "_law_columns", "_law_arguments", "_law_founds_here", "_law_pool_here", "_law_name", "_law_c"]
def m__law_some_test : MS :=
    (msSeq (msAsg (mCallP F__law_pool (mCons (mVar 1) (mCons (mVar 2) (mCons (mVar 3) (mCons (mC (.bl false)) mNil))))) (mgName 4))
    (msSeq (msAsg (mCallI F__law_any (mCons (mVar 0) (mCons (mBin dAdd (mVar 3) (mLst (mCons (mC (.str [114])) mNil))) mNil))) (mgName 5))
    (msSeq (msAsg (mCallI F__law_any (mCons (mVar 0) (mCons (mLst (mCons (mTup (mCons (mC (.str [102, 111, 117, 110, 100])) (mCons (mVar 5) mNil))) (mCons (mCallI F__law_some_condition (mCons (mVar 0) (mCons (mVar 4) (mCons (mC (.int 1)) mNil)))) (mCons (mTup (mCons (mC (.str [110, 111, 116])) (mCons (mTup (mCons (mC (.str [102, 111, 117, 110, 100])) (mCons (mVar 5) mNil))) mNil))) mNil)))) mNil))) (mgName 6))
    (msRet (mIf (mTst (mBin dEq (mCallI F__law_pull (mCons (mVar 0) (mCons (mC (.int 4)) mNil))) (mC (.int 0)))) (mTup (mCons (mC (.str [97, 110, 100])) (mCons (mTup (mCons (mC (.str [102, 111, 117, 110, 100])) (mCons (mVar 5) mNil))) (mCons (mCallI F__law_some_condition (mCons (mVar 0) (mCons (mVar 4) (mCons (mC (.int 1)) mNil)))) mNil)))) (mVar 6))))))
def F__law_some_test : IF := runI N__law_some_test.length m__law_some_test
def N__law_founds : List Str := ["_law_statement", "_law_founds_here", "_law_new"]
def m__law_founds : MS :=
    (msSeq (msAsg (mIf (mTst (mBin dInA (mBin dIx (mVar 0) (mC (.int 0))) (mTup (mCons (mC (.str [102, 105, 110, 100])) (mCons (mC (.str [115, 116, 101, 112])) (mCons (mC (.str [105, 110, 115, 101, 114, 116])) mNil)))))) (mLst (mCons (mBin dIx (mVar 0) (mC (.int 1))) mNil)) (mLst mNil)) (mgName 2))
    (msRet (mSortT (mBin dAdd (mVar 1) (mVar 2)))))
def F__law_founds : PF := runP N__law_founds.length m__law_founds
def N__law_some_range : List Str := ["_law_bag", "_law_pool_here", "_law_k"]
def me__law_some_range_0 : M D :=
    (mCallI F__law_any (mCons (mVar 0) (mCons (mLst (mCons (mC .non) (mCons (mCallI F__law_some_value (mCons (mVar 0) (mCons (mVar 1) mNil))) mNil))) mNil)))
def m__law_some_range : MS :=
    (msRet (mCall dTuple (mCons (mLc [2] (miR1 (mCons (mC (.int 2)) mNil)) (mgName 2) mYes me__law_some_range_0) mNil)))
def F__law_some_range : IF := runI N__law_some_range.length m__law_some_range
def N__law_some_rows : List Str := ["_law_bag", "_law_s", "_law_columns", "_law_arguments", "_law_founds_here", "_law_pool_here", "_law_own", "_law_bounds", "_law_c"]
def m__law_some_rows : MS :=
    (msSeq (msAsg (mCallP F__law_pool (mCons (mVar 2) (mCons (mVar 3) (mCons (mVar 4) (mCons (mC (.bl false)) mNil))))) (mgName 5))
    (msSeq (msAsg (mCallP F__law_pool (mCons (mVar 2) (mCons (mVar 3) (mCons (mVar 4) (mCons (mC (.bl true)) mNil))))) (mgName 6))
    (msSeq (msPar 7 8 (mCons (mCallI F__law_some_range (mCons (mVar 0) (mCons (mVar 5) mNil))) (mCons (mCallI F__law_some_condition (mCons (mVar 0) (mCons (mVar 6) (mCons (mC (.int 1)) mNil)))) mNil)))
    (msSeq (msIf (mTst (mBin dEq (mVar 1) (mC (.str [102, 105, 110, 100])))) (msRet (mTup (mCons (mC (.str [102, 105, 110, 100])) (mCons (mCallI F__law_any (mCons (mVar 0) (mCons (mLst (mCons (mC (.str [114])) (mCons (mC (.str [115])) (mCons (mC (.str [116])) mNil)))) mNil))) (mCons (mCallI F__law_any (mCons (mVar 0) (mCons (mLst (mCons (mC (.str [102, 105, 114, 115, 116])) (mCons (mC (.str [108, 97, 115, 116])) mNil))) mNil))) (mCons (mVar 7) (mCons (mVar 8) mNil))))))) msNil)
    (msSeq (msIf (mAnd (mTst (mBin dEq (mVar 1) (mC (.str [99, 104, 97, 110, 103, 101])))) (mTst (mBin dGt (mCall dLen (mCons (mVar 2) mNil)) (mC (.int 1))))) (msRet (mTup (mCons (mC (.str [99, 104, 97, 110, 103, 101])) (mCons (mVar 7) (mCons (mVar 8) (mCons (mCallI F__law_any (mCons (mVar 0) (mCons (mCall dList (mCons (mSl (mVar 2) (mSmP (mC (.int 1))) mNoP) mNil)) mNil))) (mCons (mCallI F__law_some_value (mCons (mVar 0) (mCons (mVar 6) mNil))) mNil))))))) msNil)
    (msRet (mTup (mCons (mC (.str [99, 108, 101, 97, 114])) (mCons (mVar 7) (mCons (mVar 8) mNil))))))))))
def F__law_some_rows : IF := runI N__law_some_rows.length m__law_some_rows
def N__law_some_statement : List Str := ["_law_bag", "_law_word", "_law_columns", "_law_arguments", "_law_founds_here", "_law_pool_here", "_law_names", "_law_k", "_law_c"]
def me__law_some_statement_0 : M D :=
    (mCallI F__law_some_value (mCons (mVar 0) (mCons (mVar 5) mNil)))
def me__law_some_statement_1 : M D :=
    (mCallI F__law_some_value (mCons (mVar 0) (mCons (mVar 5) mNil)))
def m__law_some_statement : MS :=
    (msSeq (msAsg (mCallP F__law_pool (mCons (mVar 2) (mCons (mVar 3) (mCons (mVar 4) (mCons (mC (.bl false)) mNil))))) (mgName 5))
    (msSeq (msAsg (mBin dAdd (mVar 4) (mLst (mCons (mCallI F__law_any (mCons (mVar 0) (mCons (mLst (mCons (mC (.str [114])) (mCons (mC (.str [115])) (mCons (mC (.str [116])) mNil)))) mNil))) mNil))) (mgName 6))
    (msSeq (msIf (mTst (mBin dInA (mVar 1) (mTup (mCons (mC (.str [102, 105, 110, 100])) (mCons (mC (.str [99, 108, 101, 97, 114])) (mCons (mC (.str [99, 104, 97, 110, 103, 101])) mNil)))))) (msRet (mCallI F__law_some_rows (mCons (mVar 0) (mCons (mVar 1) (mCons (mVar 2) (mCons (mVar 3) (mCons (mVar 4) mNil))))))) msNil)
    (msSeq (msIf (mTst (mBin dEq (mVar 1) (mC (.str [115, 116, 101, 112])))) (msRet (mTup (mCons (mC (.str [115, 116, 101, 112])) (mCons (mCallI F__law_any (mCons (mVar 0) (mCons (mLst (mCons (mC (.str [114])) (mCons (mC (.str [115])) (mCons (mC (.str [116])) mNil)))) mNil))) (mCons (mCallI F__law_any (mCons (mVar 0) (mCons (mLst (mCons (mC (.str [110, 101, 120, 116])) (mCons (mC (.str [112, 114, 105, 111, 114])) mNil))) mNil))) (mCons (mCallI F__law_any (mCons (mVar 0) (mCons (mVar 6) mNil))) mNil)))))) msNil)
    (msSeq (msIf (mTst (mBin dEq (mVar 1) (mC (.str [105, 110, 115, 101, 114, 116])))) (msRet (mTup (mCons (mC (.str [105, 110, 115, 101, 114, 116])) (mCons (mCallI F__law_any (mCons (mVar 0) (mCons (mLst (mCons (mC (.str [114])) (mCons (mC (.str [115])) (mCons (mC (.str [116])) mNil)))) mNil))) (mCons (mCall dTuple (mCons (mLc [8] (miT (mVar 2)) (mgName 8) mYes me__law_some_statement_1) mNil)) mNil))))) msNil)
    (msSeq (msIf (mOr (mTst (mBin dEq (mVar 1) (mC (.str [100, 101, 108, 101, 116, 101])))) (mAnd (mTst (mBin dEq (mVar 1) (mC (.str [115, 101, 116])))) (mTst (mBin dEq (mCall dLen (mCons (mVar 2) mNil)) (mC (.int 1)))))) (msRet (mTup (mCons (mC (.str [100, 101, 108, 101, 116, 101])) (mCons (mCallI F__law_any (mCons (mVar 0) (mCons (mVar 6) mNil))) mNil)))) msNil)
    (msSeq (msIf (mTst (mBin dEq (mVar 1) (mC (.str [115, 101, 116])))) (msRet (mTup (mCons (mC (.str [115, 101, 116])) (mCons (mCallI F__law_any (mCons (mVar 0) (mCons (mVar 6) mNil))) (mCons (mCallI F__law_any (mCons (mVar 0) (mCons (mCall dList (mCons (mSl (mVar 2) (mSmP (mC (.int 1))) mNoP) mNil)) mNil))) (mCons (mCallI F__law_some_value (mCons (mVar 0) (mCons (mVar 5) mNil))) mNil)))))) msNil)
    (msSeq (msIf (mTst (mBin dEq (mVar 1) (mC (.str [109, 111, 118, 101])))) (msRet (mTup (mCons (mC (.str [109, 111, 118, 101])) (mCons (mCallI F__law_some_value (mCons (mVar 0) (mCons (mVar 5) mNil))) (mCons (mCallI F__law_any (mCons (mVar 0) (mCons (mLst (mCons (mC (.int 1)) (mCons (mC (.int 2)) (mCons (mBin dSub (mC (.int 0)) (mC (.int 1))) (mCons (mBin dSub (mC (.int 0)) (mC (.int 2))) (mCons (mC (.int 0)) (mCons (mC (.int 5)) mNil))))))) mNil))) mNil))))) msNil)
    (msSeq (msIf (mTst (mBin dEq (mVar 1) (mC (.str [102, 97, 105, 108])))) (msRet (mTup (mCons (mC (.str [102, 97, 105, 108])) (mCons (mCallI F__law_any (mCons (mVar 0) (mCons (mLst (mCons (mC (.str [108, 97, 116, 101])) (mCons (mC (.str [103, 111, 110, 101])) (mCons (mC (.str [110, 111])) mNil)))) mNil))) mNil)))) msNil)
    (msRet (mTup (mCons (mC (.str [114, 101, 116, 117, 114, 110])) (mCons (mCall dTuple (mCons (mLc [7] (miR1 (mCons (mCallI F__law_pull (mCons (mVar 0) (mCons (mC (.int 3)) mNil))) mNil)) (mgName 7) mYes me__law_some_statement_0) mNil)) mNil)))))))))))))
def F__law_some_statement : IF := runI N__law_some_statement.length m__law_some_statement
def N__law_words : List Str := []
def m__law_words : MS :=
    (msRet (mLst (mCons (mC (.str [102, 105, 110, 100])) (mCons (mC (.str [102, 105, 110, 100])) (mCons (mC (.str [102, 105, 110, 100])) (mCons (mC (.str [115, 116, 101, 112])) (mCons (mC (.str [105, 110, 115, 101, 114, 116])) (mCons (mC (.str [100, 101, 108, 101, 116, 101])) (mCons (mC (.str [115, 101, 116])) (mCons (mC (.str [99, 108, 101, 97, 114])) (mCons (mC (.str [99, 104, 97, 110, 103, 101])) (mCons (mC (.str [109, 111, 118, 101])) (mCons (mC (.str [102, 97, 105, 108])) (mCons (mC (.str [114, 101, 116, 117, 114, 110])) mNil))))))))))))))
def F__law_words : PF := runP N__law_words.length m__law_words
def N__law_some_statements : List Str := ["_law_bag", "_law_columns", "_law_arguments", "_law_founds_here", "_law_many", "_law_deep", "_law_k", "_law_rows", "_law_known", "_law_test", "_law_one", "_law_other", "_law_word"]
def mb__law_some_statements_0 (F : IF) : MS :=
    (msIf (mAnd (mTst (mBin dGt (mVar 5) (mC (.int 0)))) (mTst (mBin dEq (mCallI F__law_pull (mCons (mVar 0) (mCons (mC (.int 5)) mNil))) (mC (.int 0))))) (msSeq (msAsg (mCallI F__law_some_test (mCons (mVar 0) (mCons (mVar 1) (mCons (mVar 2) (mCons (mVar 8) mNil))))) (mgName 9))
    (msSeq (msAsg (mCallI F (mCons (mVar 0) (mCons (mVar 1) (mCons (mVar 2) (mCons (mVar 8) (mCons (mC (.int 2)) (mCons (mBin dSub (mVar 5) (mC (.int 1))) mNil))))))) (mgName 10))
    (msSeq (msAsg (mCallI F (mCons (mVar 0) (mCons (mVar 1) (mCons (mVar 2) (mCons (mVar 8) (mCons (mC (.int 2)) (mCons (mBin dSub (mVar 5) (mC (.int 1))) mNil))))))) (mgName 11))
    (msExpr (mAppend (mVar 7) (mTup (mCons (mC (.str [105, 102])) (mCons (mVar 9) (mCons (mCall dTuple (mCons (mVar 10) mNil)) (mCons (mCall dTuple (mCons (mVar 11) mNil)) mNil)))))))))) (msSeq (msAsg (mCallI F__law_any (mCons (mVar 0) (mCons (mIf (mTst (mBin dGt (mCallI F__law_pull (mCons (mVar 0) (mCons (mC (.int 4)) mNil))) (mC (.int 0)))) (mSl (mCallP F__law_words mNil) mNoP (mSmP (mC (.int 10)))) (mCallP F__law_words mNil)) mNil))) (mgName 12))
    (msSeq (msExpr (mAppend (mVar 7) (mCallI F__law_some_statement (mCons (mVar 0) (mCons (mVar 12) (mCons (mVar 1) (mCons (mVar 2) (mCons (mVar 8) mNil))))))))
    (msAsg (mCallP F__law_founds (mCons (mBin dIx (mVar 7) (mBin dSub (mCall dLen (mCons (mVar 7) mNil)) (mC (.int 1)))) (mCons (mVar 8) mNil))) (mgName 8)))))
def m__law_some_statements (F : IF) : MS :=
    (msSeq (msPar 7 8 (mCons (mLstC mNil) (mCons (mVar 3) mNil)))
    (msSeq (msFor (miR1 (mCons (mCallI F__law_pull (mCons (mVar 0) (mCons (mBin dAdd (mVar 4) (mC (.int 1))) mNil))) mNil)) (mgName 6) (mb__law_some_statements_0 F))
    (msRet (mVar 7))))
def F__law_some_statements_ : Nat → IF
  | 0 => fun _ _ => none
  | t + 1 => runI N__law_some_statements.length (m__law_some_statements (F__law_some_statements_ t))
def F__law_some_statements : IF := F__law_some_statements_ 12
def N__law_some_plan : List Str := ["_law_bag", "_law_columns", "_law_many", "_law_arguments"]
def m__law_some_plan : MS :=
    (msSeq (msAsg (mCall dTuple (mCons (mCallI F__law_new_names (mCons (mVar 0) (mCons (mCallI F__law_pull (mCons (mVar 0) (mCons (mC (.int 4)) mNil))) mNil))) mNil)) (mgName 3))
    (msRet (mTup (mCons (mVar 3) (mCons (mCallI F__law_some_statements (mCons (mVar 0) (mCons (mVar 1) (mCons (mVar 3) (mCons (mLst mNil) (mCons (mVar 2) (mCons (mIf (mTst (mBin dEq (mVar 2) (mC (.int 1)))) (mC (.int 2)) (mC (.int 1))) mNil))))))) mNil)))))
def F__law_some_plan : IF := runI N__law_some_plan.length m__law_some_plan
def N_all_parts : List Str := ["condition", "path", "found", "at", "inner"]
def mb_all_parts_0 (F : PF) : MS :=
    (msAsg (mBin dAdd (mVar 2) (mCallP F (mCons (mVar 4) (mCons (mTup (mStar (mVar 1) (mCons (mVar 3) mNil))) mNil)))) (mgName 2))
def m_all_parts (F : PF) : MS :=
    (msSeq (msAsg (mLst (mCons (mTup (mCons (mVar 1) (mCons (mVar 0) mNil))) mNil)) (mgName 2))
    (msSeq (msFor (miL (mCallP F_inner_parts (mCons (mVar 0) mNil))) (mgTup 2 (mgCons (mgName 3) (mgCons (mgName 4) mgNil))) (mb_all_parts_0 F))
    (msRet (mVar 2))))
def F_all_parts_ : Nat → PF
  | 0 => fun _ => none
  | t + 1 => runP N_all_parts.length (m_all_parts (F_all_parts_ t))
def F_all_parts : PF := F_all_parts_ 12
def N_values_in : List Str := ["condition", "value", "path", "part"]
def mt_values_in_0 : M Bool :=
    (mTst (mC1 (dCIn false kv_SIGNS) (mBin dIx (mVar 3) (mC (.int 0)))))
def m_values_in : MS :=
    (msSeq (msExpr (mCallP F_check_condition (mCons (mVar 0) mNil)))
    (msRet (mLc2 [2, 3, 1] (miL (mCallP F_all_parts (mCons (mVar 0) (mCons (mTup mNil) mNil)))) (mgTup 2 (mgCons (mgName 2) (mgCons (mgName 3) mgNil))) mt_values_in_0 (miT (mSl (mVar 3) (mSmP (mC (.int 1))) mNoP)) (mgName 1) mYes (mVar 1) [1])))
def F_values_in : PF := runP N_values_in.length m_values_in
def N_condition_values : List Str := ["condition"]
def m_condition_values : MS :=
    (msRet (mCallP F_values_in (mCons (mVar 0) mNil)))
def F_condition_values : PF := runP N_condition_values.length m_condition_values
def N_plain_values : List Str := ["statement", "word", "spot", "bounds", "bound"]
def m_plain_values : MS :=
    (msSeq (msAsg (mBin dIx (mVar 0) (mC (.int 0))) (mgName 1))
    (msSeq (msIf (mTst (mBin dInA (mVar 1) (mTup (mCons (mC (.str [105, 110, 115, 101, 114, 116])) (mCons (mC (.str [114, 101, 116, 117, 114, 110])) mNil))))) (msRet (mCall dList (mCons (mBin dIx (mVar 0) (mNeg (mC (.int 1)))) mNil))) msNil)
    (msSeq (msIf (mTst (mBin dEq (mVar 1) (mC (.str [105, 102])))) (msRet (mCallP F_condition_values (mCons (mBin dIx (mVar 0) (mC (.int 1))) mNil))) msNil)
    (msSeq (msIf (mTst (mBin dEq (mVar 1) (mC (.str [115, 101, 116])))) (msRet (mLst (mCons (mBin dIx (mVar 0) (mC (.int 3))) mNil))) msNil)
    (msSeq (msIf (mTst (mBin dEq (mVar 1) (mC (.str [109, 111, 118, 101])))) (msRet (mLst (mCons (mBin dIx (mVar 0) (mC (.int 1))) mNil))) msNil)
    (msSeq (msIf (mTst (mBin dNinA (mVar 1) (mTup (mCons (mC (.str [102, 105, 110, 100])) (mCons (mC (.str [99, 108, 101, 97, 114])) (mCons (mC (.str [99, 104, 97, 110, 103, 101])) mNil)))))) (msRet (mLst mNil)) msNil)
    (msSeq (msAsg (mIf (mTst (mBin dEq (mVar 1) (mC (.str [102, 105, 110, 100])))) (mC (.int 3)) (mC (.int 1))) (mgName 2))
    (msSeq (msAsg (mLc [4] (miT (mBin dIx (mVar 0) (mVar 2))) (mgName 4) (mTst (mBin (dIsN true) (mVar 4) (mC .non))) (mVar 4)) (mgName 3))
    (msRet (mBin dAdd (mBin dAdd (mVar 3) (mCallP F_condition_values (mCons (mBin dIx (mVar 0) (mBin dAdd (mVar 2) (mC (.int 1)))) mNil))) (mIf (mTst (mBin dEq (mVar 1) (mC (.str [99, 104, 97, 110, 103, 101])))) (mLst (mCons (mBin dIx (mVar 0) (mC (.int 4))) mNil)) (mLst mNil))))))))))))
def F_plain_values : PF := runP N_plain_values.length m_plain_values
def N_value_inside : List Str := ["value"]
def m_value_inside : MS :=
    (msRet (mIf (mTst (mBin dEq (mBin dIx (mVar 0) (mC (.int 0))) (mC (.str [112, 108, 117, 115])))) (mTup (mCons (mBin dIx (mVar 0) (mC (.int 1))) (mCons (mBin dIx (mVar 0) (mC (.int 2))) mNil))) (mTup (mCons (mVar 0) (mCons (mC (.int 0)) mNil)))))
def F_value_inside : PF := runP N_value_inside.length m_value_inside
def N_may_fail : List Str := ["statement", "value", "rows", "one"]
def me_may_fail_0 (F : PF) : M D :=
    (mBin dEq (mBin dIx (mBin dIx (mCallP F_value_inside (mCons (mVar 1) mNil)) (mC (.int 0))) (mC (.int 0))) (mC (.str [102, 105, 101, 108, 100])))
def m_may_fail (F : PF) : MS :=
    (msSeq (msIf (mTst (mBin dInA (mBin dIx (mVar 0) (mC (.int 0))) (mC g_FAILS))) (msRet (mC (.bl true))) msNil)
    (msSeq (msIf (mTst (mCall dAny (mCons (mLc [1] (miL (mCallP F_plain_values (mCons (mVar 0) mNil))) (mgName 1) mYes (me_may_fail_0 F)) mNil))) (msRet (mC (.bl true))) msNil)
    (msRet (mAndV (mBin dEq (mBin dIx (mVar 0) (mC (.int 0))) (mC (.str [105, 102]))) (mCall dAny (mCons (mLc2 [2, 3] (miT (mSl (mVar 0) (mSmP (mC (.int 2))) mNoP)) (mgName 2) mYes (miT (mVar 2)) (mgName 3) mYes (mCallP F (mCons (mVar 3) mNil)) [3]) mNil))))))
def F_may_fail_ : Nat → PF
  | 0 => fun _ => none
  | t + 1 => runP N_may_fail.length (m_may_fail (F_may_fail_ t))
def F_may_fail : PF := F_may_fail_ 12
def N_changes : List Str := ["statement", "rows", "one"]
def m_changes (F : PF) : MS :=
    (msSeq (msIf (mTst (mBin dEq (mBin dIx (mVar 0) (mC (.int 0))) (mC (.str [105, 102])))) (msRet (mCall dAny (mCons (mLc2 [1, 2] (miT (mSl (mVar 0) (mSmP (mC (.int 2))) mNoP)) (mgName 1) mYes (miT (mVar 1)) (mgName 2) mYes (mCallP F (mCons (mVar 2) mNil)) [2]) mNil))) msNil)
    (msRet (mBin dInA (mBin dIx (mVar 0) (mC (.int 0))) (mC g_CHANGES))))
def F_changes_ : Nat → PF
  | 0 => fun _ => none
  | t + 1 => runP N_changes.length (m_changes (F_changes_ t))
def F_changes : PF := F_changes_ 12
def N_fails_late : List Str := ["statement", "changed", "rows", "late", "one", "value"]
def mb_fails_late_0 (F : PF) : MS :=
    (msSeq (msIf (mTst (mCallP F (mCons (mVar 4) (mCons (mVar 3) mNil)))) (msRet (mC (.bl true))) msNil)
    (msAsg (mOrV (mVar 3) (mCallP F_changes (mCons (mVar 4) mNil))) (mgName 3)))
def mb_fails_late_1 (F : PF) : MS :=
    (msSeq (msAsg (mVar 1) (mgName 3))
    (msFor (miT (mVar 2)) (mgName 4) (mb_fails_late_0 F)))
def me_fails_late_2 (F : PF) : M D :=
    (mBin dEq (mBin dIx (mBin dIx (mCallP F_value_inside (mCons (mVar 5) mNil)) (mC (.int 0))) (mC (.int 0))) (mC (.str [102, 105, 101, 108, 100])))
def m_fails_late (F : PF) : MS :=
    (msSeq (msIf (mTst (mBin dNe (mBin dIx (mVar 0) (mC (.int 0))) (mC (.str [105, 102])))) (msRet (mAndV (mVar 1) (mCallP F_may_fail (mCons (mVar 0) mNil)))) msNil)
    (msSeq (msIf (mAnd (mTst (mVar 1)) (mTst (mCall dAny (mCons (mLc [5] (miL (mCallP F_plain_values (mCons (mVar 0) mNil))) (mgName 5) mYes (me_fails_late_2 F)) mNil)))) (msRet (mC (.bl true))) msNil)
    (msSeq (msFor (miT (mSl (mVar 0) (mSmP (mC (.int 2))) mNoP)) (mgName 2) (mb_fails_late_1 F))
    (msRet (mC (.bl false))))))
def F_fails_late_ : Nat → PF
  | 0 => fun _ => none
  | t + 1 => runP N_fails_late.length (m_fails_late (F_fails_late_ t))
def F_fails_late : PF := F_fails_late_ 12
def N_Procedure_late : List Str := ["self", "changed", "at", "statement"]
def mb_Procedure_late_0 : MS :=
    (msSeq (msIf (mTst (mCallP F_fails_late (mCons (mVar 3) (mCons (mVar 1) mNil)))) (msRet (mVar 2)) msNil)
    (msAsg (mOrV (mVar 1) (mCallP F_changes (mCons (mVar 3) mNil))) (mgName 1)))
def m_Procedure_late : MS :=
    (msSeq (msAsg (mC (.bl false)) (mgName 1))
    (msSeq (msFor (miEn (mCons (mFld ["Procedure"] "own_statements" (mVar 0)) mNil)) (mgTup 2 (mgCons (mgName 2) (mgCons (mgName 3) mgNil))) mb_Procedure_late_0)
    (msRet (mC .non))))
def F_Procedure_late : PF := runP N_Procedure_late.length m_Procedure_late
def N_is_listed : List Str := ["value"]
def m_is_listed : MS :=
    (msRet (mIsi [.lst, .tup] (mVar 0)))
def F_is_listed : PF := runP N_is_listed.length m_is_listed
def N_fits : List Str := ["value", "columns", "arguments", "own", "plain"]
def m_fits : MS :=
    (msSeq (msIf (mNot (mTst (mCallP F_is_value (mCons (mVar 0) mNil)))) (msRet (mC (.bl false))) msNil)
    (msSeq (msAsg (mBin dIx (mCallP F_value_inside (mCons (mVar 0) mNil)) (mC (.int 0))) (mgName 4))
    (msSeq (msIf (mTst (mBin dEq (mBin dIx (mVar 4) (mC (.int 0))) (mC (.str [110, 97, 109, 101])))) (msRet (mBin dInA (mBin dIx (mVar 4) (mC (.int 1))) (mVar 2))) msNil)
    (msSeq (msIf (mTst (mBin dEq (mBin dIx (mVar 4) (mC (.int 0))) (mC (.str [102, 105, 101, 108, 100])))) (msRet (mBin dInA (mBin dIx (mVar 4) (mC (.int 2))) (mVar 1))) msNil)
    (msRet (mOrV (mBin dEq (mBin dIx (mVar 4) (mC (.int 0))) (mC (.str [110, 117, 109, 98, 101, 114]))) (mAndV (mBin dEq (mBin dIx (mVar 4) (mC (.int 0))) (mC (.str [111, 119, 110]))) (mAndV (mVar 3) (mBin dInA (mBin dIx (mVar 4) (mC (.int 1))) (mVar 1))))))))))
def F_fits : PF := runP N_fits.length m_fits
def N_all_fit : List Str := ["values", "columns", "arguments", "value"]
def me_all_fit_0 : M D :=
    (mCallP (fun ds => F_fits (ds ++ [(.bl false)])) (mCons (mVar 3) (mCons (mVar 1) (mCons (mVar 2) mNil))))
def m_all_fit : MS :=
    (msRet (mCall dAll (mCons (mLc [3] (miA (mVar 0)) (mgName 3) mYes me_all_fit_0) mNil)))
def F_all_fit : PF := runP N_all_fit.length m_all_fit
def N_is_range : List Str := ["value", "columns", "arguments", "bound"]
def me_is_range_0 : M D :=
    (mOrV (mBin (dIsN false) (mVar 3) (mC .non)) (mCallP (fun ds => F_fits (ds ++ [(.bl false)])) (mCons (mVar 3) (mCons (mVar 1) (mCons (mVar 2) mNil)))))
def m_is_range : MS :=
    (msSeq (msIf (mOr (mNot (mTst (mIsi [.tup] (mVar 0)))) (mTst (mBin dNe (mCall dLen (mCons (mVar 0) mNil)) (mC (.int 2))))) (msRet (mC (.bl false))) msNil)
    (msRet (mCall dAll (mCons (mLc [3] (miT (mVar 0)) (mgName 3) mYes me_is_range_0) mNil))))
def F_is_range : PF := runP N_is_range.length m_is_range
def N_fits_condition : List Str := ["condition", "columns", "arguments", "own", "value"]
def me_fits_condition_0 : M D :=
    (mCallP F_fits (mApp2 (mCons (mVar 4) (mCons (mVar 1) (mCons (mVar 2) mNil))) (mCons (mVar 3) mNil)))
def m_fits_condition : MS :=
    (msSeq (msIf (mNot (mTst (mCallP F_is_condition (mCons (mVar 0) mNil)))) (msRet (mC (.bl false))) msNil)
    (msRet (mCall dAll (mCons (mLc [4] (miL (mCallP F_values_in (mCons (mVar 0) mNil))) (mgName 4) mYes me_fits_condition_0) mNil))))
def F_fits_condition : PF := runP N_fits_condition.length m_fits_condition
def N_has_rows : List Str := ["statement", "columns", "arguments", "spot"]
def m_has_rows : MS :=
    (msSeq (msAsg (mIf (mTst (mBin dEq (mBin dIx (mVar 0) (mC (.int 0))) (mC (.str [102, 105, 110, 100])))) (mC (.int 3)) (mC (.int 1))) (mgName 3))
    (msRet (mAndV (mCallP F_is_range (mCons (mBin dIx (mVar 0) (mVar 3)) (mCons (mVar 1) (mCons (mVar 2) mNil)))) (mCallP F_fits_condition (mApp2 (mCons (mBin dIx (mVar 0) (mBin dAdd (mVar 3) (mC (.int 1)))) (mCons (mVar 1) (mCons (mVar 2) mNil))) (mCons (mC (.bl true)) mNil))))))
def F_has_rows : PF := runP N_has_rows.length m_has_rows
def N_is_right : List Str := ["statement", "columns", "arguments", "word", "values", "many", "inner", "column", "value"]
def m_is_right : MS :=
    (msSeq (msIf (mOr (mNot (mTst (mIsi [.tup] (mVar 0)))) (mOr (mTst (mBin dLt (mCall dLen (mCons (mVar 0) mNil)) (mC (.int 2)))) (mNot (mTst (mIsi [.str] (mBin dIx (mVar 0) (mC (.int 0)))))))) (msRet (mC (.bl false))) msNil)
    (msSeq (msAsg (mBin dIx (mVar 0) (mC (.int 0))) (mgName 3))
    (msSeq (msIf (mTst (mBin dNe (mCGet kv_SIZES (mVar 3) (mC (.int 0))) (mCall dLen (mCons (mVar 0) mNil)))) (msRet (mC (.bl false))) msNil)
    (msSeq (msIf (mAnd (mTst (mBin dInA (mVar 3) (mTup (mCons (mC (.str [102, 105, 110, 100])) (mCons (mC (.str [115, 116, 101, 112])) (mCons (mC (.str [105, 110, 115, 101, 114, 116])) (mCons (mC (.str [100, 101, 108, 101, 116, 101])) (mCons (mC (.str [115, 101, 116])) (mCons (mC (.str [102, 97, 105, 108])) mNil))))))))) (mNot (mTst (mCallP F_is_name (mCons (mBin dIx (mVar 0) (mC (.int 1))) mNil))))) (msRet (mC (.bl false))) msNil)
    (msSeq (msIf (mAnd (mTst (mC1 (dCIn false kv_WAYS) (mVar 3))) (mTst (mBin dNinA (mBin dIx (mVar 0) (mC (.int 2))) (mCall dList (mCons (mC1 (dCIx kv_WAYS) (mVar 3)) mNil))))) (msRet (mC (.bl false))) msNil)
    (msSeq (msIf (mTst (mBin dInA (mVar 3) (mTup (mCons (mC (.str [105, 110, 115, 101, 114, 116])) (mCons (mC (.str [114, 101, 116, 117, 114, 110])) mNil))))) (msSeq (msAsg (mBin dIx (mVar 0) (mNeg (mC (.int 1)))) (mgName 4))
    (msSeq (msAsg (mIf (mTst (mBin dEq (mVar 3) (mC (.str [105, 110, 115, 101, 114, 116])))) (mCall dLen (mCons (mVar 1) mNil)) (mC .non)) (mgName 5))
    (msRet (mAndV (mCallP F_is_listed (mCons (mVar 4) mNil)) (mAndV (mCallP F_all_fit (mCons (mVar 4) (mCons (mVar 1) (mCons (mVar 2) mNil)))) (mIf (mTst (mBin (dIsN true) (mVar 5) (mC .non))) (mBin dEq (mCall dLen (mCons (mVar 4) mNil)) (mVar 5)) (mBin dLe (mCall dLen (mCons (mVar 4) mNil)) (mC g_MOST_VALUES)))))))) msNil)
    (msSeq (msIf (mAnd (mTst (mBin dInA (mVar 3) (mTup (mCons (mC (.str [102, 105, 110, 100])) (mCons (mC (.str [99, 108, 101, 97, 114])) (mCons (mC (.str [99, 104, 97, 110, 103, 101])) mNil)))))) (mNot (mTst (mCallP F_has_rows (mCons (mVar 0) (mCons (mVar 1) (mCons (mVar 2) mNil))))))) (msRet (mC (.bl false))) msNil)
    (msSeq (msIf (mTst (mBin dInA (mVar 3) (mTup (mCons (mC (.str [115, 101, 116])) (mCons (mC (.str [99, 104, 97, 110, 103, 101])) mNil))))) (msSeq (msAsg (mSl (mVar 0) (mSmP (mNeg (mC (.int 2)))) mNoP) (mgTup 2 (mgCons (mgName 7) (mgCons (mgName 8) mgNil))))
    (msRet (mAndV (mBin dInA (mVar 7) (mCall dList (mCons (mSl (mVar 1) (mSmP (mC (.int 1))) mNoP) mNil))) (mCallP F_fits (mApp2 (mCons (mVar 8) (mCons (mVar 1) (mCons (mVar 2) mNil))) (mCons (mBin dEq (mVar 3) (mC (.str [99, 104, 97, 110, 103, 101]))) mNil)))))) msNil)
    (msSeq (msIf (mTst (mBin dEq (mVar 3) (mC (.str [109, 111, 118, 101])))) (msRet (mAndV (mCallP (fun ds => F_fits (ds ++ [(.bl false)])) (mCons (mBin dIx (mVar 0) (mC (.int 1))) (mCons (mVar 1) (mCons (mVar 2) mNil)))) (mCallP F_is_constant (mCons (mBin dIx (mVar 0) (mC (.int 2))) mNil)))) msNil)
    (msSeq (msIf (mTst (mBin dEq (mVar 3) (mC (.str [105, 102])))) (msSeq (msAsg (mAndV (mCallP F_is_listed (mCons (mBin dIx (mVar 0) (mC (.int 2))) mNil)) (mCallP F_is_listed (mCons (mBin dIx (mVar 0) (mC (.int 3))) mNil))) (mgName 6))
    (msRet (mAndV (mVar 6) (mCallP (fun ds => F_fits_condition (ds ++ [(.bl false)])) (mCons (mBin dIx (mVar 0) (mC (.int 1))) (mCons (mVar 1) (mCons (mVar 2) mNil))))))) msNil)
    (msRet (mOrV (mBin dNe (mVar 3) (mC (.str [115, 116, 101, 112]))) (mCallP F_is_name (mCons (mBin dIx (mVar 0) (mC (.int 3))) mNil))))))))))))))
def F_is_right : PF := runP N_is_right.length m_is_right
def N_Checker_look : List Str := ["self", "statements", "path", "depth", "at", "statement", "here"]
def mb_Checker_look_0 (F : IF) : MS :=
    (msSeq (msAsg (mTup (mStar (mVar 2) (mCons (mVar 4) mNil))) (mgName 6))
    (msSeq (msFAug ["Checker"] "count" (mVar 0) (mC (.int 1)))
    (msSeq (msIf (mOr (mAnd (mTst (mBin dEq (mVar 3) (mC (.int 1)))) (mTst (mBin dGe (mVar 4) (mC g_MOST_OWN)))) (mOr (mTst (mBin dGt (mFld ["Checker"] "count" (mVar 0)) (mC g_MOST_ALL))) (mTst (mBin dGt (mVar 3) (mC g_MOST_NESTED))))) (msRaise "InvalidStatement" (some "path") [73, 110, 118, 97, 108, 105, 100, 83, 116, 97, 116, 101, 109, 101, 110, 116] (mCons (mVar 6) mNil)) msNil)
    (msSeq (msIf (mNot (mTst (mCallP F_is_right (mCons (mVar 5) (mCons (mFld ["Checker"] "columns_now" (mVar 0)) (mCons (mFld ["Checker"] "arguments_now" (mVar 0)) mNil)))))) (msRaise "InvalidStatement" (some "path") [73, 110, 118, 97, 108, 105, 100, 83, 116, 97, 116, 101, 109, 101, 110, 116] (mCons (mVar 6) mNil)) msNil)
    (msIf (mTst (mBin dEq (mBin dIx (mVar 5) (mC (.int 0))) (mC (.str [105, 102])))) (msSeq (msExpr (mMeI "Checker" "look" F (mVar 0) (mCons (mBin dIx (mVar 5) (mC (.int 2))) (mCons (mTup (mStar (mVar 6) (mCons (mC (.int 2)) mNil))) (mCons (mBin dAdd (mVar 3) (mC (.int 1))) mNil)))))
    (msExpr (mMeI "Checker" "look" F (mVar 0) (mCons (mBin dIx (mVar 5) (mC (.int 3))) (mCons (mTup (mStar (mVar 6) (mCons (mC (.int 3)) mNil))) (mCons (mBin dAdd (mVar 3) (mC (.int 1))) mNil)))))) msNil)))))
def m_Checker_look (F : IF) : MS :=
    (msFor (miEn (mCons (mVar 1) mNil)) (mgTup 2 (mgCons (mgName 4) (mgCons (mgName 5) mgNil))) (mb_Checker_look_0 F))
def F_Checker_look_ : Nat → IF
  | 0 => fun _ _ => none
  | t + 1 => runI N_Checker_look.length (m_Checker_look (F_Checker_look_ t))
def F_Checker_look : IF := F_Checker_look_ 12
def N_all_columns : List Str := ["names", "name"]
def m_all_columns : MS :=
    (msSeq (msIf (mOr (mNot (mTst (mCallP F_is_listed (mCons (mVar 0) mNil)))) (mOr (mTst (mBin dGt (mCall dLen (mCons (mVar 0) mNil)) (mC (.int 3)))) (mNot (mTst (mCall dAll (mCons (mLc [1] (miA (mVar 0)) (mgName 1) mYes (mCallP F_is_name (mCons (mVar 1) mNil))) mNil)))))) (msRaise "InvalidColumns" none [73, 110, 118, 97, 108, 105, 100, 67, 111, 108, 117, 109, 110, 115] mNil) msNil)
    (msSeq (msIf (mTst (mBin dLt (mLenT (mVar 0)) (mCall dLen (mCons (mVar 0) mNil)))) (msRaise "InvalidColumns" none [73, 110, 118, 97, 108, 105, 100, 67, 111, 108, 117, 109, 110, 115] mNil) msNil)
    (msRet (mTup (mCons (mC (.str [107, 101, 121])) (mStar (mVar 0) mNil))))))
def F_all_columns : PF := runP N_all_columns.length m_all_columns
def N_checked_arguments : List Str := ["arguments", "name"]
def m_checked_arguments : MS :=
    (msSeq (msIf (mOr (mNot (mTst (mCallP F_is_listed (mCons (mVar 0) mNil)))) (mOr (mTst (mBin dGt (mCall dLen (mCons (mVar 0) mNil)) (mC g_MOST_ARGUMENTS))) (mNot (mTst (mCall dAll (mCons (mLc [1] (miA (mVar 0)) (mgName 1) mYes (mCallP F_is_name (mCons (mVar 1) mNil))) mNil)))))) (msRaise "InvalidArguments" none [73, 110, 118, 97, 108, 105, 100, 65, 114, 103, 117, 109, 101, 110, 116, 115] mNil) msNil)
    (msSeq (msIf (mTst (mBin dLt (mLenT (mVar 0)) (mCall dLen (mCons (mVar 0) mNil)))) (msRaise "InvalidArguments" none [73, 110, 118, 97, 108, 105, 100, 65, 114, 103, 117, 109, 101, 110, 116, 115] mNil) msNil)
    (msRet (mCall dTuple (mCons (mVar 0) mNil)))))
def F_checked_arguments : PF := runP N_checked_arguments.length m_checked_arguments
def N_looks_of : List Str := ["statements", "total", "statement"]
def mb_looks_of_0 (F : PF) : MS :=
    (msIf (mTst (mBin dEq (mBin dIx (mVar 2) (mC (.int 0))) (mC (.str [105, 102])))) (msAug 1 (mCall dMax2 (mCons (mCallP F (mCons (mBin dIx (mVar 2) (mC (.int 2))) mNil)) (mCons (mCallP F (mCons (mBin dIx (mVar 2) (mC (.int 3))) mNil)) mNil)))) (msAug 1 (mCGet kv_LOOKS (mBin dIx (mVar 2) (mC (.int 0))) (mC (.int 0)))))
def m_looks_of (F : PF) : MS :=
    (msSeq (msAsg (mC (.int 0)) (mgName 1))
    (msSeq (msFor (miA (mVar 0)) (mgName 2) (mb_looks_of_0 F))
    (msRet (mVar 1))))
def F_looks_of_ : Nat → PF
  | 0 => fun _ => none
  | t + 1 => runP N_looks_of.length (m_looks_of (F_looks_of_ t))
def F_looks_of : PF := F_looks_of_ 12
def N_Checker_init : List Str := ["self", "columns", "arguments"]
def m_Checker_init : MS :=
    (msSeq (msFld ["Checker"] "columns_now" (mVar 0) (mVar 1))
    (msSeq (msFld ["Checker"] "arguments_now" (mVar 0) (mVar 2))
    (msFld ["Checker"] "count" (mVar 0) (mC (.int 0)))))
def F_Checker_init : IF := runI N_Checker_init.length m_Checker_init
def N_frozen : List Str := ["statement", "inner", "rows", "one"]
def me_frozen_0 (F : PF) : M D :=
    (mCall dTuple (mCons (mLc [3] (miA (mVar 2)) (mgName 3) mYes (mCallP F (mCons (mVar 3) mNil))) mNil))
def m_frozen (F : PF) : MS :=
    (msSeq (msIf (mTst (mBin dEq (mBin dIx (mVar 0) (mC (.int 0))) (mC (.str [105, 102])))) (msSeq (msAsg (mLc [2] (miT (mSl (mVar 0) (mSmP (mC (.int 2))) mNoP)) (mgName 2) mYes (me_frozen_0 F)) (mgName 1))
    (msRet (mTup (mCons (mC (.str [105, 102])) (mCons (mBin dIx (mVar 0) (mC (.int 1))) (mStar (mVar 1) mNil)))))) msNil)
    (msSeq (msIf (mTst (mBin dInA (mBin dIx (mVar 0) (mC (.int 0))) (mTup (mCons (mC (.str [105, 110, 115, 101, 114, 116])) (mCons (mC (.str [114, 101, 116, 117, 114, 110])) mNil))))) (msRet (mTup (mStar (mSl (mVar 0) mNoP (mSmP (mNeg (mC (.int 1))))) (mCons (mCall dTuple (mCons (mBin dIx (mVar 0) (mNeg (mC (.int 1)))) mNil)) mNil)))) msNil)
    (msRet (mVar 0))))
def F_frozen_ : Nat → PF
  | 0 => fun _ => none
  | t + 1 => runP N_frozen.length (m_frozen (F_frozen_ t))
def F_frozen : PF := F_frozen_ 12
def N_Procedure_init : List Str := ["self", "columns", "arguments", "statements", "statement"]
def m_Procedure_init : MS :=
    (msSeq (msFld ["Procedure"] "all_names" (mVar 0) (mCallP F_all_columns (mCons (mVar 1) mNil)))
    (msSeq (msFld ["Procedure"] "own_arguments" (mVar 0) (mCallP F_checked_arguments (mCons (mVar 2) mNil)))
    (msSeq (msIf (mNot (mTst (mCallP F_is_listed (mCons (mVar 3) mNil)))) (msRaise "InvalidStatement" (some "path") [73, 110, 118, 97, 108, 105, 100, 83, 116, 97, 116, 101, 109, 101, 110, 116] (mCons (mTup mNil) mNil)) msNil)
    (msSeq (msExpr (mMeI "Checker" "look" F_Checker_look (mMk "Checker" [] F_Checker_init (mCons (mFld ["Procedure"] "all_names" (mVar 0)) (mCons (mFld ["Procedure"] "own_arguments" (mVar 0)) mNil))) (mCons (mVar 3) (mCons (mTup mNil) (mCons (mC (.int 1)) mNil)))))
    (msSeq (msFld ["Procedure"] "own_statements" (mVar 0) (mLc [4] (miA (mVar 3)) (mgName 4) mYes (mCallP F_frozen (mCons (mVar 4) mNil))))
    (msFld ["Procedure"] "own_looks" (mVar 0) (mCallP F_looks_of (mCons (mFld ["Procedure"] "own_statements" (mVar 0)) mNil))))))))
def F_Procedure_init : IF := runI N_Procedure_init.length m_Procedure_init
def N__law_ready : List Str := ["_law_columns", "_law_plan"]
def m__law_ready : MS :=
    (msRet (mMkP "Procedure" [] F_Procedure_init (mCons (mSl (mVar 0) (mSmP (mC (.int 1))) mNoP) (mCons (mBin dIx (mVar 1) (mC (.int 0))) (mCons (mBin dIx (mVar 1) (mC (.int 1))) mNil)))))
def F__law_ready : PF := runP N__law_ready.length m__law_ready
def N__law_values : List Str := ["_law_c"]
def m__law_values (F : PF) : MS :=
    (msSeq (msIf (mTst (mBin dInA (mBin dIx (mVar 0) (mC (.int 0))) (mTup (mCons (mC (.str [97, 116, 109, 111, 115, 116])) (mCons (mC (.str [98, 101, 108, 111, 119])) (mCons (mC (.str [115, 97, 109, 101])) mNil)))))) (msRet (mLst (mCons (mBin dIx (mVar 0) (mC (.int 1))) (mCons (mBin dIx (mVar 0) (mC (.int 2))) mNil)))) msNil)
    (msSeq (msIf (mTst (mBin dInA (mBin dIx (mVar 0) (mC (.int 0))) (mTup (mCons (mC (.str [116, 114, 117, 101])) (mCons (mC (.str [102, 111, 117, 110, 100])) mNil))))) (msRet (mLst mNil)) msNil)
    (msRet (mBin dAdd (mCallP F (mCons (mBin dIx (mVar 0) (mC (.int 1))) mNil)) (mIf (mTst (mBin dEq (mCall dLen (mCons (mVar 0) mNil)) (mC (.int 3)))) (mCallP F (mCons (mBin dIx (mVar 0) (mC (.int 2))) mNil)) (mLst mNil))))))
def F__law_values_ : Nat → PF
  | 0 => fun _ => none
  | t + 1 => runP N__law_values.length (m__law_values (F__law_values_ t))
def F__law_values : PF := F__law_values_ 12
def N__law_read_values : List Str := ["_law_s", "_law_found", "_law_at", "_law_bound"]
def m__law_read_values : MS :=
    (msSeq (msIf (mTst (mBin dInA (mBin dIx (mVar 0) (mC (.int 0))) (mTup (mCons (mC (.str [105, 110, 115, 101, 114, 116])) (mCons (mC (.str [114, 101, 116, 117, 114, 110])) mNil))))) (msRet (mCall dList (mCons (mBin dIx (mVar 0) (mBin dSub (mCall dLen (mCons (mVar 0) mNil)) (mC (.int 1)))) mNil))) msNil)
    (msSeq (msIf (mTst (mBin dInA (mBin dIx (mVar 0) (mC (.int 0))) (mTup (mCons (mC (.str [109, 111, 118, 101])) (mCons (mC (.str [105, 102])) mNil))))) (msRet (mIf (mTst (mBin dEq (mBin dIx (mVar 0) (mC (.int 0))) (mC (.str [109, 111, 118, 101])))) (mLst (mCons (mBin dIx (mVar 0) (mC (.int 1))) mNil)) (mCallP F__law_values (mCons (mBin dIx (mVar 0) (mC (.int 1))) mNil)))) msNil)
    (msSeq (msPar 1 2 (mCons (mLst mNil) (mCons (mDGet2 (mDisp [((mC (.str [102, 105, 110, 100])), (mC (.int 3))), ((mC (.str [99, 108, 101, 97, 114])), (mC (.int 1))), ((mC (.str [99, 104, 97, 110, 103, 101])), (mC (.int 1)))]) (mBin dIx (mVar 0) (mC (.int 0))) (mC (.int 0))) mNil)))
    (msSeq (msIf (mTst (mBin dGt (mVar 2) (mC (.int 0)))) (msAsg (mBin dAdd (mLc [3] (miT (mBin dIx (mVar 0) (mVar 2))) (mgName 3) (mTst (mBin (dIsN true) (mVar 3) (mC .non))) (mVar 3)) (mCallP F__law_values (mCons (mBin dIx (mVar 0) (mBin dAdd (mVar 2) (mC (.int 1)))) mNil))) (mgName 1)) msNil)
    (msRet (mBin dAdd (mVar 1) (mIf (mTst (mBin dInA (mBin dIx (mVar 0) (mC (.int 0))) (mTup (mCons (mC (.str [115, 101, 116])) (mCons (mC (.str [99, 104, 97, 110, 103, 101])) mNil))))) (mLst (mCons (mBin dIx (mVar 0) (mBin dSub (mCall dLen (mCons (mVar 0) mNil)) (mC (.int 1)))) mNil)) (mLst mNil))))))))
def F__law_read_values : PF := runP N__law_read_values.length m__law_read_values
def N__law_inside : List Str := ["_law_value"]
def m__law_inside : MS :=
    (msRet (mIf (mTst (mBin dEq (mBin dIx (mVar 0) (mC (.int 0))) (mC (.str [112, 108, 117, 115])))) (mBin dIx (mVar 0) (mC (.int 1))) (mVar 0)))
def F__law_inside : PF := runP N__law_inside.length m__law_inside
def N__law_has_field : List Str := ["_law_s", "_law_value"]
def me__law_has_field_0 : M D :=
    (mBin dEq (mBin dIx (mCallP F__law_inside (mCons (mVar 1) mNil)) (mC (.int 0))) (mC (.str [102, 105, 101, 108, 100])))
def m__law_has_field : MS :=
    (msRet (mCall dAny (mCons (mLc [1] (miL (mCallP F__law_read_values (mCons (mVar 0) mNil))) (mgName 1) mYes me__law_has_field_0) mNil)))
def F__law_has_field : PF := runP N__law_has_field.length m__law_has_field
def N__law_changes : List Str := ["_law_s", "_law_one"]
def m__law_changes (F : PF) : MS :=
    (msSeq (msIf (mTst (mBin dEq (mBin dIx (mVar 0) (mC (.int 0))) (mC (.str [105, 102])))) (msRet (mCall dAny (mCons (mLc [1] (miT (mBin dAdd (mBin dIx (mVar 0) (mC (.int 2))) (mBin dIx (mVar 0) (mC (.int 3))))) (mgName 1) mYes (mCallP F (mCons (mVar 1) mNil))) mNil))) msNil)
    (msRet (mBin dInA (mBin dIx (mVar 0) (mC (.int 0))) (mTup (mCons (mC (.str [105, 110, 115, 101, 114, 116])) (mCons (mC (.str [100, 101, 108, 101, 116, 101])) (mCons (mC (.str [115, 101, 116])) (mCons (mC (.str [99, 108, 101, 97, 114])) (mCons (mC (.str [99, 104, 97, 110, 103, 101])) (mCons (mC (.str [109, 111, 118, 101])) mNil))))))))))
def F__law_changes_ : Nat → PF
  | 0 => fun _ => none
  | t + 1 => runP N__law_changes.length (m__law_changes (F__law_changes_ t))
def F__law_changes : PF := F__law_changes_ 12
def N__law_late : List Str := ["_law_s", "_law_turned", "_law_rows", "_law_now", "_law_one"]
def mb__law_late_0 (F : PF) : MS :=
    (msSeq (msIf (mTst (mCallP F (mCons (mVar 4) (mCons (mVar 3) mNil)))) (msRet (mC (.bl true))) msNil)
    (msAsg (mOrV (mVar 3) (mCallP F__law_changes (mCons (mVar 4) mNil))) (mgName 3)))
def mb__law_late_1 (F : PF) : MS :=
    (msSeq (msAsg (mVar 1) (mgName 3))
    (msFor (miT (mVar 2)) (mgName 4) (mb__law_late_0 F)))
def m__law_late (F : PF) : MS :=
    (msSeq (msIf (mTst (mBin dNe (mBin dIx (mVar 0) (mC (.int 0))) (mC (.str [105, 102])))) (msRet (mAndV (mVar 1) (mOrV (mBin dInA (mBin dIx (mVar 0) (mC (.int 0))) (mTup (mCons (mC (.str [102, 97, 105, 108])) (mCons (mC (.str [105, 110, 115, 101, 114, 116])) (mCons (mC (.str [109, 111, 118, 101])) (mCons (mC (.str [100, 101, 108, 101, 116, 101])) (mCons (mC (.str [115, 101, 116])) (mCons (mC (.str [115, 116, 101, 112])) mNil)))))))) (mCallP F__law_has_field (mCons (mVar 0) mNil))))) msNil)
    (msSeq (msIf (mAnd (mTst (mVar 1)) (mTst (mCallP F__law_has_field (mCons (mVar 0) mNil)))) (msRet (mC (.bl true))) msNil)
    (msSeq (msFor (miT (mSl (mVar 0) (mSmP (mC (.int 2))) mNoP)) (mgName 2) (mb__law_late_1 F))
    (msRet (mC (.bl false))))))
def F__law_late_ : Nat → PF
  | 0 => fun _ => none
  | t + 1 => runP N__law_late.length (m__law_late (F__law_late_ t))
def F__law_late : PF := F__law_late_ 12
def N_Procedure_looks : List Str := ["self"]
def m_Procedure_looks : MS :=
    (msRet (mFld ["Procedure"] "own_looks" (mVar 0)))
def F_Procedure_looks : PF := runP N_Procedure_looks.length m_Procedure_looks
def N_Procedure_fails_early : List Str := ["self"]
def m_Procedure_fails_early : MS :=
    (msRet (mBin (dIsN false) (mMeP "Procedure" "late" F_Procedure_late (mVar 0) mNil) (mC .non)))
def F_Procedure_fails_early : PF := runP N_Procedure_fails_early.length m_Procedure_fails_early
def N__law_looks : List Str := ["_law_statements", "_law_total", "_law_s"]
def mb__law_looks_0 (F : PF) : MS :=
    (msSeq (msIf (mTst (mBin dEq (mBin dIx (mVar 2) (mC (.int 0))) (mC (.str [105, 102])))) (msAsg (mBin dAdd (mVar 1) (mCall dMax2 (mCons (mCallP F (mCons (mBin dIx (mVar 2) (mC (.int 2))) mNil)) (mCons (mCallP F (mCons (mBin dIx (mVar 2) (mC (.int 3))) mNil)) mNil)))) (mgName 1)) msNil)
    (msAsg (mBin dAdd (mVar 1) (mDGet2 (mDisp [((mC (.str [102, 105, 110, 100])), (mC (.int 1))), ((mC (.str [115, 116, 101, 112])), (mC (.int 1))), ((mC (.str [105, 110, 115, 101, 114, 116])), (mC (.int 1))), ((mC (.str [109, 111, 118, 101])), (mC (.int 2)))]) (mBin dIx (mVar 2) (mC (.int 0))) (mC (.int 0)))) (mgName 1)))
def m__law_looks (F : PF) : MS :=
    (msSeq (msAsg (mC (.int 0)) (mgName 1))
    (msSeq (msFor (miA (mVar 0)) (mgName 2) (mb__law_looks_0 F))
    (msRet (mVar 1))))
def F__law_looks_ : Nat → PF
  | 0 => fun _ => none
  | t + 1 => runP N__law_looks.length (m__law_looks (F__law_looks_ t))
def F__law_looks : PF := F__law_looks_ 12
def N_law : List Str := ["_law_script", "_law_bag", "_law_turn", "_law_some", "_law_columns", "_law_plan", "_law_change", "_law_fail", "_law_procedure", "_law_due", "_law_turned", "_law_at", "_law_s", "_law_rows"]
def me_law_0 : M D :=
    (mMeP "Procedure" "late" F_Procedure_late (mMkP "Procedure" [] F_Procedure_init (mCons (mLst mNil) (mCons (mLst mNil) (mCons (mVar 13) mNil)))) mNil)
def mb_law_1 : MS :=
    (msSeq (msIf (mAnd (mTst (mBin (dIsN false) (mVar 9) (mC .non))) (mTst (mCallP F__law_late (mCons (mVar 12) (mCons (mVar 10) mNil))))) (msAsg (mVar 11) (mgName 9)) msNil)
    (msAsg (mOrV (mVar 10) (mCallP F__law_changes (mCons (mVar 12) mNil))) (mgName 10)))
def mb_law_2 : MS :=
    (msSeq (msAsg (mCallI F__law_some_columns (mCons (mVar 1) mNil)) (mgName 4))
    (msSeq (msAsg (mCallI F__law_some_plan (mCons (mVar 1) (mCons (mVar 4) (mCons (mCallI F__law_any (mCons (mVar 1) (mCons (mLst (mCons (mC (.int 4)) (mCons (mC (.int 3)) (mCons (mC (.int 1)) mNil)))) mNil))) mNil)))) (mgName 5))
    (msSeq (msPar3 8 9 10 (mCons (mCallP F__law_ready (mCons (mVar 4) (mCons (mVar 5) mNil))) (mCons (mC .non) (mCons (mC (.bl false)) mNil))))
    (msSeq (msFor (miEn (mCons (mBin dIx (mVar 5) (mC (.int 1))) mNil)) (mgTup 2 (mgCons (mgName 11) (mgCons (mgName 12) mgNil))) mb_law_1)
    (msIf (mNot (mTst (mCallP F__law_like (mCons (mLst (mCons (mPrp "Procedure" F_Procedure_looks (mVar 8)) (mCons (mMeP "Procedure" "late" F_Procedure_late (mVar 8) mNil) (mCons (mPrp "Procedure" F_Procedure_fails_early (mVar 8)) mNil)))) (mCons (mLst (mCons (mCallP F__law_looks (mCons (mBin dIx (mVar 5) (mC (.int 1))) mNil)) (mCons (mVar 9) (mCons (mBin (dIsN false) (mVar 9) (mC .non)) mNil)))) mNil))))) (msRet (mC (.bl false))) msNil)))))
def m_law : MS :=
    (msSeq (msAsg (mCallI F__law_draws (mCons (mVar 0) mNil)) (mgName 1))
    (msSeq (msFor (miR1 (mCons (mC (.int 8)) mNil)) (mgName 2) mb_law_2)
    (msSeq (msAsg (mTup (mCons (mTup (mCons (mC (.str [99, 108, 101, 97, 114])) (mCons (mTup (mCons (mC .non) (mCons (mC .non) mNil))) (mCons (mTup (mCons (mC (.str [116, 114, 117, 101])) mNil)) mNil)))) (mCons (mTup (mCons (mC (.str [102, 97, 105, 108])) (mCons (mC (.str [97])) mNil))) mNil))) (mgTup 2 (mgCons (mgName 6) (mgCons (mgName 7) mgNil))))
    (msSeq (msAsg (mLst (mCons (mLst (mCons (mVar 6) (mCons (mVar 7) mNil))) (mCons (mLst (mCons (mVar 7) (mCons (mVar 6) mNil))) (mCons (mLst (mCons (mTup (mCons (mC (.str [105, 102])) (mCons (mTup (mCons (mC (.str [116, 114, 117, 101])) mNil)) (mCons (mTup (mCons (mVar 6) mNil)) (mCons (mTup (mCons (mVar 7) mNil)) mNil))))) (mCons (mVar 6) mNil))) (mCons (mLst (mCons (mTup (mCons (mC (.str [105, 102])) (mCons (mTup (mCons (mC (.str [116, 114, 117, 101])) mNil)) (mCons (mTup (mCons (mVar 6) (mCons (mVar 7) mNil))) (mCons (mTup mNil) mNil))))) mNil)) (mCons (mLst (mCons (mTup (mCons (mC (.str [105, 102])) (mCons (mTup (mCons (mC (.str [116, 114, 117, 101])) mNil)) (mCons (mTup (mCons (mVar 6) mNil)) (mCons (mTup mNil) mNil))))) (mCons (mTup (mCons (mC (.str [115, 116, 101, 112])) (mCons (mC (.str [114])) (mCons (mC (.str [110, 101, 120, 116])) (mCons (mC (.str [115])) mNil))))) mNil))) (mCons (mLst (mCons (mVar 6) (mCons (mTup (mCons (mC (.str [105, 102])) (mCons (mTup (mCons (mC (.str [115, 97, 109, 101])) (mCons (mTup (mCons (mC (.str [102, 105, 101, 108, 100])) (mCons (mC (.str [114])) (mCons (mC (.str [107, 101, 121])) mNil)))) (mCons (mTup (mCons (mC (.str [110, 117, 109, 98, 101, 114])) (mCons (mC (.int 0)) mNil))) mNil)))) (mCons (mTup mNil) (mCons (mTup mNil) mNil))))) mNil))) (mCons (mLst (mCons (mVar 6) (mCons (mTup (mCons (mC (.str [114, 101, 116, 117, 114, 110])) (mCons (mTup (mCons (mTup (mCons (mC (.str [110, 117, 109, 98, 101, 114])) (mCons (mC (.int 1)) mNil))) mNil)) mNil))) (mCons (mVar 6) mNil)))) mNil)))))))) (mgName 3))
    (msRet (mCallP F__law_like (mCons (mLc [13] (miL (mVar 3)) (mgName 13) mYes me_law_0) (mCons (mLst (mCons (mC (.int 1)) (mCons (mC .non) (mCons (mC .non) (mCons (mC (.int 0)) (mCons (mC (.int 1)) (mCons (mC (.int 1)) (mCons (mC .non) mNil)))))))) mNil))))))))
def F_law : IF := runI N_law.length m_law
end PQ
local macro_rules
  | `(tactic| simp! only [$xs,*] $[$l]?) => `(tactic| simp only [↓PD.seq_ap, ↓PD.var_ap, ↓PD.c_ap, ↓PD.bin_ap, ↓PD.tst_ap, ↓PD.not_ap, ↓PD.and_ap, ↓PD.or_ap, ↓PD.if_ap, ↓PD.andv_ap, ↓PD.orv_ap, ↓PD.notv_ap, ↓PD.nil_ap, ↓PD.cons_ap, ↓PD.tup_ap, ↓PD.lst_ap, ↓PD.call_ap, ↓PD.callP_ap, ↓PD.callI_ap, ↓PD.perm_ap, ↓PD.nop_ap, ↓PD.smp_ap, ↓PD.sl_ap, ↓PD.chain_ap, ↓PD.isi_ap, ↓PD.lc_ap, ↓PD.lstC_ap, ↓PD.mts_ap, ↓PD.yes_ap, ↓PD.il_ap, ↓PD.it_ap, ↓PD.is_ap, ↓PD.ir1_ap, ↓PD.iz_ap, ↓PD.snil_ap, ↓PD.ret_ap, ↓PD.sif_ap, ↓PD.sexpr_ap, ↓PD.bk_ap, ↓PD.ct_ap, ↓PD.asg_ap, ↓PD.for_ap, ↓PD.par_ap, ↓PD.gname_ap, ↓PD.gnil_ap, ↓PD.gcons_ap, ↓PD.gtup_ap, ↓PD.gsub_ap, PD.bR_ok, PD.bR_ex, PD.rt_some, PD.sq_nx, PD.sq_rt, PD.sq_bk, PD.sq_ct, PD.sq_ex, PD.bS_ok, PD.bS_ex, PD.binK1_ap, PD.binK2_ap, PD.tstK_b, PD.notK_ap, PD.andK_t, PD.andK_f, PD.orK_t, PD.orK_f, PD.ifK_t, PD.ifK_f, PD.andV_t, PD.andV_f, PD.orV_t, PD.orV_f, PD.notV_c, PD.consK1_ap, PD.consK2_ap, PD.tupK_ok, PD.lstK_ok, PD.callK_ap, PD.permK_ap, PD.smP_int, PD.slK1_ap, PD.slK2_ap, PD.slK3_ap, PD.sl_lst, PD.sl_scr, PD.sl_tup, PD.chK1_ap, PD.chK2_ap, PD.chK3_t, PD.chK3_f, PD.chK4_ap, PD.isiK_int, PD.isiK_str, PD.isiK_bl, PD.isiK_non, PD.isiK_tup, PD.isiK_lst, PD.mtsK_str, PD.mtsK2_ap, PD.ilK_lst, PD.ilK_scr, PD.itK_tup, PD.isK_str, PD.izK_l, PD.izK_t, PD.retK_ap, PD.sifK_t, PD.sifK_f, PD.sexprK_ap, PD.asgK_ap, PD.bG_ok, PD.forK_ap, PD.parK_ok, PD.gK_ok, PD.subK1_ok, PD.subK2_ok, PD.add_int, PD.sub_int, PD.mod_int, PD.lt_int, PD.le_int, PD.gt_int, PD.ge_int, PD.eq_int, PD.eq_str, PD.eq_bl, PD.eq_is, PD.eq_si, PD.eq_bs, PD.eq_sb, PD.eq_nn, PD.ne_int, PD.ne_str, PD.ne_bl, PD.isn_ap, PD.isN_int, PD.isN_str, PD.isN_bl, PD.isN_tup, PD.isN_lst, PD.isN_non, PD.ix_lst, PD.ix_tup, PD.ix_scr, PD.len_lst, PD.len_tup, PD.int_int, PD.list_lst, PD.list_tup, PD.tuple_lst, PD.tuple_tup, PD.asB_bl, PD.getD0, PD.getDS, PD.set0, PD.setS, PD.at0, PD.atS, PD.map_some', PD.bind_some', List.length_cons, List.length_nil, List.any_cons, List.any_nil, ↓PD.fld_ap, ↓PD.mei_ap, ↓PD.faug_ap, ↓PD.c1_ap, ↓PD.ir2_ap, ↓PD.sfld_ap, PD.fldK_ap, PD.meiK2_ap, PD.c1K_ap, PD.sfldK_ap, PD.sfldK2_ap, ↓PD.ia_ap, ↓PD.ien_ap, ↓PD.sort_ap, ↓PD.lenT_ap, ↓PD.cget_ap, ↓PD.append_ap, ↓PD.app2_ap, ↓PD.par3_ap, ↓PD.lc2_ap, ↓PD.prp_ap, ↓PD.mep_ap, ↓PD.mkp_ap, ↓PD.neg_ap, PD.iaK_lst, PD.iaK_tup, PD.ienK_lst, PD.ienK_tup, PD.cgetK_str, PD.cgetK2_ap, PD.apK2_ap, PD.app2K_ap, PD.app2K2_ap, PD.par3K_ok, PD.max2_ap, PD.augK_int, PD.negK_int, decide_true, decide_false, and_self, Nat.reduceLeDiff, Nat.reduceAdd, if_true, Int.reduceLT, Int.reduceNeg, Int.reducePow, Int.reduceToNat, Int.reduceLE, Nat.reduceLT, Int.reduceAdd, Int.reduceSub, Bool.not_true, Bool.not_false, Int.reduceEq, bne_self_eq_false, Bool.false_bne, Bool.true_bne, Int.reduceBNe, $xs,*] $[$l]?)
namespace PQ
open PySem PD PV
def pn : Vl → Pl
  | .pl p => p
  | .plus p _ => p
def pw : Pl → List Nat
  | .num _ => sNumber
  | .name _ => sName
  | .field _ _ => sField
  | .own _ => sOwn
  | .next _ => sNext
def vals : Cd → List Vl
  | .cmp _ a b => [a, b]
  | .nt c => vals c
  | .bin _ c d => vals c ++ vals d
  | _ => []
end PQ
namespace PQ
open PySem PD PV
inductive Bs where
  | find (r : List Nat) (l : Bool) (a b : Option Vl) (c : Cd)
  | step (r : List Nat) (p : Bool) (s : List Nat)
  | insert (r : List Nat) (vs : List Vl)
  | delete (r : List Nat)
  | set (r y : List Nat) (v : Vl)
  | clear (a b : Option Vl) (c : Cd)
  | change (a b : Option Vl) (c : Cd) (y : List Nat) (v : Vl)
  | move (v : Vl) (n : Int)
  | fail (w : List Nat)
  | ret (vs : List Vl)
def od : Option Vl → D
  | none => .non
  | some v => v.d
def ov (a b : Option Vl) : List Vl := a.toList ++ b.toList
def lw (l : Bool) : List Nat := if l = true then [108, 97, 115, 116] else [102, 105, 114, 115, 116]
def nw (p : Bool) : List Nat := if p = true then [112, 114, 105, 111, 114] else [110, 101, 120, 116]
def Bs.d : Bs → D
  | .find r l a b c => .tup [.str [102, 105, 110, 100], .str r, .str (lw l), .tup [od a, od b], c.d]
  | .step r p s => .tup [.str [115, 116, 101, 112], .str r, .str (nw p), .str s]
  | .insert r vs => .tup [.str [105, 110, 115, 101, 114, 116], .str r, .tup (vs.map Vl.d)]
  | .delete r => .tup [.str [100, 101, 108, 101, 116, 101], .str r]
  | .set r y v => .tup [.str [115, 101, 116], .str r, .str y, v.d]
  | .clear a b c => .tup [.str [99, 108, 101, 97, 114], .tup [od a, od b], c.d]
  | .change a b c y v => .tup [.str [99, 104, 97, 110, 103, 101], .tup [od a, od b], c.d, .str y, v.d]
  | .move v n => .tup [.str [109, 111, 118, 101], v.d, .int n]
  | .fail w => .tup [.str [102, 97, 105, 108], .str w]
  | .ret vs => .tup [.str [114, 101, 116, 117, 114, 110], .tup (vs.map Vl.d)]
def Bs.fl : Bs → Bool
  | .fail _ => true
  | .insert _ _ => true
  | .move _ _ => true
  | .delete _ => true
  | .set _ _ _ => true
  | .step _ _ _ => true
  | _ => false
def Bs.lk : Bs → Int
  | .find _ _ _ _ _ => 1
  | .step _ _ _ => 1
  | .insert _ _ => 1
  | .move _ _ => 2
  | _ => 0
/-- what the conditions, values of it are -/
def Bs.okc : Bs → Bool
  | .find _ _ _ _ c => c.ok && decide (c.dep ≤ 6)
  | .clear _ _ c => c.ok && decide (c.dep ≤ 6)
  | .change _ _ c _ _ => c.ok && decide (c.dep ≤ 6)
  | .insert _ vs => decide (vs.length ≤ 100)
  | .ret vs => decide (vs.length ≤ 100)
  | _ => true
inductive St where
  | b (s : Bs) | ifs (c : Cd) (xs ys : List St)
mutual
def St.d : St → D
  | .b s => s.d
  | .ifs c xs ys => .tup [.str [105, 102], c.d, .tup (St.ds xs), .tup (St.ds ys)]
def St.ds : List St → List D
  | [] => []
  | x :: xs => x.d :: St.ds xs
end
end PQ
local macro_rules
  | `(tactic| dsimp? only [$xs,*] $[$l]?) => `(tactic| simp only [↓PD.seq_ap, ↓PD.var_ap, ↓PD.c_ap, ↓PD.bin_ap, ↓PD.tst_ap, ↓PD.not_ap, ↓PD.and_ap, ↓PD.or_ap, ↓PD.if_ap, ↓PD.andv_ap, ↓PD.orv_ap, ↓PD.notv_ap, ↓PD.nil_ap, ↓PD.cons_ap, ↓PD.tup_ap, ↓PD.lst_ap, ↓PD.call_ap, ↓PD.callP_ap, ↓PD.callI_ap, ↓PD.perm_ap, ↓PD.nop_ap, ↓PD.smp_ap, ↓PD.sl_ap, ↓PD.chain_ap, ↓PD.isi_ap, ↓PD.lc_ap, ↓PD.lstC_ap, ↓PD.mts_ap, ↓PD.yes_ap, ↓PD.il_ap, ↓PD.it_ap, ↓PD.is_ap, ↓PD.ir1_ap, ↓PD.iz_ap, ↓PD.snil_ap, ↓PD.ret_ap, ↓PD.sif_ap, ↓PD.sexpr_ap, ↓PD.bk_ap, ↓PD.ct_ap, ↓PD.asg_ap, ↓PD.for_ap, ↓PD.par_ap, ↓PD.gname_ap, ↓PD.gnil_ap, ↓PD.gcons_ap, ↓PD.gtup_ap, ↓PD.gsub_ap, PD.bR_ok, PD.bR_ex, PD.rt_some, PD.sq_nx, PD.sq_rt, PD.sq_bk, PD.sq_ct, PD.sq_ex, PD.bS_ok, PD.bS_ex, PD.binK1_ap, PD.binK2_ap, PD.tstK_b, PD.notK_ap, PD.andK_t, PD.andK_f, PD.orK_t, PD.orK_f, PD.ifK_t, PD.ifK_f, PD.andV_t, PD.andV_f, PD.orV_t, PD.orV_f, PD.notV_c, PD.consK1_ap, PD.consK2_ap, PD.tupK_ok, PD.lstK_ok, PD.callK_ap, PD.permK_ap, PD.smP_int, PD.slK1_ap, PD.slK2_ap, PD.slK3_ap, PD.sl_lst, PD.sl_scr, PD.sl_tup, PD.chK1_ap, PD.chK2_ap, PD.chK3_t, PD.chK3_f, PD.chK4_ap, PD.isiK_int, PD.isiK_str, PD.isiK_bl, PD.isiK_non, PD.isiK_tup, PD.isiK_lst, PD.mtsK_str, PD.mtsK2_ap, PD.ilK_lst, PD.ilK_scr, PD.itK_tup, PD.isK_str, PD.izK_l, PD.izK_t, PD.retK_ap, PD.sifK_t, PD.sifK_f, PD.sexprK_ap, PD.asgK_ap, PD.bG_ok, PD.forK_ap, PD.parK_ok, PD.gK_ok, PD.subK1_ok, PD.subK2_ok, PD.add_int, PD.sub_int, PD.mod_int, PD.lt_int, PD.le_int, PD.gt_int, PD.ge_int, PD.eq_int, PD.eq_str, PD.eq_bl, PD.eq_is, PD.eq_si, PD.eq_bs, PD.eq_sb, PD.eq_nn, PD.ne_int, PD.ne_str, PD.ne_bl, PD.isn_ap, PD.isN_int, PD.isN_str, PD.isN_bl, PD.isN_tup, PD.isN_lst, PD.isN_non, PD.ix_lst, PD.ix_tup, PD.ix_scr, PD.len_lst, PD.len_tup, PD.int_int, PD.list_lst, PD.list_tup, PD.tuple_lst, PD.tuple_tup, PD.asB_bl, PD.getD0, PD.getDS, PD.set0, PD.setS, PD.at0, PD.atS, PD.map_some', PD.bind_some', List.length_cons, List.length_nil, List.any_cons, List.any_nil, ↓PD.fld_ap, ↓PD.mei_ap, ↓PD.faug_ap, ↓PD.c1_ap, ↓PD.ir2_ap, ↓PD.sfld_ap, PD.fldK_ap, PD.meiK2_ap, PD.c1K_ap, PD.sfldK_ap, PD.sfldK2_ap, ↓PD.ia_ap, ↓PD.ien_ap, ↓PD.sort_ap, ↓PD.lenT_ap, ↓PD.cget_ap, ↓PD.append_ap, ↓PD.app2_ap, ↓PD.par3_ap, ↓PD.lc2_ap, ↓PD.prp_ap, ↓PD.mep_ap, ↓PD.mkp_ap, ↓PD.neg_ap, PD.iaK_lst, PD.iaK_tup, PD.ienK_lst, PD.ienK_tup, PD.cgetK_str, PD.cgetK2_ap, PD.apK2_ap, PD.app2K_ap, PD.app2K2_ap, PD.par3K_ok, PD.max2_ap, PD.augK_int, PD.negK_int, $xs,*] $[$l]?)
namespace PD
end PD
namespace PQ
open PySem PD PV
end PQ
namespace PD
theorem lcL_mapf {α : Type} {g : MG} {t : M Bool} {e : M D} (q f : α → D) {ε : Ev} {h : EH} : ∀ {xs : List α}, (∀ x ∈ xs, ∃ ε1, g (q x) ε h = some (ε1, h) ∧ t ε1 h = some (.ok true, h) ∧ e ε1 h = some (.ok (f x), h)) → lcL g t e (xs.map q) ε h = some (xs.map f, h)
  | [], _ => rfl
  | x :: xs, H => by
    obtain ⟨ε1, h1, h2, h3⟩ := H x List.mem_cons_self
    have ih := lcL_mapf (xs := xs) q f fun x hx => H x (List.mem_cons_of_mem _ hx)
    rw [List.map_cons]
    unfold lcL
    simp only [h1, h2, h3, ih, List.map_cons]
end PD
namespace PQ
open PySem PD PV
end PQ
namespace PQ
open PySem PD PV
mutual
def St.dep : St → Nat
  | .b _ => 1
  | .ifs _ xs ys => max (St.deps xs) (St.deps ys) + 1
def St.deps : List St → Nat
  | [] => 0
  | x :: xs => max x.dep (St.deps xs)
end
mutual
def St.okc : St → Bool
  | .b s => s.okc
  | .ifs c xs ys => (c.ok && decide (c.dep ≤ 6)) && (St.okcs xs && (St.okcs ys && (decide (xs.length ≤ 100) && decide (ys.length ≤ 100))))
def St.okcs : List St → Bool
  | [] => true
  | x :: xs => x.okc && St.okcs xs
end
mutual
def St.lk : St → Int
  | .b s => s.lk
  | .ifs _ xs ys => if St.lks ys > St.lks xs then St.lks ys else St.lks xs
def St.lks : List St → Int
  | [] => 0
  | x :: xs => x.lk + St.lks xs
end
end PQ
namespace PQ
open PySem PD PV
end PQ
namespace PQ
open PySem PD PV
end PQ
namespace PQ
open PySem PD PV
abbrev ts (zs : List (List Nat)) : D := .tup (zs.map .str)
theorem ts_noRef (zs : List (List Nat)) : PD.noRef (ts zs) = true := noRef_all fun d hd => by
  obtain ⟨z, _, rfl⟩ := List.mem_map.mp hd
  rfl
def fitP (cols args : List (List Nat)) (own : Bool) : Pl → Bool
  | .num _ => true
  | .name z => decide (z ∈ args)
  | .field _ y => decide (y ∈ cols)
  | .own y => own && decide (y ∈ cols)
  | .next _ => false
def fitV (cols args : List (List Nat)) (own : Bool) (v : Vl) : Bool := v.ok && fitP cols args own (pn v)
section
variable {cols args : List (List Nat)}
theorem all_true {α : Type} (xs : List α) : (xs.map fun _ => true).all id = true := by simp
def fitO (cols args : List (List Nat)) : Option Vl → Bool
  | none => true
  | some v => fitV cols args false v
end
end PQ
namespace PQ
open PySem PD PV
def fitVs (cols args : List (List Nat)) (own : Bool) (vs : List Vl) : Bool := vs.all (fitV cols args own)
def condB (cols args : List (List Nat)) (own : Bool) (c : Cd) : Bool := (c.ok && decide (c.dep ≤ 6)) && fitVs cols args own (vals c)
def rgB (cols args : List (List Nat)) (a b : Option Vl) : Bool := fitO cols args a && fitO cols args b
def Bs.right (cols args : List (List Nat)) : Bs → Bool
  | .find r _ a b c => isNm r && (rgB cols args a b && condB cols args true c)
  | .step r _ s => isNm r && isNm s
  | .insert r vs => isNm r && (fitVs cols args false vs && (decide (vs.length = cols.length) && decide (vs.length ≤ 100)))
  | .delete r => isNm r
  | .set r y v => isNm r && (decide (y ∈ cols.drop 1) && fitV cols args false v)
  | .clear a b c => rgB cols args a b && condB cols args true c
  | .change a b c y v => rgB cols args a b && (condB cols args true c && (decide (y ∈ cols.drop 1) && fitV cols args true v))
  | .move v n => fitV cols args false v && isCon n
  | .fail w => isNm w
  | .ret vs => fitVs cols args false vs && decide (vs.length ≤ 4)
theorem cut1 (cols : List (List Nat)) : cutD (cols.map D.str) (some 1) none = (cols.drop 1).map D.str := by
  cases cols with
  | nil => rfl
  | cons x r =>
    have e := cut_hi (xs := (x :: r).map D.str) (a := 1) (by rw [List.length_map, List.length_cons]; omega)
    rw [← List.map_drop] at e
    exact e
section
variable {cols args : List (List Nat)}
theorem nm_call {z : List Nat} (h : isNm z = true) (t : EH) : callPK F_is_name [.str z] t = some (.ok (.bl true), t) := callPK_ok (isName_nm h) rfl
theorem listed_tup (ds : List D) (n : PD.noRef (.tup ds) = true) (t : EH) : callPK F_is_listed [.tup ds] t = some (.ok (.bl true), t) := callPK_ok (by
  show endP (m_is_listed [some (.tup ds)] []) = _
  dsimp? only [m_is_listed, isa, Bool.or_false, Bool.or_true, Bool.false_or]
  rfl) (go1 n)
theorem listed_lst (ds : List D) (n : PD.noRef (.lst ds) = true) (t : EH) : callPK F_is_listed [.lst ds] t = some (.ok (.bl true), t) := callPK_ok (by
  show endP (m_is_listed [some (.lst ds)] []) = _
  dsimp? only [m_is_listed, isa, Bool.or_false, Bool.or_true, Bool.false_or]
  rfl) (go1 n)
end
end PQ
namespace PQ
open PySem PD PV
mutual
def St.cnt : St → Nat
  | .b _ => 1
  | .ifs _ xs ys => 1 + (St.cnts xs + St.cnts ys)
def St.cnts : List St → Nat
  | [] => 0
  | x :: xs => x.cnt + St.cnts xs
end
mutual
def St.right (cols args : List (List Nat)) : St → Bool
  | .b s => s.right cols args
  | .ifs c xs ys => condB cols args false c && (St.rights cols args xs && St.rights cols args ys)
def St.rights (cols args : List (List Nat)) : List St → Bool
  | [] => true
  | x :: xs => x.right cols args && St.rights cols args xs
end
def ckF (cols args : List (List Nat)) (n : Nat) : List (Str × D) := [("columns_now", ts cols), ("arguments_now", ts args), ("count", .int n)]
def ck (cols args : List (List Nat)) (n : Nat) : Cell := .obj "Checker" (ckF cols args n)
end PQ
namespace PQ
open PySem PD PV
end PQ
namespace PQ
open PySem PD PV
def seqD (b : Bool) (zs : List (List Nat)) : D := if b = true then .tup (zs.map .str) else .lst (zs.map .str)
theorem names_lc {zs : List (List Nat)} {d : D} (h : ∀ z ∈ zs, isNm z = true) : lcL (mgName 1) mYes (mCallP F_is_name (mCons (mVar 1) mNil)) (zs.map .str) [some d, none] [] = some (zs.map fun _ => .bl true, []) := by
  refine lcL_mapf D.str (fun _ => .bl true) fun z hz => ⟨[some d, some (.str z)], rfl, rfl, ?_⟩
  dsimp? only [nm_call (h z hz)]
theorem columns_ok {b : Bool} {zs : List (List Nat)} (h : ∀ z ∈ zs, isNm z = true) (l : zs.length ≤ 3) (nd : zs.Nodup) : F_all_columns [seqD b zs] = some (.ok (ts ([107, 101, 121] :: zs))) := by
  have lk := fun d : D => lcK_ok (vs := [1]) (ε := [some d, none]) (h := []) (names_lc (d := d) h) (by rw [List.length_map]; omega)
  have al := fun h : EH => all_lst (h := h) (asBs_map (fun _ : List Nat => true) zs)
  have n3 : ¬ (3 : Int) < (zs.length : Int) := by omega
  have nl : ¬ (zs.length : Int) < (zs.length : Int) := by omega
  have sl := srtU_len nd
  have st : ∀ (d : D) (e : Option D), asS [] d = some (zs.map .str) → mStar (mVar 0) mNil [some d, e] [] = some (.ok (zs.map .str), []) := fun d e q => by
    rw [star_ap (x := d) (xs := zs.map .str) rfl q]
    show some (PD.R.ok (zs.map D.str ++ []), ([] : EH)) = _
    rw [List.append_nil]
  have tk := tupK_ok (h := []) (ds := .str [107, 101, 121] :: zs.map .str) (by rw [List.length_cons, List.length_map]; omega)
  cases b with
  | true =>
    show endP (m_all_columns [some (.tup (zs.map .str)), none] []) = _
    simp! only [m_all_columns, listed_tup (zs.map .str) (ts_noRef zs), List.length_map, n3, lk, al, all_true, lenTK_tup (show zs.length < 1000 by omega), sl, nl, st (.tup (zs.map .str)) none rfl, tk]
    exact endP_ok (ts_noRef ([107, 101, 121] :: zs))
  | false =>
    show endP (m_all_columns [some (.lst (zs.map .str)), none] []) = _
    simp! only [m_all_columns, listed_lst (zs.map .str) (ts_noRef zs), List.length_map, n3, lk, al, all_true, lenTK_lst (show zs.length < 1000 by omega), sl, nl, st (.lst (zs.map .str)) none rfl, tk]
    exact endP_ok (ts_noRef ([107, 101, 121] :: zs))
end PQ
namespace PD
open PySem
theorem put_at {C f : Str} {h : EH} {n : Nat} {d : D} {fs : List (Str × D)} (e : h[n]? = some (.obj C fs)) (l : fs.length < 1000) : putO [C] f h (.ref n) d = some (h.set n (.obj C (putD f d fs))) := by
  unfold putO
  simp only [e]
  exact if_pos ⟨List.mem_singleton.mpr rfl, l⟩
theorem fld_at {C f : Str} {h : EH} {n : Nat} {d : D} {fs : List (Str × D)} (e : h[n]? = some (.obj C fs)) (l : fs.lookup f = some d) : dFld [C] f h (.ref n) = some d := by
  unfold dFld insD
  simp only [e]
  rw [if_pos (List.mem_singleton.mpr rfl), l]
end PD
namespace PQ
open PySem PD PV
def pF (cols args : List (List Nat)) (xs : List St) : List (Str × D) := [("all_names", ts cols), ("own_arguments", ts args), ("own_statements", .lst (St.ds xs)), ("own_looks", .int (St.lks xs))]
section
variable {t : EH} {cols args : List (List Nat)} {xs : List St}
/-- what a plan must be -/
structure PlanOk (b1 b2 : Bool) (cs args : List (List Nat)) (xs : List St) : Prop where
  cn : ∀ z ∈ cs, isNm z = true
  cl : cs.length ≤ 3
  cd : cs.Nodup
  an : ∀ z ∈ args, isNm z = true
  al : args.length ≤ 3
  ad : args.Nodup
  rt : St.rights ([107, 101, 121] :: cs) args xs = true
  ok : St.okcs xs = true
  ct : St.cnts xs ≤ 24
  dp : St.deps xs ≤ 3
  len : xs.length ≤ 12
end
end PQ
namespace PQ
open PySem PD PV
abbrev po (cols args : List (List Nat)) (xs : List St) : D := .obj "Procedure" (pF cols args xs)
end PQ
namespace PQ
open PySem PD PV
structure PoolP (cols args : List (List Nat)) (own : Bool) (ds : List D) : Prop where
  at_ : ∀ d ∈ ds, ∃ p : Pl, d = p.d ∧ p.ok = true ∧ fitP cols args own p = true
  len : ds.length ≤ 1000
theorem PoolP.ok {cols args : List (List Nat)} {own : Bool} {ds : List D} (h : PoolP cols args own ds) : PoolOk ds := ⟨fun d hd => by
  obtain ⟨p, e, q, _⟩ := h.at_ d hd
  exact ⟨p, e, q⟩, h.len⟩
end PQ
namespace PQ
open PySem PD PV
end PQ
namespace PD
end PD
namespace PQ
open PySem PD PV
end PQ
namespace PQ
open PySem PD PV
end PQ
namespace PQ
open PySem PD PV
end PQ
namespace PQ
open PySem PD PV
end PQ
namespace PD
end PD
namespace PQ
open PySem PD PV
section
variable {cols args fs : List (List Nat)}
/-- the row that a statement finds -/
def Bs.new : Bs → List (List Nat)
  | .find r _ _ _ _ => [r]
  | .step r _ _ => [r]
  | .insert r _ => [r]
  | _ => []
theorem condB_okc {own : Bool} {c : Cd} (h : condB cols args own c = true) : (c.ok && decide (c.dep ≤ 6)) = true := (Bool.and_eq_true_iff.mp h).1
theorem right_okc {s : Bs} (h : s.right cols args = true) : s.okc = true := by
  cases s
  case find r l a b c =>
    have h1 := (Bool.and_eq_true_iff.mp (show (isNm r && (rgB cols args a b && condB cols args true c)) = true from h)).2
    exact condB_okc (Bool.and_eq_true_iff.mp h1).2
  case clear a b c => exact condB_okc (Bool.and_eq_true_iff.mp (show (rgB cols args a b && condB cols args true c) = true from h)).2
  case change a b c y v =>
    have h1 := (Bool.and_eq_true_iff.mp (show (rgB cols args a b && (condB cols args true c && (decide (y ∈ cols.drop 1) && fitV cols args true v))) = true from h)).2
    exact condB_okc (Bool.and_eq_true_iff.mp h1).1
  case insert r vs =>
    have h1 := (Bool.and_eq_true_iff.mp (show (isNm r && (fitVs cols args false vs && (decide (vs.length = cols.length) && decide (vs.length ≤ 100)))) = true from h)).2
    exact (Bool.and_eq_true_iff.mp (Bool.and_eq_true_iff.mp h1).2).2
  case ret vs =>
    have h1 := (Bool.and_eq_true_iff.mp (show (fitVs cols args false vs && decide (vs.length ≤ 4)) = true from h)).2
    have := of_decide_eq_true h1
    exact decide_eq_true (by omega)
  all_goals rfl
theorem rights_app : ∀ (xs : List St) (y : St), St.rights cols args (xs ++ [y]) = (St.rights cols args xs && y.right cols args)
  | [], y => by show (y.right cols args && true) = (true && _); rw [Bool.and_true, Bool.true_and]
  | x :: xs, y => by
    show (x.right cols args && St.rights cols args (xs ++ [y])) = ((x.right cols args && St.rights cols args xs) && _)
    rw [rights_app xs y, Bool.and_assoc]
theorem okcs_app : ∀ (xs : List St) (y : St), St.okcs (xs ++ [y]) = (St.okcs xs && y.okc)
  | [], y => by show (y.okc && true) = (true && _); rw [Bool.and_true, Bool.true_and]
  | x :: xs, y => by
    show (x.okc && St.okcs (xs ++ [y])) = ((x.okc && St.okcs xs) && _)
    rw [okcs_app xs y, Bool.and_assoc]
theorem deps_app : ∀ (xs : List St) (y : St), St.deps (xs ++ [y]) = max (St.deps xs) y.dep
  | [], y => by show max y.dep 0 = max 0 _; omega
  | x :: xs, y => by
    show max x.dep (St.deps (xs ++ [y])) = max (max x.dep (St.deps xs)) _
    rw [deps_app xs y]; omega
theorem cnts_app : ∀ (xs : List St) (y : St), St.cnts (xs ++ [y]) = St.cnts xs + y.cnt
  | [], y => by show y.cnt + 0 = 0 + _; omega
  | x :: xs, y => by
    show x.cnt + St.cnts (xs ++ [y]) = (x.cnt + St.cnts xs) + _
    rw [cnts_app xs y]; omega
/-- how many statements one of depth d holds -/
def cn : Nat → Nat
  | 0 => 1
  | d + 1 => 1 + 4 * cn d
structure Drawn (cols args : List (List Nat)) (deep : Nat) (xs : List St) : Prop where
  rt : St.rights cols args xs = true
  ok : St.okcs xs = true
  dp : St.deps xs ≤ deep + 1
  ct : St.cnts xs ≤ xs.length * cn deep
theorem Drawn.nil {deep : Nat} : Drawn cols args deep [] := ⟨rfl, rfl, Nat.zero_le _, Nat.zero_le _⟩
theorem Drawn.snoc {deep : Nat} {xs : List St} {y : St} (D : Drawn cols args deep xs) (h1 : y.right cols args = true) (h2 : y.okc = true) (h3 : y.dep ≤ deep + 1) (h4 : y.cnt ≤ cn deep) : Drawn cols args deep (xs ++ [y]) :=
  ⟨by rw [rights_app, D.rt, h1]; rfl, by rw [okcs_app, D.ok, h2]; rfl, by rw [deps_app]; have := D.dp; omega, by
    rw [cnts_app, List.length_append, List.length_singleton, Nat.add_mul, Nat.one_mul]
    have := D.ct
    omega⟩
theorem cn_pos : ∀ d : Nat, 1 ≤ cn d
  | 0 => Nat.le_refl _
  | d + 1 => by show 1 ≤ 1 + 4 * cn d; omega
theorem Drawn.b {deep : Nat} {xs : List St} {s : Bs} (D : Drawn cols args deep xs) (h : s.right cols args = true) : Drawn cols args deep (xs ++ [.b s]) :=
  D.snoc h (right_okc h) (by show 1 ≤ deep + 1; omega) (by show 1 ≤ cn deep; exact cn_pos _)
theorem Drawn.ifs {deep : Nat} {xs as bs : List St} {c : Cd} (D : Drawn cols args (deep + 1) xs) (hc : condB cols args false c = true) (A : Drawn cols args deep as) (B : Drawn cols args deep bs) (la : as.length ≤ 2) (lb : bs.length ≤ 2) : Drawn cols args (deep + 1) (xs ++ [.ifs c as bs]) := by
  refine D.snoc ?_ ?_ ?_ ?_
  · show (condB cols args false c && (St.rights cols args as && St.rights cols args bs)) = true
    rw [hc, A.rt, B.rt]; rfl
  · show ((c.ok && decide (c.dep ≤ 6)) && (St.okcs as && (St.okcs bs && (decide (as.length ≤ 100) && decide (bs.length ≤ 100))))) = true
    rw [condB_okc hc, A.ok, B.ok, decide_eq_true (by omega), decide_eq_true (by omega)]; rfl
  · show max (St.deps as) (St.deps bs) + 1 ≤ deep + 1 + 1
    have := A.dp
    have := B.dp
    omega
  · show 1 + (St.cnts as + St.cnts bs) ≤ 1 + 4 * cn deep
    have a := A.ct
    have b := B.ct
    have a2 : as.length * cn deep ≤ 2 * cn deep := Nat.mul_le_mul_right _ la
    have b2 : bs.length * cn deep ≤ 2 * cn deep := Nat.mul_le_mul_right _ lb
    omega
end
end PQ
namespace PD
theorem bag_pure {k : Cell} (hk : BagI k) : pureC k = true := by
  obtain ⟨cs, i, b, s, c, rfl, _⟩ := hk.ex
  show (PD.noRef.go (cs.map .int) && true) = true
  rw [noRef_all fun d hd => by
    obtain ⟨z, _, rfl⟩ := List.mem_map.mp hd
    rfl]; rfl
/-- a list cell behind the bag -/
def lcH (k : Cell) (t : EH) (ds : List D) : EH := k :: (t ++ [.lst ds])
theorem lcH_at {k : Cell} {t : EH} {ds : List D} : (lcH k t ds)[t.length + 1]? = some (.lst ds) := by
  show (t ++ [Cell.lst ds])[t.length]? = _
  rw [List.getElem?_append_right (Nat.le_refl _), Nat.sub_self]; rfl
theorem lcH_is {k : Cell} {t : EH} {ds : List D} : isLc (lcH k t ds) (.ref (t.length + 1)) = true := by
  unfold isLc; simp only [lcH_at]
theorem lcH_ap {k : Cell} {t : EH} {ds : List D} {y : D} (l : ds.length < 1000) : apD (lcH k t ds) (.ref (t.length + 1)) y = some (lcH k t (ds ++ [y])) := by
  unfold apD
  simp only [lcH_at]
  rw [if_pos (by unfold PySem.sizeLine; omega)]
  unfold lcH
  rw [List.set_cons_succ, List.set_append_right _ _ (Nat.le_refl _), Nat.sub_self]; rfl
theorem lcH_apK {k : Cell} {t : EH} {ds : List D} {e : M D} {ε : Ev} : apK e ε (.ref (t.length + 1)) (lcH k t ds) = bR (e ε (lcH k t ds)) (apK2 (.ref (t.length + 1))) := apK_ok lcH_is
theorem lcH_len {k : Cell} {t : EH} {ds : List D} : dLen (lcH k t ds) [.ref (t.length + 1)] = some (.int ds.length) := by
  show (match asS (lcH k t ds) (.ref (t.length + 1)) with
    | some xs => some (D.int xs.length)
    | none => none) = _
  unfold asS asL asO
  simp only [lcH_at]
theorem lcH_end {k : Cell} {t : EH} {ds : List D} (hk : BagI k) (hp : t.all pureC = true) (hd : PD.noRef.go ds = true) : endI (t.length + 1) (some (.rt (.ref (t.length + 1)), lcH k t ds)) = some (.ok (.lst ds), k :: t) := by
  have f : frzI (t.length + 1) (lcH k t ds) (.ref (t.length + 1)) = some (.lst ds) := by
    show frz1I (t.length + 1) (lcH k t ds) (.ref (t.length + 1)) = _
    unfold frz1I
    dsimp only
    rw [if_neg (Nat.lt_irrefl _)]
    simp only [lcH_at]
    exact if_pos hd
  have tr : trim (t.length + 1) (lcH k t ds) = some (k :: t) := by
    unfold trim lcH
    have e : (k :: (t ++ [Cell.lst ds])).take (t.length + 1) = k :: t := by
      rw [List.take_succ_cons, List.take_left]
    rw [if_neg (by simp), e, if_pos]
    show (pureC k && t.all pureC) = true
    rw [bag_pure hk, hp]; rfl
  unfold endI
  simp only [f, tr]
end PD
namespace PQ
open PySem PD PV
end PQ
namespace PQ
open PySem PD PV
end PQ
namespace PQ
open PySem PD PV
/-- a drawn name is not six letters that are the same -/
def NoSix (zs : List (List Nat)) : Prop := ∀ z ∈ zs, ∀ c, c ≠ 113 → z ≠ six c
theorem some_columnsX {k : Cell} (hk : BagI k) (t : EH) : ∃ (cs : List (List Nat)) (k' : Cell), F__law_some_columns [.ref 0] (k :: t) = some (.ok (ts ([107, 101, 121] :: cs)), k' :: t) ∧ (∀ z ∈ cs, isNm z = true) ∧ cs.length ≤ 3 ∧ cs.Nodup ∧ BagI k' ∧ NoSix cs := by
  obtain ⟨d, k1, e1, hd, hk1⟩ := any_lst hk (ds := [.int 0, .int 1, .int 1, .int 2, .int 3]) (by simp) (by simp) (by decide) t
  have ed : ∃ m : Nat, d = .int m ∧ m ≤ 3 := by
    simp only [List.mem_cons, List.not_mem_nil, or_false] at hd
    rcases hd with rfl | rfl | rfl | rfl | rfl
    · exact ⟨0, rfl, by decide⟩
    · exact ⟨1, rfl, by decide⟩
    · exact ⟨1, rfl, by decide⟩
    · exact ⟨2, rfl, by decide⟩
    · exact ⟨3, rfl, by decide⟩
  obtain ⟨m, rfl, hm⟩ := ed
  have e1' : F__law_any [.ref 0, .lst [.int 0, .int 1, .int 1, .int 2, .int 3]] (k :: t) = some (.ok (.int m), k1 :: t) := e1
  obtain ⟨cs, k2, e2, hk2, lc, hn, nd⟩ := new_namesX hk1 (many := m) (by omega) t
  have e2' : F__law_new_names [.ref 0, .int m] (k1 :: t) = some (.ok (.lst (cs.map .str)), k2 :: t) := by rw [e_new]; exact e2
  have ad : ∀ h : EH, dAdd h (.tup [.str [107, 101, 121]]) (.tup (cs.map .str)) = some (ts ([107, 101, 121] :: cs)) := fun h => by
    have := add_tup (h := h) (a := [D.str [107, 101, 121]]) (b := cs.map D.str) (by rw [List.length_map, List.length_singleton]; omega)
    rw [this]; rfl
  refine ⟨cs, k2, ?_, fun z hz => (hn z hz).1, by omega, nd, hk2, fun z hz => (hn z hz).2⟩
  show endI _ (m__law_some_columns [some (.ref 0)] (k :: t)) = _
  simp! only [m__law_some_columns, e1', e2', ad]
  exact endI_ok rfl (ts_noRef _)
theorem some_columns_ok {k : Cell} (hk : BagI k) (t : EH) : ∃ (cs : List (List Nat)) (k' : Cell), F__law_some_columns [.ref 0] (k :: t) = some (.ok (ts ([107, 101, 121] :: cs)), k' :: t) ∧ (∀ z ∈ cs, isNm z = true) ∧ cs.length ≤ 3 ∧ cs.Nodup ∧ BagI k' := by
  obtain ⟨cs, k', h1, h2, h3, h4, h5, _⟩ := some_columnsX hk t
  exact ⟨cs, k', h1, h2, h3, h4, h5⟩
end PQ
namespace PQ
open PySem PD PV
end PQ
namespace PQ
open PySem PD PV
end PQ
namespace PQ
open PySem PD PV
end PQ
namespace PQ
open PySem PD PV
end PQ
namespace PQ
open PySem PD PV
theorem rights_sub {cols args : List (List Nat)} {ys xs : List St} (h : List.Sublist ys xs) : St.rights cols args xs = true → St.rights cols args ys = true := by
  induction h with
  | slnil => exact fun e => e
  | cons a _ ih =>
    intro e
    rw [St.rights, Bool.and_eq_true] at e
    exact ih e.2
  | cons_cons a _ ih =>
    intro e
    rw [St.rights, Bool.and_eq_true] at e ⊢
    exact ⟨e.1, ih e.2⟩
theorem okcs_sub {ys xs : List St} (h : List.Sublist ys xs) : St.okcs xs = true → St.okcs ys = true := by
  induction h with
  | slnil => exact fun e => e
  | cons a _ ih =>
    intro e
    rw [St.okcs, Bool.and_eq_true] at e
    exact ih e.2
  | cons_cons a _ ih =>
    intro e
    rw [St.okcs, Bool.and_eq_true] at e ⊢
    exact ⟨e.1, ih e.2⟩
theorem cnts_sub {ys xs : List St} (h : List.Sublist ys xs) : St.cnts ys ≤ St.cnts xs := by
  induction h with
  | slnil => exact Nat.le_refl _
  | cons a _ ih =>
    rw [St.cnts]
    omega
  | cons_cons a _ ih =>
    rw [St.cnts, St.cnts]
    omega
theorem deps_sub {ys xs : List St} (h : List.Sublist ys xs) : St.deps ys ≤ St.deps xs := by
  induction h with
  | slnil => exact Nat.le_refl _
  | cons a _ ih =>
    rw [St.deps]
    omega
  | cons_cons a _ ih =>
    rw [St.deps, St.deps]
    omega
theorem PlanOk.sub {b1 b2 c1 c2 : Bool} {cs args : List (List Nat)} {ys xs : List St} (P : PlanOk b1 b2 cs args xs) (h : List.Sublist ys xs) : PlanOk c1 c2 cs args ys :=
  ⟨P.cn, P.cl, P.cd, P.an, P.al, P.ad, rights_sub h P.rt, okcs_sub h P.ok, Nat.le_trans (cnts_sub h) P.ct, Nat.le_trans (deps_sub h) P.dp, Nat.le_trans h.length_le P.len⟩
end PQ
namespace PQ
open PySem PD PV
end PQ
namespace PQ
open PySem PD PV
theorem noFn_all : ∀ {ds : List D}, (∀ d ∈ ds, noFn d = true) → noFn.go ds = true
  | [], _ => rfl
  | d :: ds, h => by
    rw [noFn.go, h d List.mem_cons_self, noFn_all fun x hx => h x (List.mem_cons_of_mem _ hx)]; rfl
theorem okD_tupL {t : Nat} {ds : List D} (l : ds.length ≤ 16777216) (h : ∀ d ∈ ds, okD t d = true) : okD (t + 1) (.tup ds) = true := by
  show (decide (ds.length ≤ 16777216) && ds.all (okD t)) = true
  rw [decide_eq_true l, List.all_eq_true.mpr h]; rfl
theorem okD_unL {t : Nat} {ds : List D} (h : okD (t + 1) (.lst ds) = true) : ∀ d ∈ ds, okD t d = true :=
  List.all_eq_true.mp (Bool.and_eq_true_iff.mp (show (decide (ds.length ≤ 16777216) && ds.all (okD t)) = true from h)).2
theorem okD_noFn : ∀ {t : Nat} {d : D}, okD t d = true → noFn d = true
  | 0, _, e => by cases e
  | t + 1, .non, _ => rfl
  | t + 1, .bl _, _ => rfl
  | t + 1, .int _, _ => rfl
  | t + 1, .str _, _ => rfl
  | t + 1, .tup ds, e => noFn_all fun d hd => okD_noFn (t := t) (okD_unL (ds := ds) e d hd)
  | t + 1, .lst ds, e => noFn_all fun d hd => okD_noFn (t := t) (okD_unL e d hd)
  | t + 1, .scr _, e => by cases e
  | t + 1, .dic _ _, e => by cases e
  | t + 1, .obj _ _, e => by cases e
  | t + 1, .ref _, e => by cases e
  | t + 1, .fn _ _, e => by cases e
  | t + 1, .exc _ _, e => by cases e
theorem okE_tupL {t : Nat} {ds : List D} (h : ∀ d ∈ ds, okE t d = true) : okE (t + 1) (.tup ds) = true := List.all_eq_true.mpr h
theorem okE_nm {z : List Nat} (t : Nat) (h : isNm z = true) : okE (t + 1) (.str z) = true := okE_abc h
theorem okE_cl {z : List Nat} (t : Nat) (h : isCol z = true) : okE (t + 1) (.str z) = true := okE_col h
section
variable {b1 b2 : Bool} {cs args : List (List Nat)} {xs : List St}
theorem okE_ts {zs : List (List Nat)} (h : ∀ z ∈ zs, isCol z = true) : okE 2 (ts zs) = true := okE_tupL fun d hd => by
  obtain ⟨z, hz, rfl⟩ := List.mem_map.mp hd
  exact okE_cl 0 (h z hz)
theorem okD_ts (zs : List (List Nat)) (l : zs.length ≤ 100) : okD 2 (ts zs) = true := okD_tupL (by rw [List.length_map]; omega) fun d hd => by
  obtain ⟨z, hz, rfl⟩ := List.mem_map.mp hd
  rfl
end
end PQ
namespace PD
open PySem
def raiseK (C : Str) (fl : Option Str) (code : List Nat) (ε : Ev) (ds : List D) (h1 : EH) : Option (RS × EH) := match excFs fl code ds with
  | some fs => some (.ex ⟨C, fs⟩ ε, h1)
  | none => none
section
variable {ε : Ev} {h : EH}
theorem raise_ap (C : Str) (fl : Option Str) (code : List Nat) (a : M (List D)) : msRaise C fl code a ε h = bS (a ε h) ε (raiseK C fl code ε) := (rfl)
theorem raiseK_1 (C f : Str) (code : List Nat) (d : D) : raiseK C (some f) code ε [d] h = some (.ex ⟨C, [(f, d), ("code", .str code)]⟩ ε, h) := (rfl)
theorem endP_ex {e : Ex} (k : noRef.gf e.fs = true) : endP (some (.ex e ε, h)) = some (.ex e) := by
  show (if noRef.gf e.fs = true then some (R.ex e) else none) = _
  rw [if_pos k]
theorem endL_ex {e : Ex} (k : noRef.gf e.fs = true) : endL (some (.ex e, h)) = some (.ex e) := by
  show (if noRef.gf e.fs = true then some (R.ex e) else none) = _
  rw [if_pos k]
def tryK (CL : List Str) (ch : List (List Nat × Str)) (i : Nat) (x : Option (RS × EH)) : Option (RS × EH) := match x with
  | some (.rt d, h1) => some (.rt d, h1)
  | some (.ex x ε1, h1) => tryEnd CL ch i x ε1 h1
  | _ => none
theorem try_ap (CL : List Str) (ch : List (List Nat × Str)) (i : Nat) (mb : MS) : msTryT CL ch i mb ε h = tryK CL ch i (mb ε h) := (rfl)
theorem tryK_ex (CL : List Str) (ch : List (List Nat × Str)) (i : Nat) (x : Ex) : tryK CL ch i (some (.ex x ε, h)) = tryEnd CL ch i x ε h := (rfl)
theorem draws_lst {ns : List Int} (hl : ns.length ≤ 63) : ∃ k, F_draws [.lst (ns.map .int)] [] = some (.ok (.ref 0), [k]) ∧ BagI k := by
  obtain ⟨s', o', e, r0, r1⟩ := draws_loop (x := .lst (ns.map .int)) ns 5648 none (by decide) (by decide)
  refine ⟨bagC (ns.map .int) 0 0 s' 0, ?_, ⟨_, _, _, _, _, rfl, hl, by decide, by decide, r0, r1⟩⟩
  show endA _ (mDraws [some (.lst (ns.map .int)), none, none] []) = _
  have l : (ns.map D.int).length ≤ 63 := by simpa using hl
  simp? only [mDraws, cut63 l, e, lstCK_ok]
  rfl
end
end PD
namespace PQ
open PySem PD PV
/-- not a number of statements -/
def bad (n : Nat) (strict : Bool) : D → Bool
  | .int i => decide (i < 0) || (if strict then decide ((n : Int) ≤ i) else decide ((n : Int) < i))
  | .non => true
  | .bl _ => true
  | .str _ => true
  | .tup _ => true
  | _ => false
end PQ
namespace PD
open PySem
theorem callF_ok {n i j : Nat} {LF : Nat → PF} {ε : Ev} {h : EH} {caps : List D} {r : R D} (e1 : ε.getD i none = some (.fn j caps)) (hj : j < n) (n1 : noRef.go caps = true) (n2 : noFn.go caps = true) (e2 : LF j caps = some r) : mCallF n LF i ε h = some (r, h) := by
  unfold mCallF
  rw [e1]
  dsimp only
  rw [decide_eq_true hj, n1, n2, e2]; rfl
end PD
namespace PQ
open PySem PD PV
theorem like_ok {t : Nat} {d : D} {h : EH} (o : okD t d = true) (l : t ≤ 30) : callPK F__law_like [d, d] h = some (.ok (.bl true), h) := by
  refine callPK_ok (F := F__law_like) (like_refl (okD_le o l)) ?_
  rw [PD.noRef.go, PD.noRef.go, okD_noRef o]; rfl
end PQ
namespace PQ
open PySem PD PV
end PQ
namespace PQ
open PySem PD PV
end PQ
namespace PQ
open PySem PD PV
end PQ
namespace PD
open PySem
theorem forL_ex {g : MG} {b : MS} {d : D} {ds : List D} {x : Ex} {ε ε1 ε2 : Ev} {h h1 h2 : EH} (e1 : g d ε h = some (ε1, h1)) (e2 : b ε1 h1 = some (.ex x ε2, h2)) : forL g b (d :: ds) ε h = some (.ex x ε2, h2) := by
  unfold forL
  simp only [e1, e2]
end PD
namespace PQ
open PySem PD PV
theorem ints_no (ps : List Int) : PD.noRef (.tup (ps.map .int)) = true := noRef_all fun d hd => by
  obtain ⟨i, _, rfl⟩ := List.mem_map.mp hd
  rfl
section
variable {t : EH} {cols args : List (List Nat)}
inductive Pa where
  | here (i : Nat) | sub (i : Nat) (s : Bool) (p : Pa)
def Pa.ints : Pa → List Int
  | .here i => [(i : Int)]
  | .sub i s p => (i : Int) :: (if s = true then 3 else 2) :: p.ints
def Pa.ok : Pa → List St → Prop
  | .here i, xs => i < xs.length
  | .sub i s p, xs => ∃ c ys zs, xs[i]? = some (.ifs c ys zs) ∧ p.ok (if s = true then zs else ys)
def putL (bad : D) : Pa → List St → List D
  | .here i, xs => (St.ds xs).set i bad
  | .sub i s p, xs => match xs[i]? with
    | some (.ifs c ys zs) => (St.ds xs).set i (.tup [.str [105, 102], c.d, .tup (if s = true then St.ds ys else putL bad p ys), .tup (if s = true then putL bad p zs else St.ds zs)])
    | _ => St.ds xs
end
end PQ
namespace PQ
open PySem PD PV
end PQ
namespace PQ
open PySem PD PV
end PQ
namespace PD
open PySem
section
variable {ε : Ev} {h : EH}
theorem repT_one {d : D} {n : Nat} (h1 : 1 ≤ n) (h2 : n ≤ 1000) : dRepT h (.tup [d]) (.int (n : Nat)) = some (.tup (List.replicate n d)) := by
  unfold dRepT
  dsimp only
  by_cases q : n = 1
  · subst q; rfl
  · rw [if_neg (by omega), if_neg (show ¬ [d].length = 0 from Nat.succ_ne_zero 0), if_neg (by omega), if_pos ⟨by omega, by omega, (show 1 ≤ 1000 by decide)⟩]
    congr 2
    rw [show (n : Int).toNat = n from rfl]
    clear h1 h2 q
    induction n with
    | zero => rfl
    | succ m ih => rw [List.replicate_succ, List.flatten_cons, ih, List.replicate_succ]; rfl
end
end PD
namespace PU
open PySem PD PV PQ
def N_is_row : List Str := ["value", "many", "one"]
def m_is_row : MS :=
    (msRet (mAndV (mIsi [.tup] (mVar 0)) (mAndV (mBin dEq (mCall dLen (mCons (mVar 0) mNil)) (mVar 1)) (mCall dAll (mCons (mLc [2] (miT (mVar 0)) (mgName 2) mYes (mCallP PV.F_is_integer (mCons (mVar 2) mNil))) mNil)))))
def F_is_row : PF := runP N_is_row.length m_is_row
def N_checked_rows : List Str := ["rows", "many", "keys", "known", "key", "at", "row"]
def mb_checked_rows_0 : MS :=
    (msSeq (msIf (mOr (mNot (mTst (mCallP F_is_row (mCons (mVar 6) (mCons (mVar 1) mNil))))) (mTst (mBin (dDIn false) (mBin dIx (mVar 6) (mC (.int 0))) (mVar 3)))) (msRaise "InvalidRow" (some "index") [73, 110, 118, 97, 108, 105, 100, 82, 111, 119] (mCons (mVar 5) mNil)) msNil)
    (msDPut (mVar 3) (mBin dIx (mVar 6) (mC (.int 0))) (mC (.bl true))))
def m_checked_rows : MS :=
    (msSeq (msIf (mNot (mTst (mCallP PQ.F_is_listed (mCons (mVar 0) mNil)))) (msRaise "InvalidRow" (some "index") [73, 110, 118, 97, 108, 105, 100, 82, 111, 119] (mCons (mC (.int 0)) mNil)) msNil)
    (msSeq (msAsg mDnew (mgName 3))
    (msSeq (msFor (miL (mVar 2)) (mgName 4) (msDPut (mVar 3) (mVar 4) (mC (.bl true))))
    (msSeq (msFor (miEn (mCons (mVar 0) mNil)) (mgTup 2 (mgCons (mgName 5) (mgCons (mgName 6) mgNil))) mb_checked_rows_0)
    (msRet (mCall dList (mCons (mVar 0) mNil)))))))
def F_checked_rows : PF := runP N_checked_rows.length m_checked_rows
def N__law_mixed : List Str := ["_law_bag", "_law_rows_z", "_law_found", "_law_row"]
def mb__law_mixed_0 : MS :=
    (msExpr (mInsert (mVar 2) (mCallI PV.F__law_pull (mCons (mVar 0) (mCons (mBin dAdd (mCall dLen (mCons (mVar 2) mNil)) (mC (.int 1))) mNil))) (mVar 3)))
def m__law_mixed : MS :=
    (msSeq (msAsg (mLstC mNil) (mgName 2))
    (msSeq (msFor (miL (mVar 1)) (mgName 3) mb__law_mixed_0)
    (msRet (mVar 2))))
def F__law_mixed : IF := runI N__law_mixed.length m__law_mixed
def N__law_rows : List Str := ["_law_bag", "_law_columns", "_law_most", "_law_k", "_law_key", "_law_found", "_law_c"]
def me__law_rows_0 : M D :=
    (mIf (mTst (mBin dGt (mCallI PV.F__law_pull (mCons (mVar 0) (mCons (mC (.int 3)) mNil))) (mC (.int 0)))) (mBin dAdd (mVar 4) (mCallI PV.F__law_near (mCons (mVar 0) mNil))) (mCallI PV.F__law_near (mCons (mVar 0) mNil)))
def mb__law_rows_1 : MS :=
    (msSeq (msAsg (mBin dAdd (mBin dAdd (mVar 4) (mC (.int 1))) (mCallI PV.F__law_any (mCons (mVar 0) (mCons (mLst (mCons (mC (.int 0)) (mCons (mC (.int 0)) (mCons (mC (.int 1)) (mCons (mC (.int 2)) mNil))))) mNil)))) (mgName 4))
    (msExpr (mAppend (mVar 5) (mCall dTuple (mCons (mBin dAdd (mLst (mCons (mVar 4) mNil)) (mLc [6] (miT (mSl (mVar 1) (mSmP (mC (.int 1))) mNoP)) (mgName 6) mYes me__law_rows_0)) mNil)))))
def m__law_rows : MS :=
    (msSeq (msAsg (mTup (mCons (mBin dSub (mCallI PV.F__law_near (mCons (mVar 0) mNil)) (mC (.int 2))) (mCons (mLstC mNil) mNil))) (mgTup 2 (mgCons (mgName 4) (mgCons (mgName 5) mgNil))))
    (msSeq (msFor (miR1 (mCons (mCallI PV.F__law_pull (mCons (mVar 0) (mCons (mBin dAdd (mVar 2) (mC (.int 1))) mNil))) mNil)) (mgName 3) mb__law_rows_1)
    (msRet (mVar 5))))
def F__law_rows : IF := runI N__law_rows.length m__law_rows
def isInt : D → Bool
  | .int _ => true
  | _ => false
def isRow (n : Nat) : D → Bool
  | .tup ds => decide (ds.length = n) && ds.all isInt
  | _ => false
theorem isint_any {t : Nat} {d : D} (o : okD t d = true) (h : EH) : callPK PV.F_is_integer [d] h = some (.ok (.bl (isInt d)), h) := by
  have n := okD_noRef o
  refine callPK_ok (F := PV.F_is_integer) ?_ (go1 n)
  cases d with
  | non => kernel_rfl
  | bl b => cases b <;> kernel_rfl
  | int i =>
    show endP (m_is_integer [some (.int i)] []) = _
    dsimp? only [m_is_integer]
    rfl
  | str z =>
    show endP (m_is_integer [some (.str z)] []) = _
    dsimp? only [m_is_integer]
    rfl
  | tup ds =>
    show endP (m_is_integer [some (.tup ds)] []) = _
    dsimp? only [m_is_integer]
    rfl
  | lst ds =>
    show endP (m_is_integer [some (.lst ds)] []) = _
    dsimp? only [m_is_integer]
    rfl
  | _ => cases t <;> simp [okD] at o
theorem all_eq (ds : List D) : (ds.map isInt).all id = ds.all isInt := by rw [List.all_map]; rfl
theorem isrow_any {t : Nat} {d : D} (n : Nat) (o : okD (t + 1) d = true) (h : EH) : callPK F_is_row [d, .int n] h = some (.ok (.bl (isRow n d)), h) := by
  have nr := okD_noRef o
  refine callPK_ok (F := F_is_row) ?_ (by rw [PD.noRef.go, nr]; rfl)
  cases d with
  | non =>
    show endP (m_is_row [some .non, some (.int n), none] []) = _
    dsimp? only [m_is_row]
    rfl
  | bl b =>
    show endP (m_is_row [some (.bl b), some (.int n), none] []) = _
    dsimp? only [m_is_row]
    rfl
  | int i =>
    show endP (m_is_row [some (.int i), some (.int n), none] []) = _
    dsimp? only [m_is_row]
    rfl
  | str z =>
    show endP (m_is_row [some (.str z), some (.int n), none] []) = _
    dsimp? only [m_is_row]
    rfl
  | lst ds =>
    show endP (m_is_row [some (.lst ds), some (.int n), none] []) = _
    dsimp? only [m_is_row]
    rfl
  | tup ds =>
    have l : ds.length ≤ 16777216 := by
      have o' : (decide (ds.length ≤ 16777216) && ds.all (okD t)) = true := o
      simp only [Bool.and_eq_true, decide_eq_true_eq] at o'
      exact o'.1
    have oi : ∀ d ∈ ds, okD t d = true := by
      have o' : (decide (ds.length ≤ 16777216) && ds.all (okD t)) = true := o
      simp only [Bool.and_eq_true, List.all_eq_true] at o'
      exact o'.2
    have lc : lcL (mgName 2) mYes (mCallP PV.F_is_integer (mCons (mVar 2) mNil)) ds [some (.tup ds), some (.int n), none] [] = some (ds.map fun d => .bl (isInt d), []) :=
      lcL_map (fun d => .bl (isInt d)) fun d hd => ⟨[some (.tup ds), some (.int n), some d], rfl, rfl, by
        have i := isint_any (oi d hd) []
        dsimp? only [i]⟩
    have lk := lcK_ok (vs := [2]) (ε := [some (.tup ds), some (.int n), none]) (h := []) lc (by rw [List.length_map]; exact l)
    have al := all_lst (h := []) (asBs_map isInt ds)
    have e : (ds.length = n) ∨ ¬ (ds.length = n) := Classical.em _
    show endP (m_is_row [some (.tup ds), some (.int n), none] []) = some (R.ok (.bl (decide (ds.length = n) && ds.all isInt)))
    rcases e with e | e
    · have q : decide ((ds.length : Int) = (n : Int)) = true := decide_eq_true (by omega)
      rw [decide_eq_true e, Bool.true_and, ← all_eq]
      have isa1 : ([Ty.tup].any (isa .tup)) = true := rfl
      dsimp? only [m_is_row, q, isa1, lk, al]
      rfl
    · have q : decide ((ds.length : Int) = (n : Int)) = false := decide_eq_false (by omega)
      rw [decide_eq_false e, Bool.false_and]
      have isa1 : ([Ty.tup].any (isa .tup)) = true := rfl
      dsimp? only [m_is_row, q, isa1]
      rfl
  | _ => simp [okD] at o
def rowD (r : List Int) : D := .tup (r.map .int)
theorem row_ok {r : List Int} (l : r.length ≤ 1000) : okD 2 (rowD r) = true := okD_tupL (by rw [List.length_map]; omega) fun d hd => by
  obtain ⟨i, _, rfl⟩ := List.mem_map.mp hd
  rfl
theorem row_no (r : List Int) : PD.noRef (rowD r) = true := ints_no r
theorem rows_no (rs : List (List Int)) : PD.noRef.go (rs.map rowD) = true := noRef_all fun d hd => by
  obtain ⟨r, _, rfl⟩ := List.mem_map.mp hd
  exact row_no r
theorem row_is {r : List Int} {n : Nat} (e : r.length = n) : isRow n (rowD r) = true := by
  show (decide ((r.map D.int).length = n) && (r.map D.int).all isInt) = true
  rw [List.length_map, decide_eq_true e, List.all_map, Bool.true_and, List.all_eq_true]
  exact fun _ _ => rfl
def sIR : List Nat := [73, 110, 118, 97, 108, 105, 100, 82, 111, 119]
def irX (j : Nat) : Ex := ⟨"InvalidRow", [("index", .int j), ("code", .str sIR)]⟩
def headI : D → Int
  | .tup (.int k :: _) => k
  | _ => 0
/-- the index of the first row that is none or whose key is known -/
def chk (n : Nat) : List D → Nat → List Int → Option Nat
  | [], _, _ => none
  | d :: ds, i, seen => if isRow n d = true ∧ headI d ∉ seen then chk n ds (i + 1) (headI d :: seen) else some i
structure DInv (kvs : List (List L2.Key × D)) (seen : List Int) : Prop where
  at_ : ∀ k : Int, lkK [Sum.inl k] kvs = if k ∈ seen then some (.bl true) else none
  len : kvs.length ≤ seen.length
theorem lkK_none {k : List L2.Key} : ∀ {kvs : List (List L2.Key × D)}, (kvs.any fun p => decide (p.1 = k)) = false → lkK k kvs = none
  | [], _ => rfl
  | p :: r, h => by
    rw [List.any_cons, Bool.or_eq_false_iff] at h
    unfold lkK
    rw [if_neg (of_decide_eq_false h.1)]
    exact lkK_none h.2
theorem lkK_app {k k' : List L2.Key} {d : D} : ∀ {kvs : List (List L2.Key × D)}, lkK k (kvs ++ [(k', d)]) = (lkK k kvs).or (if k' = k then some d else none)
  | [] => by
    show (if k' = k then some d else none) = _
    rw [show lkK k ([] : List (List L2.Key × D)) = none from rfl]
    rfl
  | p :: r => by
    rw [List.cons_append]
    unfold lkK
    by_cases q : p.1 = k
    · rw [if_pos q, if_pos q]; rfl
    · rw [if_neg q, if_neg q]
      exact lkK_app
theorem lkK_map {k k' : List L2.Key} {d : D} : ∀ {kvs : List (List L2.Key × D)}, (kvs.any fun p => decide (p.1 = k')) = true → lkK k (kvs.map fun p => if p.1 = k' then (p.1, d) else p) = if k = k' then some d else lkK k kvs
  | [], h => by cases h
  | p :: r, h => by
    rw [List.map_cons]
    by_cases q : p.1 = k'
    · rw [if_pos q]
      unfold lkK
      by_cases z : p.1 = k
      · rw [if_pos z, if_pos z, if_pos (z.symm.trans q)]
      · have nk : k ≠ k' := fun e => z (q.trans e.symm)
        rw [if_neg z, if_neg z, if_neg nk]
        cases hr : (r.any fun p => decide (p.1 = k')) with
        | true => rw [lkK_map hr, if_neg nk]
        | false =>
          have : (r.map fun p => if p.1 = k' then (p.1, d) else p) = r := by
            conv => rhs; rw [← List.map_id r]
            refine List.map_congr_left fun p hp => ?_
            have := List.any_eq_false.mp hr p hp
            rw [if_neg (by simpa using this)]; rfl
          rw [this]
    · rw [if_neg q]
      rw [List.any_cons, decide_eq_false q, Bool.false_or] at h
      unfold lkK
      by_cases z : p.1 = k
      · have nk : k ≠ k' := fun e => q (z.trans e)
        rw [if_pos z, if_neg nk, if_pos z]
      · rw [if_neg z, lkK_map h, if_neg z]
theorem DInv.put {kvs : List (List L2.Key × D)} {seen : List Int} (I : DInv kvs seen) (k : Int) : DInv (putKD [Sum.inl k] (.bl true) kvs) (k :: seen) := by
  unfold putKD
  cases h : (kvs.any fun p => decide (p.1 = [Sum.inl k])) with
  | true =>
    rw [if_pos rfl]
    refine ⟨fun j => ?_, by rw [List.length_map, List.length_cons]; have := I.len; omega⟩
    rw [lkK_map h, I.at_]
    by_cases e : j = k
    · subst e
      rw [if_pos rfl, if_pos List.mem_cons_self]
    · rw [if_neg (by simp [e])]
      by_cases m : j ∈ seen
      · rw [if_pos m, if_pos (List.mem_cons_of_mem _ m)]
      · rw [if_neg m, if_neg (by simp [e, m])]
  | false =>
    rw [if_neg (by simp)]
    refine ⟨fun j => ?_, by rw [List.length_append, List.length_cons]; have := I.len; simp; omega⟩
    rw [lkK_app, I.at_]
    by_cases e : j = k
    · subst e
      have z := lkK_none h
      rw [I.at_] at z
      have m : j ∉ seen := fun m => by rw [if_pos m] at z; cases z
      rw [if_neg m, if_pos List.mem_cons_self, if_pos rfl]; rfl
    · rw [if_neg (show ¬ ([Sum.inl k] : List L2.Key) = [Sum.inl j] by simp; exact fun z => e z.symm)]
      by_cases m : j ∈ seen
      · rw [if_pos m, if_pos (List.mem_cons_of_mem _ m)]; rfl
      · rw [if_neg m, if_neg (by simp [e, m])]; rfl
theorem dput_ap {o i v : M D} {ε : Ev} {h : EH} {d x y : D} (hv : v ε h = some (.ok d, h)) (ho : o ε h = some (.ok x, h)) (hi : i ε h = some (.ok y, h)) : msDPut o i v ε h = (putDc h x y d).map fun h4 => (.nx ε, h4) := by
  unfold msDPut
  rw [hv, bS_ok, ho, bS_ok, hi, bS_ok]
theorem putDc_ok {kvs : List (List L2.Key × D)} {k : Int} {d : D} (l : kvs.length ≤ 1000) : putDc [.dic false kvs] (.ref 0) (.int k) d = some [.dic false (putKD [Sum.inl k] d kvs)] := by
  show (if kvs.length < 16777216 then some _ else none) = _
  rw [if_pos (by omega)]; rfl
theorem din_ok {kvs : List (List L2.Key × D)} {seen : List Int} (I : DInv kvs seen) (k : Int) : dDIn false [.dic false kvs] (.int k) (.ref 0) = some (.bl (decide (k ∈ seen))) := by
  show ((dDGet [.dic false kvs] (.ref 0) (.int k)).map fun r => D.bl (false != r.isSome)) = _
  rw [show dDGet [.dic false kvs] (.ref 0) (.int k) = some (lkK [Sum.inl k] kvs) from rfl, I.at_]
  by_cases m : k ∈ seen
  · rw [if_pos m, decide_eq_true m]; rfl
  · rw [if_neg m, decide_eq_false m]; rfl
theorem row_head {n : Nat} (hn : 1 ≤ n) {d : D} (h : isRow n d = true) : ∃ ds, d = .tup (.int (headI d) :: ds) := by
  cases d with
  | tup ds =>
    have h' : (decide (ds.length = n) && ds.all isInt) = true := h
    simp only [Bool.and_eq_true, decide_eq_true_eq] at h'
    cases ds with
    | nil => simp at h'; omega
    | cons a r =>
      have ha : isInt a = true := by
        have := h'.2
        rw [List.all_cons, Bool.and_eq_true] at this
        exact this.1
      cases a with
      | int k => exact ⟨r, rfl⟩
      | _ => cases ha
  | _ => cases h
abbrev gER : MG := mgTup 2 (mgCons (mgName 5) (mgCons (mgName 6) mgNil))
theorem chk_loop {n t : Nat} (hn : 1 ≤ n) {x y o4 : Option D} : ∀ (ds : List D) (i : Nat) (seen : List Int) (kvs : List (List L2.Key × D)) (o5 o6 : Option D), (∀ d ∈ ds, okD (t + 1) d = true) → DInv kvs seen → seen.length + ds.length ≤ 1000 →
    match chk n ds i seen with
    | none => ∃ o5' o6' h', forL gER mb_checked_rows_0 ((ds.zipIdx i).map fun p => .tup [.int (p.2 : Nat), p.1]) [x, some (.int n), y, some (.ref 0), o4, o5, o6] [.dic false kvs] = some (.nx [x, some (.int n), y, some (.ref 0), o4, o5', o6'], h')
    | some j => ∃ ε' h', forL gER mb_checked_rows_0 ((ds.zipIdx i).map fun p => .tup [.int (p.2 : Nat), p.1]) [x, some (.int n), y, some (.ref 0), o4, o5, o6] [.dic false kvs] = some (.ex (irX j) ε', h')
  | [], i, seen, kvs, o5, o6, _, _, _ => ⟨o5, o6, _, rfl⟩
  | d :: ds, i, seen, kvs, o5, o6, ho, I, hl => by
    have od := ho d List.mem_cons_self
    have ir := fun h : EH => isrow_any n od h
    rw [List.zipIdx_cons, List.map_cons]
    rw [List.length_cons] at hl
    have g1 : gER (.tup [.int (i : Nat), d]) [x, some (.int n), y, some (.ref 0), o4, o5, o6] [.dic false kvs] = some ([x, some (.int n), y, some (.ref 0), o4, some (.int i), some d], [.dic false kvs]) := rfl
    unfold chk
    by_cases q : isRow n d = true
    · obtain ⟨rs, e⟩ := row_head hn q
      have ix : ∀ h : EH, dIx h d (.int 0) = some (.int (headI d)) := fun h => (congrArg (fun z => dIx h z (.int 0)) e).trans ((ix_tup _ _).trans atl0)
      have di := din_ok I (headI d)
      have ir1 := fun h : EH => (by have z := ir h; rw [q] at z; exact z : callPK F_is_row [d, .int n] h = some (.ok (.bl true), h))
      by_cases m : headI d ∈ seen
      · rw [if_neg (fun z => z.2 m)]
        rw [decide_eq_true m] at di
        refine ⟨[x, some (.int n), y, some (.ref 0), o4, some (.int i), some d], [.dic false kvs], ?_⟩
        refine forL_ex g1 ?_
        simp! only [mb_checked_rows_0, ir1, ix, di, raise_ap, raiseK_1]
        rfl
      · rw [if_pos ⟨q, m⟩]
        rw [decide_eq_false m] at di
        have pd := putDc_ok (kvs := kvs) (k := headI d) (d := .bl true) (by have := I.len; omega)
        have st : mb_checked_rows_0 [x, some (.int n), y, some (.ref 0), o4, some (.int i), some d] [.dic false kvs] = some (.nx [x, some (.int n), y, some (.ref 0), o4, some (.int i), some d], [.dic false (putKD [Sum.inl (headI d)] (.bl true) kvs)]) := by
          have dp : msDPut (mVar 3) (mBin dIx (mVar 6) (mC (.int 0))) (mC (.bl true)) [x, some (.int n), y, some (.ref 0), o4, some (.int i), some d] [.dic false kvs] = _ := dput_ap (d := .bl true) (x := .ref 0) (y := .int (headI d)) rfl rfl (by simp! only [ix])
          rw [pd] at dp
          simp! only [mb_checked_rows_0, ir1, ix, di, dp]
        have IH := chk_loop hn (x := x) (y := y) (o4 := o4) ds (i + 1) (headI d :: seen) (putKD [Sum.inl (headI d)] (.bl true) kvs) (some (.int i)) (some d) (fun z hz => ho z (List.mem_cons_of_mem _ hz)) (I.put _) (by rw [List.length_cons]; omega)
        rw [forL_nx g1 st]
        exact IH
    · rw [if_neg (fun z => q z.1)]
      have ir1 := fun h : EH => (by have z := ir h; rw [Bool.eq_false_iff.mpr q] at z; exact z : callPK F_is_row [d, .int n] h = some (.ok (.bl false), h))
      refine ⟨[x, some (.int n), y, some (.ref 0), o4, some (.int i), some d], [.dic false kvs], ?_⟩
      refine forL_ex g1 ?_
      simp! only [mb_checked_rows_0, ir1, raise_ap, raiseK_1]
      rfl
theorem keys_loop {n : Nat} {x y : Option D} : ∀ (ks seen : List Int) (kvs : List (List L2.Key × D)) (o4 : Option D), DInv kvs seen → seen.length + ks.length ≤ 1000 →
    ∃ o4' kvs', forL (mgName 4) (msDPut (mVar 3) (mVar 4) (mC (.bl true))) (ks.map .int) [x, some (.int n), y, some (.ref 0), o4, none, none] [.dic false kvs] = some (.nx [x, some (.int n), y, some (.ref 0), o4', none, none], [.dic false kvs']) ∧ DInv kvs' (ks.reverse ++ seen)
  | [], seen, kvs, o4, I, _ => ⟨o4, kvs, rfl, I⟩
  | k :: ks, seen, kvs, o4, I, hl => by
    rw [List.length_cons] at hl
    have pd := putDc_ok (kvs := kvs) (k := k) (d := .bl true) (by have := I.len; omega)
    have dp : msDPut (mVar 3) (mVar 4) (mC (.bl true)) [x, some (.int n), y, some (.ref 0), some (.int k), none, none] [.dic false kvs] = _ := dput_ap (d := .bl true) (x := .ref 0) (y := .int k) rfl rfl rfl
    rw [pd] at dp
    obtain ⟨o, kvs', e, I'⟩ := keys_loop (x := x) (y := y) ks (k :: seen) _ (some (.int k)) (I.put k) (by rw [List.length_cons]; omega)
    refine ⟨o, kvs', ?_, by rw [List.reverse_cons, List.append_assoc]; exact I'⟩
    rw [List.map_cons, forL_nx (ε1 := [x, some (.int n), y, some (.ref 0), some (.int k), none, none]) (h1 := [.dic false kvs]) rfl dp]
    exact e
def seqR (b : Bool) (ds : List D) : D := if b = true then .tup ds else .lst ds
theorem seqR_no {b : Bool} {ds : List D} (n : PD.noRef.go ds = true) : PD.noRef (seqR b ds) = true := by cases b <;> exact n
theorem checked_ok {n t : Nat} (hn : 1 ≤ n) {b : Bool} {ds : List D} {ks : List Int} (ho : ∀ d ∈ ds, okD (t + 1) d = true) (hl : ks.length + ds.length ≤ 1000) (h : EH) : callPK F_checked_rows [seqR b ds, .int n, .lst (ks.map .int)] h = some (match chk n ds 0 ks.reverse with
    | none => .ok (.lst ds)
    | some j => .ex (irX j), h) := by
  have nr : PD.noRef.go ds = true := noRef_all fun d hd => okD_noRef (ho d hd)
  have nk : PD.noRef.go (ks.map D.int) = true := noRef_all fun d hd => by
    obtain ⟨i, _, rfl⟩ := List.mem_map.mp hd
    rfl
  refine callPK_ok (F := F_checked_rows) ?_ (by
    show (PD.noRef (seqR b ds) && (true && (PD.noRef.go (ks.map D.int) && true))) = true
    rw [seqR_no nr, nk]; rfl)
  have li : callPK PQ.F_is_listed [seqR b ds] [] = some (.ok (.bl true), []) := by
    cases b
    · exact listed_lst ds nr []
    · exact listed_tup ds nr []
  have I0 : DInv [] [] := ⟨fun k => rfl, Nat.le_refl _⟩
  obtain ⟨o4, kvs, e1, I1⟩ := keys_loop (n := n) (x := some (seqR b ds)) (y := some (.lst (ks.map .int))) ks [] [] none I0 (by rw [List.length_nil]; omega)
  rw [List.append_nil] at I1
  have e2 := chk_loop (t := t) hn (x := some (seqR b ds)) (y := some (.lst (ks.map .int))) (o4 := o4) ds 0 ks.reverse kvs none none ho I1 (by rw [List.length_reverse]; exact hl)
  have en : ∀ (ε : Ev) (h : EH), ienK [seqR b ds] h = some (.ok (enumD ds), h) := fun ε h => by cases b <;> rfl
  have ls : ∀ h : EH, dList h [seqR b ds] = some (.lst ds) := fun h => by cases b <;> rfl
  have dn : ∀ (ε : Ev) (h : EH), mDnew ε h = some (.ok (.ref h.length), h ++ [.dic false []]) := fun _ _ => rfl
  show endP (m_checked_rows [some (seqR b ds), some (.int n), some (.lst (ks.map .int)), none, none, none, none] []) = _
  have ez : (ds.zipIdx 0).map (fun p : D × Nat => D.tup [.int (p.2 : Nat), p.1]) = enumD ds := rfl
  rw [ez] at e2
  cases q : chk n ds 0 ks.reverse with
  | none =>
    rw [q] at e2
    obtain ⟨o5, o6, h', e2⟩ := e2
    simp! only [m_checked_rows, li, dn, List.length_nil, List.nil_append, e1, en [], e2, ls]
    exact endP_ok (show PD.noRef.go ds = true from nr)
  | some j =>
    rw [q] at e2
    obtain ⟨ε', h', e2⟩ := e2
    simp! only [m_checked_rows, li, dn, List.length_nil, List.nil_append, e1, en [], e2]
    exact endP_ex rfl
end PU
namespace PU
open PySem PD PV PQ
theorem pull_v {k : Cell} (hk : BagI k) {n : Int} (hn : 0 < n) (hn2 : n < 1073741824) (t : EH) : ∃ d k', PV.F__law_pull [.ref 0, .int n] (k :: t) = some (.ok (.int d), k' :: t) ∧ 0 ≤ d ∧ d < n ∧ BagI k' := pull_ok hk hn hn2 t
theorem noRef_mem : ∀ {ds : List D}, PD.noRef.go ds = true → ∀ {d : D}, d ∈ ds → PD.noRef d = true
  | [], _, _, h => nomatch h
  | x :: ds, h, d, m => by
    rw [PD.noRef.go, Bool.and_eq_true] at h
    rcases List.mem_cons.mp m with e | e
    · rw [e]; exact h.1
    · exact noRef_mem h.2 e
theorem insert_ok {o i e : M D} {ε : Ev} {h h1 h2 : EH} {n : Nat} {j y : D} (ho : o ε h = some (.ok (.ref n), h)) (hl : isLc h (.ref n) = true) (hi : i ε h = some (.ok j, h1)) (he : e ε h1 = some (.ok y, h1)) (hd : insD2 h1 (.ref n) j y = some h2) : mInsert o i e ε h = some (.ok .non, h2) := by
  unfold mInsert
  rw [ho, bR_ok, if_pos hl, hi, bR_ok, he, bR_ok, hd]; rfl
theorem lcH_ins {k : Cell} {t : EH} {ds : List D} {y : D} {j : Int} (h0 : 0 ≤ j) (h1 : j < 1000000) (l : ds.length < 1000000) : insD2 (lcH k t ds) (.ref (t.length + 1)) (.int j) y = some (lcH k t (ds.take j.toNat ++ [y] ++ ds.drop j.toNat)) := by
  unfold insD2
  simp only [lcH_at]
  rw [if_pos ⟨by unfold PySem.sizeLine; omega, h0, by omega⟩]
  unfold lcH
  rw [List.set_cons_succ, List.set_append_right _ _ (Nat.le_refl _), Nat.sub_self]; rfl
theorem perm_ins {α : Type} (ds : List α) (y : α) (j : Nat) : (ds.take j ++ [y] ++ ds.drop j).Perm (ds ++ [y]) := by
  have e : ds.take j ++ [y] ++ ds.drop j = ds.take j ++ y :: ds.drop j := by simp
  rw [e]
  refine List.perm_middle.trans ?_
  rw [List.take_append_drop]
  exact (List.perm_append_singleton y ds).symm
theorem mixed_loop {x : Option D} {t : EH} : ∀ (ds found : List D) (k : Cell) (o : Option D), BagI k → found.length + ds.length ≤ 1000 →
    ∃ (k' : Cell) (o' : Option D) (found' : List D), forL (mgName 3) mb__law_mixed_0 ds [some (.ref 0), x, some (.ref (t.length + 1)), o] (lcH k t found) = some (.nx [some (.ref 0), x, some (.ref (t.length + 1)), o'], lcH k' t found') ∧ found'.Perm (found ++ ds) ∧ BagI k'
  | [], found, k, o, hk, _ => ⟨k, o, found, rfl, by rw [List.append_nil], hk⟩
  | d :: ds, found, k, o, hk, hl => by
    rw [List.length_cons] at hl
    obtain ⟨j, k1, e1, h0, h1, hk1⟩ := pull_v hk (n := (found.length : Int) + 1) (by omega) (by omega) (t ++ [.lst found])
    have e1' : PV.F__law_pull [.ref 0, .int ((found.length : Int) + 1)] (lcH k t found) = some (.ok (.int j), lcH k1 t found) := e1
    have ll := lcH_len (k := k) (t := t) (ds := found)
    have i1 : mInsert (mVar 2) (mCallI PV.F__law_pull (mCons (mVar 0) (mCons (mBin dAdd (mCall dLen (mCons (mVar 2) mNil)) (mC (.int 1))) mNil))) (mVar 3) [some (.ref 0), x, some (.ref (t.length + 1)), some d] (lcH k t found) = some (.ok .non, lcH k1 t (found.take j.toNat ++ [d] ++ found.drop j.toNat)) :=
      insert_ok rfl lcH_is (by dsimp? only [ll, e1'] : _ = some (PD.R.ok (D.int j), lcH k1 t found)) rfl (lcH_ins h0 (by omega) (by omega))
    have pm := perm_ins found d j.toNat
    have pl : (found.take j.toNat ++ [d] ++ found.drop j.toNat).length = found.length + 1 := by rw [pm.length_eq, List.length_append, List.length_singleton]
    obtain ⟨k2, o2, f2, e2, p2, hk2⟩ := mixed_loop (x := x) (t := t) ds (found.take j.toNat ++ [d] ++ found.drop j.toNat) k1 (some d) hk1 (by omega)
    refine ⟨k2, o2, f2, ?_, p2.trans ((pm.append_right ds).trans (by rw [List.append_assoc]; exact List.Perm.refl _)), hk2⟩
    rw [forL_nx (ε1 := [some (.ref 0), x, some (.ref (t.length + 1)), some d]) (h1 := lcH k t found) rfl (by dsimp? only [mb__law_mixed_0, i1] : _ = some (RS.nx [some (.ref 0), x, some (.ref (t.length + 1)), some d], lcH k1 t (found.take j.toNat ++ [d] ++ found.drop j.toNat)))]
    exact e2
theorem mixed_ok {k : Cell} (hk : BagI k) {ds : List D} (nr : PD.noRef.go ds = true) (l : ds.length ≤ 1000) {t : EH} (hp : t.all pureC = true) : ∃ (k' : Cell) (es : List D), F__law_mixed [.ref 0, .lst ds] (k :: t) = some (.ok (.lst es), k' :: t) ∧ es.Perm ds ∧ BagI k' := by
  obtain ⟨k1, o1, es, e1, p1, hk1⟩ := mixed_loop (x := some (.lst ds)) (t := t) ds [] k none hk (by rw [List.length_nil]; omega)
  rw [List.nil_append] at p1
  have ne : PD.noRef.go es = true := noRef_all fun d hd => noRef_mem nr (p1.mem_iff.mp hd)
  refine ⟨k1, es, ?_, p1, hk1⟩
  have lc : lstCK [] (k :: t) = some (.ok (.ref (t.length + 1)), lcH k t []) := rfl
  show endI (t.length + 1) (m__law_mixed [some (.ref 0), some (.lst ds), none, none] (k :: t)) = _
  have run : m__law_mixed [some (.ref 0), some (.lst ds), none, none] (k :: t) = some (.rt (.ref (t.length + 1)), lcH k1 t es) := by
    dsimp? only [m__law_mixed, lc, e1]
  rw [run]
  exact lcH_end hk1 hp ne
def small (i : Int) : Prop := -10000 ≤ i ∧ i ≤ 10000
structure RowsOk (n : Nat) (rs : List (List Int)) : Prop where
  len : ∀ r ∈ rs, r.length = n
  up : rs.Pairwise fun a b => a.headD 0 < b.headD 0
  sm : ∀ r ∈ rs, ∀ i ∈ r, small i
theorem any4 {k : Cell} (hk : BagI k) (t : EH) : ∃ (i : Int) (k' : Cell), PV.F__law_any [.ref 0, .lst [.int 0, .int 0, .int 1, .int 2]] (k :: t) = some (.ok (.int i), k' :: t) ∧ 0 ≤ i ∧ i ≤ 2 ∧ BagI k' := by
  obtain ⟨d, k3, e3, hd, hk3⟩ := any_lst hk (ds := [.int 0, .int 0, .int 1, .int 2]) (by simp) (by simp) (by simp [PD.noRef]) t
  have key : ∃ i : Int, d = .int i ∧ 0 ≤ i ∧ i ≤ 2 := by
    simp only [List.mem_cons, List.not_mem_nil, or_false] at hd
    rcases hd with rfl | rfl | rfl | rfl <;> exact ⟨_, rfl, by omega⟩
  obtain ⟨i, rfl, h1, h2⟩ := key
  exact ⟨i, k3, e3, h1, h2, hk3⟩
theorem ints_of {P : Int → Prop} : ∀ {ys : List D}, (∀ y ∈ ys, ∃ i, y = .int i ∧ P i) → ∃ is : List Int, ys = is.map .int ∧ ∀ i ∈ is, P i
  | [], _ => ⟨[], rfl, fun _ h => nomatch h⟩
  | y :: ys, h => by
    obtain ⟨i, e, p⟩ := h y List.mem_cons_self
    obtain ⟨is, e2, p2⟩ := ints_of fun z hz => h z (List.mem_cons_of_mem _ hz)
    refine ⟨i :: is, by rw [e, e2]; rfl, fun j hj => ?_⟩
    rcases List.mem_cons.mp hj with q | q
    · rw [q]; exact p
    · exact p2 j q
def rE (cols : List (List Nat)) (most : Nat) (t : EH) (a : Option D) (key : Int) (b : Option D) : Ev := [some (.ref 0), some (ts cols), some (.int most), a, some (.int key), some (.ref (t.length + 1)), b]
theorem cell_ok {key : Int} (hkey : -1000 ≤ key ∧ key ≤ 1000) {ε : Ev} (e0 : ε.getD 0 none = some (.ref 0)) (e4 : ε.getD 4 none = some (.int key)) {k : Cell} (hk : BagI k) (t : EH) : ∃ (i : Int) (k' : Cell), me__law_rows_0 ε (k :: t) = some (.ok (.int i), k' :: t) ∧ small i ∧ BagI k' := by
  obtain ⟨j, k1, e1, h0, h1, hk1⟩ := pull_v hk (n := 3) (by decide) (by decide) t
  obtain ⟨i, k2, e2, hi, hk2⟩ := near_ok hk1 t
  by_cases q : 0 < j
  · refine ⟨key + i, k2, ?_, ⟨by omega, by omega⟩, hk2⟩
    simp! only [me__law_rows_0, e0, e4, e1, q, e2]
  · refine ⟨i, k2, ?_, ⟨by omega, by omega⟩, hk2⟩
    simp! only [me__law_rows_0, e0, e4, e1, q, e2]
theorem cells_ok {cols : List (List Nat)} {most : Nat} {t : EH} {a b : Option D} {key : Int} (hkey : -1000 ≤ key ∧ key ≤ 1000) (hc : cols.length ≤ 100) {k : Cell} (hk : BagI k) (found : List D) : ∃ (is : List Int) (k' : Cell),
    lcK [6] (mgName 6) mYes me__law_rows_0 (rE cols most t a key b) ((cols.drop 1).map .str) (lcH k t found) = some (.ok (.lst (is.map .int)), lcH k' t found) ∧ is.length = cols.length - 1 ∧ (∀ i ∈ is, small i) ∧ BagI k' := by
  obtain ⟨ys, k1, e1, l1, p1, hk1⟩ := lcL_bag (g := mgName 6) (e := me__law_rows_0) (ε := rE cols most t a key none) (fun y => ∃ i, y = .int i ∧ small i) (ds := (cols.drop 1).map .str) (fun d _ k' t' hk' => by
    obtain ⟨i, k2, e, s, h⟩ := cell_ok hkey (ε := rE cols most t a key (some d)) rfl rfl hk' t'
    exact ⟨rE cols most t a key (some d), .int i, k2, rfl, e, ⟨i, rfl, s⟩, h⟩) k (t ++ [.lst found]) hk
  obtain ⟨is, rfl, hs⟩ := ints_of p1
  rw [List.length_map, List.length_map, List.length_drop] at l1
  have lk := lcK_ok (vs := [6]) (ε := rE cols most t a key b) (h := lcH k t found) (h' := lcH k1 t found) e1 (by rw [List.length_map]; omega)
  exact ⟨is, k1, lk, l1, hs, hk1⟩
/-- a turn: a new row behind those that are found -/
theorem row_turn {cols : List (List Nat)} {most : Nat} {t : EH} {a b : Option D} {key : Int} {rs : List (List Int)} (hc : 1 ≤ cols.length ∧ cols.length ≤ 100) (hkey : -900 ≤ key ∧ key ≤ 900) (hrs : RowsOk cols.length rs) (hlast : ∀ r ∈ rs, r.headD 0 ≤ key) (hl : rs.length ≤ 100) {k : Cell} (hk : BagI k) : ∃ (key' : Int) (r : List Int) (k' : Cell) (b' : Option D),
    mb__law_rows_1 (rE cols most t a key b) (lcH k t (rs.map rowD)) = some (.nx (rE cols most t a key' b), lcH k' t ((rs ++ [r]).map rowD)) ∧ RowsOk cols.length (rs ++ [r]) ∧ (∀ q ∈ rs ++ [r], q.headD 0 ≤ key') ∧ key' ≤ key + 3 ∧ key ≤ key' ∧ BagI k' := by
  obtain ⟨i, k1, e1, h0, h1, hk1⟩ := any4 hk (t ++ [.lst (rs.map rowD)])
  obtain ⟨is, k2, e2, l2, s2, hk2⟩ := cells_ok (cols := cols) (most := most) (t := t) (a := a) (b := b) (key := key + 1 + i) (by omega) hc.2 hk1 (rs.map rowD)
  have e1' : PV.F__law_any [.ref 0, .lst [.int 0, .int 0, .int 1, .int 2]] (lcH k t (rs.map rowD)) = some (.ok (.int i), lcH k1 t (rs.map rowD)) := e1
  have ap := lcH_ap (k := k2) (t := t) (ds := rs.map rowD) (y := rowD ((key + 1 + i) :: is)) (by rw [List.length_map]; omega)
  have apk := fun (e : M D) (ε : Ev) => lcH_apK (k := k1) (t := t) (ds := rs.map rowD) (e := e) (ε := ε)
  have ad : ∀ h : EH, dAdd h (.lst [.int (key + 1 + i)]) (.lst (is.map .int)) = some (.lst (.int (key + 1 + i) :: is.map .int)) := fun h => add_lst (a := [.int (key + 1 + i)]) (b := is.map .int) (by rw [List.length_map, List.length_singleton]; omega)
  have rd : D.tup (.int (key + 1 + i) :: is.map .int) = rowD ((key + 1 + i) :: is) := rfl
  have rE1 : rE cols most t a key b = [some (.ref 0), some (ts cols), some (.int most), a, some (.int key), some (.ref (t.length + 1)), b] := rfl
  have rE2 : rE cols most t a (key + 1 + i) b = [some (.ref 0), some (ts cols), some (.int most), a, some (.int (key + 1 + i)), some (.ref (t.length + 1)), b] := rfl
  rw [rE2] at e2
  refine ⟨key + 1 + i, (key + 1 + i) :: is, k2, b, ?_, ⟨fun r hr => ?_, ?_, fun r hr => ?_⟩, fun q hq => ?_, by omega, by omega, hk2⟩
  · rw [rE1, rE2, List.map_append, List.map_singleton]
    have c1 := cut1 cols
    have ts_ : ts cols = .tup (cols.map .str) := rfl
    rw [ts_] at e2 ⊢
    simp! only [mb__law_rows_1, e1', apk, c1, e2, ad, rd, ap]
  · rcases List.mem_append.mp hr with h | h
    · exact hrs.len r h
    · rw [List.mem_singleton.mp h, List.length_cons, l2]; omega
  · rw [List.pairwise_append]
    refine ⟨hrs.up, List.pairwise_singleton _ _, fun x hx y hy => ?_⟩
    rw [List.mem_singleton.mp hy]
    have := hlast x hx
    show x.headD 0 < key + 1 + i
    omega
  · rcases List.mem_append.mp hr with h | h
    · exact hrs.sm r h
    · rw [List.mem_singleton.mp h]
      intro j hj
      rcases List.mem_cons.mp hj with e | hj
      · rw [e]; exact ⟨by omega, by omega⟩
      · exact s2 j hj
  · rcases List.mem_append.mp hq with h | h
    · have := hlast q h; omega
    · rw [List.mem_singleton.mp h]; exact Int.le_refl _
theorem rows_loop {cols : List (List Nat)} {most : Nat} {t : EH} {b : Option D} (hc : 1 ≤ cols.length ∧ cols.length ≤ 100) : ∀ (n m : Nat) (a : Option D) (key : Int) (rs : List (List Int)) (k : Cell), n + rs.length ≤ 100 → -100 ≤ key ∧ key + 3 * (n : Int) ≤ 500 → RowsOk cols.length rs → (∀ r ∈ rs, r.headD 0 ≤ key) → BagI k →
    ∃ (a' : Option D) (key' : Int) (rs' : List (List Int)) (k' : Cell), forL (mgName 3) mb__law_rows_1 ((List.range n).map fun i => .int ((m + i : Nat) : Int)) (rE cols most t a key b) (lcH k t (rs.map rowD)) = some (.nx (rE cols most t a' key' b), lcH k' t (rs'.map rowD)) ∧ RowsOk cols.length rs' ∧ rs'.length = rs.length + n ∧ BagI k'
  | 0, m, a, key, rs, k, _, _, h, _, hk => ⟨a, key, rs, k, rfl, h, rfl, hk⟩
  | n + 1, m, a, key, rs, k, hl, hkey, h, hlast, hk => by
    obtain ⟨key1, r, k1, _, e1, h1, hl1, u1, u2, hk1⟩ := row_turn (most := most) (t := t) (a := some (.int (m : Nat))) (b := b) hc (key := key) (by omega) h hlast (by omega) hk
    obtain ⟨a', key', rs', k', e2, h2, l2, hk2⟩ := rows_loop (most := most) (t := t) (b := b) hc n (m + 1) (some (.int (m : Nat))) key1 (rs ++ [r]) k1 (by rw [List.length_append, List.length_singleton]; omega) (by omega) h1 hl1 hk1
    refine ⟨a', key', rs', k', ?_, h2, by rw [l2, List.length_append, List.length_singleton]; omega, hk2⟩
    rw [List.range_succ_eq_map, List.map_cons, List.map_map]
    rw [forL_nx (ε1 := rE cols most t (some (.int (m : Nat))) key b) (h1 := lcH k t (rs.map rowD)) rfl e1]
    rw [← e2]
    congr 1
    refine List.map_congr_left fun i _ => ?_
    show D.int ((m + (i + 1) : Nat) : Int) = D.int ((m + 1 + i : Nat) : Int)
    rw [show m + (i + 1) = m + 1 + i by omega]
theorem rows_ok {cols : List (List Nat)} {most : Nat} (hc : 1 ≤ cols.length ∧ cols.length ≤ 100) (hm : most ≤ 20) {k : Cell} (hk : BagI k) {t : EH} (hp : t.all pureC = true) : ∃ (rs : List (List Int)) (k' : Cell), F__law_rows [.ref 0, ts cols, .int most] (k :: t) = some (.ok (.lst (rs.map rowD)), k' :: t) ∧ RowsOk cols.length rs ∧ rs.length ≤ most ∧ BagI k' := by
  obtain ⟨i, k1, e1, hi, hk1⟩ := near_ok hk t
  obtain ⟨j, k2, e2, h0, h1, hk2⟩ := pull_v hk1 (n := (most : Int) + 1) (by omega) (by omega) (t ++ [.lst []])
  obtain ⟨n, rfl⟩ : ∃ n : Nat, j = (n : Int) := ⟨j.toNat, by omega⟩
  have e2' : PV.F__law_pull [.ref 0, .int ((most : Int) + 1)] (lcH k1 t []) = some (.ok (.int (n : Int)), lcH k2 t []) := e2
  have lc : lstCK [] (k1 :: t) = some (.ok (.ref (t.length + 1)), lcH k1 t []) := rfl
  obtain ⟨a', key', rs, k3, e3, h3, l3, hk3⟩ := rows_loop (cols := cols) (most := most) (t := t) (b := none) hc n 0 none (i - 2) [] k2 (by rw [List.length_nil]; omega) (by omega) ⟨(fun _ h => nomatch h), List.Pairwise.nil, (fun _ h => nomatch h)⟩ (fun _ h => nomatch h) hk2
  have er : (List.range n).map (fun i => D.int ((0 + i : Nat) : Int)) = rngD 0 n := by
    unfold rngD
    refine List.map_congr_left fun i _ => ?_
    rw [Nat.zero_add, Int.zero_add]
  rw [er] at e3
  have ir := ir1K_ok (h := lcH k2 t []) (j := (n : Int)) (by omega)
  rw [show (n : Int).toNat = n from rfl] at ir
  refine ⟨rs, k3, ?_, h3, by rw [l3, List.length_nil]; omega, hk3⟩
  have rE1 : rE cols most t none (i - 2) none = [some (.ref 0), some (ts cols), some (.int most), none, some (.int (i - 2)), some (.ref (t.length + 1)), none] := rfl
  have rE2 : rE cols most t a' key' none = [some (.ref 0), some (ts cols), some (.int most), a', some (.int key'), some (.ref (t.length + 1)), none] := rfl
  have m0 : lcH k2 t (([] : List (List Int)).map rowD) = lcH k2 t [] := rfl
  rw [rE1, rE2, m0] at e3
  show endI (t.length + 1) (m__law_rows [some (.ref 0), some (ts cols), some (.int most), none, none, none, none] (k :: t)) = _
  have run : m__law_rows [some (.ref 0), some (ts cols), some (.int most), none, none, none, none] (k :: t) = some (.rt (.ref (t.length + 1)), lcH k3 t (rs.map rowD)) := by
    simp! only [m__law_rows, e1, lc, e2', ir, e3]
  rw [run]
  exact lcH_end hk3 hp (rows_no rs)
end PU
namespace K16
open PySem PySem.Spec PyProof.Rows L2 PD
variable [LamTab]
def lam_0 : LamD := ⟨"law.<locals>.<lambda>", lamArgs lamE0, lamBody lamE0, lamScope lamE0, ["_law_table", "_law_bad"], false⟩
def lam_1 : LamD := ⟨"Table.__init__.<locals>.<lambda>", lamArgs lamE1, lamBody lamE1, lamScope lamE1, [], false⟩
def lams : Nat → LamD
  | 0 => lam_0
  | _ => lam_1
structure CtxT (P : Program) (K : PySem.W.Frag) (w : World) (mg : Str → Option Value) : Prop where
  d_is_listed : ∃ f fd, FunD K "is_listed" "is_listed" (defArgs (top 13)) (defBody (top 13)) (defScope (top 13)) [] [] f fd ∧ mg "is_listed" = some (.ref f)
  d_is_name : ∃ f fd, FunD K "is_name" "is_name" (defArgs (top 11)) (defBody (top 11)) (defScope (top 11)) [] [] f fd ∧ mg "is_name" = some (.ref f)
  d_all_columns : ∃ f fd, FunD K "all_columns" "all_columns" (defArgs (top 14)) (defBody (top 14)) (defScope (top 14)) [] [] f fd ∧ mg "all_columns" = some (.ref f)
  d_is_integer : ∃ f fd, FunD K "is_integer" "is_integer" (defArgs (top 12)) (defBody (top 12)) (defScope (top 12)) [] [] f fd ∧ mg "is_integer" = some (.ref f)
  d_is_row : ∃ f fd, FunD K "is_row" "is_row" (defArgs (top 16)) (defBody (top 16)) (defScope (top 16)) [] [] f fd ∧ mg "is_row" = some (.ref f)
  d_checked_rows : ∃ f fd, FunD K "checked_rows" "checked_rows" (defArgs (top 17)) (defBody (top 17)) (defScope (top 17)) [] [] f fd ∧ mg "checked_rows" = some (.ref f)
  q_Table_init_rows : dB K (.tup []) (.ref (He.dflAt ("Table", some "__init__") 0 K)) = true
  d_Table_init : ∃ Ca f fd, mg "Table" = some (.ref Ca) ∧ Cls K Ca ∧ Mk K Ca f ∧ FunD K "__init__" "Table.__init__" (defArgs s_Table_init) (defBody s_Table_init) (defScope s_Table_init) [V.ref (He.dflAt ("Table", some "__init__") 0 K)] [] f fd
  d_Table_add : ∃ Ca f fd, mg "Table" = some (.ref Ca) ∧ Cls K Ca ∧ Meth K Ca "__add__" f ∧ FunD K "__add__" "Table.__add__" (defArgs s_Table_add) (defBody s_Table_add) (defScope s_Table_add) [] [] f fd
  d__law_draws : ∃ f fd, FunD K "_law_draws" "_law_draws" (defArgs (top 21)) (defBody (top 21)) (defScope (top 21)) [] [] f fd ∧ mg "_law_draws" = some (.ref f)
  d__law_pull : ∃ f fd, FunD K "_law_pull" "_law_pull" (defArgs (top 22)) (defBody (top 22)) (defScope (top 22)) [] [] f fd ∧ mg "_law_pull" = some (.ref f)
  d__law_any : ∃ f fd, FunD K "_law_any" "_law_any" (defArgs (top 23)) (defBody (top 23)) (defScope (top 23)) [] [] f fd ∧ mg "_law_any" = some (.ref f)
  d__law_reserved : ∃ f fd, FunD K "_law_reserved" "_law_reserved" (defArgs (top 27)) (defBody (top 27)) (defScope (top 27)) [] [] f fd ∧ mg "_law_reserved" = some (.ref f)
  d__law_new_names : ∃ f fd, FunD K "_law_new_names" "_law_new_names" (defArgs (top 28)) (defBody (top 28)) (defScope (top 28)) [] [] f fd ∧ mg "_law_new_names" = some (.ref f)
  d__law_some_columns : ∃ f fd, FunD K "_law_some_columns" "_law_some_columns" (defArgs (top 31)) (defBody (top 31)) (defScope (top 31)) [] [] f fd ∧ mg "_law_some_columns" = some (.ref f)
  d__law_near : ∃ f fd, FunD K "_law_near" "_law_near" (defArgs (top 29)) (defBody (top 29)) (defScope (top 29)) [] [] f fd ∧ mg "_law_near" = some (.ref f)
  d__law_rows : ∃ f fd, FunD K "_law_rows" "_law_rows" (defArgs (top 30)) (defBody (top 30)) (defScope (top 30)) [] [] f fd ∧ mg "_law_rows" = some (.ref f)
  d__law_mixed : ∃ f fd, FunD K "_law_mixed" "_law_mixed" (defArgs (top 24)) (defBody (top 24)) (defScope (top 24)) [] [] f fd ∧ mg "_law_mixed" = some (.ref f)
  d__law_like : ∃ f fd, FunD K "_law_like" "_law_like" (defArgs (top 25)) (defBody (top 25)) (defScope (top 25)) [] [] f fd ∧ mg "_law_like" = some (.ref f)
  d_Table_rows : ∃ Ca f fd, mg "Table" = some (.ref Ca) ∧ Cls K Ca ∧ Meth K Ca "rows" f ∧ FunD K "rows" "Table.rows" (defArgs s_Table_rows) (defBody s_Table_rows) (defScope s_Table_rows) [] [] f fd
  d__law_try : ∃ f fd, FunD K "_law_try" "_law_try" (defArgs (top 26)) (defBody (top 26)) (defScope (top 26)) [] [] f fd ∧ mg "_law_try" = some (.ref f)
  d_Table_eq : ∃ Ca f fd, mg "Table" = some (.ref Ca) ∧ Cls K Ca ∧ Meth K Ca "__eq__" f ∧ FunD K "__eq__" "Table.__eq__" (defArgs s_Table_eq) (defBody s_Table_eq) (defScope s_Table_eq) [] [] f fd
  d_Table_len : ∃ Ca f fd, mg "Table" = some (.ref Ca) ∧ Cls K Ca ∧ Meth K Ca "__len__" f ∧ FunD K "__len__" "Table.__len__" (defArgs s_Table_len) (defBody s_Table_len) (defScope s_Table_len) [] [] f fd
  d_Table_sub : ∃ Ca f fd, mg "Table" = some (.ref Ca) ∧ Cls K Ca ∧ Meth K Ca "__sub__" f ∧ FunD K "__sub__" "Table.__sub__" (defArgs s_Table_sub) (defBody s_Table_sub) (defScope s_Table_sub) [] [] f fd
  d_law : ∃ f fd, FunD K "law" "law" (defArgs (top 32)) (defBody (top 32)) (defScope (top 32)) [] [] f fd ∧ mg "law" = some (.ref f)
  d__law_field : ∃ f fd, FunD K "_law_field" "_law_field" (defArgs (top 20)) (defBody (top 20)) (defScope (top 20)) [] [] f fd ∧ mg "_law_field" = some (.ref f)
  n_isinstance : mg "isinstance" = none
  n_list : mg "list" = none
  n_tuple : mg "tuple" = none
  n_all : mg "all" = none
  n_len : mg "len" = none
  n_str : mg "str" = none
  n_set : mg "set" = none
  n_bool : mg "bool" = none
  n_int : mg "int" = none
  n_enumerate : mg "enumerate" = none
  n_sorted : mg "sorted" = none
  n_range : mg "range" = none
  n_zip : mg "zip" = none
  c_LETTERS : GlobC K mg "LETTERS" g_LETTERS
  c_RESERVED : GlobC K mg "RESERVED" g_RESERVED
  a_Table_all_names : ClsF K mg "Table" "all_names"
  a_Table_own_rows : ClsF K mg "Table" "own_rows"
  g_law : mg "law" = some (.ref (He.ga K "law"))
  g_Table : mg "Table" = some (.ref (He.ga K "Table"))
  g_TableError : mg "TableError" = some (.ref (He.ga K "TableError"))
  g_Missing : mg "Missing" = some (.ref (He.ga K "Missing"))
  g_NothingLeft : mg "NothingLeft" = some (.ref (He.ga K "NothingLeft"))
  g_InvalidColumns : mg "InvalidColumns" = some (.ref (He.ga K "InvalidColumns"))
  g_InvalidRow : mg "InvalidRow" = some (.ref (He.ga K "InvalidRow"))
  o_InvalidColumns : overB K (He.ga K "TableError") (He.ga K "InvalidColumns") = true
  i_InvalidColumns : initB K (He.ga K "InvalidColumns") = true
  x_InvalidColumns : ∃ fd, FunD K "__init__" "InvalidColumns.__init__" (defArgs s_InvalidColumns_init) (defBody s_InvalidColumns_init) (defScope s_InvalidColumns_init) [] [] (He.ma K (He.ga K "InvalidColumns") "__init__") fd
  t_InvalidColumns : tryB K ["TableError", "Missing", "NothingLeft"] ["index"] "InvalidColumns" = true
  o_InvalidRow : overB K (He.ga K "TableError") (He.ga K "InvalidRow") = true
  i_InvalidRow : initB K (He.ga K "InvalidRow") = true
  na_InvalidRow : noB K (He.ga K "InvalidRow") "index" = true
  x_InvalidRow : ∃ fd, FunD K "__init__" "InvalidRow.__init__" (defArgs s_InvalidRow_init) (defBody s_InvalidRow_init) (defScope s_InvalidRow_init) [] [] (He.ma K (He.ga K "InvalidRow") "__init__") fd
  t_InvalidRow : tryB K ["TableError", "Missing", "NothingLeft"] ["index"] "InvalidRow" = true
  su_TableError : supB K P.main.file sd_TableError = true
  sv_TableError : fnC K (sd_TableError.at_ K) = sd_TableError.val
  cf_TableError : clsvB K (He.ga K "TableError") = true
  top_ : (P.main.scope.names.lookup ("super" : Str)).isSome = false
  mro_Table : mroB K "Table" = true
  iso_Table : IsoC K mg "Table"
  lamE : LamTab.lam = lams
  mt_law : ((He.cT K ("law", none)).2, ("law.<locals>.<lambda>" : Str)) ∈ LamTab.T
  un_law : ∀ z ∈ LamTab.T, z.1 = (He.cT K ("law", none)).2 → z.2 = "law.<locals>.<lambda>"
  mt_Table_init : ((He.cT K ("Table", some "__init__")).2, ("Table.__init__.<locals>.<lambda>" : Str)) ∈ LamTab.T
  un_Table_init : ∀ z ∈ LamTab.T, z.1 = (He.cT K ("Table", some "__init__")).2 → z.2 = "Table.__init__.<locals>.<lambda>"
structure CtxB (K : PySem.W.Frag) (mg : Str → Option Value) (base : Heap) : Prop where
  ok : True
  tb_law : LamX.TabB base mg (He.cT K ("law", none)).1 (He.cT K ("law", none)).2
  tb_Table_init : LamX.TabB base mg (He.cT K ("Table", some "__init__")).1 (He.cT K ("Table", some "__init__")).2
section
variable {P : Program} {w : World} {K : PySem.W.Frag} {mg : Str → Option Value} {base : Heap}
theorem supT_TableError (h : (P.main.scope.names.lookup ("super" : Str)).isSome = false) : SupT P sd_TableError := ⟨⟨_, _, _, _, _, _, _, _, _, _, fun _ => ⟨_, rfl⟩, rfl⟩, ⟨_, rfl, rfl⟩, by decide +kernel, by decide +kernel, rfl, rfl, rfl, rfl, rfl, rfl, rfl, h, fun _ _ _ _ _ _ us hl => match us, hl with | [_, _], _ => rfl⟩
theorem topI_TableError (C : CtxT P K w mg) : PX.TopI P w K mg base (L2.CX P w) "TableError" (He.ga K "TableError") := topI_of (d := sd_TableError) C.g_TableError C.su_TableError C.sv_TableError (supT_TableError C.top_) C.cf_TableError
theorem exc_InvalidColumns (C : CtxT P K w mg) : ExcC P w K mg base "InvalidColumns" none "InvalidColumns" := by
  obtain ⟨fd, F⟩ := C.x_InvalidColumns
  exact excC_of0 C.g_InvalidColumns C.o_InvalidColumns C.i_InvalidColumns (topI_TableError C) F ⟨rfl, rfl, rfl, by decide +kernel, rfl, by decide +kernel, by decide +kernel⟩ ⟨_, _, _, ⟨_, _, _, _, _, fun _ => ⟨_, rfl⟩, rfl⟩, rfl⟩ (F.bindsN (fun _ _ _ _ _ _ us hl => match us, hl with | [_], _ => rfl))
theorem exc_InvalidRow (C : CtxT P K w mg) : ExcC P w K mg base "InvalidRow" (some "index") "InvalidRow" := by
  obtain ⟨fd, F⟩ := C.x_InvalidRow
  exact excC_of1 (prm := "index") C.g_InvalidRow C.o_InvalidRow C.i_InvalidRow C.na_InvalidRow (topI_TableError C) F ⟨rfl, rfl, rfl, by decide +kernel, rfl, by decide +kernel, by decide +kernel⟩ ⟨_, _, _, _, _, _, _, ⟨_, _, _, _, _, fun _ => ⟨_, rfl⟩, rfl⟩, rfl⟩ (F.bindsN (fun _ _ _ _ _ _ us hl => match us, hl with | [_, _], _ => rfl))
def chF : List (Str × Str) := [("InvalidRow", "index")]
def CL : List Str := ["InvalidColumns", "InvalidRow"]
theorem tryCL (C : CtxT P K w mg) : ∀ D ∈ CL, TryC K mg [.ref (He.ga K "TableError"), .ref (He.ga K "Missing"), .ref (He.ga K "NothingLeft")] chF D := by
  intro D hD
  unfold CL at hD
  rcases List.mem_cons.mp hD with rfl | hD
  · exact tryC_of (xs := ["TableError", "Missing", "NothingLeft"]) (chain := chF) C.g_InvalidColumns C.t_InvalidColumns
  rcases List.mem_cons.mp hD with rfl | hD
  · exact tryC_of (xs := ["TableError", "Missing", "NothingLeft"]) (chain := chF) C.g_InvalidRow C.t_InvalidRow
  exact absurd hD (by simp)
theorem fld_ok_ (C : CtxT P K w mg) : ∃ f, PX.FldOk P w K mg base 1 f chF ∧ mg "_law_field" = some (.ref f) ∧ PySem.W.keepIn K (.ref f) = true := by
  obtain ⟨f, fd, Fd, g⟩ := C.d__law_field
  exact ⟨f, PX.fld_ok Fd ⟨rfl, rfl, rfl, by decide +kernel, rfl, by decide +kernel, by decide +kernel⟩ (Fd.bindsN (fun _ _ _ _ _ _ us hl => match us, hl with | [_], _ => rfl)) (.cons .nil) (.inl rfl), g, Fd.kp⟩
def N_law : List Str := ["_law_script", "_law_bag", "_law_turn", "_law_columns", "_law_rows_here", "_law_spot", "_law_mixed_here", "_law_handed", "_law_whole", "_law_keys", "_law_due", "_law_table", "_law_more", "_law_at", "_law_twice", "_law_bad", "_law_late", "_law_row", "_law_k", "_law_one"]
def N_Table_init : List Str := ["self", "columns", "rows"]
theorem keyOk_1 : KeyOk (lams 1) := ⟨rfl, rfl, rfl, by decide +kernel, rfl, rfl, ⟨_, _, _, _, none, rfl, rfl, by decide, by decide, fun _ _ _ _ _ _ => rfl⟩⟩
theorem lamF_1 {n f : Addr} {cd : Value} : LamF (envOfC "Table.__init__" (defScope s_Table_init) n f cd) N_Table_init (lams 1) [] := lamF_of rfl (by decide +kernel) (by decide +kernel) (by decide +kernel) (.inl ⟨rfl, rfl, rfl⟩) rfl
def N_is_listed : List Str := ["value"]
def m_is_listed : MS :=
    (msRet (mIsi [.lst, .tup] (mVar 0)))
theorem sc_is_listed : FnScope N_is_listed ["value"] (defScope s_is_listed) := ⟨rfl, rfl, rfl, by decide +kernel, rfl, by decide +kernel, by decide +kernel⟩
def F_is_listed : PF := runP N_is_listed.length m_is_listed
theorem ok_is_listed (C : CtxT P K w mg) (B : CtxB K mg base) : FnP P w K mg base "is_listed" (1) 1 (F_is_listed) := by
  have sc := sc_is_listed
  obtain ⟨f, fd, Fd, g⟩ := C.d_is_listed
  exact ⟨⟨f, fd, ["value"], g, Fd.kp, Fd.bindsN (fun _ _ _ _ _ _ us hl => match us, hl with | [_], _ => rfl), rfl, fnP Fd sc fun cdv A outer s H E hr => (rss_one (rs_ret (re_isi2 .lst .tup C.n_isinstance C.n_list C.n_tuple (re_var 0))))⟩⟩
def N_is_name : List Str := ["value", "letter"]
def m_is_name : MS :=
    (msSeq (msIf (mOr (mNot (mTst (mIsi [.str] (mVar 0)))) (mOr (mNot (mTst (mChain dLe dLe (mC (.int 1)) (mCall dLen (mCons (mVar 0) mNil)) (mC (.int 6))))) (mTst (mBin dInA (mVar 0) (mC g_RESERVED))))) (msRet (mC (.bl false))) msNil)
    (msRet (mCall dAll (mCons (mLc [1] (miS (mVar 0)) (mgName 1) mYes (mBin dInA (mVar 1) (mC g_LETTERS))) mNil))))
theorem sc_is_name : FnScope N_is_name ["value"] (defScope s_is_name) := ⟨rfl, rfl, rfl, by decide +kernel, rfl, by decide +kernel, by decide +kernel⟩
def F_is_name : PF := runP N_is_name.length m_is_name
theorem ok_is_name (C : CtxT P K w mg) (B : CtxB K mg base) : FnP P w K mg base "is_name" (1) 1 (F_is_name) := by
  have sc := sc_is_name
  obtain ⟨f, fd, Fd, g⟩ := C.d_is_name
  exact ⟨⟨f, fd, ["value"], g, Fd.kp, Fd.bindsN (fun _ _ _ _ _ _ us hl => match us, hl with | [_], _ => rfl), rfl, fnP Fd sc fun cdv A outer s H E hr => (rss_cons (rs_if (rt_bool (rw_or (rt_not (rt_val (re_isi .str C.n_isinstance C.n_str (re_var 0)))) (rw_or (rt_not (rt_lele re_int (re_len C.n_len (ra_cons (re_var 0) ra_nil)) re_int)) (rw_or1 (rt_in (re_var 0) (re_glob C.c_RESERVED)))))) (rss_one (rs_ret re_bl)) rss_nil)
    (rss_one (rs_ret (re_all rfl C.n_all (ra_cons (re_lc (own := [("letter", 1)]) rfl sc.nd (ri_str (re_var 0)) (blkOk_by (N := N_is_name) (sc := defScope s_is_name) (by decide +kernel)) (by decide) (fun _ _ _ _ _ => (rg_name 1 sc.nd)) (fun _ _ _ _ _ => rts_nil) (fun _ _ _ _ _ => (re_in (re_var 1) (re_glob C.c_LETTERS)))) ra_nil)))))⟩⟩
def N_all_columns : List Str := ["names", "name"]
def m_all_columns : MS :=
    (msSeq (msIf (mOr (mNot (mTst (mCallP F_is_listed (mCons (mVar 0) mNil)))) (mOr (mTst (mBin dGt (mCall dLen (mCons (mVar 0) mNil)) (mC (.int 3)))) (mNot (mTst (mCall dAll (mCons (mLc [1] (miA (mVar 0)) (mgName 1) mYes (mCallP F_is_name (mCons (mVar 1) mNil))) mNil)))))) (msRaise "InvalidColumns" none [73, 110, 118, 97, 108, 105, 100, 67, 111, 108, 117, 109, 110, 115] mNil) msNil)
    (msSeq (msIf (mTst (mBin dLt (mLenT (mVar 0)) (mCall dLen (mCons (mVar 0) mNil)))) (msRaise "InvalidColumns" none [73, 110, 118, 97, 108, 105, 100, 67, 111, 108, 117, 109, 110, 115] mNil) msNil)
    (msRet (mTup (mCons (mC (.str [107, 101, 121])) (mStar (mVar 0) mNil))))))
theorem sc_all_columns : FnScope N_all_columns ["names"] (defScope s_all_columns) := ⟨rfl, rfl, rfl, by decide +kernel, rfl, by decide +kernel, by decide +kernel⟩
def F_all_columns : PF := runP N_all_columns.length m_all_columns
theorem ok_all_columns (C : CtxT P K w mg) (B : CtxB K mg base) : FnP P w K mg base "all_columns" (4) 1 (F_all_columns) := by
  have sc := sc_all_columns
  have G_is_listed := ok_is_listed (P := P) (w := w) (base := base) C B
  have G_is_name := ok_is_name (P := P) (w := w) (base := base) C B
  obtain ⟨f, fd, Fd, g⟩ := C.d_all_columns
  exact ⟨⟨f, fd, ["names"], g, Fd.kp, Fd.bindsN (fun _ _ _ _ _ _ us hl => match us, hl with | [_], _ => rfl), rfl, fnP Fd sc fun cdv A outer s H E hr => (rss_cons (rs_if (rt_bool (rw_or (rt_not (rt_val (re_callP G_is_listed hr tkOf (ra_cons (re_var 0) ra_nil)))) (rw_or (rt_gt (re_len C.n_len (ra_cons (re_var 0) ra_nil)) re_int) (rw_or1 (rt_not (rt_val (re_all rfl C.n_all (ra_cons (re_lc (own := [("name", 1)]) rfl sc.nd (ri_any (re_var 0)) (blkOk_by (N := N_all_columns) (sc := defScope s_all_columns) (by decide +kernel)) (by decide) (fun _ _ _ _ _ => (rg_name 1 sc.nd)) (fun _ _ _ _ _ => rts_nil) (fun _ _ _ _ _ => (re_callP G_is_name hr takes0 (ra_cons (re_var 1) ra_nil)))) ra_nil)))))))) (rss_one (rs_raise0 (exc_InvalidColumns C) (by decide +kernel) hr (by omega) rfl tkOf rfl (by decide))) rss_nil)
    (rss_cons (rs_if (rt_lt (re_lenT rfl C.n_len C.n_set (re_var 0)) (re_len C.n_len (ra_cons (re_var 0) ra_nil))) (rss_one (rs_raise0 (exc_InvalidColumns C) (by decide +kernel) hr (by omega) rfl tkOf rfl (by decide))) rss_nil)
    (rss_one (rs_ret (re_tup (ra_cons (re_str [107, 101, 121]) (ra_star (re_var 0) ra_nil)))))))⟩⟩
def N_is_integer : List Str := ["value"]
def m_is_integer : MS :=
    (msRet (mAndV (mIsi [.int] (mVar 0)) (mNotV (mIsi [.bool] (mVar 0)))))
theorem sc_is_integer : FnScope N_is_integer ["value"] (defScope s_is_integer) := ⟨rfl, rfl, rfl, by decide +kernel, rfl, by decide +kernel, by decide +kernel⟩
def F_is_integer : PF := runP N_is_integer.length m_is_integer
theorem ok_is_integer (C : CtxT P K w mg) (B : CtxB K mg base) : FnP P w K mg base "is_integer" (1) 1 (F_is_integer) := by
  have sc := sc_is_integer
  obtain ⟨f, fd, Fd, g⟩ := C.d_is_integer
  exact ⟨⟨f, fd, ["value"], g, Fd.kp, Fd.bindsN (fun _ _ _ _ _ _ us hl => match us, hl with | [_], _ => rfl), rfl, fnP Fd sc fun cdv A outer s H E hr => (rss_one (rs_ret (re_and (re_isi .int C.n_isinstance C.n_int (re_var 0)) (re_one (re_not (re_isi .bool C.n_isinstance C.n_bool (re_var 0)))))))⟩⟩
def N_is_row : List Str := ["value", "many", "one"]
def m_is_row : MS :=
    (msRet (mAndV (mIsi [.tup] (mVar 0)) (mAndV (mBin dEq (mCall dLen (mCons (mVar 0) mNil)) (mVar 1)) (mCall dAll (mCons (mLc [2] (miT (mVar 0)) (mgName 2) mYes (mCallP F_is_integer (mCons (mVar 2) mNil))) mNil)))))
theorem sc_is_row : FnScope N_is_row ["value", "many"] (defScope s_is_row) := ⟨rfl, rfl, rfl, by decide +kernel, rfl, by decide +kernel, by decide +kernel⟩
def F_is_row : PF := runP N_is_row.length m_is_row
theorem ok_is_row (C : CtxT P K w mg) (B : CtxB K mg base) : FnP P w K mg base "is_row" (2) 2 (F_is_row) := by
  have sc := sc_is_row
  have G_is_integer := ok_is_integer (P := P) (w := w) (base := base) C B
  obtain ⟨f, fd, Fd, g⟩ := C.d_is_row
  exact ⟨⟨f, fd, ["value", "many"], g, Fd.kp, Fd.bindsN (fun _ _ _ _ _ _ us hl => match us, hl with | [_, _], _ => rfl), rfl, fnP Fd sc fun cdv A outer s H E hr => (rss_one (rs_ret (re_and (re_isi .tup C.n_isinstance C.n_tuple (re_var 0)) (re_and (re_eq hr (re_len C.n_len (ra_cons (re_var 0) ra_nil)) (re_var 1)) (re_one (re_all rfl C.n_all (ra_cons (re_lc (own := [("one", 2)]) rfl sc.nd (ri_tup (re_var 0)) (blkOk_by (N := N_is_row) (sc := defScope s_is_row) (by decide +kernel)) (by decide) (fun _ _ _ _ _ => (rg_name 2 sc.nd)) (fun _ _ _ _ _ => rts_nil) (fun _ _ _ _ _ => (re_callP G_is_integer hr takes0 (ra_cons (re_var 2) ra_nil)))) ra_nil)))))))⟩⟩
def N_checked_rows : List Str := ["rows", "many", "keys", "known", "key", "at", "row"]
def mb_checked_rows_0 : MS :=
    (msSeq (msIf (mOr (mNot (mTst (mCallP F_is_row (mCons (mVar 6) (mCons (mVar 1) mNil))))) (mTst (mBin (dDIn false) (mBin dIx (mVar 6) (mC (.int 0))) (mVar 3)))) (msRaise "InvalidRow" (some "index") [73, 110, 118, 97, 108, 105, 100, 82, 111, 119] (mCons (mVar 5) mNil)) msNil)
    (msDPut (mVar 3) (mBin dIx (mVar 6) (mC (.int 0))) (mC (.bl true))))
def m_checked_rows : MS :=
    (msSeq (msIf (mNot (mTst (mCallP F_is_listed (mCons (mVar 0) mNil)))) (msRaise "InvalidRow" (some "index") [73, 110, 118, 97, 108, 105, 100, 82, 111, 119] (mCons (mC (.int 0)) mNil)) msNil)
    (msSeq (msAsg mDnew (mgName 3))
    (msSeq (msFor (miL (mVar 2)) (mgName 4) (msDPut (mVar 3) (mVar 4) (mC (.bl true))))
    (msSeq (msFor (miEn (mCons (mVar 0) mNil)) (mgTup 2 (mgCons (mgName 5) (mgCons (mgName 6) mgNil))) mb_checked_rows_0)
    (msRet (mCall dList (mCons (mVar 0) mNil)))))))
theorem sc_checked_rows : FnScope N_checked_rows ["rows", "many", "keys"] (defScope s_checked_rows) := ⟨rfl, rfl, rfl, by decide +kernel, rfl, by decide +kernel, by decide +kernel⟩
def F_checked_rows : PF := runP N_checked_rows.length m_checked_rows
theorem ok_checked_rows (C : CtxT P K w mg) (B : CtxB K mg base) : FnP P w K mg base "checked_rows" (4) 3 (F_checked_rows) := by
  have sc := sc_checked_rows
  have G_is_listed := ok_is_listed (P := P) (w := w) (base := base) C B
  have G_is_row := ok_is_row (P := P) (w := w) (base := base) C B
  obtain ⟨f, fd, Fd, g⟩ := C.d_checked_rows
  exact ⟨⟨f, fd, ["rows", "many", "keys"], g, Fd.kp, Fd.bindsN (fun _ _ _ _ _ _ us hl => match us, hl with | [_, _, _], _ => rfl), rfl, fnP Fd sc fun cdv A outer s H E hr => (rss_cons (rs_if (rt_not (rt_val (re_callP G_is_listed hr tkOf (ra_cons (re_var 0) ra_nil)))) (rss_one (rs_raise1 (exc_InvalidRow C) (by decide +kernel) hr (by omega) rfl tkOf (ra_cons re_int ra_nil) rfl (by decide))) rss_nil)
    (rss_cons (rs_set 3 sc.nd re_dnew)
    (rss_cons (rs_for poOf rfl (ri_list (re_var 2)) (rg_name 4 sc.nd) (rss_one (rs_dput hr (re_var 3) (re_var 4) re_bl)))
    (rss_cons (rs_for poOf rfl (ri_en C.n_enumerate (ra_cons (re_var 0) ra_nil)) (rg_tup (n := 2) rfl (rgs_cons (rg_name 5 sc.nd) (rgs_cons (rg_name 6 sc.nd) rgs_nil))) (rss_cons (rs_if (rt_bool (rw_or (rt_not (rt_val (re_callP G_is_row hr tkOf (ra_cons (re_var 6) (ra_cons (re_var 1) ra_nil))))) (rw_or1 (rt_din hr (re_ix (re_var 6) re_int) (re_var 3))))) (rss_one (rs_raise1 (exc_InvalidRow C) (by decide +kernel) hr (by omega) rfl tkOf (ra_cons (re_var 5) ra_nil) rfl (by decide))) rss_nil)
    (rss_one (rs_dput hr (re_var 3) (re_ix (re_var 6) re_int) re_bl))))
    (rss_one (rs_ret (re_listc C.n_list (ra_cons (re_var 0) ra_nil))))))))⟩⟩
def m_Table_init : MS :=
    (msSeq (msFld ["Table"] "all_names" (mVar 0) (mCallP F_all_columns (mCons (mVar 1) mNil)))
    (msFld ["Table"] "own_rows" (mVar 0) (mSortKey (mCons (mCallP F_checked_rows (mCons (mVar 2) (mCons (mCall dLen (mCons (mFld ["Table"] "all_names" (mVar 0)) mNil)) (mCons (mLst mNil) mNil)))) mNil))))
theorem sc_Table_init : FnScope N_Table_init ["self", "columns", "rows"] (defScope s_Table_init) := ⟨rfl, rfl, rfl, by decide +kernel, rfl, by decide +kernel, by decide +kernel⟩
def F_Table_init : IF := runI N_Table_init.length m_Table_init
theorem okF_Table_init_D2 (C : CtxT P K w mg) (B : CtxB K mg base) : MkI P w K mg base "Table" (5) 2 [] F_Table_init := by
  have sc := sc_Table_init
  have G_all_columns := ok_all_columns (P := P) (w := w) (base := base) C B
  have G_checked_rows := ok_checked_rows (P := P) (w := w) (base := base) C B
  obtain ⟨Ca, f, fd, h1, h0, h2, Fd⟩ := C.d_Table_init
  obtain ⟨ds, hv, hb⟩ := FunD.binds1 (ps := ["self", "columns", "rows"]) Fd 3 1 (by simp) rfl (fun T kV doc pm an cdv ct us its h1 h2 => match us, its, h1, h2 with | [_, _, _], [_], _, _ => ⟨_, rfl, rfl⟩)
  exact ⟨⟨Ca, f, fd, ["self", "columns", "rows"], ds, _, h1, h2, hb, hv, fun c hK _ => .nil, rfl, fnIC (p := ("Table", some "__init__")) Fd (fAd_mk h1 C.g_Table h2) sc fun cdv A outer s H E hc hr => have lp : LamP base mg K (envOfC "Table.__init__" (defScope s_Table_init) s.heap.objs.size f cdv) ("Table", some "__init__") "Table.__init__.<locals>.<lambda>" := ⟨B.tb_Table_init, hc, C.mt_Table_init, C.un_Table_init⟩; (rss_cons (rs_fld (ClsFs.cons C.a_Table_all_names ClsFs.nil) (re_var 0) (re_callP G_all_columns hr tkOf (ra_cons (re_var 1) ra_nil)))
    (rss_one (rs_fld (ClsFs.cons C.a_Table_own_rows ClsFs.nil) (re_var 0) (re_sortKey2 C.lamE lamF_1 lp keyOk_1 C.n_sorted hr (ra_cons (re_callP G_checked_rows hr tkOf (ra_cons (re_var 2) (ra_cons (re_len C.n_len (ra_cons (re_fld (ClsFs.cons C.a_Table_all_names ClsFs.nil) (re_var 0)) ra_nil)) (ra_cons (re_lst ra_nil) ra_nil)))) ra_nil)))))⟩⟩
def N_Table_add : List Str := ["self", "rows", "late", "row"]
def m_Table_add : MS :=
    (msSeq (msAsg (mCallP F_checked_rows (mCons (mVar 1) (mCons (mCall dLen (mCons (mFld ["Table"] "all_names" (mVar 0)) mNil)) (mCons (mLc [3] (miL (mFld ["Table"] "own_rows" (mVar 0))) (mgName 3) mYes (mBin dIx (mVar 3) (mC (.int 0)))) mNil)))) (mgName 2))
    (msRet (mMkP "Table" [] F_Table_init (mCons (mSl (mFld ["Table"] "all_names" (mVar 0)) (mSmP (mC (.int 1))) mNoP) (mCons (mLst (mStar (mFld ["Table"] "own_rows" (mVar 0)) (mStar (mVar 2) mNil))) mNil)))))
theorem sc_Table_add : FnScope N_Table_add ["self", "rows"] (defScope s_Table_add) := ⟨rfl, rfl, rfl, by decide +kernel, rfl, by decide +kernel, by decide +kernel⟩
def F_Table_add : PF := runP N_Table_add.length m_Table_add
theorem ok_Table_add (C : CtxT P K w mg) (B : CtxB K mg base) : MetP P w K mg base "Table" "__add__" (7) 2 (F_Table_add) := by
  have sc := sc_Table_add
  have GF_Table_init_D2 := okF_Table_init_D2 (P := P) (w := w) (base := base) C B
  have G_checked_rows := ok_checked_rows (P := P) (w := w) (base := base) C B
  obtain ⟨Ca, f, fd, h1, h0, h2, Fd⟩ := C.d_Table_add
  exact ⟨⟨Ca, f, fd, ["self", "rows"], h1, h0, h2, Fd.bindsN (fun _ _ _ _ _ _ us hl => match us, hl with | [_, _], _ => rfl), rfl, fnP Fd sc fun cdv A outer s H E hr => (rss_cons (rs_set 2 sc.nd (re_callP G_checked_rows hr tkOf (ra_cons (re_var 1) (ra_cons (re_len C.n_len (ra_cons (re_fld (ClsFs.cons C.a_Table_all_names ClsFs.nil) (re_var 0)) ra_nil)) (ra_cons (re_lc (own := [("row", 3)]) rfl sc.nd (ri_list (re_fld (ClsFs.cons C.a_Table_own_rows ClsFs.nil) (re_var 0))) (blkOk_by (N := N_Table_add) (sc := defScope s_Table_add) (by decide +kernel)) (by decide) (fun _ _ _ _ _ => (rg_name 3 sc.nd)) (fun _ _ _ _ _ => rts_nil) (fun _ _ _ _ _ => (re_ix (re_var 3) re_int))) ra_nil)))))
    (rss_one (rs_ret (re_mkP GF_Table_init_D2 hr tkOf flatE (ra_cons (re_slice (re_fld (ClsFs.cons C.a_Table_all_names ClsFs.nil) (re_var 0)) (ro_some re_int) ro_none) (ra_cons (re_lst (ra_star (re_fld (ClsFs.cons C.a_Table_own_rows ClsFs.nil) (re_var 0)) (ra_star (re_var 2) ra_nil))) ra_nil))))))⟩⟩
def ml_0 : M D :=
    (mOpO "Table" F_Table_add (mVar 0) (mVar 1))
def F_lam_0 : PF := runL ml_0
theorem lamOk_0 : LamOk (lams 0) := ⟨rfl, rfl, rfl, by decide +kernel, by decide +kernel, by decide +kernel, fun _ _ _ _ _ _ => rfl, fun h => absurd h (by decide)⟩
theorem lamF_0 {n f : Addr} {cd : Value} : LamF (envOfC "law" (defScope s_law) n f cd) N_law (lams 0) [11, 15] := lamF_of rfl (by decide +kernel) (by decide +kernel) (by decide +kernel) (.inl ⟨rfl, rfl, rfl⟩) rfl
theorem okl_0 (C : CtxT P K w mg) (B : CtxB K mg base) : LamS P w K mg base 7 0 F_lam_0 := by
  have G_Table_add := ok_Table_add (P := P) (w := w) (base := base) C B
  have key : ∀ (l : LamD), l = lams 0 → ∀ (cl : List (Str × Addr)) (f c' : Addr) (A : Around) (outer : List Env) (s : Shared) (H : Hp) (E : XK), Room 7 (A.deeper (PySem.W.envX l.qual l.scope s.heap.objs.size f (.ref c') cl)) → RE (lamCx P w K mg base l cl f c' A outer s H E) (fun cls d _ H' => E cls d H') l.body ml_0 := by
    rintro _ rfl cl f c' A outer s H E hr
    exact (re_opO .add G_Table_add C.g_Table C.mro_Table hr tkLam flatE (re_var 0) (re_var 1))
  refine ⟨by rw [C.lamE]; exact lamOk_0, ml_0, rfl, fun cl f c' A outer s H E hr => key _ (by rw [C.lamE]) cl f c' A outer s H E hr⟩
def nLam : Nat := 1
def LF : Nat → PF
  | 0 => F_lam_0
  | _ => fun _ => none
theorem okls (C : CtxT P K w mg) (B : CtxB K mg base) : ∀ t, t < nLam → LamS P w K mg base 7 t (LF t) := by
  intro t ht
  match t, ht with
  | 0, _ => exact (okl_0 (P := P) (w := w) (base := base) C B).mono (by decide)
  | t + 1, ht => exact absurd ht (by simp [nLam])
def N__law_draws : List Str := ["_law_script", "_law_seed", "_law_cell"]
def mb__law_draws_0 : MS :=
    (msAsg (mBin dMod (mCall dInt (mCons (mBin dAdd (mBin dAdd (mBin dMul (mVar 1) (mC (.int 44021))) (mBin dMod (mCall dInt (mCons (mVar 2) mNil)) (mC (.int 2147483489)))) (mC (.int 53))) mNil)) (mC (.int 2147483549))) (mgName 1))
def m__law_draws : MS :=
    (msSeq (msAsg (mC (.int 5648)) (mgName 1))
    (msSeq (msFor (miL (mSl (mVar 0) mNoP (mSmP (mC (.int 63))))) (mgName 2) mb__law_draws_0)
    (msRet (mLstC (mCons (mCall dList (mCons (mSl (mVar 0) mNoP (mSmP (mC (.int 63)))) mNil)) (mCons (mC (.int 0)) (mCons (mC (.int 0)) (mCons (mVar 1) (mCons (mC (.int 0)) mNil)))))))))
theorem sc__law_draws : FnScope N__law_draws ["_law_script"] (defScope s__law_draws) := ⟨rfl, rfl, rfl, by decide +kernel, rfl, by decide +kernel, by decide +kernel⟩
def F__law_draws : IF := runA N__law_draws.length m__law_draws
theorem ok__law_draws (C : CtxT P K w mg) (B : CtxB K mg base) : FnI P w K mg base "_law_draws" (1) 1 (F__law_draws) := by
  have sc := sc__law_draws
  obtain ⟨f, fd, Fd, g⟩ := C.d__law_draws
  exact ⟨⟨f, fd, ["_law_script"], g, Fd.kp, Fd.bindsN (fun _ _ _ _ _ _ us hl => match us, hl with | [_], _ => rfl), rfl, fnA Fd sc fun cdv A outer s H E hr => (rss_cons (rs_set 1 sc.nd re_int)
    (rss_cons (rs_for poOf rfl (ri_list (re_slice (re_var 0) ro_none (ro_some re_int))) (rg_name 2 sc.nd) (rss_one (rs_set 1 sc.nd (re_mod (re_intc C.n_int (ra_cons (re_add (re_add (re_mul (re_var 1) re_int) (re_mod (re_intc C.n_int (ra_cons (re_var 2) ra_nil)) re_int)) re_int) ra_nil)) re_int))))
    (rss_one (rs_ret (re_lstC (ra_cons (re_listc C.n_list (ra_cons (re_slice (re_var 0) ro_none (ro_some re_int)) ra_nil)) (ra_cons re_int (ra_cons re_int (ra_cons (re_var 1) (ra_cons re_int ra_nil))))))))))⟩⟩
def N__law_pull : List Str := ["_law_bag", "_law_sides", "_law_seed", "_law_cell", "_law_digit"]
def m__law_pull : MS :=
    (msSeq (msAsg (mBin dAdd (mBin dIx (mVar 0) (mC (.int 4))) (mC (.int 1))) (mgSub (mVar 0) (mC (.int 4))))
    (msSeq (msIf (mAnd (mTst (mBin dEq (mBin dIx (mVar 0) (mC (.int 2))) (mC (.int 0)))) (mTst (mBin dLt (mBin dIx (mVar 0) (mC (.int 1))) (mCall dLen (mCons (mBin dIx (mVar 0) (mC (.int 0))) mNil))))) (msSeq (msAsg (mTup (mCons (mBin dIx (mBin dIx (mVar 0) (mC (.int 0))) (mBin dIx (mVar 0) (mC (.int 1)))) (mCons (mBin dAdd (mBin dIx (mVar 0) (mC (.int 1))) (mC (.int 1))) mNil))) (mgTup 2 (mgCons (mgName 3) (mgCons (mgSub (mVar 0) (mC (.int 1))) mgNil))))
    (msSeq (msIf (mTst (mBin dGe (mVar 3) (mBin dPow (mC (.int 10)) (mC (.int 18))))) (msAsg (mVar 3) (mgSub (mVar 0) (mC (.int 2)))) msNil)
    (msAsg (mBin dMod (mCall dInt (mCons (mBin dAdd (mBin dAdd (mBin dMul (mBin dIx (mVar 0) (mC (.int 3))) (mC (.int 38377))) (mBin dMul (mBin dMod (mCall dInt (mCons (mVar 3) mNil)) (mC (.int 2147483489))) (mC (.int 41143)))) (mC (.int 61))) mNil)) (mC (.int 2147483549))) (mgSub (mVar 0) (mC (.int 3)))))) msNil)
    (msSeq (msIf (mTst (mBin dGt (mBin dIx (mVar 0) (mC (.int 2))) (mC (.int 0)))) (msSeq (msAsg (mTup (mCons (mBin dMod (mCall dInt (mCons (mBin dIx (mVar 0) (mC (.int 2))) mNil)) (mVar 1)) (mCons (mBin dDiv (mBin dIx (mVar 0) (mC (.int 2))) (mVar 1)) mNil))) (mgTup 2 (mgCons (mgName 4) (mgCons (mgSub (mVar 0) (mC (.int 2))) mgNil))))
    (msRet (mVar 4))) msNil)
    (msSeq (msAsg (mBin dIx (mVar 0) (mC (.int 3))) (mgName 2))
    (msSeq (msAsg (mBin dMod (mCall dInt (mCons (mBin dAdd (mBin dAdd (mBin dAdd (mBin dPow (mVar 2) (mC (.int 3))) (mBin dMul (mVar 2) (mC (.int 37813)))) (mBin dMul (mBin dIx (mVar 0) (mC (.int 4))) (mC (.int 1299689)))) (mC (.int 65437))) mNil)) (mC (.int 2147483549))) (mgSub (mVar 0) (mC (.int 3))))
    (msRet (mBin dMod (mCall dInt (mCons (mBin dAdd (mBin dDiv (mBin dIx (mVar 0) (mC (.int 3))) (mC (.int 89))) (mBin dMul (mBin dMod (mCall dInt (mCons (mBin dIx (mVar 0) (mC (.int 3))) mNil)) (mC (.int 7919))) (mC (.int 71)))) mNil)) (mVar 1))))))))
theorem sc__law_pull : FnScope N__law_pull ["_law_bag", "_law_sides"] (defScope s__law_pull) := ⟨rfl, rfl, rfl, by decide +kernel, rfl, by decide +kernel, by decide +kernel⟩
def F__law_pull : IF := runI N__law_pull.length m__law_pull
theorem ok__law_pull (C : CtxT P K w mg) (B : CtxB K mg base) : FnI P w K mg base "_law_pull" (1) 2 (F__law_pull) := by
  have sc := sc__law_pull
  obtain ⟨f, fd, Fd, g⟩ := C.d__law_pull
  exact ⟨⟨f, fd, ["_law_bag", "_law_sides"], g, Fd.kp, Fd.bindsN (fun _ _ _ _ _ _ us hl => match us, hl with | [_, _], _ => rfl), rfl, fnI Fd sc fun cdv A outer s H E hr => (rss_cons (rs_asg (re_add (re_ix (re_var 0) re_int) re_int) (rg_sub (W := W0) (re_var 0) re_int))
    (rss_cons (rs_if (rt_bool (rw_and (rt_eq hr (re_ix (re_var 0) re_int) re_int) (rw_and1 (rt_lt (re_ix (re_var 0) re_int) (re_len C.n_len (ra_cons (re_ix (re_var 0) re_int) ra_nil)))))) (rss_cons (rs_asg (re_tup (ra_cons (re_ix (re_ix (re_var 0) re_int) (re_ix (re_var 0) re_int)) (ra_cons (re_add (re_ix (re_var 0) re_int) re_int) ra_nil))) (rg_tup (n := 2) rfl (rgs_cons (rg_name 3 sc.nd) (rgs_cons (rg_sub (W := W0) (re_var 0) re_int) rgs_nil))))
    (rss_cons (rs_if (rt_ge (re_var 3) (re_pow re_int re_int)) (rss_one (rs_asg (re_var 3) (rg_sub (W := W0) (re_var 0) re_int))) rss_nil)
    (rss_one (rs_asg (re_mod (re_intc C.n_int (ra_cons (re_add (re_add (re_mul (re_ix (re_var 0) re_int) re_int) (re_mul (re_mod (re_intc C.n_int (ra_cons (re_var 3) ra_nil)) re_int) re_int)) re_int) ra_nil)) re_int) (rg_sub (W := W0) (re_var 0) re_int))))) rss_nil)
    (rss_cons (rs_if (rt_gt (re_ix (re_var 0) re_int) re_int) (rss_cons (rs_asg (re_tup (ra_cons (re_mod (re_intc C.n_int (ra_cons (re_ix (re_var 0) re_int) ra_nil)) (re_var 1)) (ra_cons (re_div (re_ix (re_var 0) re_int) (re_var 1)) ra_nil))) (rg_tup (n := 2) rfl (rgs_cons (rg_name 4 sc.nd) (rgs_cons (rg_sub (W := W0) (re_var 0) re_int) rgs_nil))))
    (rss_one (rs_ret (re_var 4)))) rss_nil)
    (rss_cons (rs_set 2 sc.nd (re_ix (re_var 0) re_int))
    (rss_cons (rs_asg (re_mod (re_intc C.n_int (ra_cons (re_add (re_add (re_add (re_pow (re_var 2) re_int) (re_mul (re_var 2) re_int)) (re_mul (re_ix (re_var 0) re_int) re_int)) re_int) ra_nil)) re_int) (rg_sub (W := W0) (re_var 0) re_int))
    (rss_one (rs_ret (re_mod (re_intc C.n_int (ra_cons (re_add (re_div (re_ix (re_var 0) re_int) re_int) (re_mul (re_mod (re_intc C.n_int (ra_cons (re_ix (re_var 0) re_int) ra_nil)) re_int) re_int)) ra_nil)) (re_var 1)))))))))⟩⟩
def N__law_any : List Str := ["_law_bag", "_law_rows_here"]
def m__law_any : MS :=
    (msRet (mBin dIx (mVar 1) (mCallI F__law_pull (mCons (mVar 0) (mCons (mCall dLen (mCons (mVar 1) mNil)) mNil)))))
theorem sc__law_any : FnScope N__law_any ["_law_bag", "_law_rows_here"] (defScope s__law_any) := ⟨rfl, rfl, rfl, by decide +kernel, rfl, by decide +kernel, by decide +kernel⟩
def F__law_any : IF := runI N__law_any.length m__law_any
theorem ok__law_any (C : CtxT P K w mg) (B : CtxB K mg base) : FnI P w K mg base "_law_any" (2) 2 (F__law_any) := by
  have sc := sc__law_any
  have G__law_pull := ok__law_pull (P := P) (w := w) (base := base) C B
  obtain ⟨f, fd, Fd, g⟩ := C.d__law_any
  exact ⟨⟨f, fd, ["_law_bag", "_law_rows_here"], g, Fd.kp, Fd.bindsN (fun _ _ _ _ _ _ us hl => match us, hl with | [_, _], _ => rfl), rfl, fnI Fd sc fun cdv A outer s H E hr => (rss_one (rs_ret (re_ix (re_var 1) (re_callI G__law_pull hr tkOf (ra_cons (re_var 0) (ra_cons (re_len C.n_len (ra_cons (re_var 1) ra_nil)) ra_nil))))))⟩⟩
def N__law_reserved : List Str := []
def m__law_reserved : MS :=
    (msRet (mLst (mCons (mC (.str [97, 110, 100])) (mCons (mC (.str [102, 111, 117, 110, 100])) (mCons (mC (.str [107, 101, 121])) (mCons (mC (.str [110, 101, 120, 116])) (mCons (mC (.str [110, 111, 116])) (mCons (mC (.str [111, 114])) (mCons (mC (.str [111, 119, 110])) (mCons (mC (.str [115, 101, 116])) (mCons (mC (.str [116, 114, 117, 101])) (mCons (mC (.str [119, 104, 101, 114, 101])) mNil))))))))))))
theorem sc__law_reserved : FnScope N__law_reserved [] (defScope s__law_reserved) := ⟨rfl, rfl, rfl, by decide +kernel, rfl, by decide +kernel, by decide +kernel⟩
def F__law_reserved : PF := runP N__law_reserved.length m__law_reserved
theorem ok__law_reserved (C : CtxT P K w mg) (B : CtxB K mg base) : FnP P w K mg base "_law_reserved" (1) 0 (F__law_reserved) := by
  have sc := sc__law_reserved
  obtain ⟨f, fd, Fd, g⟩ := C.d__law_reserved
  exact ⟨⟨f, fd, [], g, Fd.kp, Fd.bindsN (fun _ _ _ _ _ _ us hl => match us, hl with | [], _ => rfl), rfl, fnP Fd sc fun cdv A outer s H E hr => (rss_one (rs_ret (re_lst (ra_cons (re_str [97, 110, 100]) (ra_cons (re_str [102, 111, 117, 110, 100]) (ra_cons (re_str [107, 101, 121]) (ra_cons (re_str [110, 101, 120, 116]) (ra_cons (re_str [110, 111, 116]) (ra_cons (re_str [111, 114]) (ra_cons (re_str [111, 119, 110]) (ra_cons (re_str [115, 101, 116]) (ra_cons (re_str [116, 114, 117, 101]) (ra_cons (re_str [119, 104, 101, 114, 101]) ra_nil)))))))))))))⟩⟩
def N__law_new_names : List Str := ["_law_bag", "_law_many", "_law_abc", "_law_stem", "_law_rows_here", "_law_at", "_law_first", "_law_k", "_law_row"]
def me__law_new_names_0 : M D :=
    (mIf (mTst (mBin dInA (mVar 8) (mCallP F__law_reserved mNil))) (mBin dAdd (mVar 8) (mC (.str [113]))) (mVar 8))
def me__law_new_names_1 : M D :=
    (mBin dAdd (mBin dAdd (mSl (mVar 3) mNoP (mSmP (mVar 5))) (mBin dIx (mVar 2) (mBin dSub (mBin dAdd (mVar 6) (mVar 7)) (mC (.int 26))))) (mSl (mVar 3) (mSmP (mVar 5)) mNoP))
def m__law_new_names : MS :=
    (msSeq (msAsg (mC (.str [97, 98, 99, 100, 101, 102, 103, 104, 105, 106, 107, 108, 109, 110, 111, 112, 113, 114, 115, 116, 117, 118, 119, 120, 121, 122])) (mgName 2))
    (msSeq (msAsg (mMtS dJoin (mC (.str [])) (mCons (mLc [7] (miR1 (mCons (mCallI F__law_pull (mCons (mVar 0) (mCons (mC (.int 5)) mNil))) mNil)) (mgName 7) mYes (mCallI F__law_any (mCons (mVar 0) (mCons (mVar 2) mNil)))) mNil)) (mgName 3))
    (msSeq (msAsg (mTup (mCons (mCallI F__law_pull (mCons (mVar 0) (mCons (mBin dAdd (mCall dLen (mCons (mVar 3) mNil)) (mC (.int 1))) mNil))) (mCons (mCallI F__law_pull (mCons (mVar 0) (mCons (mC (.int 26)) mNil))) mNil))) (mgTup 2 (mgCons (mgName 5) (mgCons (mgName 6) mgNil))))
    (msSeq (msAsg (mLc [7] (miR1 (mCons (mVar 1) mNil)) (mgName 7) mYes me__law_new_names_1) (mgName 4))
    (msRet (mLc [8] (miL (mVar 4)) (mgName 8) mYes me__law_new_names_0))))))
theorem sc__law_new_names : FnScope N__law_new_names ["_law_bag", "_law_many"] (defScope s__law_new_names) := ⟨rfl, rfl, rfl, by decide +kernel, rfl, by decide +kernel, by decide +kernel⟩
def F__law_new_names : IF := runI N__law_new_names.length m__law_new_names
theorem ok__law_new_names (C : CtxT P K w mg) (B : CtxB K mg base) : FnI P w K mg base "_law_new_names" (3) 2 (F__law_new_names) := by
  have sc := sc__law_new_names
  have G__law_any := ok__law_any (P := P) (w := w) (base := base) C B
  have G__law_pull := ok__law_pull (P := P) (w := w) (base := base) C B
  have G__law_reserved := ok__law_reserved (P := P) (w := w) (base := base) C B
  obtain ⟨f, fd, Fd, g⟩ := C.d__law_new_names
  exact ⟨⟨f, fd, ["_law_bag", "_law_many"], g, Fd.kp, Fd.bindsN (fun _ _ _ _ _ _ us hl => match us, hl with | [_, _], _ => rfl), rfl, fnI Fd sc fun cdv A outer s H E hr => (rss_cons (rs_set 2 sc.nd (re_str [97, 98, 99, 100, 101, 102, 103, 104, 105, 106, 107, 108, 109, 110, 111, 112, 113, 114, 115, 116, 117, 118, 119, 120, 121, 122]))
    (rss_cons (rs_set 3 sc.nd (re_join (re_str []) (ra_cons (re_lc (own := [("_law_k", 7)]) rfl sc.nd (ri_range1 C.n_range (ra_cons (re_callI G__law_pull hr tkOf (ra_cons (re_var 0) (ra_cons re_int ra_nil))) ra_nil)) (blkOk_by (N := N__law_new_names) (sc := defScope s__law_new_names) (by decide +kernel)) (by decide) (fun _ _ _ _ _ => (rg_name 7 sc.nd)) (fun _ _ _ _ _ => rts_nil) (fun _ _ _ _ _ => (re_callI G__law_any hr takes0 (ra_cons (re_var 0) (ra_cons (re_var 2) ra_nil))))) ra_nil)))
    (rss_cons (rs_asg (re_tup (ra_cons (re_callI G__law_pull hr tkOf (ra_cons (re_var 0) (ra_cons (re_add (re_len C.n_len (ra_cons (re_var 3) ra_nil)) re_int) ra_nil))) (ra_cons (re_callI G__law_pull hr tkOf (ra_cons (re_var 0) (ra_cons re_int ra_nil))) ra_nil))) (rg_tup (n := 2) rfl (rgs_cons (rg_name 5 sc.nd) (rgs_cons (rg_name 6 sc.nd) rgs_nil))))
    (rss_cons (rs_setLc (own := [("_law_k", 7)]) 4 rfl sc.nd (ri_range1 C.n_range (ra_cons (re_var 1) ra_nil)) (blkOk_by (N := N__law_new_names) (sc := defScope s__law_new_names) (by decide +kernel)) (fun _ _ _ _ _ => (rg_name 7 sc.nd)) (fun _ _ _ _ _ => rts_nil) (fun _ _ _ _ _ => (re_add (re_add (re_slice (re_var 3) ro_none (ro_some (re_var 5))) (re_ix (re_var 2) (re_sub (re_add (re_var 6) (re_var 7)) re_int))) (re_slice (re_var 3) (ro_some (re_var 5)) ro_none))))
    (rss_one (rs_ret (re_lc (own := [("_law_row", 8)]) rfl sc.nd (ri_list (re_var 4)) (blkOk_by (N := N__law_new_names) (sc := defScope s__law_new_names) (by decide +kernel)) (by decide) (fun _ _ _ _ _ => (rg_name 8 sc.nd)) (fun _ _ _ _ _ => rts_nil) (fun _ _ _ _ _ => (re_if (rt_in (re_var 8) (re_callP0 G__law_reserved hr takes0)) (re_add (re_var 8) (re_str [113])) (re_var 8))))))))))⟩⟩
def N__law_some_columns : List Str := ["_law_bag"]
def m__law_some_columns : MS :=
    (msRet (mBin dAdd (mTup (mCons (mC (.str [107, 101, 121])) mNil)) (mCall dTuple (mCons (mCallI F__law_new_names (mCons (mVar 0) (mCons (mCallI F__law_any (mCons (mVar 0) (mCons (mLst (mCons (mC (.int 0)) (mCons (mC (.int 1)) (mCons (mC (.int 1)) (mCons (mC (.int 2)) (mCons (mC (.int 3)) mNil)))))) mNil))) mNil))) mNil))))
theorem sc__law_some_columns : FnScope N__law_some_columns ["_law_bag"] (defScope s__law_some_columns) := ⟨rfl, rfl, rfl, by decide +kernel, rfl, by decide +kernel, by decide +kernel⟩
def F__law_some_columns : IF := runI N__law_some_columns.length m__law_some_columns
theorem ok__law_some_columns (C : CtxT P K w mg) (B : CtxB K mg base) : FnI P w K mg base "_law_some_columns" (4) 1 (F__law_some_columns) := by
  have sc := sc__law_some_columns
  have G__law_any := ok__law_any (P := P) (w := w) (base := base) C B
  have G__law_new_names := ok__law_new_names (P := P) (w := w) (base := base) C B
  obtain ⟨f, fd, Fd, g⟩ := C.d__law_some_columns
  exact ⟨⟨f, fd, ["_law_bag"], g, Fd.kp, Fd.bindsN (fun _ _ _ _ _ _ us hl => match us, hl with | [_], _ => rfl), rfl, fnI Fd sc fun cdv A outer s H E hr => (rss_one (rs_ret (re_add (re_tup (ra_cons (re_str [107, 101, 121]) ra_nil)) (re_tuplec C.n_tuple (ra_cons (re_callI G__law_new_names hr tkOf (ra_cons (re_var 0) (ra_cons (re_callI G__law_any hr tkOf (ra_cons (re_var 0) (ra_cons (re_lst (ra_cons re_int (ra_cons re_int (ra_cons re_int (ra_cons re_int (ra_cons re_int ra_nil)))))) ra_nil))) ra_nil))) ra_nil)))))⟩⟩
def N__law_near : List Str := ["_law_bag"]
def m__law_near : MS :=
    (msRet (mCallI F__law_any (mCons (mVar 0) (mCons (mLst (mCons (mC (.int 0)) (mCons (mC (.int 1)) (mCons (mC (.int 1)) (mCons (mC (.int 2)) (mCons (mC (.int 3)) (mCons (mBin dSub (mC (.int 0)) (mC (.int 1))) (mCons (mBin dSub (mC (.int 0)) (mC (.int 2))) mNil)))))))) mNil))))
theorem sc__law_near : FnScope N__law_near ["_law_bag"] (defScope s__law_near) := ⟨rfl, rfl, rfl, by decide +kernel, rfl, by decide +kernel, by decide +kernel⟩
def F__law_near : IF := runI N__law_near.length m__law_near
theorem ok__law_near (C : CtxT P K w mg) (B : CtxB K mg base) : FnI P w K mg base "_law_near" (3) 1 (F__law_near) := by
  have sc := sc__law_near
  have G__law_any := ok__law_any (P := P) (w := w) (base := base) C B
  obtain ⟨f, fd, Fd, g⟩ := C.d__law_near
  exact ⟨⟨f, fd, ["_law_bag"], g, Fd.kp, Fd.bindsN (fun _ _ _ _ _ _ us hl => match us, hl with | [_], _ => rfl), rfl, fnI Fd sc fun cdv A outer s H E hr => (rss_one (rs_ret (re_callI G__law_any hr tkOf (ra_cons (re_var 0) (ra_cons (re_lst (ra_cons re_int (ra_cons re_int (ra_cons re_int (ra_cons re_int (ra_cons re_int (ra_cons (re_sub re_int re_int) (ra_cons (re_sub re_int re_int) ra_nil)))))))) ra_nil)))))⟩⟩
def N__law_rows : List Str := ["_law_bag", "_law_columns", "_law_most", "_law_k", "_law_key", "_law_found", "_law_c"]
def me__law_rows_0 : M D :=
    (mIf (mTst (mBin dGt (mCallI F__law_pull (mCons (mVar 0) (mCons (mC (.int 3)) mNil))) (mC (.int 0)))) (mBin dAdd (mVar 4) (mCallI F__law_near (mCons (mVar 0) mNil))) (mCallI F__law_near (mCons (mVar 0) mNil)))
def mb__law_rows_1 : MS :=
    (msSeq (msAsg (mBin dAdd (mBin dAdd (mVar 4) (mC (.int 1))) (mCallI F__law_any (mCons (mVar 0) (mCons (mLst (mCons (mC (.int 0)) (mCons (mC (.int 0)) (mCons (mC (.int 1)) (mCons (mC (.int 2)) mNil))))) mNil)))) (mgName 4))
    (msExpr (mAppend (mVar 5) (mCall dTuple (mCons (mBin dAdd (mLst (mCons (mVar 4) mNil)) (mLc [6] (miT (mSl (mVar 1) (mSmP (mC (.int 1))) mNoP)) (mgName 6) mYes me__law_rows_0)) mNil)))))
def m__law_rows : MS :=
    (msSeq (msAsg (mTup (mCons (mBin dSub (mCallI F__law_near (mCons (mVar 0) mNil)) (mC (.int 2))) (mCons (mLstC mNil) mNil))) (mgTup 2 (mgCons (mgName 4) (mgCons (mgName 5) mgNil))))
    (msSeq (msFor (miR1 (mCons (mCallI F__law_pull (mCons (mVar 0) (mCons (mBin dAdd (mVar 2) (mC (.int 1))) mNil))) mNil)) (mgName 3) mb__law_rows_1)
    (msRet (mVar 5))))
theorem sc__law_rows : FnScope N__law_rows ["_law_bag", "_law_columns", "_law_most"] (defScope s__law_rows) := ⟨rfl, rfl, rfl, by decide +kernel, rfl, by decide +kernel, by decide +kernel⟩
def F__law_rows : IF := runI N__law_rows.length m__law_rows
theorem ok__law_rows (C : CtxT P K w mg) (B : CtxB K mg base) : FnI P w K mg base "_law_rows" (4) 3 (F__law_rows) := by
  have sc := sc__law_rows
  have G__law_any := ok__law_any (P := P) (w := w) (base := base) C B
  have G__law_near := ok__law_near (P := P) (w := w) (base := base) C B
  have G__law_pull := ok__law_pull (P := P) (w := w) (base := base) C B
  obtain ⟨f, fd, Fd, g⟩ := C.d__law_rows
  exact ⟨⟨f, fd, ["_law_bag", "_law_columns", "_law_most"], g, Fd.kp, Fd.bindsN (fun _ _ _ _ _ _ us hl => match us, hl with | [_, _, _], _ => rfl), rfl, fnI Fd sc fun cdv A outer s H E hr => (rss_cons (rs_asg (re_tup (ra_cons (re_sub (re_callI G__law_near hr tkOf (ra_cons (re_var 0) ra_nil)) re_int) (ra_cons (re_lstC ra_nil) ra_nil))) (rg_tup (n := 2) rfl (rgs_cons (rg_name 4 sc.nd) (rgs_cons (rg_name 5 sc.nd) rgs_nil))))
    (rss_cons (rs_for poOf rfl (ri_range1 C.n_range (ra_cons (re_callI G__law_pull hr tkOf (ra_cons (re_var 0) (ra_cons (re_add (re_var 2) re_int) ra_nil))) ra_nil)) (rg_name 3 sc.nd) (rss_cons (rs_set 4 sc.nd (re_add (re_add (re_var 4) re_int) (re_callI G__law_any hr tkOf (ra_cons (re_var 0) (ra_cons (re_lst (ra_cons re_int (ra_cons re_int (ra_cons re_int (ra_cons re_int ra_nil))))) ra_nil)))))
    (rss_one (rs_expr (re_append (re_var 5) (re_tuplec C.n_tuple (ra_cons (re_add (re_lst (ra_cons (re_var 4) ra_nil)) (re_lc (own := [("_law_c", 6)]) rfl sc.nd (ri_tup (re_slice (re_var 1) (ro_some re_int) ro_none)) (blkOk_by (N := N__law_rows) (sc := defScope s__law_rows) (by decide +kernel)) (by decide) (fun _ _ _ _ _ => (rg_name 6 sc.nd)) (fun _ _ _ _ _ => rts_nil) (fun _ _ _ _ _ => (re_if (rt_gt (re_callI G__law_pull hr takes0 (ra_cons (re_var 0) (ra_cons re_int ra_nil))) re_int) (re_add (re_var 4) (re_callI G__law_near hr takes0 (ra_cons (re_var 0) ra_nil))) (re_callI G__law_near hr takes0 (ra_cons (re_var 0) ra_nil)))))) ra_nil)))))))
    (rss_one (rs_ret (re_var 5)))))⟩⟩
def N__law_mixed : List Str := ["_law_bag", "_law_rows_here", "_law_found", "_law_row"]
def mb__law_mixed_0 : MS :=
    (msExpr (mInsert (mVar 2) (mCallI F__law_pull (mCons (mVar 0) (mCons (mBin dAdd (mCall dLen (mCons (mVar 2) mNil)) (mC (.int 1))) mNil))) (mVar 3)))
def m__law_mixed : MS :=
    (msSeq (msAsg (mLstC mNil) (mgName 2))
    (msSeq (msFor (miL (mVar 1)) (mgName 3) mb__law_mixed_0)
    (msRet (mVar 2))))
theorem sc__law_mixed : FnScope N__law_mixed ["_law_bag", "_law_rows_here"] (defScope s__law_mixed) := ⟨rfl, rfl, rfl, by decide +kernel, rfl, by decide +kernel, by decide +kernel⟩
def F__law_mixed : IF := runI N__law_mixed.length m__law_mixed
theorem ok__law_mixed (C : CtxT P K w mg) (B : CtxB K mg base) : FnI P w K mg base "_law_mixed" (2) 2 (F__law_mixed) := by
  have sc := sc__law_mixed
  have G__law_pull := ok__law_pull (P := P) (w := w) (base := base) C B
  obtain ⟨f, fd, Fd, g⟩ := C.d__law_mixed
  exact ⟨⟨f, fd, ["_law_bag", "_law_rows_here"], g, Fd.kp, Fd.bindsN (fun _ _ _ _ _ _ us hl => match us, hl with | [_, _], _ => rfl), rfl, fnI Fd sc fun cdv A outer s H E hr => (rss_cons (rs_set 2 sc.nd (re_lstC ra_nil))
    (rss_cons (rs_for poOf rfl (ri_list (re_var 1)) (rg_name 3 sc.nd) (rss_one (rs_expr (re_insert (re_var 2) (re_callI G__law_pull hr tkOf (ra_cons (re_var 0) (ra_cons (re_add (re_len C.n_len (ra_cons (re_var 2) ra_nil)) re_int) ra_nil))) (re_var 3)))))
    (rss_one (rs_ret (re_var 2)))))⟩⟩
def N__law_like : List Str := ["_law_a", "_law_b", "_law_same", "_law_c", "_law_d"]
def m__law_like (F : PF) : MS :=
    (msSeq (msIf (mTst (mIsi [.lst, .tup] (mVar 1))) (msSeq (msAsg (mAndV (mBin dEq (mIsi [.lst] (mVar 0)) (mIsi [.lst] (mVar 1))) (mBin dEq (mIsi [.tup] (mVar 0)) (mIsi [.tup] (mVar 1)))) (mgName 2))
    (msRet (mAndV (mVar 2) (mAndV (mBin dEq (mCall dLen (mCons (mVar 0) mNil)) (mCall dLen (mCons (mVar 1) mNil))) (mCall dAll (mCons (mLc [3, 4] (miZip (mCons (mVar 0) (mCons (mVar 1) mNil))) (mgTup 2 (mgCons (mgName 3) (mgCons (mgName 4) mgNil))) mYes (mCallP F (mCons (mVar 3) (mCons (mVar 4) mNil)))) mNil)))))) msNil)
    (msSeq (msIf (mOr (mTst (mBin (dIsN false) (mVar 0) (mC .non))) (mOr (mTst (mBin (dIsN false) (mVar 1) (mC .non))) (mTst (mBin dNe (mIsi [.bool] (mVar 0)) (mIsi [.bool] (mVar 1)))))) (msRet (mAndV (mBin (dIsN false) (mVar 0) (mC .non)) (mBin (dIsN false) (mVar 1) (mC .non)))) msNil)
    (msRet (mAndV (mBin dEq (mIsi [.int] (mVar 0)) (mIsi [.int] (mVar 1))) (mAndV (mBin dEq (mIsi [.str] (mVar 0)) (mIsi [.str] (mVar 1))) (mBin dEq (mVar 0) (mVar 1)))))))
theorem sc__law_like : FnScope N__law_like ["_law_a", "_law_b"] (defScope s__law_like) := ⟨rfl, rfl, rfl, by decide +kernel, rfl, by decide +kernel, by decide +kernel⟩
def F__law_like_ : Nat → PF
  | 0 => fun _ => none
  | t + 1 => runP N__law_like.length (m__law_like (F__law_like_ t))
def F__law_like : PF := F__law_like_ 30
theorem okr__law_like (C : CtxT P K w mg) (B : CtxB K mg base) : ∀ t, FnP P w K mg base "_law_like" (0 + (t)) 2 (F__law_like_ t) := by
  have sc := sc__law_like
  obtain ⟨f, fd, Fd, g⟩ := C.d__law_like
  intro t
  induction t with
  | zero => exact ⟨⟨f, fd, ["_law_a", "_law_b"], g, Fd.kp, Fd.bindsN (fun _ _ _ _ _ _ us hl => match us, hl with | [_, _], _ => rfl), rfl, fnOk0⟩⟩
  | succ t G =>
    have Z : FnP P w K mg base "_law_like" (0 + t + 1) 2 (F__law_like_ (t + 1)) := ⟨⟨f, fd, ["_law_a", "_law_b"], g, Fd.kp, Fd.bindsN (fun _ _ _ _ _ _ us hl => match us, hl with | [_, _], _ => rfl), rfl, fnP Fd sc fun cdv A outer s H E hr => (rss_cons (rs_if (rt_val (re_isi2 .lst .tup C.n_isinstance C.n_list C.n_tuple (re_var 1))) (rss_cons (rs_set 2 sc.nd (re_and (re_eq hr (re_isi .lst C.n_isinstance C.n_list (re_var 0)) (re_isi .lst C.n_isinstance C.n_list (re_var 1))) (re_one (re_eq hr (re_isi .tup C.n_isinstance C.n_tuple (re_var 0)) (re_isi .tup C.n_isinstance C.n_tuple (re_var 1))))))
    (rss_one (rs_ret (re_and (re_var 2) (re_and (re_eq hr (re_len C.n_len (ra_cons (re_var 0) ra_nil)) (re_len C.n_len (ra_cons (re_var 1) ra_nil))) (re_one (re_all rfl C.n_all (ra_cons (re_lc (own := [("_law_c", 3), ("_law_d", 4)]) rfl sc.nd (ri_zip C.n_zip (ra_cons (re_var 0) (ra_cons (re_var 1) ra_nil))) (blkOk_by (N := N__law_like) (sc := defScope s__law_like) (by decide +kernel)) (by decide) (fun _ _ _ _ _ => (rg_tup (n := 2) rfl (rgs_cons (rg_name 3 sc.nd) (rgs_cons (rg_name 4 sc.nd) rgs_nil)))) (fun _ _ _ _ _ => rts_nil) (fun _ _ _ _ _ => (re_callP G hr takes0 (ra_cons (re_var 3) (ra_cons (re_var 4) ra_nil)) (hk := by omega)))) ra_nil)))))))) rss_nil)
    (rss_cons (rs_if (rt_bool (rw_or (rt_is (re_var 0) re_non) (rw_or (rt_is (re_var 1) re_non) (rw_or1 (rt_ne hr (re_isi .bool C.n_isinstance C.n_bool (re_var 0)) (re_isi .bool C.n_isinstance C.n_bool (re_var 1))))))) (rss_one (rs_ret (re_and (re_is (re_var 0) re_non) (re_one (re_is (re_var 1) re_non))))) rss_nil)
    (rss_one (rs_ret (re_and (re_eq hr (re_isi .int C.n_isinstance C.n_int (re_var 0)) (re_isi .int C.n_isinstance C.n_int (re_var 1))) (re_and (re_eq hr (re_isi .str C.n_isinstance C.n_str (re_var 0)) (re_isi .str C.n_isinstance C.n_str (re_var 1))) (re_one (re_eq hr (re_var 0) (re_var 1)))))))))⟩⟩
    exact FnP.mono Z (by omega)
theorem ok__law_like (C : CtxT P K w mg) (B : CtxB K mg base) : FnP P w K mg base "_law_like" (31) 2 (F__law_like) := FnP.mono (okr__law_like C B 30) (by decide)
def N_Table_rows : List Str := ["self"]
def m_Table_rows : MS :=
    (msRet (mCall dList (mCons (mFld ["Table"] "own_rows" (mVar 0)) mNil)))
theorem sc_Table_rows : FnScope N_Table_rows ["self"] (defScope s_Table_rows) := ⟨rfl, rfl, rfl, by decide +kernel, rfl, by decide +kernel, by decide +kernel⟩
def F_Table_rows : PF := runP N_Table_rows.length m_Table_rows
theorem ok_Table_rows (C : CtxT P K w mg) (B : CtxB K mg base) : MetP P w K mg base "Table" "rows" (1) 1 (F_Table_rows) := by
  have sc := sc_Table_rows
  obtain ⟨Ca, f, fd, h1, h0, h2, Fd⟩ := C.d_Table_rows
  exact ⟨⟨Ca, f, fd, ["self"], h1, h0, h2, Fd.bindsN (fun _ _ _ _ _ _ us hl => match us, hl with | [_], _ => rfl), rfl, fnP Fd sc fun cdv A outer s H E hr => (rss_one (rs_ret (re_listc C.n_list (ra_cons (re_fld (ClsFs.cons C.a_Table_own_rows ClsFs.nil) (re_var 0)) ra_nil))))⟩⟩
def N__law_try : List Str := ["_law_ask", "_law_e"]
def m__law_try : MS :=
    (msTryT CL (chainL chF) 1 (msRet (mTup (mCons (mC (.str [])) (mCons (mCallF nLam LF 0) mNil)))))
theorem sc__law_try : FnScope N__law_try ["_law_ask"] (defScope s__law_try) := ⟨rfl, rfl, rfl, by decide +kernel, rfl, by decide +kernel, by decide +kernel⟩
def F__law_try : PF := runP N__law_try.length m__law_try
theorem ok__law_try (C : CtxT P K w mg) (B : CtxB K mg base) : FnP P w K mg base "_law_try" (9) 1 (F__law_try) := by
  have sc := sc__law_try
  obtain ⟨fG, GF, hmG, hkG⟩ := fld_ok_ (P := P) (w := w) (base := base) C
  have LS := okls (P := P) (w := w) (base := base) C B
  obtain ⟨f, fd, Fd, g⟩ := C.d__law_try
  exact ⟨⟨f, fd, ["_law_ask"], g, Fd.kp, Fd.bindsN (fun _ _ _ _ _ _ us hl => match us, hl with | [_], _ => rfl), rfl, fnP Fd sc fun cdv A outer s H E hr => (rss_one (rs_tryT 1 rfl rfl sc.nd ⟨rfl, by decide, .inl C.g_TableError⟩ ⟨rfl, by decide, .inl C.g_Missing⟩ ⟨rfl, by decide, .inl C.g_NothingLeft⟩ (tryCL C) GF hmG hkG (hr.mono (by decide)) (fun W pn xe tk po => (rss_one (rs_ret (re_tup (ra_cons (re_str []) (ra_cons (re_callF 0 LS hr tk) ra_nil))))))))⟩⟩
def N_Table_eq : List Str := ["self", "other"]
def m_Table_eq : MS :=
    (msRet (mAndV (mIsO "Table" (mVar 1)) (mAndV (mBin dEq (mFld ["Table"] "all_names" (mVar 0)) (mFld ["Table"] "all_names" (mVar 1))) (mBin dEq (mFld ["Table"] "own_rows" (mVar 0)) (mFld ["Table"] "own_rows" (mVar 1))))))
theorem sc_Table_eq : FnScope N_Table_eq ["self", "other"] (defScope s_Table_eq) := ⟨rfl, rfl, rfl, by decide +kernel, rfl, by decide +kernel, by decide +kernel⟩
def F_Table_eq : PF := runP N_Table_eq.length m_Table_eq
theorem ok_Table_eq (C : CtxT P K w mg) (B : CtxB K mg base) : MetP P w K mg base "Table" "__eq__" (1) 2 (F_Table_eq) := by
  have sc := sc_Table_eq
  obtain ⟨Ca, f, fd, h1, h0, h2, Fd⟩ := C.d_Table_eq
  exact ⟨⟨Ca, f, fd, ["self", "other"], h1, h0, h2, Fd.bindsN (fun _ _ _ _ _ _ us hl => match us, hl with | [_, _], _ => rfl), rfl, fnP Fd sc fun cdv A outer s H E hr => (rss_one (rs_ret (re_and (re_isO C.iso_Table C.n_isinstance (re_var 1)) (re_and (re_eq hr (re_fld (ClsFs.cons C.a_Table_all_names ClsFs.nil) (re_var 0)) (re_fld (ClsFs.cons C.a_Table_all_names ClsFs.nil) (re_var 1))) (re_one (re_eq hr (re_fld (ClsFs.cons C.a_Table_own_rows ClsFs.nil) (re_var 0)) (re_fld (ClsFs.cons C.a_Table_own_rows ClsFs.nil) (re_var 1))))))))⟩⟩
def N_Table_len : List Str := ["self"]
def m_Table_len : MS :=
    (msRet (mCall dLen (mCons (mFld ["Table"] "own_rows" (mVar 0)) mNil)))
theorem sc_Table_len : FnScope N_Table_len ["self"] (defScope s_Table_len) := ⟨rfl, rfl, rfl, by decide +kernel, rfl, by decide +kernel, by decide +kernel⟩
def F_Table_len : PF := runP N_Table_len.length m_Table_len
theorem ok_Table_len (C : CtxT P K w mg) (B : CtxB K mg base) : MetP P w K mg base "Table" "__len__" (1) 1 (F_Table_len) := by
  have sc := sc_Table_len
  obtain ⟨Ca, f, fd, h1, h0, h2, Fd⟩ := C.d_Table_len
  exact ⟨⟨Ca, f, fd, ["self"], h1, h0, h2, Fd.bindsN (fun _ _ _ _ _ _ us hl => match us, hl with | [_], _ => rfl), rfl, fnP Fd sc fun cdv A outer s H E hr => (rss_one (rs_ret (re_len C.n_len (ra_cons (re_fld (ClsFs.cons C.a_Table_own_rows ClsFs.nil) (re_var 0)) ra_nil))))⟩⟩
def N_Table_sub : List Str := ["self", "keys", "gone", "row"]
def mt_Table_sub_0 : M Bool :=
    (mTst (mBin dNinA (mBin dIx (mVar 3) (mC (.int 0))) (mVar 2)))
def m_Table_sub : MS :=
    (msSeq (msAsg (mCall dList (mCons (mVar 1) mNil)) (mgName 2))
    (msRet (mMkP "Table" [] F_Table_init (mCons (mSl (mFld ["Table"] "all_names" (mVar 0)) (mSmP (mC (.int 1))) mNoP) (mCons (mLc [3] (miL (mFld ["Table"] "own_rows" (mVar 0))) (mgName 3) mt_Table_sub_0 (mVar 3)) mNil)))))
theorem sc_Table_sub : FnScope N_Table_sub ["self", "keys"] (defScope s_Table_sub) := ⟨rfl, rfl, rfl, by decide +kernel, rfl, by decide +kernel, by decide +kernel⟩
def F_Table_sub : PF := runP N_Table_sub.length m_Table_sub
theorem ok_Table_sub (C : CtxT P K w mg) (B : CtxB K mg base) : MetP P w K mg base "Table" "__sub__" (7) 2 (F_Table_sub) := by
  have sc := sc_Table_sub
  have GF_Table_init_D2 := okF_Table_init_D2 (P := P) (w := w) (base := base) C B
  obtain ⟨Ca, f, fd, h1, h0, h2, Fd⟩ := C.d_Table_sub
  exact ⟨⟨Ca, f, fd, ["self", "keys"], h1, h0, h2, Fd.bindsN (fun _ _ _ _ _ _ us hl => match us, hl with | [_, _], _ => rfl), rfl, fnP Fd sc fun cdv A outer s H E hr => (rss_cons (rs_set 2 sc.nd (re_listc C.n_list (ra_cons (re_var 1) ra_nil)))
    (rss_one (rs_ret (re_mkP GF_Table_init_D2 hr tkOf flatE (ra_cons (re_slice (re_fld (ClsFs.cons C.a_Table_all_names ClsFs.nil) (re_var 0)) (ro_some re_int) ro_none) (ra_cons (re_lc (own := [("row", 3)]) rfl sc.nd (ri_list (re_fld (ClsFs.cons C.a_Table_own_rows ClsFs.nil) (re_var 0))) (blkOk_by (N := N_Table_sub) (sc := defScope s_Table_sub) (by decide +kernel)) (by decide) (fun _ _ _ _ _ => (rg_name 3 sc.nd)) (fun _ _ _ _ _ => (rts_one (rt_nin (re_ix (re_var 3) re_int) (re_var 2)))) (fun _ _ _ _ _ => (re_var 3))) ra_nil))))))⟩⟩
def mt_law_0 : M Bool :=
    (mOr (mTst (mBin (dIsN false) (mVar 17) (mC .non))) (mOr (mTst (mBin dInA (mBin dIx (mVar 17) (mC (.int 0))) (mLc [19] (miL (mSl (mVar 15) mNoP (mSmP (mVar 18)))) (mgName 19) mYes (mBin dIx (mVar 19) (mC (.int 0)))))) (mOr (mTst (mBin (dInD false) (mVar 17) (mSl (mVar 6) mNoP (mSmP (mVar 5))))) (mTst (mBin dInA (mBin dIx (mVar 17) (mC (.int 0))) (mLc [19] (miL (mSl (mVar 6) mNoP (mSmP (mVar 5)))) (mgName 19) mYes (mBin dIx (mVar 19) (mC (.int 0)))))))))
def mt_law_1 : M Bool :=
    (mTst (mBin dNinA (mBin dIx (mVar 17) (mC (.int 0))) (mVar 9)))
def mt_law_2 : M Bool :=
    (mTst (mBin dEq (mCallI F__law_pull (mCons (mVar 1) (mCons (mC (.int 2)) mNil))) (mC (.int 0))))
def mb_law_3 : MS :=
    (msSeq (msAsg (mCallI F__law_some_columns (mCons (mVar 1) mNil)) (mgName 3))
    (msSeq (msAsg (mCallI F__law_rows (mCons (mVar 1) (mCons (mVar 3) (mCons (mC (.int 6)) mNil)))) (mgName 4))
    (msSeq (msAsg (mCallI F__law_pull (mCons (mVar 1) (mCons (mBin dAdd (mCall dLen (mCons (mVar 4) mNil)) (mC (.int 1))) mNil))) (mgName 5))
    (msSeq (msAsg (mCallI F__law_mixed (mCons (mVar 1) (mCons (mVar 4) mNil))) (mgName 6))
    (msSeq (msAsg (mTup (mCons (mMkP "Table" [] F_Table_init (mCons (mSl (mVar 3) (mSmP (mC (.int 1))) mNoP) (mCons (mSl (mVar 6) mNoP (mSmP (mVar 5))) mNil))) (mCons (mSl (mVar 6) (mSmP (mVar 5)) mNoP) mNil))) (mgTup 2 (mgCons (mgName 11) (mgCons (mgName 12) mgNil))))
    (msSeq (msAsg (mCall dList (mCons (mVar 12) mNil)) (mgName 7))
    (msSeq (msAsg (mOpO "Table" F_Table_add (mVar 11) (mVar 7)) (mgName 8))
    (msSeq (msIf (mOr (mTst (mBin dNe (mVar 7) (mVar 12))) (mNot (mTst (mCallP F__law_like (mCons (mLst (mCons (mMeP "Table" "rows" F_Table_rows (mVar 8) mNil) (mCons (mMeP "Table" "rows" F_Table_rows (mVar 11) mNil) mNil))) (mCons (mLst (mCons (mVar 4) (mCons (mSortTu (mCons (mSl (mVar 6) mNoP (mSmP (mVar 5))) mNil)) mNil))) mNil)))))) (msRet (mC (.bl false))) msNil)
    (msSeq (msAsg (mBin dAdd (mLc [17] (miL (mVar 4)) (mgName 17) mt_law_2 (mBin dIx (mVar 17) (mC (.int 0)))) (mLst (mCons (mBin dPow (mC (.int 10)) (mC (.int 9))) mNil))) (mgName 9))
    (msSeq (msAsg (mLc [17] (miL (mVar 4)) (mgName 17) mt_law_1 (mVar 17)) (mgName 10))
    (msSeq (msIf (mNot (mTst (mCallP F__law_like (mCons (mLst (mCons (mMeP "Table" "rows" F_Table_rows (mOpO "Table" F_Table_sub (mVar 8) (mVar 9)) mNil) (mCons (mMeP "Table" "rows" F_Table_rows (mOpO "Table" F_Table_sub (mVar 8) (mCall dTuple (mCons (mVar 9) mNil))) mNil) (mCons (mMeP "Table" "rows" F_Table_rows (mVar 8) mNil) mNil)))) (mCons (mLst (mCons (mVar 10) (mCons (mVar 10) (mCons (mVar 4) mNil)))) mNil))))) (msRet (mC (.bl false))) msNil)
    (msSeq (msIf (mAnd (mTst (mBin dNe (mVar 4) (mLst mNil))) (mTst (mBin dNe (mVar 12) (mLst mNil)))) (msSeq (msAsg (mCallI F__law_pull (mCons (mVar 1) (mCons (mCall dLen (mCons (mVar 12) mNil)) mNil))) (mgName 13))
    (msSeq (msAsg (mCallI F__law_any (mCons (mVar 1) (mCons (mBin dAdd (mBin dAdd (mSl (mVar 4) mNoP (mSmP (mC (.int 1)))) (mSl (mVar 12) mNoP (mSmP (mBin dAdd (mVar 13) (mC (.int 1)))))) (mSl (mVar 6) mNoP (mSmP (mVar 5)))) mNil))) (mgName 14))
    (msSeq (msAsg (mBin dAdd (mBin dAdd (mSl (mVar 12) mNoP (mSmP (mBin dAdd (mVar 13) (mC (.int 1))))) (mLst (mCons (mBin dAdd (mTup (mCons (mBin dIx (mVar 14) (mC (.int 0))) mNil)) (mBin dRepT (mTup (mCons (mC (.int 7)) mNil)) (mBin dSub (mCall dLen (mCons (mVar 3) mNil)) (mC (.int 1))))) mNil))) (mLst (mCons (mC .non) mNil))) (mgName 15))
    (msSeq (msAsg (mLc [18, 17] (miEn (mCons (mVar 15) mNil)) (mgTup 2 (mgCons (mgName 18) (mgCons (mgName 17) mgNil))) mt_law_0 (mVar 18)) (mgName 16))
    (msIf (mNot (mTst (mCallP F__law_like (mCons (mLam1G F__law_try 0 [11, 15]) (mCons (mTup (mCons (mC (.str [73, 110, 118, 97, 108, 105, 100, 82, 111, 119])) (mCons (mTup (mCons (mBin dIx (mVar 16) (mC (.int 0))) mNil)) mNil))) mNil))))) (msRet (mC (.bl false))) msNil))))) msNil)
    (msIf (mNot (mTst (mCallP F__law_like (mCons (mLst (mCons (mBin (eqOF "Table" F_Table_eq false) (mOpO "Table" F_Table_add (mVar 11) (mLst mNil)) (mVar 11)) (mCons (mBin (eqOF "Table" F_Table_eq false) (mOpO "Table" F_Table_sub (mVar 11) (mLst mNil)) (mVar 11)) (mCons (mCall (dOwn1 "Table" F_Table_len okLen) (mCons (mVar 11) mNil)) mNil)))) (mCons (mLst (mCons (mC (.bl true)) (mCons (mC (.bl true)) (mCons (mVar 5) mNil)))) mNil))))) (msRet (mC (.bl false))) msNil)))))))))))))
def m_law : MS :=
    (msSeq (msAsg (mCallI F__law_draws (mCons (mVar 0) mNil)) (mgName 1))
    (msSeq (msFor (miR1 (mCons (mC (.int 6)) mNil)) (mgName 2) mb_law_3)
    (msRet (mC (.bl true)))))
theorem sc_law : FnScope N_law ["_law_script"] (defScope s_law) := ⟨rfl, rfl, rfl, by decide +kernel, rfl, by decide +kernel, by decide +kernel⟩
def F_law : IF := runI N_law.length m_law
theorem ok_law (C : CtxT P K w mg) : ∃ f fd, mg "law" = some (.ref f) ∧ (∀ (s : Shared) (u : Value), BindsTo s fd ⟨[u], []⟩ [("_law_script", u)]) ∧ ∀ base : Heap, CtxB K mg base → FnOk P w K mg base (L2.CX P w) 32 f fd ["_law_script"] (SpI K mg 1 F_law) := by
  have sc := sc_law
  obtain ⟨f, fd, Fd, g⟩ := C.d_law
  refine ⟨f, fd, g, fun s u => FunD.bindsA (ps := ["_law_script"]) Fd (fun _ _ _ _ _ _ us hl => match us, hl with | [_], _ => rfl) s [u] rfl, fun base B => ?_⟩
  have GF_Table_init_D2 := okF_Table_init_D2 (P := P) (w := w) (base := base) C B
  have G_Table_add := ok_Table_add (P := P) (w := w) (base := base) C B
  have G_Table_eq := ok_Table_eq (P := P) (w := w) (base := base) C B
  have G_Table_len := ok_Table_len (P := P) (w := w) (base := base) C B
  have G_Table_rows := ok_Table_rows (P := P) (w := w) (base := base) C B
  have G_Table_sub := ok_Table_sub (P := P) (w := w) (base := base) C B
  have G__law_any := ok__law_any (P := P) (w := w) (base := base) C B
  have G__law_draws := ok__law_draws (P := P) (w := w) (base := base) C B
  have G__law_like := ok__law_like (P := P) (w := w) (base := base) C B
  have G__law_mixed := ok__law_mixed (P := P) (w := w) (base := base) C B
  have G__law_pull := ok__law_pull (P := P) (w := w) (base := base) C B
  have G__law_rows := ok__law_rows (P := P) (w := w) (base := base) C B
  have G__law_some_columns := ok__law_some_columns (P := P) (w := w) (base := base) C B
  have G__law_try := ok__law_try (P := P) (w := w) (base := base) C B
  exact fnIC (p := ("law", none)) Fd (Value.ref.inj (Option.some.inj (g.symm.trans C.g_law))) sc fun cdv A outer s H E hc hr => have lp : LamP base mg K (envOfC "law" (defScope s_law) s.heap.objs.size f cdv) ("law", none) "law.<locals>.<lambda>" := ⟨B.tb_law, hc, C.mt_law, C.un_law⟩; (rss_cons (rs_set 1 sc.nd (re_callI G__law_draws hr tkOf (ra_cons (re_var 0) ra_nil)))
    (rss_cons (rs_for poOf rfl (ri_range1 C.n_range (ra_cons re_int ra_nil)) (rg_name 2 sc.nd) (rss_cons (rs_set 3 sc.nd (re_callI G__law_some_columns hr tkOf (ra_cons (re_var 1) ra_nil)))
    (rss_cons (rs_set 4 sc.nd (re_callI G__law_rows hr tkOf (ra_cons (re_var 1) (ra_cons (re_var 3) (ra_cons re_int ra_nil)))))
    (rss_cons (rs_set 5 sc.nd (re_callI G__law_pull hr tkOf (ra_cons (re_var 1) (ra_cons (re_add (re_len C.n_len (ra_cons (re_var 4) ra_nil)) re_int) ra_nil))))
    (rss_cons (rs_set 6 sc.nd (re_callI G__law_mixed hr tkOf (ra_cons (re_var 1) (ra_cons (re_var 4) ra_nil))))
    (rss_cons (rs_asg (re_tup (ra_cons (re_mkP GF_Table_init_D2 hr tkOf flatE (ra_cons (re_slice (re_var 3) (ro_some re_int) ro_none) (ra_cons (re_slice (re_var 6) ro_none (ro_some (re_var 5))) ra_nil))) (ra_cons (re_slice (re_var 6) (ro_some (re_var 5)) ro_none) ra_nil))) (rg_tup (n := 2) rfl (rgs_cons (rg_name 11 sc.nd) (rgs_cons (rg_name 12 sc.nd) rgs_nil))))
    (rss_cons (rs_set 7 sc.nd (re_listc C.n_list (ra_cons (re_var 12) ra_nil)))
    (rss_cons (rs_set 8 sc.nd (re_opO .add G_Table_add C.g_Table C.mro_Table hr tkOf flatE (re_var 11) (re_var 7)))
    (rss_cons (rs_if (rt_bool (rw_or (rt_ne hr (re_var 7) (re_var 12)) (rw_or1 (rt_not (rt_val (re_callP G__law_like hr tkOf (ra_cons (re_lst (ra_cons (re_methP0 G_Table_rows hr tkOf flatE (re_var 8)) (ra_cons (re_methP0 G_Table_rows hr tkOf flatE (re_var 11)) ra_nil))) (ra_cons (re_lst (ra_cons (re_var 4) (ra_cons (re_sortTu C.n_sorted (ra_cons (re_slice (re_var 6) ro_none (ro_some (re_var 5))) ra_nil)) ra_nil))) ra_nil)))))))) (rss_one (rs_ret re_bl)) rss_nil)
    (rss_cons (rs_set 9 sc.nd (re_add (re_lc (own := [("_law_row", 17)]) rfl sc.nd (ri_list (re_var 4)) (blkOk_by (N := N_law) (sc := defScope s_law) (by decide +kernel)) (by decide) (fun _ _ _ _ _ => (rg_name 17 sc.nd)) (fun _ _ _ _ _ => (rts_one (rt_eq hr (re_callI G__law_pull hr takes0 (ra_cons (re_var 1) (ra_cons re_int ra_nil))) re_int))) (fun _ _ _ _ _ => (re_ix (re_var 17) re_int))) (re_lst (ra_cons (re_pow re_int re_int) ra_nil))))
    (rss_cons (rs_setLc (own := [("_law_row", 17)]) 10 rfl sc.nd (ri_list (re_var 4)) (blkOk_by (N := N_law) (sc := defScope s_law) (by decide +kernel)) (fun _ _ _ _ _ => (rg_name 17 sc.nd)) (fun _ _ _ _ _ => (rts_one (rt_nin (re_ix (re_var 17) re_int) (re_var 9)))) (fun _ _ _ _ _ => (re_var 17)))
    (rss_cons (rs_if (rt_not (rt_val (re_callP G__law_like hr tkOf (ra_cons (re_lst (ra_cons (re_methP0 G_Table_rows hr tkOf flatE (re_opO .sub G_Table_sub C.g_Table C.mro_Table hr tkOf flatE (re_var 8) (re_var 9))) (ra_cons (re_methP0 G_Table_rows hr tkOf flatE (re_opO .sub G_Table_sub C.g_Table C.mro_Table hr tkOf flatE (re_var 8) (re_tuplec C.n_tuple (ra_cons (re_var 9) ra_nil)))) (ra_cons (re_methP0 G_Table_rows hr tkOf flatE (re_var 8)) ra_nil)))) (ra_cons (re_lst (ra_cons (re_var 10) (ra_cons (re_var 10) (ra_cons (re_var 4) ra_nil)))) ra_nil))))) (rss_one (rs_ret re_bl)) rss_nil)
    (rss_cons (rs_if (rt_bool (rw_and (rt_ne hr (re_var 4) (re_lst ra_nil)) (rw_and1 (rt_ne hr (re_var 12) (re_lst ra_nil))))) (rss_cons (rs_set 13 sc.nd (re_callI G__law_pull hr tkOf (ra_cons (re_var 1) (ra_cons (re_len C.n_len (ra_cons (re_var 12) ra_nil)) ra_nil))))
    (rss_cons (rs_set 14 sc.nd (re_callI G__law_any hr tkOf (ra_cons (re_var 1) (ra_cons (re_add (re_add (re_slice (re_var 4) ro_none (ro_some re_int)) (re_slice (re_var 12) ro_none (ro_some (re_add (re_var 13) re_int)))) (re_slice (re_var 6) ro_none (ro_some (re_var 5)))) ra_nil))))
    (rss_cons (rs_set 15 sc.nd (re_add (re_add (re_slice (re_var 12) ro_none (ro_some (re_add (re_var 13) re_int))) (re_lst (ra_cons (re_add (re_tup (ra_cons (re_ix (re_var 14) re_int) ra_nil)) (re_repT (re_tup (ra_cons re_int ra_nil)) (re_sub (re_len C.n_len (ra_cons (re_var 3) ra_nil)) re_int))) ra_nil))) (re_lst (ra_cons re_non ra_nil))))
    (rss_cons (rs_setLc (own := [("_law_k", 18), ("_law_row", 17)]) 16 rfl sc.nd (ri_en C.n_enumerate (ra_cons (re_var 15) ra_nil)) (blkOk_by (N := N_law) (sc := defScope s_law) (by decide +kernel)) (fun _ _ _ _ _ => (rg_tup (n := 2) rfl (rgs_cons (rg_name 18 sc.nd) (rgs_cons (rg_name 17 sc.nd) rgs_nil)))) (fun _ _ _ _ _ => (rts_one (rt_bool (rw_or (rt_is (re_var 17) re_non) (rw_or (rt_in (re_ix (re_var 17) re_int) (re_lc (own := [("_law_one", 19)]) rfl sc.nd (ri_list (re_slice (re_var 15) ro_none (ro_some (re_var 18)))) (blkOk_in (N := N_law) (by decide +kernel)) (by decide) (fun _ _ _ _ _ => (rg_name 19 sc.nd)) (fun _ _ _ _ _ => rts_nil) (fun _ _ _ _ _ => (re_ix (re_var 19) re_int)))) (rw_or (rt_inD hr (re_var 17) (re_slice (re_var 6) ro_none (ro_some (re_var 5)))) (rw_or1 (rt_in (re_ix (re_var 17) re_int) (re_lc (own := [("_law_one", 19)]) rfl sc.nd (ri_list (re_slice (re_var 6) ro_none (ro_some (re_var 5)))) (blkOk_in (N := N_law) (by decide +kernel)) (by decide) (fun _ _ _ _ _ => (rg_name 19 sc.nd)) (fun _ _ _ _ _ => rts_nil) (fun _ _ _ _ _ => (re_ix (re_var 19) re_int))))))))))) (fun _ _ _ _ _ => (re_var 18)))
    (rss_one (rs_if (rt_not (rt_val (re_callP G__law_like hr tkOf (ra_cons (re_lam1 [11, 15] C.lamE lamF_0 lp rfl G__law_try hr tkOf (fun _ => rfl)) (ra_cons (re_tup (ra_cons (re_str [73, 110, 118, 97, 108, 105, 100, 82, 111, 119]) (ra_cons (re_tup (ra_cons (re_ix (re_var 16) re_int) ra_nil)) ra_nil))) ra_nil))))) (rss_one (rs_ret re_bl)) rss_nil)))))) rss_nil)
    (rss_one (rs_if (rt_not (rt_val (re_callP G__law_like hr tkOf (ra_cons (re_lst (ra_cons (re_eqO G_Table_eq hr (re_opO .add G_Table_add C.g_Table C.mro_Table hr tkOf flatE (re_var 11) (re_lst ra_nil)) (re_var 11)) (ra_cons (re_eqO G_Table_eq hr (re_opO .sub G_Table_sub C.g_Table C.mro_Table hr tkOf flatE (re_var 11) (re_lst ra_nil)) (re_var 11)) (ra_cons (re_lenO G_Table_len hr C.n_len (ra_cons (re_var 11) ra_nil)) ra_nil)))) (ra_cons (re_lst (ra_cons re_bl (ra_cons re_bl (ra_cons (re_var 5) ra_nil)))) ra_nil))))) (rss_one (rs_ret re_bl)) rss_nil)))))))))))))))
    (rss_one (rs_ret re_bl))))
end
end K16
namespace K16
open PySem PySem.Spec PyProof.Rows L2 PD
theorem ctx {K : PySem.W.Frag} {h : Heap} {mg : Str → Option Value} (X : K.In h) (G : h.Ns mainGlobals mg) {w : World} (c4 : SaysG4 fa fn gs dsL fxL xdL sdL tf R.prog.main.file w h K) : @CtxT ⟨lams, [((He.cT K ("law", none)).2, "law.<locals>.<lambda>"), ((He.cT K ("Table", some "__init__")).2, "Table.__init__.<locals>.<lambda>")]⟩ R.prog K w mg :=
  letI : LamTab := ⟨lams, [((He.cT K ("law", none)).2, "law.<locals>.<lambda>"), ((He.cT K ("Table", some "__init__")).2, "Table.__init__.<locals>.<lambda>")]⟩
  have c3 := c4.g3
  have c := c3.two
  have gl : ∀ x : Str, .glo x ∈ fa → mg x = some (.ref (He.ga K x)) := fun x hx => He.glo_ok X G (SaysD.facts' c.g.d hx)
  {
  d_is_listed := (fun ⟨fd, F⟩ => ⟨_, fd, F, gl "is_listed" (by simp [fa])⟩) (SaysD.def' c.g.d (d := dd_is_listed) (by simp [fn]))
  d_is_name := (fun ⟨fd, F⟩ => ⟨_, fd, F, gl "is_name" (by simp [fa])⟩) (SaysD.def' c.g.d (d := dd_is_name) (by simp [fn]))
  d_all_columns := (fun ⟨fd, F⟩ => ⟨_, fd, F, gl "all_columns" (by simp [fa])⟩) (SaysD.def' c.g.d (d := dd_all_columns) (by simp [fn]))
  d_is_integer := (fun ⟨fd, F⟩ => ⟨_, fd, F, gl "is_integer" (by simp [fa])⟩) (SaysD.def' c.g.d (d := dd_is_integer) (by simp [fn]))
  d_is_row := (fun ⟨fd, F⟩ => ⟨_, fd, F, gl "is_row" (by simp [fa])⟩) (SaysD.def' c.g.d (d := dd_is_row) (by simp [fn]))
  d_checked_rows := (fun ⟨fd, F⟩ => ⟨_, fd, F, gl "checked_rows" (by simp [fa])⟩) (SaysD.def' c.g.d (d := dd_checked_rows) (by simp [fn]))
  q_Table_init_rows := c3.fact (f := fx_q_Table_init_rows) (by simp [fxL])
  d_Table_init := (fun ⟨fd, F⟩ => ⟨_, _, fd, gl "Table" (by simp [fa]), He.cls_ok (SaysD.facts' c.g.d (f := .cls "Table") (by simp [fa])), He.mkr_ok (SaysD.facts' c.g.d (f := .mkr "Table") (by simp [fa])), F⟩) (SaysD.def' c.g.d (d := dd_Table_init) (by simp [fn]))
  d_Table_add := (fun ⟨fd, F⟩ => ⟨_, _, fd, gl "Table" (by simp [fa]), He.cls_ok (SaysD.facts' c.g.d (f := .cls "Table") (by simp [fa])), He.meth_ok (SaysD.facts' c.g.d (f := .meth "Table" "__add__") (by simp [fa])), F⟩) (SaysD.def' c.g.d (d := dd_Table_add) (by simp [fn]))
  d__law_draws := (fun ⟨fd, F⟩ => ⟨_, fd, F, gl "_law_draws" (by simp [fa])⟩) (SaysD.def' c.g.d (d := dd__law_draws) (by simp [fn]))
  d__law_pull := (fun ⟨fd, F⟩ => ⟨_, fd, F, gl "_law_pull" (by simp [fa])⟩) (SaysD.def' c.g.d (d := dd__law_pull) (by simp [fn]))
  d__law_any := (fun ⟨fd, F⟩ => ⟨_, fd, F, gl "_law_any" (by simp [fa])⟩) (SaysD.def' c.g.d (d := dd__law_any) (by simp [fn]))
  d__law_reserved := (fun ⟨fd, F⟩ => ⟨_, fd, F, gl "_law_reserved" (by simp [fa])⟩) (SaysD.def' c.g.d (d := dd__law_reserved) (by simp [fn]))
  d__law_new_names := (fun ⟨fd, F⟩ => ⟨_, fd, F, gl "_law_new_names" (by simp [fa])⟩) (SaysD.def' c.g.d (d := dd__law_new_names) (by simp [fn]))
  d__law_some_columns := (fun ⟨fd, F⟩ => ⟨_, fd, F, gl "_law_some_columns" (by simp [fa])⟩) (SaysD.def' c.g.d (d := dd__law_some_columns) (by simp [fn]))
  d__law_near := (fun ⟨fd, F⟩ => ⟨_, fd, F, gl "_law_near" (by simp [fa])⟩) (SaysD.def' c.g.d (d := dd__law_near) (by simp [fn]))
  d__law_rows := (fun ⟨fd, F⟩ => ⟨_, fd, F, gl "_law_rows" (by simp [fa])⟩) (SaysD.def' c.g.d (d := dd__law_rows) (by simp [fn]))
  d__law_mixed := (fun ⟨fd, F⟩ => ⟨_, fd, F, gl "_law_mixed" (by simp [fa])⟩) (SaysD.def' c.g.d (d := dd__law_mixed) (by simp [fn]))
  d__law_like := (fun ⟨fd, F⟩ => ⟨_, fd, F, gl "_law_like" (by simp [fa])⟩) (SaysD.def' c.g.d (d := dd__law_like) (by simp [fn]))
  d_Table_rows := (fun ⟨fd, F⟩ => ⟨_, _, fd, gl "Table" (by simp [fa]), He.cls_ok (SaysD.facts' c.g.d (f := .cls "Table") (by simp [fa])), He.meth_ok (SaysD.facts' c.g.d (f := .meth "Table" "rows") (by simp [fa])), F⟩) (SaysD.def' c.g.d (d := dd_Table_rows) (by simp [fn]))
  d__law_try := (fun ⟨fd, F⟩ => ⟨_, fd, F, gl "_law_try" (by simp [fa])⟩) (SaysD.def' c.g.d (d := dd__law_try) (by simp [fn]))
  d_Table_eq := (fun ⟨fd, F⟩ => ⟨_, _, fd, gl "Table" (by simp [fa]), He.cls_ok (SaysD.facts' c.g.d (f := .cls "Table") (by simp [fa])), He.meth_ok (SaysD.facts' c.g.d (f := .meth "Table" "__eq__") (by simp [fa])), F⟩) (SaysD.def' c.g.d (d := dd_Table_eq) (by simp [fn]))
  d_Table_len := (fun ⟨fd, F⟩ => ⟨_, _, fd, gl "Table" (by simp [fa]), He.cls_ok (SaysD.facts' c.g.d (f := .cls "Table") (by simp [fa])), He.meth_ok (SaysD.facts' c.g.d (f := .meth "Table" "__len__") (by simp [fa])), F⟩) (SaysD.def' c.g.d (d := dd_Table_len) (by simp [fn]))
  d_Table_sub := (fun ⟨fd, F⟩ => ⟨_, _, fd, gl "Table" (by simp [fa]), He.cls_ok (SaysD.facts' c.g.d (f := .cls "Table") (by simp [fa])), He.meth_ok (SaysD.facts' c.g.d (f := .meth "Table" "__sub__") (by simp [fa])), F⟩) (SaysD.def' c.g.d (d := dd_Table_sub) (by simp [fn]))
  d_law := (fun ⟨fd, F⟩ => ⟨_, fd, F, gl "law" (by simp [fa])⟩) (SaysD.def' c.g.d (d := dd_law) (by simp [fn]))
  d__law_field := (fun ⟨fd, F⟩ => ⟨_, fd, F, gl "_law_field" (by simp [fa])⟩) (SaysD.def' c.g.d (d := dd__law_field) (by simp [fn]))
  n_isinstance := He.free_ok X G (SaysD.facts' c.g.d (f := .free "isinstance") (by simp [fa]))
  n_list := He.free_ok X G (SaysD.facts' c.g.d (f := .free "list") (by simp [fa]))
  n_tuple := He.free_ok X G (SaysD.facts' c.g.d (f := .free "tuple") (by simp [fa]))
  n_all := He.free_ok X G (SaysD.facts' c.g.d (f := .free "all") (by simp [fa]))
  n_len := He.free_ok X G (SaysD.facts' c.g.d (f := .free "len") (by simp [fa]))
  n_str := He.free_ok X G (SaysD.facts' c.g.d (f := .free "str") (by simp [fa]))
  n_set := He.free_ok X G (SaysD.facts' c.g.d (f := .free "set") (by simp [fa]))
  n_bool := He.free_ok X G (SaysD.facts' c.g.d (f := .free "bool") (by simp [fa]))
  n_int := He.free_ok X G (SaysD.facts' c.g.d (f := .free "int") (by simp [fa]))
  n_enumerate := He.free_ok X G (SaysD.facts' c.g.d (f := .free "enumerate") (by simp [fa]))
  n_sorted := He.free_ok X G (SaysD.facts' c.g.d (f := .free "sorted") (by simp [fa]))
  n_range := He.free_ok X G (SaysD.facts' c.g.d (f := .free "range") (by simp [fa]))
  n_zip := He.free_ok X G (SaysD.facts' c.g.d (f := .free "zip") (by simp [fa]))
  c_LETTERS := globC_of X G (c.g.glob (p := ("LETTERS", g_LETTERS)) (by simp [gs]))
  c_RESERVED := globC_of X G (c.g.glob (p := ("RESERVED", g_RESERVED)) (by simp [gs]))
  a_Table_all_names := ⟨_, gl "Table" (by simp [fa]), He.cls_ok (SaysD.facts' c.g.d (f := .cls "Table") (by simp [fa])), He.noat_ok (SaysD.facts' c.g.d (f := .noat "Table" "all_names") (by simp [fa]))⟩
  a_Table_own_rows := ⟨_, gl "Table" (by simp [fa]), He.cls_ok (SaysD.facts' c.g.d (f := .cls "Table") (by simp [fa])), He.noat_ok (SaysD.facts' c.g.d (f := .noat "Table" "own_rows") (by simp [fa]))⟩
  g_law := gl "law" (by simp [fa])
  g_Table := gl "Table" (by simp [fa])
  g_TableError := gl "TableError" (by simp [fa])
  g_Missing := gl "Missing" (by simp [fa])
  g_NothingLeft := gl "NothingLeft" (by simp [fa])
  g_InvalidColumns := gl "InvalidColumns" (by simp [fa])
  g_InvalidRow := gl "InvalidRow" (by simp [fa])
  o_InvalidColumns := c3.fact (f := fx_o_InvalidColumns) (by simp [fxL])
  i_InvalidColumns := c3.fact (f := fx_i_InvalidColumns) (by simp [fxL])
  x_InvalidColumns := c3.defA (d := xd_InvalidColumns_init) (by simp [xdL])
  t_InvalidColumns := c3.fact (f := fx_t_InvalidColumns) (by simp [fxL])
  o_InvalidRow := c3.fact (f := fx_o_InvalidRow) (by simp [fxL])
  i_InvalidRow := c3.fact (f := fx_i_InvalidRow) (by simp [fxL])
  na_InvalidRow := c3.fact (f := fx_na_InvalidRow) (by simp [fxL])
  x_InvalidRow := c3.defA (d := xd_InvalidRow_init) (by simp [xdL])
  t_InvalidRow := c3.fact (f := fx_t_InvalidRow) (by simp [fxL])
  su_TableError := (c4.sup sd_TableError (by simp [sdL])).1
  sv_TableError := (c4.sup sd_TableError (by simp [sdL])).2
  cf_TableError := c3.fact (f := fx_cf_TableError) (by simp [fxL])
  top_ := by decide +kernel
  mro_Table := c3.fact (f := fx_mro_Table) (by simp [fxL])
  iso_Table := isoC_of (gl "Table" (by simp [fa])) (He.cls_ok (SaysD.facts' c.g.d (f := .cls "Table") (by simp [fa]))) (c3.fact (f := fx_iso_Table) (by simp [fxL]))
  lamE := rfl
  mt_law := by simp [LamTab.T]
  un_law := by
    intro z hz e
    simp only [LamTab.T, List.mem_cons, List.not_mem_nil, or_false] at hz
    rcases hz with rfl | rfl
    · rfl
    · have z := c3.fact (f := fx_tb_0_1) (by simp [fxL])
      unfold fx_tb_0_1 at z
      rw [show (He.cT K ("law", none)).2 = (He.cT K ("Table", some "__init__")).2 from e.symm] at z
      simp at z
  mt_Table_init := by simp [LamTab.T]
  un_Table_init := by
    intro z hz e
    simp only [LamTab.T, List.mem_cons, List.not_mem_nil, or_false] at hz
    rcases hz with rfl | rfl
    · have z := c3.fact (f := fx_tb_0_1) (by simp [fxL])
      unfold fx_tb_0_1 at z
      rw [show (He.cT K ("law", none)).2 = (He.cT K ("Table", some "__init__")).2 from e] at z
      simp at z
    · rfl
  }
theorem fin (math : ∀ ns : List Int, ns.length ≤ 63 → (∀ z ∈ ns, Builtin.Int.intBits z ≤ 1048576) → (∃ h', F_law [.scr (ns.map .int)] [] = some (.ok (.bl true), h')) ∧ ∃ h', F_law [.lst (ns.map .int)] [] = some (.ok (.bl true), h')) :
    PySem.W.WalkO (PySem.W.view R.prog [32]) loose (PySem.W.XL (PySem.W.view R.prog [32]) []) hk.says R.toRowW (HandSHeadRun.topDef R.prog 32) [] (fun f vs => PySem.call f vs) := by
  refine walk_pdT (lams := lams) (l := PySem.Challenge.rw_lookedrows_k16_rows_put_in_and_taken_out) (n := 63) (k := 32) (x := "_law_script") rfl (by decide) (by kernel_rfl) ⟨rfl, by decide, by decide⟩ ?_ math
  intro w mg fa h Y G hmg0
  obtain ⟨K, KX, c⟩ := Y
  have hmg : mg ("law" : PySem.Str) = some (.ref fa) := by
    have e : (HandSHeadRun.topDef R.prog 32).name = ("law" : PySem.Str) := by kernel_rfl
    rw [← e]
    exact hmg0
  letI : LamTab := ⟨lams, [((He.cT K ("law", none)).2, "law.<locals>.<lambda>"), ((He.cT K ("Table", some "__init__")).2, "Table.__init__.<locals>.<lambda>")]⟩
  obtain ⟨f, fd, g, hb, hF⟩ := ok_law (P := (PySem.Challenge.rw_lookedrows_k16_rows_put_in_and_taken_out).prog) (w := w) (ctx KX G c)
  have ef : fa = f := by
    have := hmg.symm.trans g
    cases this
    rfl
  subst ef
  refine ⟨K, fd, tf.map (He.cT K), [((He.cT K ("law", none)).2, "law.<locals>.<lambda>"), ((He.cT K ("Table", some "__init__")).2, "Table.__init__.<locals>.<lambda>")], KX, fun p hp => ?_, fun p hp => ?_, fun p hp => ?_, fun p hp => ?_, hb, fun base KB GB TB => hF base ⟨trivial, TB (He.cT K ("law", none)) (List.mem_map.mpr ⟨("law", none), by simp [tf], rfl⟩), TB (He.cT K ("Table", some "__init__")) (List.mem_map.mpr ⟨("Table", some "__init__"), by simp [tf], rfl⟩)⟩⟩
  · obtain ⟨q, hq, rfl⟩ := List.mem_map.mp hp
    exact c.empty q hq
  · obtain ⟨q, hq, rfl⟩ := List.mem_map.mp hp
    exact c.out q hq
  · obtain ⟨q, hq, rfl⟩ := List.mem_map.mp hp
    exact PySem.W.codeHd_of_K KX (c.hd q hq)
  rcases List.mem_cons.mp hp with rfl | hp
  · exact ⟨(He.cT K ("law", none)).1, List.mem_map.mpr ⟨("law", none), by simp [tf], rfl⟩⟩
  rcases List.mem_cons.mp hp with rfl | hp
  · exact ⟨(He.cT K ("Table", some "__init__")).1, List.mem_map.mpr ⟨("Table", some "__init__"), by simp [tf], rfl⟩⟩
  cases hp
end K16
namespace K16
open PySem PD PV PQ PU
theorem e_cols : K16.F_all_columns = PQ.F_all_columns := rfl
theorem e_some : K16.F__law_some_columns = PQ.F__law_some_columns := rfl
theorem e_any : K16.F__law_any = PV.F__law_any := rfl
theorem e_pull : K16.F__law_pull = PV.F__law_pull := rfl
theorem e_like : K16.F__law_like = PV.F__law_like := rfl
theorem e_mixed : K16.F__law_mixed = PU.F__law_mixed := rfl
theorem e_rows : K16.F__law_rows = PU.F__law_rows := rfl
theorem e_checked : K16.F_checked_rows = PU.F_checked_rows := rfl
abbrev hd (g : List Int) : Int := g.headD 0
def kf (g : List Int) : Int × D := (hd g, rowD g)
/-- ascending keys -/
def Up (rs : List (List Int)) : Prop := rs.Pairwise fun a b => hd a < hd b
theorem up_nodup {rs : List (List Int)} (h : Up rs) : (rs.map hd).Nodup := by
  unfold List.Nodup
  rw [List.pairwise_map]
  exact h.imp fun {a b} q e => by rw [e] at q; exact absurd q (by omega)
theorem keyP_rows : ∀ {gs : List (List Int)}, (∀ g ∈ gs, g ≠ []) → keyP (gs.map rowD) = some (gs.map kf)
  | [], _ => rfl
  | g :: gs, h => by
    have ih := keyP_rows fun x hx => h x (List.mem_cons_of_mem _ hx)
    have hg : headK (rowD g) = some (hd g) := by
      cases g with
      | nil => exact absurd rfl (h [] List.mem_cons_self)
      | cons a r => rfl
    rw [List.map_cons, List.map_cons]
    unfold keyP
    rw [hg, ih]; rfl
theorem srt_rows {gs rs : List (List Int)} (p : gs.Perm rs) (u : Up rs) : (srtP (gs.map kf)).map (·.2) = rs.map rowD := by
  have e : srtP (gs.map kf) = rs.map kf := srt_uniq ((srtP_perm _).trans (p.map kf)) (srtP_srt _) (by
    rw [List.pairwise_map]
    exact u.imp fun {a b} q => Int.le_of_lt q) (by
    have := up_nodup u
    rw [List.map_map]; exact this)
  rw [e, List.map_map]; rfl
theorem perm_nodup {gs rs : List (List Int)} (p : gs.Perm rs) (u : Up rs) : (gs.map hd).Nodup := (p.map hd).nodup_iff.mpr (up_nodup u)
theorem sortK_rows {h : EH} {gs rs : List (List Int)} (p : gs.Perm rs) (u : Up rs) (ne : ∀ g ∈ gs, g ≠ []) (l : gs.length ≤ 1000) : sortKD h [.lst (gs.map rowD)] = some (.lst (rs.map rowD)) := by
  show (match keyP (gs.map rowD) with
    | some ps => if (ps.map fun z : Int × D => z.1).Nodup ∧ ps.length ≤ 16777215 then some (D.lst ((srtP ps).map fun z : Int × D => z.2)) else none
    | none => none) = _
  rw [keyP_rows ne]
  show (if ((gs.map kf).map fun z : Int × D => z.1).Nodup ∧ (gs.map kf).length ≤ 16777215 then some (D.lst ((srtP (gs.map kf)).map fun z : Int × D => z.2)) else none) = _
  rw [if_pos ⟨by have := perm_nodup p u; rw [List.map_map]; exact this, by rw [List.length_map]; omega⟩, srt_rows p u]
theorem rowsI_ok : ∀ {gs : List (List Int)}, (∀ g ∈ gs, g ≠ []) → rowsI (gs.map rowD) = some gs
  | [], _ => rfl
  | g :: gs, h => by
    have ih := rowsI_ok fun x hx => h x (List.mem_cons_of_mem _ hx)
    have itsO : ∀ l : List Int, intsD (l.map D.int) = some l := fun l => by
      induction l with
      | nil => rfl
      | cons a l ih => rw [List.map_cons]; unfold intsD; rw [ih]; rfl
    have hg : rowI (rowD g) = some g := by
      cases g with
      | nil => exact absurd rfl (h [] List.mem_cons_self)
      | cons a r => exact itsO (a :: r)
    rw [List.map_cons]
    unfold rowsI
    rw [hg, ih]
theorem sortT_rows {h : EH} {gs rs : List (List Int)} (p : gs.Perm rs) (u : Up rs) (ne : ∀ g ∈ gs, g ≠ []) (l : gs.length < 64) : sortTD h [.lst (gs.map rowD)] = some (.lst (rs.map rowD)) := by
  show (match rowsI (gs.map rowD) with
    | some gs' => if (headsI gs').Nodup ∧ gs'.length < 64 then some (D.lst ((srtP ((headsI gs').zip (gs.map rowD))).map fun z : Int × D => z.2)) else none
    | none => none) = _
  rw [rowsI_ok ne]
  show (if (headsI gs).Nodup ∧ gs.length < 64 then some (D.lst ((srtP ((headsI gs).zip (gs.map rowD))).map fun z : Int × D => z.2)) else none) = _
  have ez : (headsI gs).zip (gs.map rowD) = gs.map kf := by
    unfold headsI
    clear p u ne l
    induction gs with
    | nil => rfl
    | cons g gs ih => rw [List.map_cons, List.map_cons, List.map_cons, List.zip_cons_cons, ih]; rfl
  rw [if_pos ⟨perm_nodup p u, l⟩, ez, srt_rows p u]
/-- checked_rows: rows of n ints with new keys -/
theorem chk_split {n : Nat} {rest : List D} : ∀ (gs : List (List Int)) (i : Nat) (seen : List Int), (∀ g ∈ gs, g.length = n) → (gs.map hd).Nodup → (∀ g ∈ gs, hd g ∉ seen) → chk n (gs.map rowD ++ rest) i seen = chk n rest (i + gs.length) ((gs.map hd).reverse ++ seen)
  | [], i, seen, _, _, _ => rfl
  | g :: gs, i, seen, hl, nd, hs => by
    have hr := row_is (hl g List.mem_cons_self)
    have hg : headI (rowD g) = hd g := by cases g <;> rfl
    rw [List.map_cons, List.nodup_cons] at nd
    show (if isRow n (rowD g) = true ∧ headI (rowD g) ∉ seen then chk n (gs.map rowD ++ rest) (i + 1) (headI (rowD g) :: seen) else some i) = _
    have ih := chk_split (rest := rest) gs (i + 1) (hd g :: seen) (fun x hx => hl x (List.mem_cons_of_mem _ hx)) nd.2 fun x hx m => by
      rcases List.mem_cons.mp m with m | m
      · exact nd.1 (by rw [← m]; exact List.mem_map.mpr ⟨x, hx, rfl⟩)
      · exact hs x (List.mem_cons_of_mem _ hx) m
    rw [hg, if_pos ⟨hr, hs g List.mem_cons_self⟩, ih, List.length_cons, show i + 1 + gs.length = i + (gs.length + 1) by omega, List.map_cons, List.reverse_cons, List.append_assoc]
    rfl
def tF (zs : List (List Nat)) (rs : List (List Int)) : List (Str × D) := [("all_names", ts zs), ("own_rows", .lst (rs.map rowD))]
def tb (zs : List (List Nat)) (rs : List (List Int)) : D := .obj "Table" (tF zs rs)
abbrev tc (fs : List (Str × D)) : Cell := .obj "Table" fs
theorem tF_pure (zs : List (List Nat)) (rs : List (List Int)) : PD.noRef.gf (tF zs rs) = true := by
  show (PD.noRef (ts zs) && (PD.noRef.go (rs.map rowD) && true)) = true
  rw [ts_noRef, rows_no]; rfl
theorem tb_no (zs : List (List Nat)) (rs : List (List Int)) : PD.noRef (tb zs rs) = true := tF_pure zs rs
/-- what a table is made of -/
structure TOk (cs : List (List Nat)) (gs rs : List (List Int)) : Prop where
  cn : ∀ z ∈ cs, isNm z = true
  cl : cs.length ≤ 3
  cd : cs.Nodup
  pm : gs.Perm rs
  up : Up rs
  ln : ∀ r ∈ rs, r.length = cs.length + 1
  sz : rs.length ≤ 100
def srtKK (ds : List D) (h1 : EH) : O D := rt (sortKD h1 ds) h1
theorem sortK_ap {ε : Ev} {h : EH} (m : M (List D)) : mSortKey m ε h = bR (m ε h) srtKK := (rfl)
theorem srtKK_ok {h : EH} {ds : List D} {d : D} (e : sortKD h ds = some d) : srtKK ds h = some (.ok d, h) := by
  unfold srtKK; rw [e]; rfl
theorem lenTs (zs : List (List Nat)) (h : EH) : dLen h [ts zs] = some (.int (zs.length : Nat)) := by
  show some (D.int ((zs.map D.str).length : Nat)) = _
  rw [List.length_map]
section
variable {cs : List (List Nat)} {gs rs : List (List Int)} {t : EH}
theorem TOk.gl (T : TOk cs gs rs) : ∀ g ∈ gs, g.length = cs.length + 1 := fun g hg => T.ln g (T.pm.mem_iff.mp hg)
theorem TOk.ne (T : TOk cs gs rs) : ∀ g ∈ gs, g ≠ [] := fun g hg z => by
  have := T.gl g hg
  rw [z] at this; simp at this
theorem TOk.gz (T : TOk cs gs rs) : gs.length ≤ 100 := by rw [T.pm.length_eq]; exact T.sz
theorem rows_okD {n : Nat} (h : ∀ g ∈ gs, g.length = n) (hn : n ≤ 1000) : ∀ d ∈ gs.map rowD, okD 2 d = true := fun d hd => by
  obtain ⟨g, hg, rfl⟩ := List.mem_map.mp hd
  exact row_ok (by rw [h g hg]; exact hn)
theorem table_init (hp : t.all pureC = true) (T : TOk cs gs rs) : F_Table_init (.ref t.length :: ([ts cs, .lst (gs.map rowD)] ++ [])) (t ++ [tc []]) = some (.ok .non, t ++ [tc (tF ([107, 101, 121] :: cs) rs)]) := by
  have q1 : callPK PQ.F_all_columns [ts cs] (t ++ [tc []]) = some (.ok (ts ([107, 101, 121] :: cs)), t ++ [tc []]) := callPK_ok (columns_ok (b := true) T.cn T.cl T.cd) (go1 (ts_noRef cs))
  have p1 : putO ["Table"] "all_names" (t ++ [tc []]) (.ref t.length) (ts ([107, 101, 121] :: cs)) = some (t ++ [tc [("all_names", ts ([107, 101, 121] :: cs))]]) := by
    rw [put_at last_at (by decide), last_set]; kernel_rfl
  have f1 : dFld ["Table"] "all_names" (t ++ [tc [("all_names", ts ([107, 101, 121] :: cs))]]) (.ref t.length) = some (ts ([107, 101, 121] :: cs)) := fld_at last_at (by kernel_rfl)
  have ck := checked_ok (n := cs.length + 1) (t := 1) (b := false) (ds := gs.map rowD) (ks := []) (by omega) (rows_okD T.gl (by have := T.cl; omega)) (by have := T.gz; simp; omega) (t ++ [tc [("all_names", ts ([107, 101, 121] :: cs))]])
  have cn : chk (cs.length + 1) (gs.map rowD) 0 ([] : List Int).reverse = none := by
    have := chk_split (n := cs.length + 1) (rest := []) gs 0 [] T.gl (perm_nodup T.pm T.up) (fun _ _ m => nomatch m)
    rw [List.append_nil] at this
    exact this
  rw [cn] at ck
  have ck' : callPK PU.F_checked_rows [.lst (gs.map rowD), .int ((cs.length + 1 : Nat) : Int), .lst []] (t ++ [tc [("all_names", ts ([107, 101, 121] :: cs))]]) = some (.ok (.lst (gs.map rowD)), t ++ [tc [("all_names", ts ([107, 101, 121] :: cs))]]) := ck
  have ln : ∀ h : EH, dLen h [ts ([107, 101, 121] :: cs)] = some (.int ((cs.length + 1 : Nat) : Int)) := fun h => lenTs _ h
  have so := srtKK_ok (sortK_rows (h := t ++ [tc [("all_names", ts ([107, 101, 121] :: cs))]]) T.pm T.up T.ne (by have := T.gz; omega))
  have p2 : putO ["Table"] "own_rows" (t ++ [tc [("all_names", ts ([107, 101, 121] :: cs))]]) (.ref t.length) (.lst (rs.map rowD)) = some (t ++ [tc (tF ([107, 101, 121] :: cs) rs)]) := by
    rw [put_at last_at (by show 1 < 1000; decide), last_set]; kernel_rfl
  show endI (t ++ [tc []]).length (m_Table_init [some (.ref t.length), some (ts cs), some (.lst (gs.map rowD))] (t ++ [tc []])) = _
  simp! only [m_Table_init, e_cols, e_checked, sortK_ap, q1, p1, f1, ln, ck', so, p2]
  exact endI_nx (by simp)
theorem table_mk {h : EH} (hp : h.all pureC = true) (T : TOk cs gs rs) : mkpK "Table" [] F_Table_init [ts cs, .lst (gs.map rowD)] h = some (.ok (tb ([107, 101, 121] :: cs) rs), h) := mkpK_ok hp (tF_pure _ _) (table_init hp T)
end
end K16
namespace K16
open PySem PD PV PQ PU
theorem head_row {g : List Int} (h : g ≠ []) (hh : EH) : dIx hh (rowD g) (.int 0) = some (.int (hd g)) := by
  cases g with
  | nil => exact absurd rfl h
  | cons a r => exact (ix_tup _ _).trans atl0
theorem okE_row {r : List Int} : okE 2 (rowD r) = true := by
  show (r.map D.int).all (okE 1) = true
  rw [List.all_map, List.all_eq_true]
  exact fun _ _ => rfl
theorem okE_rows {rs : List (List Int)} : okE 3 (.lst (rs.map rowD)) = true := by
  show (rs.map rowD).all (okE 2) = true
  rw [List.all_map, List.all_eq_true]
  exact fun _ _ => okE_row
theorem okE_ts {cs : List (List Nat)} (h : ∀ z ∈ cs, isNm z = true) : okE 2 (ts ([107, 101, 121] :: cs)) = true := okE_tupL (t := 1) fun d hd => by
  obtain ⟨z, hz, rfl⟩ := List.mem_map.mp hd
  rcases List.mem_cons.mp hz with rfl | hz
  · rfl
  · exact okE_nm 0 (h z hz)
section
variable {zs : List (List Nat)} {rs : List (List Int)} {h : EH}
theorem f_rows : dFld ["Table"] "own_rows" h (tb zs rs) = some (.lst (rs.map rowD)) := by kernel_rfl
theorem f_names : dFld ["Table"] "all_names" h (tb zs rs) = some (ts zs) := by kernel_rfl
theorem rows_m : F_Table_rows [tb zs rs] = some (.ok (.lst (rs.map rowD))) := by
  have dl : ∀ h : EH, dList h [.lst (rs.map rowD)] = some (.lst (rs.map rowD)) := fun h => rfl
  show endP (m_Table_rows [some (tb zs rs)] []) = _
  dsimp? only [m_Table_rows, f_rows, dl]
  exact endP_ok (show PD.noRef.go (rs.map rowD) = true from rows_no rs)
theorem len_m : F_Table_len [tb zs rs] = some (.ok (.int (rs.length : Nat))) := by
  have dl : ∀ h : EH, dLen h [.lst (rs.map rowD)] = some (.int (rs.length : Nat)) := fun h => by
    show some (D.int ((rs.map rowD).length : Nat)) = _
    rw [List.length_map]
  show endP (m_Table_len [some (tb zs rs)] []) = _
  dsimp? only [m_Table_len, f_rows, dl]
  exact endP_ok rfl
theorem eq_m (hz : okE 2 (ts zs) = true) : F_Table_eq [tb zs rs, tb zs rs] = some (.ok (.bl true)) := by
  have io : ∀ (ε : Ev) (m : M D) (h : EH), m ε h = some (.ok (tb zs rs), h) → mIsO "Table" m ε h = some (.ok (.bl true), h) := fun ε m h e => by
    unfold mIsO
    rw [e]
    kernel_rfl
  have i1 := io [some (tb zs rs), some (tb zs rs)] (mVar 1) [] rfl
  have d1 : dEq [] (ts zs) (ts zs) = some (.bl true) := dEq_t hz (by decide)
  have d2 : dEq [] (.lst (rs.map rowD)) (.lst (rs.map rowD)) = some (.bl true) := dEq_t okE_rows (by decide)
  show endP (m_Table_eq [some (tb zs rs), some (tb zs rs)] []) = _
  dsimp? only [m_Table_eq, i1, f_rows, f_names, d1, d2]
  exact endP_ok rfl
end
def starK (b : M (List D)) (ε : Ev) (x : D) (h1 : EH) : O (List D) := match asS h1 x with
  | some xs => bR (b ε h1) fun ys h2 => some (.ok (xs ++ ys), h2)
  | none => none
theorem star_ap {ε : Ev} {h : EH} (a : M D) (b : M (List D)) : mStar a b ε h = bR (a ε h) (starK b ε) := (rfl)
theorem starK_lst {ε : Ev} {h : EH} {ds : List D} (b : M (List D)) {ys : List D} (e : b ε h = some (.ok ys, h)) : starK b ε (.lst ds) h = some (.ok (ds ++ ys), h) := by
  show bR (b ε h) (fun ys h2 => some (R.ok (ds ++ ys), h2)) = _
  rw [e]; rfl
section
variable {cs : List (List Nat)} {as bs rs : List (List Int)} {h : EH}
theorem heads_lc {as : List (List Int)} (ne : ∀ g ∈ as, g ≠ []) {a b c : Option D} {h : EH} : lcL (mgName 3) mYes (mBin dIx (mVar 3) (mC (.int 0))) (as.map rowD) [a, b, c, none] h = some ((as.map hd).map .int, h) := by
  have := lcL_map (g := mgName 3) (t := mYes) (e := mBin dIx (mVar 3) (mC (.int 0))) (fun d => .int (headI d)) (ε := [a, b, c, none]) (h := h) (ds := as.map rowD) fun d hdm => by
    obtain ⟨g, hg, rfl⟩ := List.mem_map.mp hdm
    refine ⟨[a, b, c, some (rowD g)], rfl, rfl, ?_⟩
    have hr := head_row (ne g hg) h
    have e : headI (rowD g) = hd g := by cases g <;> rfl
    dsimp? only [hr, e]
  rw [this, List.map_map, List.map_map]
  congr 2
  refine List.map_congr_left fun g hg => ?_
  show D.int (headI (rowD g)) = .int (hd g)
  cases g <;> rfl
theorem cols_cut (cs : List (List Nat)) : cutD (([107, 101, 121] :: cs).map D.str) (some 1) none = cs.map .str := cut1 ([107, 101, 121] :: cs)
/-- what + looks at first -/
theorem add_chk (Ta : TOk cs as as) (ob : ∀ d ∈ bs.map rowD, okD 2 d = true) {ds : List D} (od : ∀ d ∈ ds, okD 2 d = true) (l : ds.length ≤ 800) {a b c : Option D} :
    callPK PU.F_checked_rows [.lst ds, .int ((cs.length + 1 : Nat) : Int), .lst ((as.map hd).map .int)] h = some (match chk (cs.length + 1) ds 0 (as.map hd).reverse with
      | none => .ok (.lst ds)
      | some j => .ex (irX j), h) := checked_ok (n := cs.length + 1) (t := 1) (b := false) (ds := ds) (ks := as.map hd) (by omega) od (by rw [List.length_map]; have := Ta.sz; omega) h
theorem add_m (Ta : TOk cs as as) (T : TOk cs (as ++ bs) rs) : F_Table_add [tb ([107, 101, 121] :: cs) as, .lst (bs.map rowD)] = some (.ok (tb ([107, 101, 121] :: cs) rs)) := by
  have nd := perm_nodup T.pm T.up
  rw [List.map_append, List.nodup_append] at nd
  have bl : ∀ g ∈ bs, g.length = cs.length + 1 := fun g hg => T.gl g (List.mem_append_right _ hg)
  have lz : as.length + bs.length ≤ 100 := by have := T.gz; rw [List.length_append] at this; exact this
  have ck := add_chk (h := []) (bs := bs) (ds := bs.map rowD) (a := none) (b := none) (c := none) Ta (rows_okD bl (by have := T.cl; omega)) (rows_okD bl (by have := T.cl; omega)) (by rw [List.length_map]; omega)
  have cn : chk (cs.length + 1) (bs.map rowD) 0 (as.map hd).reverse = none := by
    have := chk_split (n := cs.length + 1) (rest := []) bs 0 (as.map hd).reverse bl nd.2.1 (fun g hg m => nd.2.2 (hd g) (List.mem_reverse.mp m) (hd g) (List.mem_map.mpr ⟨g, hg, rfl⟩) rfl)
    rw [List.append_nil] at this
    exact this
  rw [cn] at ck
  have ck' : callPK PU.F_checked_rows [.lst (bs.map rowD), .int ((cs.length + 1 : Nat) : Int), .lst ((as.map hd).map .int)] [] = some (.ok (.lst (bs.map rowD)), []) := ck
  have ln : ∀ h : EH, dLen h [ts ([107, 101, 121] :: cs)] = some (.int ((cs.length + 1 : Nat) : Int)) := fun h => lenTs _ h
  have lk := lcK_ok (vs := [3]) (ε := [some (tb ([107, 101, 121] :: cs) as), some (.lst (bs.map rowD)), none, none]) (h := []) (heads_lc (a := some (tb ([107, 101, 121] :: cs) as)) (b := some (.lst (bs.map rowD))) (c := none) Ta.ne) (by rw [List.length_map, List.length_map]; omega)
  have mk := table_mk (h := []) rfl T
  rw [List.map_append] at mk
  have mk' : mkpK "Table" [] F_Table_init [.tup (cs.map .str), .lst (as.map rowD ++ bs.map rowD)] [] = some (.ok (tb ([107, 101, 121] :: cs) rs), []) := mk
  have lsK : lstK (as.map rowD ++ bs.map rowD) [] = some (.ok (.lst (as.map rowD ++ bs.map rowD)), []) := lstK_ok (by rw [List.length_append, List.length_map, List.length_map]; omega)
  have s2 : ∀ ε : Ev, starK mNil ε (.lst (bs.map rowD)) [] = some (.ok (bs.map rowD ++ []), []) := fun ε => starK_lst mNil rfl
  have cc := cols_cut cs
  have ct : starK (mStar (mVar 2) mNil) [some (tb ([107, 101, 121] :: cs) as), some (.lst (bs.map rowD)), some (.lst (bs.map rowD)), none] (.lst (as.map rowD)) [] = some (.ok (as.map rowD ++ (bs.map rowD ++ [])), []) := starK_lst _ (by
    dsimp? only [star_ap, s2])
  show endP (m_Table_add [some (tb ([107, 101, 121] :: cs) as), some (.lst (bs.map rowD)), none, none] []) = _
  simp! only [m_Table_add, e_checked, f_names, f_rows, ln, lk, ck', star_ap, ct, cc, List.append_nil, lsK, mk']
  exact endP_ok (tb_no _ _)
/-- a row that is none, or whose key is known -/
theorem add_ex (Ta : TOk cs as as) {ds : List D} (od : ∀ d ∈ ds, okD 2 d = true) (l : ds.length ≤ 800) {j : Nat} (hc : chk (cs.length + 1) ds 0 (as.map hd).reverse = some j) : F_Table_add [tb ([107, 101, 121] :: cs) as, .lst ds] = some (.ex (irX j)) := by
  have ck := add_chk (h := []) (bs := []) (ds := ds) (a := none) (b := none) (c := none) Ta (fun d h => nomatch h) od l
  rw [hc] at ck
  have ck' : callPK PU.F_checked_rows [.lst ds, .int ((cs.length + 1 : Nat) : Int), .lst ((as.map hd).map .int)] [] = some (.ex (irX j), []) := ck
  have ln : ∀ h : EH, dLen h [ts ([107, 101, 121] :: cs)] = some (.int ((cs.length + 1 : Nat) : Int)) := fun h => lenTs _ h
  have lk := lcK_ok (vs := [3]) (ε := [some (tb ([107, 101, 121] :: cs) as), some (.lst ds), none, none]) (h := []) (heads_lc (a := some (tb ([107, 101, 121] :: cs) as)) (b := some (.lst ds)) (c := none) Ta.ne) (by rw [List.length_map, List.length_map]; have := Ta.sz; omega)
  show endP (m_Table_add [some (tb ([107, 101, 121] :: cs) as), some (.lst ds), none, none] []) = _
  simp! only [m_Table_add, e_checked, f_names, f_rows, ln, lk, ck']
  exact endP_ex rfl
theorem flat_ints (ks : List Int) : (ks.map D.int).all flatD = true := by
  rw [List.all_map, List.all_eq_true]
  exact fun _ _ => rfl
theorem any_ints {i : Int} : ∀ ks : List Int, ((ks.map D.int).any fun z => eqF z (.int i)) = decide (i ∈ ks)
  | [] => rfl
  | k :: ks => by
    rw [List.map_cons, List.any_cons, any_ints ks]
    show ((k == i) || decide (i ∈ ks)) = _
    by_cases e : k = i
    · subst e
      rw [beq_self_eq_true, Bool.true_or, decide_eq_true List.mem_cons_self]
    · rw [beq_eq_false_iff_ne.mpr e, Bool.false_or]
      exact decide_eq_decide.mpr ⟨List.mem_cons_of_mem _, fun h => (List.mem_cons.mp h).resolve_left fun z => e z.symm⟩
theorem nin_ints {h : EH} {i : Int} (ks : List Int) : dNinA h (.int i) (.lst (ks.map .int)) = some (.bl (!decide (i ∈ ks))) := by
  have e : dIn true h (.int i) (.lst (ks.map .int)) = some (.bl (true != (ks.map D.int).any fun z => eqF z (.int i))) := if_pos ⟨rfl, flat_ints ks⟩
  show (dInS true h (.int i) (.lst (ks.map .int))).or (dIn true h (.int i) (.lst (ks.map .int))) = _
  rw [show dInS true h (.int i) (.lst (ks.map .int)) = none from rfl, e, any_ints]
  show some (D.bl (true != decide (i ∈ ks))) = _
  rw [Bool.true_bne]
theorem in_ints {h : EH} {i : Int} (ks : List Int) : dInA h (.int i) (.lst (ks.map .int)) = some (.bl (decide (i ∈ ks))) := by
  have e : dIn false h (.int i) (.lst (ks.map .int)) = some (.bl (false != (ks.map D.int).any fun z => eqF z (.int i))) := if_pos ⟨rfl, flat_ints ks⟩
  show (dInS false h (.int i) (.lst (ks.map .int))).or (dIn false h (.int i) (.lst (ks.map .int))) = _
  rw [show dInS false h (.int i) (.lst (ks.map .int)) = none from rfl, e, any_ints]
  show some (D.bl (false != decide (i ∈ ks))) = _
  rw [Bool.false_bne]
theorem sub_lc {ks : List Int} (ne : ∀ g ∈ rs, g ≠ []) {a b : Option D} {h : EH} : lcL (mgName 3) mt_Table_sub_0 (mVar 3) (rs.map rowD) [a, b, some (.lst (ks.map .int)), none] h = some ((rs.filter fun g => !decide (hd g ∈ ks)).map rowD, h) := by
  induction rs with
  | nil => rfl
  | cons g rs ih =>
    have hr := head_row (ne g List.mem_cons_self) h
    have hn := nin_ints (h := h) (i := hd g) ks
    have ht : mt_Table_sub_0 [a, b, some (.lst (ks.map .int)), some (rowD g)] h = some (.ok (!decide (hd g ∈ ks)), h) := by
      dsimp? only [mt_Table_sub_0, hr, hn]
    rw [List.map_cons]
    unfold lcL
    have hg : mgName 3 (rowD g) [a, b, some (.lst (ks.map .int)), none] h = some ([a, b, some (.lst (ks.map .int)), some (rowD g)], h) := rfl
    simp only [hg, ht]
    cases q : decide (hd g ∈ ks) with
    | true =>
      rw [List.filter_cons_of_neg (by rw [q]; decide)]
      simp only [Bool.not_true]
      exact ih fun x hx => ne x (List.mem_cons_of_mem _ hx)
    | false =>
      rw [List.filter_cons_of_pos (by rw [q]; decide)]
      have ih := ih fun x hx => ne x (List.mem_cons_of_mem _ hx)
      simp only [Bool.not_false, ih, show mVar 3 [a, b, some (.lst (ks.map .int)), some (rowD g)] h = some (.ok (rowD g), h) from rfl]
      rfl
theorem TOk.filter (T : TOk cs rs rs) (p : List Int → Bool) : TOk cs (rs.filter p) (rs.filter p) := ⟨T.cn, T.cl, T.cd, List.Perm.refl _, T.up.filter p, fun r hr => T.ln r (List.mem_filter.mp hr).1, Nat.le_trans (List.length_filter_le _ _) T.sz⟩
theorem sub_m (T : TOk cs rs rs) {ks : List Int} (l : ks.length ≤ 1000) {y : D} (hy : y = .lst (ks.map .int) ∨ y = .tup (ks.map .int)) : F_Table_sub [tb ([107, 101, 121] :: cs) rs, y] = some (.ok (tb ([107, 101, 121] :: cs) (rs.filter fun g => !decide (hd g ∈ ks)))) := by
  have dl : ∀ h : EH, dList h [y] = some (.lst (ks.map .int)) := fun h => by rcases hy with rfl | rfl <;> rfl
  have lk := lcK_ok (vs := [3]) (ε := [some (tb ([107, 101, 121] :: cs) rs), some y, some (.lst (ks.map .int)), none]) (h := []) (sub_lc (ks := ks) (a := some (tb ([107, 101, 121] :: cs) rs)) (b := some y) T.ne) (by
    rw [List.length_map]
    have := List.length_filter_le (fun g => !decide (hd g ∈ ks)) rs
    have := T.sz
    omega)
  have cc := cols_cut cs
  have mk := table_mk (h := []) rfl (T.filter fun g => !decide (hd g ∈ ks))
  have mk' : mkpK "Table" [] F_Table_init [.tup (cs.map .str), .lst ((rs.filter fun g => !decide (hd g ∈ ks)).map rowD)] [] = some (.ok (tb ([107, 101, 121] :: cs) (rs.filter fun g => !decide (hd g ∈ ks))), []) := mk
  show endP (m_Table_sub [some (tb ([107, 101, 121] :: cs) rs), some y, none, none] []) = _
  simp! only [m_Table_sub, f_names, f_rows, dl, lk, cc, mk']
  exact endP_ok (tb_no _ _)
end
end K16
namespace K16
open PySem PD PV PQ PU
theorem inD_val {t : Nat} {x : D} {ds : List D} {h : EH} (hx : okE t x = true) (hy : ∀ d ∈ ds, okE t d = true) (ht : t + 1 ≤ 64) : ∃ b, dInD false h x (.lst ds) = some (.bl b) ∧ (b = true ↔ x ∈ ds) := by
  obtain ⟨a1, a2, a3⟩ := pd_ok hx
  obtain ⟨b1, b2, b3⟩ := pd_ok (t := t + 1) (d := .lst ds) (List.all_eq_true.mpr hy)
  have g : toPD.go ds = some (ds.map (pdOf t)) := toPD_all fun d hd => (pd_ok (hy d hd)).1
  refine ⟨(ds.map (pdOf t)).any fun z => PyData.eqv z (pdOf t x), ?_, ?_⟩
  · unfold dInD
    dsimp only
    rw [a1, g]
    dsimp only
    have s1 : SeqAt.shaped (pdOf t x) = true := Bool.and_eq_true_iff.mpr ⟨a2, decide_eq_true (by omega)⟩
    have s2 : SeqAt.shaped (.list (ds.map (pdOf t))) = true := Bool.and_eq_true_iff.mpr ⟨b2, decide_eq_true (Nat.le_trans b3 ht)⟩
    rw [if_pos ⟨s1, s2⟩, Bool.false_bne]
  · rw [List.any_map, List.any_eq_true]
    constructor
    · rintro ⟨d, hd, e⟩
      have := (eqv_iff (hy d hd) hx).mp e
      rw [← this]; exact hd
    · intro hm
      exact ⟨x, hm, (eqv_iff (hy x hm) hx).mpr rfl⟩
theorem rowD_inj {a b : List Int} (h : rowD a = rowD b) : a = b := by
  have h : a.map D.int = b.map D.int := by
    unfold rowD at h
    injection h
  have inj : ∀ (x y : List Int), x.map D.int = y.map D.int → x = y := fun x => by
    induction x with
    | nil => intro y e; cases y with
      | nil => rfl
      | cons _ _ => cases e
    | cons p x ih => intro y e; cases y with
      | nil => cases e
      | cons q y =>
        rw [List.map_cons, List.map_cons] at e
        injection e with e1 e2
        injection e1 with e1
        rw [e1, ih y e2]
  exact inj a b h
section
variable {s0 s1 s2 s3 s4 s7 s8 s9 s10 s11 s12 s13 s14 s16 s19 : Option D} {h : EH}
abbrev lE (s0 s1 s2 s3 s4 : Option D) (sp : Nat) (ms : List (List Int)) (s7 s8 s9 s10 s11 s12 s13 s14 : Option D) (bd : List D) (s16 a b c : Option D) : Ev := [s0, s1, s2, s3, s4, some (.int (sp : Nat)), some (.lst (ms.map rowD)), s7, s8, s9, s10, s11, s12, s13, s14, some (.lst bd), s16, a, b, c]
theorem heads19 {as : List (List Int)} (ne : ∀ g ∈ as, g ≠ []) (l : as.length ≤ 1000) {sp : Nat} {ms : List (List Int)} {bd : List D} {a b c : Option D} : lcK [19] (mgName 19) mYes (mBin dIx (mVar 19) (mC (.int 0))) (lE s0 s1 s2 s3 s4 sp ms s7 s8 s9 s10 s11 s12 s13 s14 bd s16 a b c) (as.map rowD) h = some (.ok (.lst ((as.map hd).map .int)), h) := by
  refine lcK_ok ?_ (by rw [List.length_map, List.length_map]; omega)
  have := lcL_map (g := mgName 19) (t := mYes) (e := mBin dIx (mVar 19) (mC (.int 0))) (fun d => .int (headI d)) (ε := wipeE (lE s0 s1 s2 s3 s4 sp ms s7 s8 s9 s10 s11 s12 s13 s14 bd s16 a b c) [19]) (h := h) (ds := as.map rowD) fun d hdm => by
    obtain ⟨g, hg, rfl⟩ := List.mem_map.mp hdm
    refine ⟨lE s0 s1 s2 s3 s4 sp ms s7 s8 s9 s10 s11 s12 s13 s14 bd s16 a b (some (rowD g)), rfl, rfl, ?_⟩
    have hr := head_row (ne g hg) h
    have e : headI (rowD g) = hd g := by cases g <;> rfl
    dsimp? only [lE, hr, e]
  rw [this, List.map_map, List.map_map]
  congr 2
  refine List.map_congr_left fun g hg => ?_
  show D.int (headI (rowD g)) = .int (hd g)
  cases g <;> rfl
/-- whether a row of the handed ones is late -/
theorem test_row {Q ms : List (List Int)} {sp i : Nat} {g : List Int} {bd : List D} (hbd : bd = Q.map rowD ++ [.non]) (hi : i ≤ Q.length) (hsp : sp ≤ ms.length) (lm : ms.length ≤ 200) (lq : Q.length ≤ 200) (nq : ∀ g ∈ Q, g ≠ []) (nm : ∀ g ∈ ms, g ≠ []) (ng : g ≠ []) :
    mt_law_0 (lE s0 s1 s2 s3 s4 sp ms s7 s8 s9 s10 s11 s12 s13 s14 bd s16 (some (rowD g)) (some (.int (i : Nat))) s19) h = some (.ok (decide (hd g ∈ (Q.take i).map hd ∨ hd g ∈ (ms.take sp).map hd)), h) := by
  have c1 : cutD bd none (some ((i : Nat) : Int)) = (Q.take i).map rowD := by
    rw [hbd, cut_lo (by rw [List.length_append, List.length_map]; simp; omega), List.take_append_of_le_length (by rw [List.length_map]; exact hi), List.map_take]
  have c2 : cutD (ms.map rowD) none (some ((sp : Nat) : Int)) = (ms.take sp).map rowD := by
    rw [cut_lo (by rw [List.length_map]; exact hsp), List.map_take]
  have isn : dIsN false h (rowD g) .non = some (.bl false) := rfl
  have hr := head_row ng h
  have k1 := heads19 (h := h) (s0 := s0) (s1 := s1) (s2 := s2) (s3 := s3) (s4 := s4) (s7 := s7) (s8 := s8) (s9 := s9) (s10 := s10) (s11 := s11) (s12 := s12) (s13 := s13) (s14 := s14) (s16 := s16) (sp := sp) (ms := ms) (bd := bd) (a := some (rowD g)) (b := some (.int (i : Nat))) (c := s19) (as := Q.take i) (fun x hx => nq x (List.mem_of_mem_take hx)) (by rw [List.length_take]; omega)
  have k2 := heads19 (h := h) (s0 := s0) (s1 := s1) (s2 := s2) (s3 := s3) (s4 := s4) (s7 := s7) (s8 := s8) (s9 := s9) (s10 := s10) (s11 := s11) (s12 := s12) (s13 := s13) (s14 := s14) (s16 := s16) (sp := sp) (ms := ms) (bd := bd) (a := some (rowD g)) (b := some (.int (i : Nat))) (c := s19) (as := ms.take sp) (fun x hx => nm x (List.mem_of_mem_take hx)) (by rw [List.length_take]; omega)
  have n1 := in_ints (h := h) (i := hd g) ((Q.take i).map hd)
  have n2 := in_ints (h := h) (i := hd g) ((ms.take sp).map hd)
  obtain ⟨b, n3, hb⟩ := inD_val (t := 2) (x := rowD g) (ds := (ms.take sp).map rowD) (h := h) okE_row (fun d hd => by
    obtain ⟨r, _, rfl⟩ := List.mem_map.mp hd
    exact okE_row) (by decide)
  have hb2 : b = true → hd g ∈ (ms.take sp).map hd := fun e => by
    obtain ⟨r, hr, e2⟩ := List.mem_map.mp (hb.mp e)
    rw [← rowD_inj e2]
    exact List.mem_map.mpr ⟨r, hr, rfl⟩
  by_cases q1 : hd g ∈ (Q.take i).map hd
  · rw [decide_eq_true q1] at n1
    simp! only [mt_law_0, lE, isn, hr, c1, k1, n1, q1, true_or]
  · rw [decide_eq_false q1] at n1
    cases b with
    | true =>
      have q2 := hb2 rfl
      simp! only [mt_law_0, lE, isn, hr, c1, c2, k1, n1, n3, q2, or_true]
    | false =>
      simp! only [mt_law_0, lE, isn, hr, c1, c2, k1, k2, n1, n2, n3, q1, false_or]
theorem test_non {ms : List (List Int)} {sp : Nat} {bd : List D} {b : Option D} : mt_law_0 (lE s0 s1 s2 s3 s4 sp ms s7 s8 s9 s10 s11 s12 s13 s14 bd s16 (some .non) b s19) h = some (.ok true, h) := by
  have isn : dIsN false h .non .non = some (.bl true) := rfl
  simp! only [mt_law_0, lE, isn]
def enI (i : Nat) (ds : List D) : List D := (ds.zipIdx i).map fun p : D × Nat => D.tup [.int (p.2 : Nat), p.1]
/-- the first late row is the one at which + raises -/
theorem late_lc {n : Nat} {Q ms : List (List Int)} {sp : Nat} {bd : List D} {a b : Option D} (hbd : bd = Q.map rowD ++ [.non]) (hsp : sp ≤ ms.length) (lm : ms.length ≤ 200) (lq : Q.length ≤ 200) (hn : 1 ≤ n) (nq : ∀ g ∈ Q, g.length = n) (nm : ∀ g ∈ ms, g ≠ []) : ∀ (rest : List (List Int)) (i : Nat) (seen : List Int), Q = Q.take i ++ rest → i ≤ Q.length → (∀ x, x ∈ seen ↔ x ∈ (Q.take i).map hd ∨ x ∈ (ms.take sp).map hd) →
    ∃ (j : Nat) (ls : List D), lcL (mgTup 2 (mgCons (mgName 18) (mgCons (mgName 17) mgNil))) mt_law_0 (mVar 18) (enI i (rest.map rowD ++ [.non])) (lE s0 s1 s2 s3 s4 sp ms s7 s8 s9 s10 s11 s12 s13 s14 bd s16 a b s19) h = some (.int (j : Nat) :: ls, h) ∧ chk n (rest.map rowD ++ [.non]) i seen = some j ∧ ls.length ≤ rest.length
  | [], i, seen, _, _, _ => by
    refine ⟨i, [], ?_, ?_, Nat.le_refl _⟩
    · show lcL _ _ _ [D.tup [.int (i : Nat), .non]] _ h = _
      have tn := test_non (h := h) (s0 := s0) (s1 := s1) (s2 := s2) (s3 := s3) (s4 := s4) (s7 := s7) (s8 := s8) (s9 := s9) (s10 := s10) (s11 := s11) (s12 := s12) (s13 := s13) (s14 := s14) (s16 := s16) (s19 := s19) (sp := sp) (ms := ms) (bd := bd) (b := some (.int (i : Nat)))
      have hg : mgTup 2 (mgCons (mgName 18) (mgCons (mgName 17) mgNil)) (D.tup [.int (i : Nat), .non]) (lE s0 s1 s2 s3 s4 sp ms s7 s8 s9 s10 s11 s12 s13 s14 bd s16 a b s19) h = some (lE s0 s1 s2 s3 s4 sp ms s7 s8 s9 s10 s11 s12 s13 s14 bd s16 (some .non) (some (.int (i : Nat))) s19, h) := rfl
      unfold lcL
      simp only [hg, tn, show mVar 18 (lE s0 s1 s2 s3 s4 sp ms s7 s8 s9 s10 s11 s12 s13 s14 bd s16 (some .non) (some (.int (i : Nat))) s19) h = some (.ok (.int (i : Nat)), h) from rfl]
      rfl
    · show (if isRow n .non = true ∧ headI .non ∉ seen then _ else some i) = _
      rw [if_neg (fun z => Bool.noConfusion z.1)]
  | g :: r, i, seen, hQ, hi, hs => by
    have lt : i < Q.length := by
      have := congrArg List.length hQ
      rw [List.length_append, List.length_take, List.length_cons] at this
      omega
    have hg' : Q[i]? = some g := by
      rw [hQ, List.getElem?_append_right (by rw [List.length_take]; omega), List.length_take, show i - min i Q.length = 0 by omega]
      rfl
    have gm : g ∈ Q := List.mem_of_getElem? hg'
    have tk : Q.take (i + 1) = Q.take i ++ [g] := by rw [List.take_add_one, hg']; rfl
    have hQ2 : Q = Q.take (i + 1) ++ r := by rw [tk, List.append_assoc]; exact hQ
    have nonempty : ∀ x ∈ Q, x ≠ [] := fun x hx z => by
      have := nq x hx
      rw [z] at this
      simp at this
      omega
    have tr := test_row (h := h) (s0 := s0) (s1 := s1) (s2 := s2) (s3 := s3) (s4 := s4) (s7 := s7) (s8 := s8) (s9 := s9) (s10 := s10) (s11 := s11) (s12 := s12) (s13 := s13) (s14 := s14) (s16 := s16) (s19 := s19) (g := g) hbd hi hsp lm lq nonempty nm (nonempty g gm)
    have hg : mgTup 2 (mgCons (mgName 18) (mgCons (mgName 17) mgNil)) (D.tup [.int (i : Nat), rowD g]) (lE s0 s1 s2 s3 s4 sp ms s7 s8 s9 s10 s11 s12 s13 s14 bd s16 a b s19) h = some (lE s0 s1 s2 s3 s4 sp ms s7 s8 s9 s10 s11 s12 s13 s14 bd s16 (some (rowD g)) (some (.int (i : Nat))) s19, h) := rfl
    have hv : mVar 18 (lE s0 s1 s2 s3 s4 sp ms s7 s8 s9 s10 s11 s12 s13 s14 bd s16 (some (rowD g)) (some (.int (i : Nat))) s19) h = some (.ok (.int (i : Nat)), h) := rfl
    have hh : headI (rowD g) = hd g := by cases g <;> rfl
    have ir := row_is (nq g gm)
    obtain ⟨j, ls, e1, e2, e3⟩ := late_lc (a := a) (b := b) hbd hsp lm lq hn nq nm r (i + 1) (hd g :: seen) hQ2 (by omega) (fun x => by
      rw [tk, List.map_append, List.mem_append, List.mem_cons, hs x]
      simp only [List.map_cons, List.map_nil, List.mem_singleton]
      constructor
      · rintro (e | e | e)
        · exact .inl (.inr e)
        · exact .inl (.inl e)
        · exact .inr e
      · rintro ((e | e) | e)
        · exact .inr (.inl e)
        · exact .inl e
        · exact .inr (.inr e))
    have enc : enI i ((g :: r).map rowD ++ [.non]) = D.tup [.int (i : Nat), rowD g] :: enI (i + 1) (r.map rowD ++ [.non]) := rfl
    have ck : chk n ((g :: r).map rowD ++ [.non]) i seen = if isRow n (rowD g) = true ∧ headI (rowD g) ∉ seen then chk n (r.map rowD ++ [.non]) (i + 1) (headI (rowD g) :: seen) else some i := rfl
    rw [enc, ck, hh]
    by_cases q : hd g ∈ (Q.take i).map hd ∨ hd g ∈ (ms.take sp).map hd
    · rw [decide_eq_true q] at tr
      refine ⟨i, .int (j : Nat) :: ls, ?_, ?_, by rw [List.length_cons, List.length_cons]; omega⟩
      · unfold lcL
        simp only [hg, tr, hv, e1]
      · rw [if_neg fun z => z.2 ((hs _).mpr q)]
    · rw [decide_eq_false q] at tr
      refine ⟨j, ls, ?_, ?_, by rw [List.length_cons]; omega⟩
      · unfold lcL
        simp only [hg, tr]
        exact e1
      · rw [if_pos ⟨ir, fun z => q ((hs _).mp z)⟩]
        exact e2
end
end K16
namespace K16
open PySem PD PV PQ PU
section
variable {ε : Ev} {h : EH}
def opK2 (C : Str) (F : PF) (x y : D) (h2 : EH) : O D := opOF C F x y h2
def opK1 (C : Str) (F : PF) (b : M D) (ε : Ev) (x : D) (h1 : EH) : O D := bR (b ε h1) (opK2 C F x)
theorem opo_ap (C : Str) (F : PF) (a b : M D) : mOpO C F a b ε h = bR (a ε h) (opK1 C F b ε) := (rfl)
theorem opK1_ap (C : Str) (F : PF) (b : M D) (x : D) : opK1 C F b ε x h = bR (b ε h) (opK2 C F x) := (rfl)
theorem opK2_ok {F : PF} {zs : List (List Nat)} {rs : List (List Int)} {y : D} {r : PD.R D} (hs : seqT (tyD h y) = true) (n : PD.noRef y = true) (e : F [tb zs rs, y] = some r) : opK2 "Table" F (tb zs rs) y h = some (r, h) := by
  unfold opK2 opOF
  rw [show insD h (tb zs rs) = some (("Table" : Str), tF zs rs) from rfl]
  dsimp only
  rw [if_pos ⟨rfl, hs, by rw [PD.noRef.go, tb_no, PD.noRef.go, n]; rfl⟩, e]
def srtTK (ds : List D) (h1 : EH) : O D := rt (sortTD h1 ds) h1
theorem sortTu_ap (m : M (List D)) : mSortTu m ε h = bR (m ε h) srtTK := (rfl)
theorem srtTK_ok {ds : List D} {d : D} (e : sortTD h ds = some d) : srtTK ds h = some (.ok d, h) := by
  unfold srtTK; rw [e]; rfl
theorem rows_k {zs : List (List Nat)} {rs : List (List Int)} : mepK "Table" "rows" F_Table_rows mNil ε (tb zs rs) h = some (.ok (.lst (rs.map rowD)), h) := by
  have e : mepK "Table" "rows" F_Table_rows mNil ε (tb zs rs) h = bR (mNil ε h) (mepK2 F_Table_rows (tb zs rs)) := mepK_ok (fs := tF zs rs) (by kernel_rfl)
  rw [e]
  exact mepK2_ok (go1 (tb_no zs rs)) rows_m
theorem eqT_ok {zs : List (List Nat)} {rs : List (List Int)} (hz : okE 2 (ts zs) = true) : eqOF "Table" F_Table_eq false h (tb zs rs) (tb zs rs) = some (.bl true) := by
  have e1 : insD h (tb zs rs) = some (("Table" : Str), tF zs rs) := rfl
  unfold eqOF
  rw [e1]
  dsimp only
  rw [show (decide (("Table" : Str) = "Table") && decide (("Table" : Str) = "Table") && PD.noRef.go [tb zs rs, tb zs rs]) = true by
    rw [decide_eq_true rfl, PD.noRef.go, tb_no, PD.noRef.go, tb_no]; rfl, eq_m hz]
  rfl
theorem okLen_n {n : Nat} (l : n ≤ 1000) : okLen (.int (n : Nat)) = true := by
  unfold okLen
  simp only [Bool.and_eq_true, decide_eq_true_eq]
  omega
theorem lenT_ok {zs : List (List Nat)} {rs : List (List Int)} (l : rs.length ≤ 1000) : dOwn1 "Table" F_Table_len okLen h [tb zs rs] = some (.int (rs.length : Nat)) := by
  have e1 : insD h (tb zs rs) = some (("Table" : Str), tF zs rs) := rfl
  unfold dOwn1
  dsimp only
  rw [e1]
  dsimp only
  rw [if_pos (by rw [decide_eq_true rfl, PD.noRef.go, tb_no]; rfl), len_m]
  dsimp only
  rw [if_pos (okLen_n l)]
theorem capsT {F : PF} {i : Nat} {ks : List Nat} {ds : List D} {d : D} (e1 : capsE ε ks = some ds) (n : PD.noRef.go ds = true) (e2 : F [.fn i ds] = some (.ok d)) (p : plain d = true) : mLam1G F i ks ε h = some (.ok d, h) := by
  unfold mLam1G
  rw [e1]
  dsimp only
  rw [if_pos n, e2]
  show (if plain d = true then some (PD.R.ok d, h) else none) = _
  rw [if_pos p]
theorem rep7 {d : D} {n : Nat} (h2 : n ≤ 1000) : dRepT h (.tup [d]) (.int (n : Nat)) = some (.tup (List.replicate n d)) := by
  by_cases q : n = 0
  · subst q; rfl
  · exact repT_one (by omega) h2
theorem ne_nil {rs : List (List Int)} : dNe h (.lst (rs.map rowD)) (.lst []) = some (.bl (decide (rs ≠ []))) := by
  cases rs with
  | nil => exact (dNe_f (t := 2) rfl (by decide)).trans (by rw [decide_eq_false (by simp)])
  | cons g r => exact (dNe_t (t := 3) (u := 2) okE_rows rfl (by decide) (by decide) (fun z => by cases z)).trans (by rw [decide_eq_true (by simp)])
end
def askR (j : Nat) : D := .tup [.str sIR, .tup [.int j]]
theorem tryR {j i : Nat} {caps : List D} (hj : j < nLam) (n1 : PD.noRef.go caps = true) (n2 : noFn.go caps = true) (e : LF j caps = some (.ex (irX i))) : F__law_try [.fn j caps] = some (.ok (askR i)) := by
  have te : tryEnd CL (chainL chF) 1 (irX i) [some (.fn j caps), none] [] = some (.rt (askR i), []) := by kernel_rfl
  have c := callF_ok (n := nLam) (LF := LF) (i := 0) (ε := [some (.fn j caps), none]) (h := []) rfl hj n1 n2 e
  show endP (m__law_try [some (.fn j caps), none] []) = _
  simp! only [m__law_try, try_ap, c, tryK_ex, te]
  exact endP_ok rfl
section
variable {x0 e2 e3 e4 e5 e6 e7 e8 e9 e10 e11 e12 e13 e14 e15 e16 e18 e19 : Option D}
theorem keys_lc : ∀ {rs : List (List Int)}, (∀ g ∈ rs, g ≠ []) → ∀ {k : Cell}, BagI k → ∃ (ks : List Int) (k' : Cell), lcL (mgName 17) mt_law_2 (mBin dIx (mVar 17) (mC (.int 0))) (rs.map rowD) [x0, some (.ref 0), e2, e3, e4, e5, e6, e7, e8, e9, e10, e11, e12, e13, e14, e15, e16, none, e18, e19] [k] = some (ks.map .int, [k']) ∧ ks.length ≤ rs.length ∧ BagI k'
  | [], _, k, hk => ⟨[], k, rfl, Nat.le_refl _, hk⟩
  | g :: rs, ne, k, hk => by
    obtain ⟨d, k1, e1, d0, d1, hk1⟩ := pull_v hk (n := 2) (by decide) (by decide) []
    obtain ⟨ks, k2, i1, i2, i3⟩ := keys_lc (rs := rs) (fun x hx => ne x (List.mem_cons_of_mem _ hx)) hk1
    have hr := fun h : EH => head_row (ne g List.mem_cons_self) h
    have hg : mgName 17 (rowD g) [x0, some (.ref 0), e2, e3, e4, e5, e6, e7, e8, e9, e10, e11, e12, e13, e14, e15, e16, none, e18, e19] [k] = some ([x0, some (.ref 0), e2, e3, e4, e5, e6, e7, e8, e9, e10, e11, e12, e13, e14, e15, e16, some (rowD g), e18, e19], [k]) := rfl
    have ht : mt_law_2 [x0, some (.ref 0), e2, e3, e4, e5, e6, e7, e8, e9, e10, e11, e12, e13, e14, e15, e16, some (rowD g), e18, e19] [k] = some (.ok (decide (d = 0)), [k1]) := by
      simp! only [mt_law_2, e_pull, e1]
    have he : mBin dIx (mVar 17) (mC (.int 0)) [x0, some (.ref 0), e2, e3, e4, e5, e6, e7, e8, e9, e10, e11, e12, e13, e14, e15, e16, some (rowD g), e18, e19] [k1] = some (.ok (.int (hd g)), [k1]) := by
      simp! only [hr]
    rw [List.map_cons]
    by_cases q : d = 0
    · rw [decide_eq_true q] at ht
      refine ⟨hd g :: ks, k2, ?_, by rw [List.length_cons, List.length_cons]; omega, i3⟩
      unfold lcL
      simp only [hg, ht, he, i1]
      rfl
    · rw [decide_eq_false q] at ht
      refine ⟨ks, k2, ?_, by rw [List.length_cons]; omega, i3⟩
      unfold lcL
      simp only [hg, ht]
      exact i1
theorem due_lc {K : List Int} {h : EH} : ∀ {rs : List (List Int)}, (∀ g ∈ rs, g ≠ []) → lcL (mgName 17) mt_law_1 (mVar 17) (rs.map rowD) [x0, some (.ref 0), e2, e3, e4, e5, e6, e7, e8, some (.lst (K.map .int)), e10, e11, e12, e13, e14, e15, e16, none, e18, e19] h = some ((rs.filter fun g => !decide (hd g ∈ K)).map rowD, h)
  | [], _ => rfl
  | g :: rs, ne => by
    have ih := due_lc (K := K) (h := h) (rs := rs) fun x hx => ne x (List.mem_cons_of_mem _ hx)
    have hr := head_row (ne g List.mem_cons_self) h
    have hn := nin_ints (h := h) (i := hd g) K
    have hg : mgName 17 (rowD g) [x0, some (.ref 0), e2, e3, e4, e5, e6, e7, e8, some (.lst (K.map .int)), e10, e11, e12, e13, e14, e15, e16, none, e18, e19] h = some ([x0, some (.ref 0), e2, e3, e4, e5, e6, e7, e8, some (.lst (K.map .int)), e10, e11, e12, e13, e14, e15, e16, some (rowD g), e18, e19], h) := rfl
    have ht : mt_law_1 [x0, some (.ref 0), e2, e3, e4, e5, e6, e7, e8, some (.lst (K.map .int)), e10, e11, e12, e13, e14, e15, e16, some (rowD g), e18, e19] h = some (.ok (!decide (hd g ∈ K)), h) := by
      simp! only [mt_law_1, hr, hn]
    rw [List.map_cons]
    unfold lcL
    simp only [hg, ht]
    cases q : decide (hd g ∈ K) with
    | true =>
      rw [List.filter_cons_of_neg (by rw [q]; decide)]
      simp only [Bool.not_true]
      exact ih
    | false =>
      rw [List.filter_cons_of_pos (by rw [q]; decide)]
      simp only [Bool.not_false, ih, show mVar 17 [x0, some (.ref 0), e2, e3, e4, e5, e6, e7, e8, some (.lst (K.map .int)), e10, e11, e12, e13, e14, e15, e16, some (rowD g), e18, e19] h = some (.ok (rowD g), h) from rfl]
      rfl
end
end K16
namespace K16
open PySem PD PV PQ PU
abbrev kcs (cs : List (List Nat)) : List (List Nat) := [107, 101, 121] :: cs
theorem sub_perm {A rs : List (List Int)} (nd : rs.Nodup) (na : A.Nodup) (h : ∀ x ∈ A, x ∈ rs) : A.Perm (rs.filter fun x => decide (x ∈ A)) := by
  refine (List.perm_ext_iff_of_nodup na (nd.filter _)).mpr fun x => ?_
  rw [List.mem_filter, decide_eq_true_iff]
  exact ⟨fun hx => ⟨h x hx, hx⟩, fun hx => hx.2⟩
theorem up_nd {rs : List (List Int)} (u : Up rs) : rs.Nodup := by
  refine u.imp fun {a b} q e => ?_
  rw [e] at q
  exact absurd q (by omega)
theorem okD_rows {n : Nat} {gs : List (List Int)} (h : ∀ g ∈ gs, g.length = n) (hn : n ≤ 1000) (l : gs.length ≤ 1000) : okD 3 (.lst (gs.map rowD)) = true := by
  show (decide ((gs.map rowD).length ≤ 16777216) && (gs.map rowD).all (okD 2)) = true
  rw [decide_eq_true (by rw [List.length_map]; omega), List.all_eq_true.mpr (rows_okD h hn)]
  rfl
theorem okL_of {ds : List D} (h : ∀ d ∈ ds, okD 3 d = true) (l : ds.length ≤ 1000) : okD 30 (.lst ds) = true := okD_le (t := 4) (by
  show (decide (ds.length ≤ 16777216) && ds.all (okD 3)) = true
  rw [decide_eq_true (by omega), List.all_eq_true.mpr h]; rfl) (by decide)
theorem lturn {x : D} (d : D) (k : Cell) (r : Ev) (hk : BagI k) (hr : r.length = 18) : ∃ (ε1 r' : Ev) (k' : Cell), mgName 2 d (some x :: some (.ref 0) :: r) [k] = some (ε1, [k]) ∧
    (mb_law_3 ε1 [k] = some (.nx (some x :: some (.ref 0) :: r'), [k']) ∨ mb_law_3 ε1 [k] = some (.ct (some x :: some (.ref 0) :: r'), [k'])) ∧ r'.length = 18 ∧ BagI k' := by
  match r, hr with
  | [r2, r3, r4, r5, r6, r7, r8, r9, r10, r11, r12, r13, r14, r15, r16, r17, r18, r19], _ =>
  obtain ⟨cs, k1, e1, ncs, lcs, dcs, hk1⟩ := some_columns_ok hk []
  obtain ⟨rs, k2, e2, hrs, lrs, hk2⟩ := rows_ok (cols := kcs cs) (most := 6) (by rw [List.length_cons]; omega) (by decide) hk1 (t := []) rfl
  obtain ⟨p, k3, e3, p0, p1, hk3⟩ := pull_v hk2 (n := (rs.length : Int) + 1) (by omega) (by omega) []
  obtain ⟨s, rfl⟩ : ∃ s : Nat, p = (s : Int) := ⟨p.toNat, by omega⟩
  obtain ⟨k4, es, e4, pes, hk4⟩ := mixed_ok hk3 (rows_no rs) (by rw [List.length_map]; omega) (t := []) rfl
  obtain ⟨ms, rfl, pms⟩ := perm_inv_ pes rfl
  have U : Up rs := hrs.up
  have T : TOk cs rs rs := ⟨ncs, lcs, dcs, List.Perm.refl _, U, hrs.len, by omega⟩
  have lms : ms.length = rs.length := pms.length_eq
  obtain ⟨A, hA⟩ : ∃ A, A = ms.take s := ⟨_, rfl⟩
  obtain ⟨B, hB⟩ : ∃ B, B = ms.drop s := ⟨_, rfl⟩
  have AB : A ++ B = ms := by rw [hA, hB, List.take_append_drop]
  have lA : A.length = s := by rw [hA, List.length_take]; omega
  have lAB : A.length + B.length = rs.length := by rw [← List.length_append, AB, lms]
  have inA : ∀ g ∈ A, g ∈ rs := fun g hg => pms.mem_iff.mp (by rw [← AB]; exact List.mem_append_left _ hg)
  have inB : ∀ g ∈ B, g ∈ rs := fun g hg => pms.mem_iff.mp (by rw [← AB]; exact List.mem_append_right _ hg)
  have ndm : ms.Nodup := pms.nodup_iff.mpr (up_nd U)
  have ndA : A.Nodup := by rw [hA]; exact List.Nodup.sublist (List.take_sublist _ _) ndm
  obtain ⟨S, hS⟩ : ∃ S, S = rs.filter fun g => decide (g ∈ A) := ⟨_, rfl⟩
  have pS : A.Perm S := by rw [hS]; exact sub_perm (up_nd U) ndA inA
  have US : Up S := by rw [hS]; exact U.filter _
  have lS : S.length = s := by rw [← pS.length_eq, lA]
  have inS : ∀ g ∈ S, g ∈ rs := fun g hg => inA g (pS.mem_iff.mpr hg)
  have TA : TOk cs A S := ⟨ncs, lcs, dcs, pS, US, fun g hg => hrs.len g (inS g hg), by omega⟩
  have TS : TOk cs S S := ⟨ncs, lcs, dcs, List.Perm.refl _, US, fun g hg => hrs.len g (inS g hg), by omega⟩
  have TW : TOk cs (S ++ B) rs := ⟨ncs, lcs, dcs, ((pS.symm.append_right B).trans (by rw [AB])).trans pms, U, hrs.len, by omega⟩
  have TS0 : TOk cs (S ++ []) S := by rw [List.append_nil]; exact TS
  have hlen : ∀ g ∈ rs, g.length = cs.length + 1 := hrs.len
  have neR : ∀ g ∈ rs, g ≠ [] := T.ne
  have hz : okE 2 (ts (kcs cs)) = true := okE_ts ncs
  -- the steps
  have e1' : PQ.F__law_some_columns [.ref 0] [k] = some (.ok (ts (kcs cs)), [k1]) := e1
  have e2' : PU.F__law_rows [.ref 0, ts (kcs cs), .int 6] [k1] = some (.ok (.lst (rs.map rowD)), [k2]) := e2
  have e3' : PV.F__law_pull [.ref 0, .int ((rs.length : Int) + 1)] [k2] = some (.ok (.int (s : Int)), [k3]) := e3
  have e4' : PU.F__law_mixed [.ref 0, .lst (rs.map rowD)] [k3] = some (.ok (.lst (ms.map rowD)), [k4]) := e4
  have lr : ∀ (gs : List (List Int)) (h : EH), dLen h [.lst (gs.map rowD)] = some (.int (gs.length : Nat)) := fun gs h => by
    show some (D.int ((gs.map rowD).length : Nat)) = _
    rw [List.length_map]
  have lc_ : ∀ h : EH, dLen h [ts (kcs cs)] = some (.int ((cs.length + 1 : Nat) : Int)) := fun h => lenTs _ h
  have cc := cols_cut cs
  have c2 : cutD (ms.map rowD) none (some (s : Int)) = A.map rowD := by rw [cut_lo (by rw [List.length_map]; omega), ← List.map_take, hA]
  have c3 : cutD (ms.map rowD) (some (s : Int)) none = B.map rowD := by rw [cut_hi (by rw [List.length_map]; omega), ← List.map_drop, hB]
  have hp4 : ([k4] : EH).all pureC = true := by rw [List.all_cons, bag_pure hk4]; rfl
  have mkA : mkpK "Table" [] F_Table_init [.tup (cs.map .str), .lst (A.map rowD)] [k4] = some (.ok (tb (kcs cs) S), [k4]) := table_mk hp4 TA
  have dl : ∀ (gs : List (List Int)) (h : EH), dList h [.lst (gs.map rowD)] = some (.lst (gs.map rowD)) := fun gs h => rfl
  have op1 : ∀ h : EH, opK2 "Table" F_Table_add (tb (kcs cs) S) (.lst (B.map rowD)) h = some (.ok (tb (kcs cs) rs), h) := fun h => opK2_ok rfl (show PD.noRef.go (B.map rowD) = true from rows_no B) (add_m TS TW)
  have ne1 : ∀ h : EH, dNe h (.lst (B.map rowD)) (.lst (B.map rowD)) = some (.bl false) := fun h => dNe_f okE_rows (by decide)
  have so1 : ∀ h : EH, srtTK [.lst (A.map rowD)] h = some (.ok (.lst (S.map rowD)), h) := fun h => srtTK_ok (sortT_rows pS US (fun g hg => neR g (inA g hg)) (by omega))
  have oR : okD 3 (.lst (rs.map rowD)) = true := okD_rows hlen (by omega) (by omega)
  have oS : okD 3 (.lst (S.map rowD)) = true := okD_rows (fun g hg => hlen g (inS g hg)) (by omega) (by omega)
  have lk1 := fun h : EH => like_ok (h := h) (okL_of (ds := [.lst (rs.map rowD), .lst (S.map rowD)]) (by
    intro d hd
    simp only [List.mem_cons, List.not_mem_nil, or_false] at hd
    rcases hd with rfl | rfl
    · exact oR
    · exact oS) (by simp)) (Nat.le_refl _)
  obtain ⟨ks, k5, kl, lks, hk5⟩ := keys_lc (x0 := some x) (e2 := some d) (e3 := some (ts (kcs cs))) (e4 := some (.lst (rs.map rowD))) (e5 := some (.int (s : Int))) (e6 := some (.lst (ms.map rowD))) (e7 := some (.lst (B.map rowD))) (e8 := some (tb (kcs cs) rs)) (e9 := r9) (e10 := r10) (e11 := some (tb (kcs cs) S)) (e12 := some (.lst (B.map rowD))) (e13 := r13) (e14 := r14) (e15 := r15) (e16 := r16) (e18 := r18) (e19 := r19) neR hk4
  have kl' := lcK_ok (vs := [17]) (ε := [some x, some (.ref 0), some d, some (ts (kcs cs)), some (.lst (rs.map rowD)), some (.int (s : Int)), some (.lst (ms.map rowD)), some (.lst (B.map rowD)), some (tb (kcs cs) rs), r9, r10, some (tb (kcs cs) S), some (.lst (B.map rowD)), r13, r14, r15, r16, r17, r18, r19]) (h := [k4]) kl (by rw [List.length_map]; omega)
  have pw : ∀ h : EH, dPow h (.int 10) (.int 9) = some (.int 1000000000) := fun h => pow_c (by decide) (by decide)
  obtain ⟨K, hK⟩ : ∃ K, K = ks ++ [1000000000] := ⟨_, rfl⟩
  have lK : K.length ≤ 100 := by rw [hK, List.length_append]; simp; omega
  have ad1 : ∀ h : EH, dAdd h (.lst (ks.map .int)) (.lst [.int 1000000000]) = some (.lst (K.map .int)) := fun h => (add_lst (by rw [List.length_map]; simp; omega)).trans (by rw [hK, List.map_append]; rfl)
  obtain ⟨F, hF⟩ : ∃ F, F = rs.filter fun g => !decide (hd g ∈ K) := ⟨_, rfl⟩
  have dl5 := due_lc (x0 := some x) (e2 := some d) (e3 := some (ts (kcs cs))) (e4 := some (.lst (rs.map rowD))) (e5 := some (.int (s : Int))) (e6 := some (.lst (ms.map rowD))) (e7 := some (.lst (B.map rowD))) (e8 := some (tb (kcs cs) rs)) (K := K) (e10 := r10) (e11 := some (tb (kcs cs) S)) (e12 := some (.lst (B.map rowD))) (e13 := r13) (e14 := r14) (e15 := r15) (e16 := r16) (e18 := r18) (e19 := r19) (h := [k5]) neR
  rw [← hF] at dl5
  have lF : F.length ≤ rs.length := by rw [hF]; exact List.length_filter_le _ _
  have du' := lcK_ok (vs := [17]) (ε := [some x, some (.ref 0), some d, some (ts (kcs cs)), some (.lst (rs.map rowD)), some (.int (s : Int)), some (.lst (ms.map rowD)), some (.lst (B.map rowD)), some (tb (kcs cs) rs), some (.lst (K.map .int)), r10, some (tb (kcs cs) S), some (.lst (B.map rowD)), r13, r14, r15, r16, r17, r18, r19]) (h := [k5]) dl5 (by rw [List.length_map]; omega)
  have nK : PD.noRef (.lst (K.map .int)) = true := ints_no K
  have sb1 : ∀ h : EH, opK2 "Table" F_Table_sub (tb (kcs cs) rs) (.lst (K.map .int)) h = some (.ok (tb (kcs cs) F), h) := fun h => opK2_ok rfl nK (by rw [hF]; exact sub_m T (by omega) (.inl rfl))
  have sb2 : ∀ h : EH, opK2 "Table" F_Table_sub (tb (kcs cs) rs) (.tup (K.map .int)) h = some (.ok (tb (kcs cs) F), h) := fun h => opK2_ok rfl (ints_no K) (by rw [hF]; exact sub_m T (by omega) (.inr rfl))
  have dt : ∀ h : EH, dTuple h [.lst (K.map .int)] = some (.tup (K.map .int)) := fun h => rfl
  have oF : okD 3 (.lst (F.map rowD)) = true := okD_rows (fun g hg => hlen g (by rw [hF] at hg; exact (List.mem_filter.mp hg).1)) (by omega) (by omega)
  have lk2 := fun h : EH => like_ok (h := h) (okL_of (ds := [.lst (F.map rowD), .lst (F.map rowD), .lst (rs.map rowD)]) (by
    intro d hd
    simp only [List.mem_cons, List.not_mem_nil, or_false] at hd
    rcases hd with rfl | rfl | rfl
    · exact oF
    · exact oF
    · exact oR) (by simp)) (Nat.le_refl _)
  have nn1 : ∀ h : EH, dNe h (.lst (rs.map rowD)) (.lst []) = some (.bl (decide (rs ≠ []))) := fun h => ne_nil
  have nn2 : ∀ h : EH, dNe h (.lst (B.map rowD)) (.lst []) = some (.bl (decide (B ≠ []))) := fun h => ne_nil
  have op3 : ∀ h : EH, opK2 "Table" F_Table_add (tb (kcs cs) S) (.lst []) h = some (.ok (tb (kcs cs) S), h) := fun h => opK2_ok rfl rfl (add_m (bs := []) TS TS0)
  have op4 : ∀ h : EH, opK2 "Table" F_Table_sub (tb (kcs cs) S) (.lst []) h = some (.ok (tb (kcs cs) S), h) := fun h => opK2_ok rfl rfl (by
    have := sub_m TS (ks := []) (by simp) (y := .lst []) (.inl rfl)
    rw [show (S.filter fun g => !decide (hd g ∈ ([] : List Int))) = S from List.filter_eq_self.mpr fun _ _ => by simp] at this
    exact this)
  have eqT := fun h : EH => eqT_ok (h := h) (zs := kcs cs) (rs := S) hz
  have lnT : ∀ h : EH, dOwn1 "Table" F_Table_len okLen h [tb (kcs cs) S] = some (.int (s : Int)) := fun h => by rw [lenT_ok (by omega), lS]
  have lk3 := fun h : EH => like_ok (h := h) (okL_of (ds := [.bl true, .bl true, .int (s : Int)]) (by
    intro d hd
    simp only [List.mem_cons, List.not_mem_nil, or_false] at hd
    rcases hd with rfl | rfl | rfl <;> rfl) (by simp)) (Nat.le_refl _)
  by_cases q : rs ≠ [] ∧ B ≠ []
  · obtain ⟨q1, q2⟩ := q
    rw [decide_eq_true q1] at nn1
    rw [decide_eq_true q2] at nn2
    have lB : 0 < B.length := List.length_pos_iff.mpr q2
    have lR : 0 < rs.length := List.length_pos_iff.mpr q1
    obtain ⟨a', k6, e5, a0, a1, hk6⟩ := pull_v hk5 (n := (B.length : Int)) (by omega) (by omega) []
    obtain ⟨a, rfl⟩ : ∃ a : Nat, a' = (a : Int) := ⟨a'.toNat, by omega⟩
    have e5' : PV.F__law_pull [.ref 0, .int (B.length : Nat)] [k5] = some (.ok (.int (a : Int)), [k6]) := e5
    obtain ⟨P, hP⟩ : ∃ P, P = B.take (a + 1) := ⟨_, rfl⟩
    obtain ⟨G, hG⟩ : ∃ G, G = rs.take 1 ++ P ++ A := ⟨_, rfl⟩
    have lP : P.length = a + 1 := by rw [hP, List.length_take]; omega
    have inP : ∀ g ∈ P, g ∈ rs := fun g hg => inB g (by rw [hP] at hg; exact List.mem_of_mem_take hg)
    have inG : ∀ g ∈ G, g ∈ rs := fun g hg => by
      rw [hG, List.mem_append, List.mem_append] at hg
      rcases hg with (h | h) | h
      · exact List.mem_of_mem_take h
      · exact inP g h
      · exact inA g h
    have lG : 0 < G.length ∧ G.length ≤ 100 := by
      rw [hG, List.length_append, List.length_append, List.length_take]; omega
    obtain ⟨dg, k7, e6, hdg, hk7⟩ := any_lst hk6 (ds := G.map rowD) (by rw [List.length_map]; exact lG.1) (by rw [List.length_map]; omega) (fun d hd => by
      obtain ⟨g, _, rfl⟩ := List.mem_map.mp hd
      exact row_no g) []
    obtain ⟨g, hg, rfl⟩ := List.mem_map.mp hdg
    have gR := inG g hg
    have e6' : PV.F__law_any [.ref 0, .lst (G.map rowD)] [k6] = some (.ok (rowD g), [k7]) := e6
    have c4 : cutD (rs.map rowD) none (some 1) = (rs.take 1).map rowD := by
      have := cut_lo (xs := rs.map rowD) (a := 1) (by rw [List.length_map]; omega)
      rw [List.map_take]
      exact this
    have c5 : cutD (B.map rowD) none (some ((a : Int) + 1)) = P.map rowD := by
      have := cut_lo (xs := B.map rowD) (a := a + 1) (by rw [List.length_map]; omega)
      rw [hP, List.map_take, ← this]
      rfl
    have d1 : ∀ h : EH, dAdd h (.lst ((rs.take 1).map rowD)) (.lst (P.map rowD)) = some (.lst ((rs.take 1 ++ P).map rowD)) := fun h => (add_lst (by rw [List.length_map, List.length_map, List.length_take]; omega)).trans (by rw [List.map_append])
    have d2 : ∀ h : EH, dAdd h (.lst ((rs.take 1 ++ P).map rowD)) (.lst (A.map rowD)) = some (.lst (G.map rowD)) := fun h => (add_lst (by rw [List.length_map, List.length_map, List.length_append, List.length_take]; omega)).trans (by rw [hG, List.map_append (l₂ := A)])
    have hg0 : ∀ h : EH, dIx h (rowD g) (.int 0) = some (.int (hd g)) := fun h => head_row (neR g gR) h
    obtain ⟨X, hX⟩ : ∃ X : List Int, X = hd g :: List.replicate cs.length 7 := ⟨_, rfl⟩
    have lX : X.length = cs.length + 1 := by rw [hX, List.length_cons, List.length_replicate]
    have rp : ∀ h : EH, dRepT h (.tup [.int 7]) (.int (((cs.length + 1 : Nat) : Int) - 1)) = some (.tup (List.replicate cs.length (.int 7))) := fun h => by
      rw [show ((cs.length + 1 : Nat) : Int) - 1 = (cs.length : Nat) by omega]
      exact rep7 (by omega)
    have dX : ∀ h : EH, dAdd h (.tup [.int (hd g)]) (.tup (List.replicate cs.length (.int 7))) = some (rowD X) := fun h => (add_tup (by rw [List.length_replicate]; simp; omega)).trans (by rw [hX]; unfold rowD; rw [List.map_cons, List.map_replicate]; rfl)
    obtain ⟨Q, hQ⟩ : ∃ Q, Q = P ++ [X] := ⟨_, rfl⟩
    have lQ : Q.length = a + 2 := by rw [hQ, List.length_append, lP]; rfl
    have d3 : ∀ h : EH, dAdd h (.lst (P.map rowD)) (.lst [rowD X]) = some (.lst (Q.map rowD)) := fun h => (add_lst (by rw [List.length_map]; simp; omega)).trans (by rw [hQ, List.map_append]; rfl)
    obtain ⟨bd, hbd⟩ : ∃ bd : List D, bd = Q.map rowD ++ [.non] := ⟨_, rfl⟩
    have d4 : ∀ h : EH, dAdd h (.lst (Q.map rowD)) (.lst [.non]) = some (.lst bd) := fun h => (add_lst (by rw [List.length_map]; simp; omega)).trans (by rw [hbd])
    have en : ∀ h : EH, ienK [.lst bd] h = some (.ok (enI 0 bd), h) := fun h => rfl
    have nQ : ∀ y ∈ Q, y.length = cs.length + 1 := fun y hy => by
      rw [hQ, List.mem_append, List.mem_singleton] at hy
      rcases hy with h | rfl
      · exact hlen y (inP y h)
      · exact lX
    obtain ⟨j, ls, el, ck, lls⟩ := late_lc (n := cs.length + 1) (Q := Q) (ms := ms) (sp := s) (bd := bd) (h := [k7]) (a := none) (b := none) (s0 := some x) (s1 := some (.ref 0)) (s2 := some d) (s3 := some (ts (kcs cs))) (s4 := some (.lst (rs.map rowD))) (s7 := some (.lst (B.map rowD))) (s8 := some (tb (kcs cs) rs)) (s9 := some (.lst (K.map .int))) (s10 := some (.lst (F.map rowD))) (s11 := some (tb (kcs cs) S)) (s12 := some (.lst (B.map rowD))) (s13 := some (.int (a : Int))) (s14 := some (rowD g)) (s16 := r16) (s19 := r19) hbd (by omega) (by omega) (by omega) (by omega) nQ (fun y hy => neR y (pms.mem_iff.mp hy)) Q 0 (S.map hd).reverse rfl (Nat.zero_le _) (fun y => by
      rw [List.mem_reverse, ← hA, ← (pS.map hd).mem_iff]
      exact ⟨fun z => .inr z, fun z => z.elim (fun z => nomatch z) id⟩)
    rw [← hbd] at el ck
    have la' := lcK_ok (vs := [18, 17]) (ε := [some x, some (.ref 0), some d, some (ts (kcs cs)), some (.lst (rs.map rowD)), some (.int (s : Int)), some (.lst (ms.map rowD)), some (.lst (B.map rowD)), some (tb (kcs cs) rs), some (.lst (K.map .int)), some (.lst (F.map rowD)), some (tb (kcs cs) S), some (.lst (B.map rowD)), some (.int (a : Int)), some (rowD g), some (.lst bd), r16, r17, r18, r19]) (h := [k7]) el (by rw [List.length_cons]; omega)
    have obd : ∀ y ∈ bd, okD 2 y = true := fun y hy => by
      rw [hbd, List.mem_append, List.mem_singleton] at hy
      rcases hy with h | rfl
      · exact rows_okD nQ (by omega) y h
      · rfl
    have lbd : bd.length ≤ 800 := by rw [hbd, List.length_append, List.length_map]; simp; omega
    have obl : okD 3 (.lst bd) = true := by
      show (decide (bd.length ≤ 16777216) && bd.all (okD 2)) = true
      rw [decide_eq_true (by omega), List.all_eq_true.mpr obd]; rfl
    have nbd := okD_noRef obl
    have lam : F_lam_0 [tb (kcs cs) S, .lst bd] = some (.ex (irX j)) := by
      have ad := opK2_ok (h := []) (zs := kcs cs) (rs := S) (y := .lst bd) rfl nbd (add_ex TS obd lbd ck)
      show endL (ml_0 [some (tb (kcs cs) S), some (.lst bd)] []) = _
      simp! only [ml_0, opo_ap, opK1_ap, ad]
      exact endL_ex rfl
    have ntb : noFn (tb (kcs cs) S) = true := by
      have h1 := okD_noFn (okD_ts (kcs cs) (by rw [List.length_cons]; omega))
      have h2 := okD_noFn oS
      show noFn.gf (tF (kcs cs) S) = true
      unfold tF
      rw [noFn.gf, noFn.gf, noFn.gf, h1, h2]; rfl
    have tr := tryR (j := 0) (i := j) (caps := [tb (kcs cs) S, .lst bd]) (by decide) (by rw [PD.noRef.go, tb_no, PD.noRef.go, nbd]; rfl) (by rw [noFn.go, ntb, noFn.go, okD_noFn obl]; rfl) lam
    have lg := capsT (F := F__law_try) (i := 0) (ks := [11, 15]) (ε := [some x, some (.ref 0), some d, some (ts (kcs cs)), some (.lst (rs.map rowD)), some (.int (s : Int)), some (.lst (ms.map rowD)), some (.lst (B.map rowD)), some (tb (kcs cs) rs), some (.lst (K.map .int)), some (.lst (F.map rowD)), some (tb (kcs cs) S), some (.lst (B.map rowD)), some (.int (a : Int)), some (rowD g), some (.lst bd), some (.lst (.int (j : Nat) :: ls)), r17, r18, r19]) (h := [k7]) (ds := [tb (kcs cs) S, .lst bd]) rfl (by rw [PD.noRef.go, tb_no, PD.noRef.go, nbd]; rfl) tr rfl
    have ac : D.tup [.str [73, 110, 118, 97, 108, 105, 100, 82, 111, 119], .tup [.int (j : Nat)]] = askR j := rfl
    have lk4 := fun h : EH => like_ok (h := h) (d := askR j) (t := 5) rfl (by decide)
    refine ⟨[some x, some (.ref 0), some d, r3, r4, r5, r6, r7, r8, r9, r10, r11, r12, r13, r14, r15, r16, r17, r18, r19], [some d, some (ts (kcs cs)), some (.lst (rs.map rowD)), some (.int (s : Int)), some (.lst (ms.map rowD)), some (.lst (B.map rowD)), some (tb (kcs cs) rs), some (.lst (K.map .int)), some (.lst (F.map rowD)), some (tb (kcs cs) S), some (.lst (B.map rowD)), some (.int (a : Int)), some (rowD g), some (.lst bd), some (.lst (.int (j : Nat) :: ls)), r17, r18, r19], k7, rfl, .inl ?_, rfl, hk7⟩
    simp! only [mb_law_3, e_some, e_any, e_pull, e_like, e_rows, e_mixed, e1', e2', lr, e3', e4', cc, c2, c3, mkA, dl, opo_ap, opK1_ap, op1, ne1, rows_k, sortTu_ap, so1, lk1, kl', pw, ad1, du', sb1, sb2, dt, lk2, nn1, nn2, op3, op4, eqT, lnT, lk3, e5', c4, c5, d1, d2, e6', hg0, lc_, rp, dX, d3, d4, en, la', lg, atl0, ac, lk4]
  · have qd : rs ≠ [] → B = [] := fun h1 => Decidable.not_not.mp fun h2 => q ⟨h1, h2⟩
    refine ⟨[some x, some (.ref 0), some d, r3, r4, r5, r6, r7, r8, r9, r10, r11, r12, r13, r14, r15, r16, r17, r18, r19], [some d, some (ts (kcs cs)), some (.lst (rs.map rowD)), some (.int (s : Int)), some (.lst (ms.map rowD)), some (.lst (B.map rowD)), some (tb (kcs cs) rs), some (.lst (K.map .int)), some (.lst (F.map rowD)), some (tb (kcs cs) S), some (.lst (B.map rowD)), r13, r14, r15, r16, r17, r18, r19], k5, rfl, .inl ?_, rfl, hk5⟩
    by_cases q1 : rs ≠ []
    · have q2 : decide (B ≠ []) = false := decide_eq_false (fun z => z (qd q1))
      rw [q2] at nn2
      rw [decide_eq_true q1] at nn1
      simp! only [mb_law_3, e_some, e_any, e_pull, e_like, e_rows, e_mixed, e1', e2', lr, e3', e4', cc, c2, c3, mkA, dl, opo_ap, opK1_ap, op1, ne1, rows_k, sortTu_ap, so1, lk1, kl', pw, ad1, du', sb1, sb2, dt, lk2, nn1, nn2, op3, op4, eqT, lnT, lk3]
    · rw [decide_eq_false q1] at nn1
      simp! only [mb_law_3, e_some, e_any, e_pull, e_like, e_rows, e_mixed, e1', e2', lr, e3', e4', cc, c2, c3, mkA, dl, opo_ap, opK1_ap, op1, ne1, rows_k, sortTu_ap, so1, lk1, kl', pw, ad1, du', sb1, sb2, dt, lk2, nn1, op3, op4, eqT, lnT, lk3]
theorem run_of {x : D} {k : Cell} (e0 : PD.F_draws [x] [] = some (.ok (.ref 0), [k])) (hk : BagI k) : ∃ h', F_law [x] [] = some (.ok (.bl true), h') := by
  obtain ⟨r, k1, el, hr, hk1⟩ := forL_bag (g := mgName 2) (b := mb_law_3) (n := 18) (x := x) lturn (rngD 0 6) k [none, none, none, none, none, none, none, none, none, none, none, none, none, none, none, none, none, none] hk rfl
  have e0' : F__law_draws [x] [] = some (.ok (.ref 0), [k]) := e0
  have r8 : ∀ h : EH, ir1K [.int 6] h = some (.ok (rngD 0 6), h) := fun h => ir1K_ok (j := 6) (by decide)
  refine ⟨[], ?_⟩
  show endI 0 (m_law [some x, none, none, none, none, none, none, none, none, none, none, none, none, none, none, none, none, none, none, none] []) = _
  have run : m_law [some x, none, none, none, none, none, none, none, none, none, none, none, none, none, none, none, none, none, none, none] [] = some (.rt (.bl true), [k1]) := by
    simp! only [m_law, e0', r8, el]
  rw [run]
  unfold endI trim frzI frz1I
  rfl
theorem math (ns : List Int) (h1 : ns.length ≤ 63) (h2 : ∀ z ∈ ns, Builtin.Int.intBits z ≤ 1048576) : (∃ h', F_law [.scr (ns.map .int)] [] = some (.ok (.bl true), h')) ∧ ∃ h', F_law [.lst (ns.map .int)] [] = some (.ok (.bl true), h') := by
  obtain ⟨k, e, hk⟩ := draws_ok h1
  obtain ⟨k', e', hk'⟩ := draws_lst h1
  exact ⟨run_of e hk, run_of e' hk'⟩
end K16
open PySem PySem.W PySem.Calls PyProof.Rows
theorem PySem.Challenge.cw_lookedrows_k16_rows_put_in_and_taken_out_holds : PySem.Challenge.rw_lookedrows_k16_rows_put_in_and_taken_out.Holds := by
  w_on; o_law
  refine HandSHeadRun.head_any (r := OpenLaw.row PySem.Challenge.rw_lookedrows_k16_rows_put_in_and_taken_out) (q := view (OpenLaw.row PySem.Challenge.rw_lookedrows_k16_rows_put_in_and_taken_out).prog [32]) (H := K16.hk) (ob := K16.ob) (M := 20000) (loose := K16.loose) (d := HandSHeadRun.topDef (OpenLaw.row PySem.Challenge.rw_lookedrows_k16_rows_put_in_and_taken_out).prog 32) (kwd := []) K16.ob_eq
    (by kernel_rfl) (fun s => by kernel_rfl) K16.run (by kernel_rfl) (by kernel_rfl) (by kernel_rfl) (by rfl) (by first | assumption | decide +kernel) (by decide +kernel) ⟨rfl, rfl, rfl, rfl, rfl, by decide +kernel⟩ ?hw ?hc
  case hw => w_witness2
  case hc => exact K16.fin K16.math
