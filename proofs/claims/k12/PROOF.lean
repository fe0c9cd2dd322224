import PyProof.Rows.All
import Wide.All
import OpenK.AllK
import Wide.FinOn
import HandS.ForMost
import HandS.ForExc
import HandS.Head0
import HandS.Head1
import HandS.Head2
import HandS.HeadEnd
import HandS.HeadHook1
import HandS.HeadHook2
import HandS.HeadHook3
import HandS.HeadNt
import HandS.HeadHook4
import HandS.ExcField
import HandS.ExcInit
import KE.KSuper
import HandS.WordsExc
import PySem.Challenge.RW_lookedrows_k12_whole_projections
import KE.KDflt
import HandS.Lambda
import HandS.IsInst
import HandS.Deep
import HandS.Wide
import HandS.Codes
import HandS.TupAny
import HandS.Walk
import HandS.Zip
import HandS.RaiseMore
import HandS.CallSlots
import HandS.Defaults
import HandS.EndBits
import HandS.StrMore
import HandS.FStr
import HandS.TupLe
import HandS.Text
import HandS.Star
import HandS.Dict
import HandS.ListItems
import HandS.Property
import HandS.SetTxt0
import HandS.SetFor
import HandS.Strs
import HandS.SortInts
import PyProof.Rows.SortStr
import KE.KSortAsk
import KE.GoesNew
import HandS.Style
import KE.KExcSuper
import HandS.ExcSuper
import HandS.ClsMeth
import HandS.HotCalls
import KE.KTryMore
import HandS.EndTab
import PyProof.InstNe
import HandS.OwnEq
import HandS.TupMul
import PyProof.FactsLen
import PyProof.CallFns
import KE.KFmtOwn
import HandS.GenList
import HandS.SortKw
import HandS.MakeKwOnly
import KE.KSortKeyAny
import KE.KExcInit
import HandS.ExcIs
import KE.KExcIs
import PyProof.SeqRoads
import HandS.TupSets
import HandS.SetBool
import HandS.MakeKw
import HandS.DictComp
import HandS.IterVal
import KE.KDictZip
import KE.KDictItemsList
import KE.GoesComp
import HandS.NoneIn
import KE.KDictWalk
import HandS.Conv
import KE.KEqDict
import KE.IntTextLaws
set_option Elab.async false
set_option linter.all false
set_option maxRecDepth 100000
set_option maxHeartbeats 4000000
namespace PD
open PySem PySem.Spec PyProof.Rows L2
/-- plain data -/
inductive D where
  | non | bl (b : Bool) | int (i : Int) | str (cs : List Nat)
  | tup (ds : List D) | lst (ds : List D)
  /-- a dict: keys of one sign or number (false), tuples of such (true) -/
  | dic (t : Bool) (kvs : List (List Key × D))
  | obj (C : Str) (fs : List (Str × D))
  | ref (n : Nat)
  /-- the law's script -/
  | scr (ds : List D)
  /-- a lambda of the text, with what it captured -/
  | fn (i : Nat) (caps : List D)
  /-- an exception -/
  | exc (C : Str) (fs : List (Str × D))
def clsBody : Stmt → List Stmt
  | .ClassDef _ _ _ body _ _ _ _ _ _ _ => body
  | _ => []
def toS (z : List Nat) : Str := ⟨z.toArray⟩
mutual
def dB (K : PySem.W.Frag) : D → Value → Bool
  | .non, .none => true
  | .bl b, .bool c => b == c
  | .int i, .int j _ => decide (i = j)
  | .str cs, .str y _ => decide (y.cps.toList = cs)
  | .tup ds, .ref a => (match K.lookup a with
    | some ⟨.type c, _, .seq its _, _⟩ => decide (c = "tuple") && (decide (its.size ≤ sizeLine) && dBs K ds its.toList)
    | _ => false)
  | .scr ds, .ref a => (match K.lookup a with
    | some ⟨.type c, none, .seq its _, _⟩ => decide (c = "list") && (decide (its.size ≤ sizeLine) && dBs K ds its.toList)
    | _ => false)
  | _, _ => false
def dBs (K : PySem.W.Frag) : List D → List Value → Bool
  | [], [] => true
  | d :: ds, u :: us => dB K d u && dBs K ds us
  | _, _ => false
end
def gloB (K : PySem.W.Frag) (x : Str) (d : D) : Bool := match PySem.W.nsIn K mainGlobals x with
  | some (some u) => dB K d u
  | _ => false
abbrev AlG : Type := He.AlD × Bool
def obsG (fa : List He.Fa) (fn : List He.DefD) (gs : List (Str × D)) (K : PySem.W.Frag) : AlG := (He.obsD fa fn K, gs.all fun p => gloB K p.1 p.2)
def valG (fn : List He.DefD) : AlG := (He.valD fn, true)
def SaysG (fa : List He.Fa) (fn : List He.DefD) (gs : List (Str × D)) (K : PySem.W.Frag) : Prop := obsG fa fn gs K = valG fn
def entB (K : PySem.W.Frag) : List (List Nat × D) → List DictEntry → Bool
  | [], [] => true
  | p :: r, e :: l => (match e.key with
    | .str y _ => decide (y.cps.toList = p.1)
    | _ => false) && (dB K p.2 e.val && entB K r l)
  | _, _ => false
/-- a dict of defs: each key with .ref 0; the hook asks its keys alone -/
def dispL (kvs : List (List Nat × D)) : Bool := !kvs.isEmpty && kvs.all fun p => match p.2 with
  | .ref _ => true
  | _ => false
def dicB (K : PySem.W.Frag) (x : Str) (kvs : List (List Nat × D)) : Bool := dispL kvs || match PySem.W.nsIn K mainGlobals x with
  | some (some (.ref d)) => (match K.lookup d with
    | some ⟨_, _, .dict es _, _⟩ => entB K kvs es.toList
    | _ => false)
  | _ => false
abbrev DicD : Type := Str × List (List Nat × D)
abbrev AlG2 : Type := AlG × (Bool × List (Option (List (Option (Str × Int)))))
def obsG2 (fa : List He.Fa) (fn : List He.DefD) (gs : List (Str × D)) (ds : List DicD) (K : PySem.W.Frag) : AlG2 := (obsG fa fn gs K, ds.all (fun p => dicB K p.1 p.2), ds.map fun p => He.dicW K (He.ga K p.1))
def valG2 (fn : List He.DefD) (ds : List DicD) (w : World) : AlG2 := (valG fn, true, ds.map fun p => some (He.keysIn w.params (p.2.map fun q => toS q.1)))
def SaysG2 (fa : List He.Fa) (fn : List He.DefD) (gs : List (Str × D)) (ds : List DicD) (w : World) (K : PySem.W.Frag) : Prop := obsG2 fa fn gs ds K = valG2 fn ds w
def propB (K : PySem.W.Frag) (x f : Str) : Bool := decide (PySem.W.findIn K (.ref (He.ga K x)) f = some (some (.ref (He.ma K (He.ga K x) f)))) &&
  (decide (PySem.W.specialIn K (.ref (He.ma K (He.ga K x) f)) "__get__" = some (some (.builtin "property.__get__"))) && (decide (PySem.W.takesIn K (.ref (He.ma K (He.ga K x) f)) = some true) &&
    (match PySem.W.recIn K (He.ma K (He.ga K x) f) "property" with
    | some (.ref _ :: _) => true
    | _ => false)))
def gtr (x f : Str) (K : PySem.W.Frag) : Addr := He5.wf K (He.ga K x) "property" f
abbrev AlG3 : Type := AlG2 × (Bool × List He.FnW)
abbrev FactB : Type := PySem.W.Frag → Bool
def obsG3 (fa : List He.Fa) (fn : List He.DefD) (gs : List (Str × D)) (ds : List DicD) (fx : List FactB) (xd : List He5.DefA) (K : PySem.W.Frag) : AlG3 := (obsG2 fa fn gs ds K, (fx.all (fun f => f K)) && xd.all (fun d => d.ok K), xd.map fun d => He5.fnA K (d.at_ K))
def valG3 (fn : List He.DefD) (ds : List DicD) (xd : List He5.DefA) (w : World) : AlG3 := (valG2 fn ds w, true, xd.map He5.DefA.val)
def SaysG3 (fa : List He.Fa) (fn : List He.DefD) (gs : List (Str × D)) (ds : List DicD) (fx : List FactB) (xd : List He5.DefA) (w : World) (K : PySem.W.Frag) : Prop := obsG3 fa fn gs ds fx xd K = valG3 fn ds xd w
def oexB (K : PySem.W.Frag) (C : Addr) : Bool := (match K.lookup C with
  | some ⟨.type t, _, .cls cd, sl⟩ => decide (t = "type") && (match cd.mro, sl.toList with
    | .ref C' :: bm, [_, _, _, _, some (.builtin n), _] => decide (C' = C) && (decide (n = "ValueError.__new__") && (!cd.hasDel && (cd.hasDict && PySem.HandSPX.refsVE bm)))
    | _, _ => false)
  | _ => false) && (decide (PySem.W.findIn K (.ref C) "__setattr__" = some (some (.builtin "object.__setattr__"))) && (decide (PySem.W.subIn K (.ref C) (.type "BaseException") = some true) && (decide (PySem.W.typeIn K (.ref C) = some (.type "type")) && PySem.W.keepIn K (.ref C))))
def overB (K : PySem.W.Frag) (T C : Addr) : Bool := oexB K C && (decide (PySem.W.ks_superIn K C T "__init__" = some (some (.builtin "ValueError.__init__"))) && (decide (PySem.W.mroIn K C (.ref T) = some true) && (decide (PySem.W.subIn K (.ref C) (.type "ValueError") = some true) && decide (PySem.W.findIn K (.ref C) "code" = some none))))
def initB (K : PySem.W.Frag) (C : Addr) : Bool := decide (PySem.W.findIn K (.ref C) "__init__" = some (some (.ref (He.ma K C "__init__")))) && decide (PySem.W.typeIn K (.ref (He.ma K C "__init__")) = some (.type "function"))
def noB (K : PySem.W.Frag) (C : Addr) (f : Str) : Bool := decide (PySem.W.findIn K (.ref C) f = some none)
/-- a def whose closure has names -/
abbrev FnC : Type := Option (Str × Str × Arguments × FuncBody × Scope × Addr × List Str × Addr)
def fnC (K : PySem.W.Frag) (a : Addr) : FnC := match K.lookup a with
  | some ⟨_, _, .func fd, _⟩ => some (fd.name, fd.qualname, fd.params, fd.body, fd.scope, fd.globals, fd.closure.map (·.1), fd.builtins)
  | _ => none
/-- an __init__ that says super(): its class, its text -/
structure SupD where
  C : Str
  qual : Str
  params : Arguments
  body : List Stmt
  scope : Scope
def SupD.at_ (K : PySem.W.Frag) (d : SupD) : Addr := He.ma K (He.ga K d.C) "__init__"
def SupD.val (d : SupD) : FnC := some ("__init__", d.qual, d.params, .stmts d.body, d.scope, mainGlobals, ["__class__"], builtinsNs)
def supB (K : PySem.W.Frag) (file0 : Str) (d : SupD) : Bool := (match K.lookup (d.at_ K) with
  | some ⟨_, _, .func fd, _⟩ => (match fd.code with
    | .ref cda => PySem.W.codeIn K (.ref cda) d.qual && (match K.lookup cda with
      | some ⟨_, _, .fields vs, _⟩ => (match (vs[2]? : Option Value) with
        | some (.str file _) => file0 == file
        | _ => false)
      | _ => false)
    | _ => false) && ((match fd.closure with
    | [(_, cc)] => (match K.lookup cc with
      | some ⟨_, _, .cell (some (.ref T)), _⟩ => decide (T = He.ga K d.C)
      | _ => false)
    | _ => false) && (match fd.defaults, fd.kwdefaults with
      | .none, .none => true
      | _, _ => false))
  | _ => false) && ((PySem.W.clsIn K (He.ga K d.C)).isSome && (decide (PySem.W.nsIn K mainGlobals "super" = some none) && decide (PySem.W.nsIn K cStatics "thirdparty.any" = some none)))
abbrev AlG4 : Type := AlG3 × (Bool × List FnC)
def obsG4 (fa : List He.Fa) (fn : List He.DefD) (gs : List (Str × D)) (ds : List DicD) (fx : List FactB) (xd : List He5.DefA) (sd : List SupD) (tf : List He.Defn) (file0 : Str) (g : Addr → Option Obj) (K : PySem.W.Frag) : AlG4 := (obsG3 fa fn gs ds fx xd K, (sd.all (fun d => supB K file0 d)) && He.tabsB g tf K, sd.map fun d => fnC K (d.at_ K))
def valG4 (fn : List He.DefD) (ds : List DicD) (xd : List He5.DefA) (sd : List SupD) (w : World) : AlG4 := (valG3 fn ds xd w, true, sd.map SupD.val)
structure SaysG4 (fa : List He.Fa) (fn : List He.DefD) (gs : List (Str × D)) (ds : List DicD) (fx : List FactB) (xd : List He5.DefA) (sd : List SupD) (tf : List He.Defn) (file0 : Str) (w : World) (h : Heap) (K : PySem.W.Frag) : Prop where
  g3 : SaysG3 fa fn gs ds fx xd w K
  sup : ∀ d ∈ sd, supB K file0 d = true ∧ fnC K (d.at_ K) = d.val
  hd : ∀ p ∈ tf, PySem.W.codeHdIn K (He.cT K p).1 (He.cT K p).2 = true
  out : ∀ p ∈ tf, K.lookup (He.cT K p).2 = none
  empty : ∀ p ∈ tf, h.get? (He.cT K p).2 = some { cls := .none, data := .fields #[] }
end PD
namespace PD
open PySem PySem.Spec PyProof.Rows L2
/-- T.__init__ as T's own -/
def clsvB (K : PySem.W.Frag) (T : Addr) : Bool := PySem.W.readsIn K T (.type "type") && (decide (PySem.W.specialIn K (.ref T) "__getattribute__" = some (some (.builtin "type.__getattribute__"))) &&
  ((match PySem.W.findCls K (.ref T) (.type "type") "__init__" with
    | some (.val (.ref f)) => decide (f = He.ma K T "__init__")
    | _ => false) && (decide (PySem.W.typeIn K (.ref (He.ma K T "__init__")) = some (.type "function")) && PySem.W.keepIn K (.ref (He.ma K T "__init__")))))
end PD
namespace PD
open PySem PySem.Spec PyProof.Rows L2
/-- isinstance(x, C) may be asked -/
def isoB (K : PySem.W.Frag) (C : Str) : Bool := decide (PySem.W.findIn K (.ref (He.ga K C)) "__class__" = some (some (.builtin "object.__class__"))) && (decide (PySem.W.specialIn K (.builtin "object.__class__") "__get__" = some (some (.builtin "getset_descriptor.__get__"))) &&
  (decide (PySem.W.takesIn K (.builtin "object.__class__") = some true) && decide (PySem.W.mroIn K (He.ga K C) (.type "object") = some true)))
end PD
namespace PD
open PySem PySem.Spec PyProof.Rows L2
def noPos : Pos := ⟨0, 0, 0, 0⟩
theorem run_join3 {α β β' γ γ' δ : Type} {X : Option α} {p : α → β} {q : α → β'} {a : α → γ} {b : α → γ'} {c : α → δ} {z : β} {y : β'} {u : γ} {v : γ'} {t : δ} (h1 : X.map (fun s => (p s, q s, a s)) = some (z, y, u)) (h2 : X.map (fun s => (p s, q s, b s)) = some (z, y, v)) (hc : ∀ s, a s = u → b s = v → c s = t) :
    X.map (fun s => (p s, q s, c s)) = some (z, y, t) := by
  cases X with
  | none => cases h1
  | some s =>
    have e1 := Option.some.inj h1
    have e2 := Option.some.inj h2
    have g1 : p s = z := congrArg (fun r => r.1) e1
    have g2 : q s = y := congrArg (fun r => r.2.1) e1
    have g3 : a s = u := congrArg (fun r => r.2.2) e1
    have g4 : b s = v := congrArg (fun r => r.2.2) e2
    show some (p s, q s, c s) = _
    rw [g1, g2, hc s g3 g4]
end PD
namespace PD
open PySem PySem.Spec PyProof.Rows L2
def plainO (g : Addr → Option Obj) : Value → Bool
  | .ref a => (match g a with
    | some ⟨_, _, .func _, _⟩ => false
    | some ⟨_, _, .cls _, _⟩ => false
    | some ⟨_, _, .fields _, _⟩ => false
    | _ => true)
  | _ => false
section
variable {L : (Addr → Option Obj) → List Addr} {fa : List He.Fa} {fn : List He.DefD} {gs : List (Str × D)} {ds : List DicD} {fx : List FactB} {xd : List He5.DefA} {sd : List SupD} {tf : List He.Defn} {file0 : Str} {w : World} {h : Heap}
def obsGG6 (L : (Addr → Option Obj) → List Addr) (fa : List He.Fa) (fn : List He.DefD) (gs : List (Str × D)) (ds : List DicD) (fx : List FactB) (xd : List He5.DefA) (sd : List SupD) (tf : List He.Defn) (file0 : Str) (g : Addr → Option Obj) : AlG4 := obsG4 fa fn gs ds fx xd sd tf file0 g (He.frT g (L g))
theorem saysG6_of (e : obsGG6 L fa fn gs ds fx xd sd tf file0 h.get? = valG4 fn ds xd sd w) : SaysG4 fa fn gs ds fx xd sd tf file0 w h (He.frT h.get? (L h.get?)) := by
  have e1 : obsG3 fa fn gs ds fx xd (He.frT h.get? (L h.get?)) = valG3 fn ds xd w := congrArg (fun z : AlG4 => z.1) e
  have e2 : ((sd.all (fun d => supB (He.frT h.get? (L h.get?)) file0 d)) && He.tabsB h.get? tf (He.frT h.get? (L h.get?))) = true := congrArg (fun z : AlG4 => z.2.1) e
  have e3 : (sd.map fun d => fnC (He.frT h.get? (L h.get?)) (d.at_ (He.frT h.get? (L h.get?)))) = sd.map SupD.val := congrArg (fun z : AlG4 => z.2.2) e
  obtain ⟨h1, h2⟩ := Bool.and_eq_true_iff.mp e2
  have key : ∀ p ∈ tf, PySem.W.codeHdIn (He.frT h.get? (L h.get?)) (He.cT (He.frT h.get? (L h.get?)) p).1 (He.cT (He.frT h.get? (L h.get?)) p).2 = true ∧ ∃ o, h.get? (He.cT (He.frT h.get? (L h.get?)) p).2 = some o ∧ He.emptyTab o = true := fun p hp => by
    obtain ⟨h3, h4⟩ := Bool.and_eq_true_iff.mp (List.all_eq_true.mp h2 p hp)
    refine ⟨h3, ?_⟩
    cases q : h.get? (He.cT (He.frT h.get? (L h.get?)) p).2 with
    | none => rw [q] at h4; cases h4
    | some o => rw [q] at h4; exact ⟨o, rfl, h4⟩
  exact ⟨e1, fun d hd => ⟨List.all_eq_true.mp h1 d hd, List.map_inj_left.mp e3 d hd⟩, fun p hp => (key p hp).1, fun p hp => by
    obtain ⟨_, o, q, z⟩ := key p hp
    exact He.frT_none q z, fun p hp => by
    obtain ⟨_, o, q, z⟩ := key p hp
    rw [q, He.emptyTab_eq z]⟩
def hookG6 (L : (Addr → Option Obj) → List Addr) (fa : List He.Fa) (fn : List He.DefD) (gs : List (Str × D)) (ds : List DicD) (fx : List FactB) (xd : List He5.DefA) (sd : List SupD) (tf : List He.Defn) (file0 : Str) : PySem.W.Hook where
  α := AlG4
  obs := fun s => obsGG6 L fa fn gs ds fx xd sd tf file0 s.heap.get?
  val := fun w => valG4 fn ds xd sd w
  says := fun w h => ∃ K : PySem.W.Frag, K.In h ∧ SaysG4 fa fn gs ds fx xd sd tf file0 w h K
  of := fun _ _ e => ⟨_, He.frT_in, saysG6_of e⟩
  keeps := fun _ _ _ ⟨K, hK, c⟩ k => ⟨K, PySem.W.Frag.In.keeps hK k, ⟨c.g3, c.sup, c.hd, c.out, fun p hp => k _ _ (c.empty p hp)⟩⟩
theorem obsGG6_eq {g : Addr → Option Obj} {s : Shared} (h : ∀ a, g a = s.heap.get? a) : obsGG6 L fa fn gs ds fx xd sd tf file0 g = (hookG6 L fa fn gs ds fx xd sd tf file0).obs s := by
  have e : g = s.heap.get? := funext h
  rw [e] <;> rfl
end
theorem obs_join6 {L : (Addr → Option Obj) → List Addr} {fa : List He.Fa} {fn : List He.DefD} {gs : List (Str × D)} {ds : List DicD} {fx : List FactB} {xd : List He5.DefA} {sd : List SupD} {tf : List He.Defn} {f : Str} {w : World} {g : Addr → Option Obj}
    (h1 : obsGG6 L fa fn gs ds [] [] [] [] f g = valG4 fn ds [] [] w) (h2 : obsGG6 L [] [] [] [] fx xd sd tf f g = valG4 [] [] xd sd w) : obsGG6 L fa fn gs ds fx xd sd tf f g = valG4 fn ds xd sd w := by
  have e1 := congrArg (fun z : AlG4 => z.1.1) h1
  have e2 := congrArg (fun z : AlG4 => z.1.2) h2
  have e3 := congrArg (fun z : AlG4 => z.2) h2
  exact Prod.ext (Prod.ext e1 e2) e3
end PD
namespace PX
open PySem PySem.Spec PyProof.Rows L2
end PX
namespace PD
open PySem PySem.Spec PyProof.Rows L2 PX
end PD
namespace PD
open PySem
end PD
namespace PD
open PySem PySem.Spec PyProof.Rows L2
end PD
namespace PD
open PySem PySem.Spec PyProof.Rows L2
theorem obs_app {L : (Addr → Option Obj) → List Addr} {fa fa' : List He.Fa} {fn fn' : List He.DefD} {gs gs' : List (Str × D)} {ds ds' : List DicD} {fx fx' : List FactB} {xd xd' : List He5.DefA} {sd sd' : List SupD} {tf tf' : List He.Defn} {f : Str} {w : World} {g : Addr → Option Obj}
    (h1 : obsGG6 L fa fn gs ds fx xd sd tf f g = valG4 fn ds xd sd w) (h2 : obsGG6 L fa' fn' gs' ds' fx' xd' sd' tf' f g = valG4 fn' ds' xd' sd' w) :
    obsGG6 L (fa ++ fa') (fn ++ fn') (gs ++ gs') (ds ++ ds') (fx ++ fx') (xd ++ xd') (sd ++ sd') (tf ++ tf') f g = valG4 (fn ++ fn') (ds ++ ds') (xd ++ xd') (sd ++ sd') w := by
  unfold obsGG6 obsG4 obsG3 obsG2 obsG He.obsD valG4 valG3 valG2 valG He.valD He.tabsB at *
  simp only [Prod.mk.injEq, Bool.and_eq_true, List.all_append, List.map_append] at *
  obtain ⟨⟨⟨⟨⟨⟨a1, a2⟩, a3⟩, a4⟩, a5, a6⟩, ⟨a7, a8⟩, a9⟩, ⟨b1, b2⟩, b3⟩ := h1
  obtain ⟨⟨⟨⟨⟨⟨c1, c2⟩, c3⟩, c4⟩, c5, c6⟩, ⟨c7, c8⟩, c9⟩, ⟨d1, d2⟩, d3⟩ := h2
  exact ⟨⟨⟨⟨⟨⟨⟨a1, c1⟩, ⟨a2, c2⟩⟩, by rw [a3, c3]⟩, ⟨a4, c4⟩⟩, ⟨a5, c5⟩, by rw [a6, c6]⟩, ⟨⟨a7, c7⟩, ⟨a8, c8⟩⟩, by rw [a9, c9]⟩, ⟨⟨b1, d1⟩, ⟨b2, d2⟩⟩, by rw [b3, d3]⟩
end PD
namespace PD
open PySem PySem.Spec PyProof.Rows L2
end PD
namespace PD
open PySem PySem.Spec PyProof.Rows L2
/-- a name's hash -/
def hashY (y : Str) : Nat := Nat.mod (y.cps.toList.foldl (fun n c => Nat.add (Nat.mul n 131) c) 7) 8191
def bitY (m a : Nat) : Bool := Nat.beq (Nat.land (Nat.shiftRight m a) 1) 1
def entM (mk : Nat) (g : Addr → Option Obj) (e : DictEntry) : List Addr := match e.key with
  | .str y _ => (match bitY mk (hashY y) with
    | true => He.refV e.val
    | false => if plainO g e.val then He.refV e.val else [])
  | _ => He.refV e.val
def isCodeO (o : Obj) : Bool := match o.cls with
  | .type c => c == "code"
  | _ => false
def refsM (mk : Nat) (g : Addr → Option Obj) (o : Obj) : List Addr := match o.data with
  | .dict es _ => es.toList.flatMap (entM mk g)
  | .fields _ => (match isCodeO o with
    | true => []
    | false => He.refsD o)
  | .func fd => He.refV fd.code ++ He.refV fd.defaults ++ He.refV fd.kwdefaults ++ fd.closure.map (·.2)
  | _ => He.refsD o
/-- the addresses of l that are not in the mask m -/
def freshM {α : Type} (k : Nat → List Addr → α) : List Addr → Nat → List Addr → α
  | [], m, acc => k m acc
  | a :: r, m, acc => (match bitY m a with
    | true => freshM k r m acc
    | false => freshM k r (Nat.lor m (Nat.shiftLeft 1 a)) (a :: acc))
def levM (mk : Nat) (g : Addr → Option Obj) : Nat → Nat → List Addr → List Addr
  | 0, _, _ => []
  | n + 1, m, fr => freshM (fun m' l => l ++ levM mk g n m' l) (fr.flatMap fun a => match g a with
    | some o => refsM mk g o
    | none => []) m []
def asM (mk n : Nat) (g : Addr → Option Obj) : List Addr := mainGlobals :: cStatics :: levM mk g n (Nat.lor (Nat.shiftLeft 1 mainGlobals) (Nat.shiftLeft 1 cStatics)) [mainGlobals]
end PD
namespace K12
open PySem PySem.Spec PyProof.Rows L2 PD
def top (i : Nat) : Stmt := PySem.Challenge.pw_lookedrows_k12_whole_projections.main.body.getD i (.Pass ⟨0, 0, 0, 0⟩)
def g_LETTERS : D := (.str [97, 98, 99, 100, 101, 102, 103, 104, 105, 106, 107, 108, 109, 110, 111, 112, 113, 114, 115, 116, 117, 118, 119, 120, 121, 122])
def g_RESERVED : D := (.tup [(.str [97, 110, 100]), (.str [102, 111, 117, 110, 100]), (.str [107, 101, 121]), (.str [110, 101, 120, 116]), (.str [110, 111, 116]), (.str [111, 114]), (.str [111, 119, 110]), (.str [115, 101, 116]), (.str [116, 114, 117, 101]), (.str [119, 104, 101, 114, 101])])
def g_DIGITS : D := (.str [48, 49, 50, 51, 52, 53, 54, 55, 56, 57])
abbrev s__law_draws : Stmt := top 20
abbrev s_closed : Stmt := top 16
abbrev s_is_listed : Stmt := top 11
abbrev s_is_name : Stmt := top 9
abbrev s_is_column : Stmt := top 12
abbrev s_is_unknown : Stmt := top 14
abbrev s_is_integer : Stmt := top 10
abbrev s_is_comparison : Stmt := top 15
abbrev s_System_init : Stmt := (clsBody (top 18)).getD 0 (.Pass ⟨0, 0, 0, 0⟩)
abbrev s_System_need_open : Stmt := (clsBody (top 18)).getD 5 (.Pass ⟨0, 0, 0, 0⟩)
abbrev s_System_unknowns : Stmt := (clsBody (top 18)).getD 3 (.Pass ⟨0, 0, 0, 0⟩)
abbrev s_System_on : Stmt := (clsBody (top 18)).getD 8 (.Pass ⟨0, 0, 0, 0⟩)
abbrev s__law_pull : Stmt := top 21
abbrev s__law_any : Stmt := top 22
abbrev s__law_near : Stmt := top 24
abbrev s__law_some_comparisons : Stmt := top 25
abbrev s__law_bounds : Stmt := top 26
abbrev s_System_is_open : Stmt := (clsBody (top 18)).getD 1 (.Pass ⟨0, 0, 0, 0⟩)
abbrev s__law_like : Stmt := top 23
abbrev s_System_within : Stmt := (clsBody (top 18)).getD 11 (.Pass ⟨0, 0, 0, 0⟩)
abbrev s_System_eq : Stmt := (clsBody (top 18)).getD 12 (.Pass ⟨0, 0, 0, 0⟩)
abbrev s_System_contains : Stmt := (clsBody (top 18)).getD 13 (.Pass ⟨0, 0, 0, 0⟩)
abbrev s_law : Stmt := top 27
abbrev s_InvalidComparison_init : Stmt := (clsBody (top 3)).getD 0 (.Pass ⟨0, 0, 0, 0⟩)
abbrev s_NotOpen_init : Stmt := (clsBody (top 4)).getD 0 (.Pass ⟨0, 0, 0, 0⟩)
abbrev s_TableError_init : Stmt := (clsBody (top 2)).getD 0 (.Pass ⟨0, 0, 0, 0⟩)
def dd__law_draws : He.DefD := ⟨("_law_draws", none), "_law_draws", "_law_draws", defArgs s__law_draws, defBody s__law_draws, defScope s__law_draws, [], []⟩
def dd_closed : He.DefD := ⟨("closed", none), "closed", "closed", defArgs s_closed, defBody s_closed, defScope s_closed, [], []⟩
def dd_is_listed : He.DefD := ⟨("is_listed", none), "is_listed", "is_listed", defArgs s_is_listed, defBody s_is_listed, defScope s_is_listed, [], []⟩
def dd_is_name : He.DefD := ⟨("is_name", none), "is_name", "is_name", defArgs s_is_name, defBody s_is_name, defScope s_is_name, [], []⟩
def dd_is_column : He.DefD := ⟨("is_column", none), "is_column", "is_column", defArgs s_is_column, defBody s_is_column, defScope s_is_column, [], []⟩
def dd_is_unknown : He.DefD := ⟨("is_unknown", none), "is_unknown", "is_unknown", defArgs s_is_unknown, defBody s_is_unknown, defScope s_is_unknown, [], []⟩
def dd_is_integer : He.DefD := ⟨("is_integer", none), "is_integer", "is_integer", defArgs s_is_integer, defBody s_is_integer, defScope s_is_integer, [], []⟩
def dd_is_comparison : He.DefD := ⟨("is_comparison", none), "is_comparison", "is_comparison", defArgs s_is_comparison, defBody s_is_comparison, defScope s_is_comparison, [], []⟩
def dd_System_init : He.DefD := ⟨("System", some "__init__"), "__init__", "System.__init__", defArgs s_System_init, defBody s_System_init, defScope s_System_init, [.adr (He.dflAt ("System", some "__init__") 0)], []⟩
def fx_q_System_init_comparisons : FactB := fun K => dB K (.tup []) (.ref (He.dflAt ("System", some "__init__") 0 K))
def dd_System_need_open : He.DefD := ⟨("System", some "need_open"), "need_open", "System.need_open", defArgs s_System_need_open, defBody s_System_need_open, defScope s_System_need_open, [], []⟩
def dd_System_unknowns : He.DefD := ⟨("System", some "unknowns"), "unknowns", "System.unknowns", defArgs s_System_unknowns, defBody s_System_unknowns, defScope s_System_unknowns, [], []⟩
def dd_System_on : He.DefD := ⟨("System", some "on"), "on", "System.on", defArgs s_System_on, defBody s_System_on, defScope s_System_on, [], []⟩
def dd__law_pull : He.DefD := ⟨("_law_pull", none), "_law_pull", "_law_pull", defArgs s__law_pull, defBody s__law_pull, defScope s__law_pull, [], []⟩
def dd__law_any : He.DefD := ⟨("_law_any", none), "_law_any", "_law_any", defArgs s__law_any, defBody s__law_any, defScope s__law_any, [], []⟩
def dd__law_near : He.DefD := ⟨("_law_near", none), "_law_near", "_law_near", defArgs s__law_near, defBody s__law_near, defScope s__law_near, [], []⟩
def dd__law_some_comparisons : He.DefD := ⟨("_law_some_comparisons", none), "_law_some_comparisons", "_law_some_comparisons", defArgs s__law_some_comparisons, defBody s__law_some_comparisons, defScope s__law_some_comparisons, [], []⟩
def dd__law_bounds : He.DefD := ⟨("_law_bounds", none), "_law_bounds", "_law_bounds", defArgs s__law_bounds, defBody s__law_bounds, defScope s__law_bounds, [], []⟩
def fx_System_is_open : FactB := fun K => propB K "System" "is_open"
def xd_System_is_open : He5.DefA := { at_ := gtr "System" "is_open", name := "is_open", qual := "System.is_open", params := defArgs s_System_is_open, body := defBody s_System_is_open, scope := defScope s_System_is_open }
def dd__law_like : He.DefD := ⟨("_law_like", none), "_law_like", "_law_like", defArgs s__law_like, defBody s__law_like, defScope s__law_like, [], []⟩
def dd_System_within : He.DefD := ⟨("System", some "within"), "within", "System.within", defArgs s_System_within, defBody s_System_within, defScope s_System_within, [], []⟩
def dd_System_eq : He.DefD := ⟨("System", some "__eq__"), "__eq__", "System.__eq__", defArgs s_System_eq, defBody s_System_eq, defScope s_System_eq, [], []⟩
def dd_System_contains : He.DefD := ⟨("System", some "__contains__"), "__contains__", "System.__contains__", defArgs s_System_contains, defBody s_System_contains, defScope s_System_contains, [], []⟩
def dd_law : He.DefD := ⟨("law", none), "law", "law", defArgs s_law, defBody s_law, defScope s_law, [], []⟩
def xd_InvalidComparison_init : He5.DefA := { at_ := fun K => He.ma K (He.ga K "InvalidComparison") "__init__", name := "__init__", qual := "InvalidComparison.__init__", params := defArgs s_InvalidComparison_init, body := defBody s_InvalidComparison_init, scope := defScope s_InvalidComparison_init }
def fx_o_InvalidComparison : FactB := fun K => overB K (He.ga K "TableError") (He.ga K "InvalidComparison")
def fx_i_InvalidComparison : FactB := fun K => initB K (He.ga K "InvalidComparison")
def fx_na_InvalidComparison : FactB := fun K => noB K (He.ga K "InvalidComparison") "index"
def xd_NotOpen_init : He5.DefA := { at_ := fun K => He.ma K (He.ga K "NotOpen") "__init__", name := "__init__", qual := "NotOpen.__init__", params := defArgs s_NotOpen_init, body := defBody s_NotOpen_init, scope := defScope s_NotOpen_init }
def fx_o_NotOpen : FactB := fun K => overB K (He.ga K "TableError") (He.ga K "NotOpen")
def fx_i_NotOpen : FactB := fun K => initB K (He.ga K "NotOpen")
def sd_TableError : SupD := ⟨"TableError", "TableError.__init__", defArgs s_TableError_init, defBody s_TableError_init, defScope s_TableError_init⟩
def fx_cf_TableError : FactB := fun K => clsvB K (He.ga K "TableError")
def fx_iso_System : FactB := fun K => isoB K "System"
def fn : List He.DefD := [dd__law_draws, dd_closed, dd_is_listed, dd_is_name, dd_is_column, dd_is_unknown, dd_is_integer, dd_is_comparison, dd_System_init, dd_System_need_open, dd_System_unknowns, dd_System_on, dd__law_pull, dd__law_any, dd__law_near, dd__law_some_comparisons, dd__law_bounds, dd__law_like, dd_System_within, dd_System_eq, dd_System_contains, dd_law]
def fa : List He.Fa := [.glo "_law_draws", .glo "closed", .glo "is_listed", .glo "is_name", .glo "is_column", .glo "is_unknown", .glo "is_integer", .glo "is_comparison", .glo "_law_pull", .glo "_law_any", .glo "_law_near", .glo "_law_some_comparisons", .glo "_law_bounds", .glo "_law_like", .glo "law", .glo "System", .glo "InvalidComparison", .glo "NotOpen", .glo "TableError", .free "list", .free "int", .free "min", .free "sorted", .free "isinstance", .free "tuple", .free "all", .free "len", .free "str", .free "bool", .free "enumerate", .free "range", .free "any", .free "zip", .free "dict", .cls "System", .noat "System" "own_bounds", .noat "System" "has_solution", .noat "System" "own_rows", .mkr "System", .meth "System" "need_open", .meth "System" "unknowns", .meth "System" "on", .meth "System" "within", .meth "System" "__eq__", .meth "System" "__contains__"]
def gs : List (Str × D) := [("LETTERS", g_LETTERS), ("RESERVED", g_RESERVED), ("DIGITS", g_DIGITS)]
def dsL : List DicD := []
def fxL : List FactB := [fx_q_System_init_comparisons, fx_System_is_open, fx_o_InvalidComparison, fx_i_InvalidComparison, fx_na_InvalidComparison, fx_o_NotOpen, fx_i_NotOpen, fx_cf_TableError, fx_iso_System]
def xdL : List He5.DefA := [xd_System_is_open, xd_InvalidComparison_init, xd_NotOpen_init]
def sdL : List SupD := [sd_TableError]
def tf : List He.Defn := []
abbrev R : PySem.W.OpenRow := PySem.W.OpenLaw.row PySem.Challenge.rw_lookedrows_k12_whole_projections
def L6 : (Addr → Option Obj) → List Addr := asM 1602710339488207177054714388924196960647465428297499191729078681311634633778542695278179244481613701649634927752298859308064912127324780552129531834857990863485198354902742426831877369306301397629284419833369993887677473270400189825538773180765695746804060831409887177658912596688638133724643150810043310414892694083468947439443542263968372734165029292280218624135883393997648952453505746876430934320042035502444438364756245216474779493616138381068121968868975273978489262216998348912689460557304608964036427693416028672891190303608351003215465662008495552897511132896554555679860432447369048523633894189059524541224184983722556789907627229686273667695213615941891145973216248788921928400608887483582896957505650165647430721913522960701425735373283610081779533634919281677103418349366244053846351113742707872016133319476266433636061914957469632487299688390832225933074152639758352867228302089440572866207721520171769074534654742688387119774550652257156844551815087433747700167324836509819797929685282439156336980015607897446137105919880733942580157352639598067812195413073572055782833372942752936790317648251900243793107969039419454952648010755446894056697238834617431321306631590877717360028925901159212894941974173029864686142502328196991678444448719852648713116920165585451612990399589906862538160054792712691620103177317885056298216880419025858959159721270006837197013410328524749161190865951279306072657924438010064915075551621211520044841235355721288234510517778299792022327591136653916757776843748990575120926622818115374146580974451022551658936095116766577146910860098928371073205715628275823104536596950683872125923205861110981262115676390348611331808353701096720629130111289543318435214141292148767539659919953324552972407119330577202748026221035473189390983562341066656045229266905248785852915951900711656618551587381807168655854085891491054186512575214303599541607303318522729708564761005623709966233328349220136643554552483973648247751569522458250591326748158601189129613583052143091329476884951073751714454073430066300091050630035441961630047318414846958568290799101767872694393633915739388821027901594213225984057944600709725236150577799101252448218939473745770947242108087401822226803316377342876361653387129238317716654328376109149330555481397791945443342653823752534669045531443665497668833954593151855758692207139994463693368322168827163179851096667813406555628910178691304032360604291210365484377264774709248 6
def hk : PySem.W.Hook := hookG6 L6 fa fn gs dsL fxL xdL sdL tf R.prog.main.file
def ob (s : PySem.W.SharedT) : AlG4 := obsGG6 L6 fa fn gs dsL fxL xdL sdL tf R.prog.main.file (HandSHeadRun.getT s)
theorem ob_eq (s : PySem.W.SharedT) : ob s = hk.obs s.abs := obsGG6_eq (HandSHeadRun.getT_eq s)
def loose0 : List Str := ["_wall", "TableError", "InvalidComparison", "NotOpen", "LETTERS", "DIGITS", "RESERVED", "is_name", "is_integer", "is_listed", "is_column", "is_unknown", "is_comparison", "closed", "comparison_text", "System", "_law_draws", "_law_pull", "_law_any", "_law_like", "_law_near", "_law_some_comparisons", "_law_bounds"]
abbrev loose : List Str := loose0
def fa_0 : List He.Fa := (fa.drop 0).take 23
def fa_1 : List He.Fa := (fa.drop 23).take 23
def fn_0 : List He.DefD := (fn.drop 0).take 11
def fn_1 : List He.DefD := (fn.drop 11).take 11
def hkA : PySem.W.Hook := hookG6 L6 fa fn gs dsL [] [] [] [] R.prog.main.file
def obA (s : PySem.W.SharedT) : AlG4 := obsGG6 L6 fa fn gs dsL [] [] [] [] R.prog.main.file (HandSHeadRun.getT s)
def hkB : PySem.W.Hook := hookG6 L6 [] [] [] [] fxL xdL sdL tf R.prog.main.file
def obB (s : PySem.W.SharedT) : AlG4 := obsGG6 L6 [] [] [] [] fxL xdL sdL tf R.prog.main.file (HandSHeadRun.getT s)
def hkA0 : PySem.W.Hook := hookG6 L6 fa_0 fn_0 [] [] [] [] [] [] R.prog.main.file
def obA0 (s : PySem.W.SharedT) : AlG4 := obsGG6 L6 fa_0 fn_0 [] [] [] [] [] [] R.prog.main.file (HandSHeadRun.getT s)
def hkA1 : PySem.W.Hook := hookG6 L6 fa_1 fn_1 gs dsL [] [] [] [] R.prog.main.file
def obA1 (s : PySem.W.SharedT) : AlG4 := obsGG6 L6 fa_1 fn_1 gs dsL [] [] [] [] R.prog.main.file (HandSHeadRun.getT s)
end K12
namespace K12
open PySem PySem.Spec PyProof.Rows L2 PD
theorem run0A0 (w : World) : HandSHeadRun.RunEq R (PySem.W.view R.prog [27]) hkA0 obA0 20000 loose (w.withFollow "special-get-raises" false) := fun os => by kernel_rfl
theorem run0A1 (w : World) : HandSHeadRun.RunEq R (PySem.W.view R.prog [27]) hkA1 obA1 20000 loose (w.withFollow "special-get-raises" false) := fun os => by kernel_rfl
theorem run0B (w : World) : HandSHeadRun.RunEq R (PySem.W.view R.prog [27]) hkB obB 20000 loose (w.withFollow "special-get-raises" false) := fun os => by kernel_rfl
theorem run1A0 (w : World) : HandSHeadRun.RunEq R (PySem.W.view R.prog [27]) hkA0 obA0 20000 loose (w.withFollow "special-get-raises" true) := fun os => by kernel_rfl
theorem run1A1 (w : World) : HandSHeadRun.RunEq R (PySem.W.view R.prog [27]) hkA1 obA1 20000 loose (w.withFollow "special-get-raises" true) := fun os => by kernel_rfl
theorem run1B (w : World) : HandSHeadRun.RunEq R (PySem.W.view R.prog [27]) hkB obB 20000 loose (w.withFollow "special-get-raises" true) := fun os => by kernel_rfl
theorem runJ {w : World} (h1 : HandSHeadRun.RunEq R (PySem.W.view R.prog [27]) hkA obA 20000 loose w) (h2 : HandSHeadRun.RunEq R (PySem.W.view R.prog [27]) hkB obB 20000 loose w) : HandSHeadRun.RunEq R (PySem.W.view R.prog [27]) hk ob 20000 loose w := fun os => run_join3 (h1 os) (h2 os) fun s ha hb => obs_join6 ha hb
theorem run0A (w : World) : HandSHeadRun.RunEq R (PySem.W.view R.prog [27]) hkA obA 20000 loose (w.withFollow "special-get-raises" false) := fun os => run_join3 (run0A0 w os) (run0A1 w os) fun s ha hb => obs_app ha hb
theorem run1A (w : World) : HandSHeadRun.RunEq R (PySem.W.view R.prog [27]) hkA obA 20000 loose (w.withFollow "special-get-raises" true) := fun os => run_join3 (run1A0 w os) (run1A1 w os) fun s ha hb => obs_app ha hb
theorem run (w : World) : HandSHeadRun.RunEq R (PySem.W.view R.prog [27]) hk ob 20000 loose w := PySem.W.byRow2 "special-get-raises" (P := fun w => HandSHeadRun.RunEq R (PySem.W.view R.prog [27]) hk ob 20000 loose w) (fun w => runJ (run0A w) (run0B w)) (fun w => runJ (run1A w) (run1B w)) w
end K12
section
open PySem PySem.W PySem.Calls PyProof.Rows
theorem K12.topHolds (hc : PySem.W.WalkO (PySem.W.view K12.R.prog [27]) K12.loose (PySem.W.XL (PySem.W.view K12.R.prog [27]) []) K12.hk.says K12.R.toRowW (HandSHeadRun.topDef K12.R.prog 27) [] (fun f vs => PySem.call f vs)) : PySem.Challenge.rw_lookedrows_k12_whole_projections.Holds := by
  w_on; o_law
  refine HandSHeadRun.head_any (r := OpenLaw.row PySem.Challenge.rw_lookedrows_k12_whole_projections) (q := view (OpenLaw.row PySem.Challenge.rw_lookedrows_k12_whole_projections).prog [27]) (H := K12.hk) (ob := K12.ob) (M := 20000) (loose := K12.loose) (d := HandSHeadRun.topDef (OpenLaw.row PySem.Challenge.rw_lookedrows_k12_whole_projections).prog 27) (kwd := []) K12.ob_eq
    (by kernel_rfl) (fun s => by kernel_rfl) K12.run (by kernel_rfl) (by kernel_rfl) (by kernel_rfl) (by rfl) (by first | assumption | decide +kernel) (by decide +kernel) ⟨rfl, rfl, rfl, rfl, rfl, by decide +kernel⟩ ?hw ?hc
  case hw => w_witness2
  case hc => exact hc
end
namespace PD
open PySem PySem.Spec PyProof.Rows L2
/-- the text of a lambda; caps: the names that it captures -/
structure LamD where
  qual : Str
  params : Arguments
  body : Expr
  scope : Scope
  caps : List Str
  /-- it has a parameter with the default 0 -/
  df : Bool
/-- the law's lambdas; the tables of code objects of the defs that make them, with the name of what they make -/
class LamTab where
  lam : Nat → LamD
  T : List (Addr × Str)
variable [LamTab]
/-- where one stands: the written part, the module's names, what is not to be touched, the cells' addresses, the heap -/
structure RC where
  K : PySem.W.Frag
  mg : Str → Option Value
  B : Addr → Prop
  ρ : List Addr
  H : Hp
def RC.fr (c : RC) (a : Addr) : Prop := ¬ c.B a ∧ a ∉ c.ρ
/-- the tables are right -/
def RC.tabs (c : RC) : Prop := ∀ p ∈ LamTab.T, LamX.TabS c.H p.1 p.2
structure MgX where
  mg : Str → Option Value
  tabs : Prop
structure MgX.Le (a b : MgX) : Prop where
  e : a.mg = b.mg
  t : b.tabs → a.tabs
theorem MgX.Le.trans {a b d : MgX} (x : MgX.Le a b) (y : MgX.Le b d) : MgX.Le a d := ⟨x.e.trans y.e, fun h => x.t (y.t h)⟩
def RC.mgx (c : RC) : MgX := ⟨c.mg, c.tabs⟩
/-- the module's names are mg, the tables are right -/
abbrev MgE (c : RC) (mg : Str → Option Value) : Prop := MgX.Le c.mgx ⟨mg, True⟩
theorem MgX.Le.e' {c c' : RC} (h : MgX.Le c'.mgx c.mgx) : c'.mg = c.mg := h.e
theorem MgX.Le.mge {c : RC} {mg : Str → Option Value} (h : MgE c mg) : c.mg = mg := h.e
abbrev RC.put (c : RC) (p : Addr) (o : HO) : RC := { c with H := upd c.H p o }
/-- a list that stands locked, or in the written part -/
def ScrL (K : PySem.W.Frag) (H : Hp) (a : Addr) (xs : List V) : Prop := (∃ o, H a = some (.frz o (.lst xs))) ∨
    ∃ (o : Obj) (its : Array Value) (n : Nat), K.lookup a = some o ∧ o.cls = .type "list" ∧ o.dict = none ∧ o.data = .seq its n ∧ its.size ≤ sizeLine ∧ Vals xs its.toList
theorem ScrL.sq {K : PySem.W.Frag} {H : Hp} {a : Addr} {xs : List V} (h : ScrL K H a xs) : SqL K H a xs := by
  rcases h with h | h
  · exact .inl (.inr h)
  · exact .inr h
/-- the dict's pairs -/
def isDic (t : Bool) (o : HO) (zs : List (List Key × V)) : Prop := (t = false ∧ ∃ ys : List (Key × V), o = .dK ys ∧ zs = ys.map fun p => ([p.1], p.2)) ∨ (t = true ∧ o = .dT zs)
theorem isDic.tbl {t : Bool} {o : HO} {zs : List (List Key × V)} (h : isDic t o zs) : ∀ ps, o ≠ .tbl ps := fun ps e => by
  subst e
  rcases h with ⟨_, _, e, _⟩ | ⟨_, e⟩ <;> cases e
theorem isDic.tup {t : Bool} {o : HO} {zs : List (List Key × V)} (h : isDic t o zs) : ∀ xs, o ≠ .tup xs := fun ps e => by
  subst e
  rcases h with ⟨_, _, e, _⟩ | ⟨_, e⟩ <;> cases e
theorem isDic.frz {t : Bool} {o : HO} {zs : List (List Key × V)} (h : isDic t o zs) : ∀ a b, o ≠ .frz a b := fun a b e => by
  subst e
  rcases h with ⟨_, _, e, _⟩ | ⟨_, e⟩ <;> cases e
theorem isDic.lst {t : Bool} {o : HO} {zs : List (List Key × V)} (h : isDic t o zs) : ∀ xs, o ≠ .lst xs := fun ps e => by
  subst e
  rcases h with ⟨_, _, e, _⟩ | ⟨_, e⟩ <;> cases e
/-- the closure has the captured names alone, each with a cell of its own -/
def ClOk (caps : List Str) (cl : List (Str × Addr)) : Prop := (∀ y b, cl.lookup y = some b → y ∈ caps) ∧ ∀ y y' b, cl.lookup y = some b → cl.lookup y' = some b → y = y'
def lamHO (l : LamD) (cl : List (Str × Addr)) (dV : Value) (c' f : Addr) : HO := .ext fun h => ClOk l.caps cl ∧ ∃ doc pm ctv, h.get? f = some (PySem.W.kdv_obj "<lambda>" l.qual l.params (.expr l.body) l.scope cl dV doc pm c' ctv)
def celHO (b : Addr) (o : Obj) : HO := .ext fun h => h.get? b = some o
/-- the tuple of the default -/
def DfR (H : Hp) (fr : Addr → Prop) (df : Bool) (dV : Value) : Prop := (df = false ∧ dV = .none) ∨ (df = true ∧ ∃ (dt : Addr) (t : Tok), dV = .ref dt ∧ H dt = some (celHO dt (PySem.W.kdv_tup [.int 0 t])) ∧ fr dt)
/-- the captured cells -/
inductive CapsR (H : Hp) (cl : List (Str × Addr)) (fr : Addr → Prop) (df : Bool) (dV : Value) : List Str → List V → Prop
  | nil : DfR H fr df dV → CapsR H cl fr df dV [] []
  | cons {y : Str} {ys : List Str} {b : Addr} {o : Obj} {u : Value} {v : V} {vs : List V} : cl.lookup y = some b → H b = some (celHO b o) → fr b → o.data = .cell (some u) → RelV v u → CapsR H cl fr df dV ys vs → CapsR H cl fr df dV (y :: ys) (v :: vs)
theorem CapsR.imp {H H' : Hp} {cl : List (Str × Addr)} {fr fr' : Addr → Prop} {df : Bool} {dV : Value} (k : ∀ b o, H b = some (celHO b o) → fr b → H' b = some (celHO b o) ∧ fr' b) : ∀ {ys : List Str} {vs : List V}, CapsR H cl fr df dV ys vs → CapsR H' cl fr' df dV ys vs
  | _, _, .nil (.inl h) => .nil (.inl h)
  | _, _, .nil (.inr ⟨h, dt, t, e, h1, h2⟩) => .nil (.inr ⟨h, dt, t, e, (k _ _ h1 h2).1, (k _ _ h1 h2).2⟩)
  | _, _, .cons h1 h2 h3 h4 h5 t => .cons h1 (k _ _ h2 h3).1 (k _ _ h2 h3).2 h4 h5 (t.imp k)
/-- an exception's object -/
def excHO (a Ca d : Addr) : HO := .ext fun h => ∃ o vs, h.get? a = some o ∧ o.cls = .ref Ca ∧ o.dict = some d ∧ o.data = .fields vs
theorem lamHO_tbl {l : LamD} {cl : List (Str × Addr)} {dV : Value} {c' f : Addr} (ps : Array Value) : lamHO l cl dV c' f ≠ .tbl ps := fun z => by
  unfold lamHO at z
  cases z
theorem celHO_tbl {b : Addr} {o : Obj} (ps : Array Value) : celHO b o ≠ .tbl ps := fun z => by
  unfold celHO at z
  cases z
theorem excHO_tbl {a Ca d : Addr} (ps : Array Value) : excHO a Ca d ≠ .tbl ps := fun z => by
  unfold excHO at z
  cases z
mutual
inductive Rep (c : RC) : D → V → Prop
  | non : Rep c .non .non
  | bl (b : Bool) : Rep c (.bl b) (.bl b)
  | int (i : Int) : Rep c (.int i) (.int i)
  | str (cs : List Nat) : Rep c (.str cs) (.str ⟨cs.toArray⟩)
  | tup {a : Addr} {ds : List D} {xs : List V} : SqT c.K c.H a xs → Reps c ds xs → Rep c (.tup ds) (.ref a)
  | lst {a : Addr} {ds : List D} {xs : List V} : c.H a = some (.lst xs) → c.fr a → Reps c ds xs → Rep c (.lst ds) (.ref a)
  | scr {a : Addr} {ds : List D} {xs : List V} : ScrL c.K c.H a xs → Reps c ds xs → Rep c (.scr ds) (.ref a)
  | obj {a Ca dx : Addr} {C : Str} {fs : List (Str × D)} {vs : List (Str × V)} : c.mg C = some (.ref Ca) → c.H a = some (.ins Ca dx vs) → c.fr a → RepF c fs vs → Rep c (.obj C fs) (.ref a)
  | ref {n : Nat} {a : Addr} : c.ρ[n]? = some a → Rep c (.ref n) (.ref a)
  | fn {f c' : Addr} {i : Nat} {cl : List (Str × Addr)} {dV : Value} {caps : List D} {vs : List V} : c.H f = some (lamHO (LamTab.lam i) cl dV c' f) → c.fr f → c.H c' = some (LamX.CodeO c' (LamTab.lam i).qual) → c.fr c' → CapsR c.H cl c.fr (LamTab.lam i).df dV (LamTab.lam i).caps vs → Reps c caps vs → Rep c (.fn i caps) (.ref f)
  | exc {a Ca dx : Addr} {C : Str} {fs : List (Str × D)} {vs : List (Str × V)} : c.mg C = some (.ref Ca) → c.H a = some (excHO a Ca dx) → c.fr a → c.H dx = some (.xd vs) → c.fr dx → RepF c fs vs → Rep c (.exc C fs) (.ref a)
  | dic {a : Addr} {t : Bool} {o : HO} {kvs : List (List Key × D)} {zs : List (List Key × V)} : c.H a = some o → isDic t o zs → c.fr a → RepP c kvs zs → Rep c (.dic t kvs) (.ref a)
inductive Reps (c : RC) : List D → List V → Prop
  | nil : Reps c [] []
  | cons {d : D} {ds : List D} {v : V} {vs : List V} : Rep c d v → Reps c ds vs → Reps c (d :: ds) (v :: vs)
inductive RepP (c : RC) : List (List Key × D) → List (List Key × V) → Prop
  | nil : RepP c [] []
  | cons {f : List Key} {d : D} {ds : List (List Key × D)} {v : V} {vs : List (List Key × V)} : Rep c d v → RepP c ds vs → RepP c ((f, d) :: ds) ((f, v) :: vs)
inductive RepF (c : RC) : List (Str × D) → List (Str × V) → Prop
  | nil : RepF c [] []
  | cons {f : Str} {d : D} {ds : List (Str × D)} {v : V} {vs : List (Str × V)} : Rep c d v → RepF c ds vs → RepF c ((f, d) :: ds) ((f, v) :: vs)
end
/-- later: what is not a cell stays -/
structure RC.Le (c c' : RC) : Prop where
  K : c'.K = c.K
  mg : MgX.Le c'.mgx c.mgx
  B : ∀ a, c.B a → c'.B a
  Bn : ∀ a, c'.B a → c.B a ∨ c.H a = none
  dom : ∀ a o, c.H a = some o → ∃ o', c'.H a = some o'
  pre : ∀ (n : Nat) (a : Addr), c.ρ[n]? = some a → c'.ρ[n]? = some a
  keep : ∀ a o, c.H a = some o → (∀ ps, o ≠ .tbl ps) → a ∉ c.ρ → c'.H a = some o ∧ a ∉ c'.ρ
  tup : ∀ a xs, Rd c.H a (.tup xs) → Rd c'.H a (.tup xs)
  frz : ∀ a o u, c.H a = some (.frz o u) → c'.H a = some (.frz o u)
theorem RC.Le.refl (c : RC) : c.Le c := ⟨rfl, ⟨rfl, fun h => h⟩, fun _ h => h, fun _ h => .inl h, fun _ o h => ⟨o, h⟩, fun _ _ h => h, fun _ _ h _ n => ⟨h, n⟩, fun _ _ h => h, fun _ _ _ h => h⟩
theorem RC.Le.trans {a b c : RC} (x : a.Le b) (y : b.Le c) : a.Le c :=
  ⟨y.K.trans x.K, y.mg.trans x.mg, fun p h => y.B p (x.B p h), fun p h => (by
    rcases y.Bn p h with h | h
    · exact x.Bn p h
    · cases q : a.H p with
      | none => exact .inr rfl
      | some o =>
        obtain ⟨o', e⟩ := x.dom p o q
        rw [h] at e
        cases e), fun p o h => let ⟨o', e⟩ := x.dom p o h; y.dom p o' e, fun n p h => y.pre n p (x.pre n p h), fun p o h t n => let ⟨h1, n1⟩ := x.keep p o h t n; y.keep p o h1 t n1, fun p xs h => y.tup p xs (x.tup p xs h), fun p o u h => y.frz p o u (x.frz p o u h)⟩
theorem RC.Le.fr {c c' : RC} (l : c.Le c') {a : Addr} {o : HO} (h : c.H a = some o) (ht : ∀ ps, o ≠ .tbl ps) (f : c.fr a) : c'.fr a :=
  ⟨fun z => (l.Bn a z).elim f.1 fun q => (by rw [h] at q; cases q), (l.keep a o h ht f.2).2⟩
theorem RC.Le.lstH {c c' : RC} (l : c.Le c') {a : Addr} {xs : List V} (h : c.H a = some (.lst xs)) (f : c.fr a) : c'.H a = some (.lst xs) ∧ c'.fr a :=
  ⟨(l.keep a _ h (fun _ z => by cases z) f.2).1, l.fr h (fun _ z => by cases z) f⟩
theorem RC.Le.scrL {c c' : RC} (l : c.Le c') {a : Addr} {xs : List V} (h : ScrL c.K c.H a xs) : ScrL c'.K c'.H a xs := by
  rcases h with ⟨o, h⟩ | h
  · exact .inl ⟨o, l.frz a o _ h⟩
  · rw [l.K]; exact .inr h
theorem RC.Le.sqT {c c' : RC} (l : c.Le c') {a : Addr} {xs : List V} (h : SqT c.K c.H a xs) : SqT c'.K c'.H a xs := by
  rcases h with h | h
  · exact .inl (l.tup a xs h)
  · rw [l.K]; exact .inr h
/-- later, but for what is not to be touched -/
structure RC.LeW (c c' : RC) : Prop where
  K : c'.K = c.K
  mg : c'.mg = c.mg
  Bn : ∀ a, c'.B a → c.B a ∨ c.H a = none
  pre : ∀ (n : Nat) (a : Addr), c.ρ[n]? = some a → c'.ρ[n]? = some a
  dom : ∀ a o, c.H a = some o → ∃ o', c'.H a = some o'
  keep : ∀ a o, c.H a = some o → (∀ ps, o ≠ .tbl ps) → ¬ c.B a → a ∉ c.ρ → c'.H a = some o ∧ a ∉ c'.ρ
  tup : ∀ a xs, Rd c.H a (.tup xs) → Rd c'.H a (.tup xs)
  frz : ∀ a o u, c.H a = some (.frz o u) → c'.H a = some (.frz o u)
theorem RC.Le.toW {c c' : RC} (l : c.Le c') : c.LeW c' := ⟨l.K, l.mg.e, l.Bn, l.pre, l.dom, fun a o h t _ n => l.keep a o h t n, l.tup, l.frz⟩
theorem RC.LeW.trans {a b c : RC} (x : a.LeW b) (y : b.LeW c) : a.LeW c :=
  ⟨y.K.trans x.K, y.mg.trans x.mg, fun p h => (by
    rcases y.Bn p h with h | h
    · exact x.Bn p h
    · cases q : a.H p with
      | none => exact .inr rfl
      | some o =>
        obtain ⟨o', e⟩ := x.dom p o q
        rw [h] at e
        cases e), fun n p h => y.pre n p (x.pre n p h), fun p o h => let ⟨o', e⟩ := x.dom p o h; y.dom p o' e, fun p o h t nb n => (by
    obtain ⟨h1, n1⟩ := x.keep p o h t nb n
    refine y.keep p o h1 t (fun z => ?_) n1
    rcases x.Bn p z with q | q
    · exact nb q
    · rw [h] at q; cases q), fun p xs h => y.tup p xs (x.tup p xs h), fun p o u h => y.frz p o u (x.frz p o u h)⟩
theorem RC.LeW.fr {c c' : RC} (l : c.LeW c') {a : Addr} {o : HO} (h : c.H a = some o) (ht : ∀ ps, o ≠ .tbl ps) (f : c.fr a) : c'.fr a :=
  ⟨fun z => (l.Bn a z).elim f.1 fun q => (by rw [h] at q; cases q), (l.keep a o h ht f.1 f.2).2⟩
theorem RC.LeW.lstH {c c' : RC} (l : c.LeW c') {a : Addr} {xs : List V} (h : c.H a = some (.lst xs)) (f : c.fr a) : c'.H a = some (.lst xs) ∧ c'.fr a :=
  ⟨(l.keep a _ h (fun _ z => by cases z) f.1 f.2).1, l.fr h (fun _ z => by cases z) f⟩
theorem RC.LeW.scrL {c c' : RC} (l : c.LeW c') {a : Addr} {xs : List V} (h : ScrL c.K c.H a xs) : ScrL c'.K c'.H a xs := by
  rcases h with ⟨o, h⟩ | h
  · exact .inl ⟨o, l.frz a o _ h⟩
  · rw [l.K]; exact .inr h
theorem RC.LeW.sqT {c c' : RC} (l : c.LeW c') {a : Addr} {xs : List V} (h : SqT c.K c.H a xs) : SqT c'.K c'.H a xs := by
  rcases h with h | h
  · exact .inl (l.tup a xs h)
  · rw [l.K]; exact .inr h
mutual
theorem Rep.leW {c c' : RC} (l : c.LeW c') : ∀ {d : D} {v : V}, Rep c d v → Rep c' d v
  | _, _, .non => .non
  | _, _, .bl b => .bl b
  | _, _, .int i => .int i
  | _, _, .str cs => .str cs
  | _, _, .tup h r => .tup (l.sqT h) (Reps.leW l r)
  | _, _, .lst h f r => .lst (l.lstH h f).1 (l.lstH h f).2 (Reps.leW l r)
  | _, _, .scr h r => .scr (l.scrL h) (Reps.leW l r)
  | _, _, .obj m h f r => .obj (by rw [l.mg]; exact m) (l.keep _ _ h (fun _ z => by cases z) f.1 f.2).1 (l.fr h (fun _ z => by cases z) f) (RepF.leW l r)
  | _, _, .ref h => .ref (l.pre _ _ h)
  | _, _, .dic h i f r => .dic (l.keep _ _ h i.tbl f.1 f.2).1 i (l.fr h i.tbl f) (RepP.leW l r)
  | _, _, .fn h f h2 f2 cr r => .fn (l.keep _ _ h lamHO_tbl f.1 f.2).1 (l.fr h lamHO_tbl f) (l.keep _ _ h2 LamX.codeO_ne f2.1 f2.2).1 (l.fr h2 LamX.codeO_ne f2) (cr.imp fun b o hb fb => ⟨(l.keep _ _ hb celHO_tbl fb.1 fb.2).1, l.fr hb celHO_tbl fb⟩) (Reps.leW l r)
  | _, _, .exc m h f h2 f2 r => .exc (by rw [l.mg]; exact m) (l.keep _ _ h excHO_tbl f.1 f.2).1 (l.fr h excHO_tbl f) (l.keep _ _ h2 (fun _ z => by cases z) f2.1 f2.2).1 (l.fr h2 (fun _ z => by cases z) f2) (RepF.leW l r)
theorem Reps.leW {c c' : RC} (l : c.LeW c') : ∀ {ds : List D} {vs : List V}, Reps c ds vs → Reps c' ds vs
  | _, _, .nil => .nil
  | _, _, .cons h t => .cons (Rep.leW l h) (Reps.leW l t)
theorem RepP.leW {c c' : RC} (l : c.LeW c') : ∀ {ds : List (List Key × D)} {vs : List (List Key × V)}, RepP c ds vs → RepP c' ds vs
  | _, _, .nil => .nil
  | _, _, .cons h t => .cons (Rep.leW l h) (RepP.leW l t)
theorem RepF.leW {c c' : RC} (l : c.LeW c') : ∀ {ds : List (Str × D)} {vs : List (Str × V)}, RepF c ds vs → RepF c' ds vs
  | _, _, .nil => .nil
  | _, _, .cons h t => .cons (Rep.leW l h) (RepF.leW l t)
end
mutual
theorem Rep.le {c c' : RC} (l : c.Le c') : ∀ {d : D} {v : V}, Rep c d v → Rep c' d v
  | _, _, .non => .non
  | _, _, .bl b => .bl b
  | _, _, .int i => .int i
  | _, _, .str cs => .str cs
  | _, _, .tup h r => .tup (l.sqT h) (Reps.le l r)
  | _, _, .lst h f r => .lst (l.lstH h f).1 (l.lstH h f).2 (Reps.le l r)
  | _, _, .scr h r => .scr (l.scrL h) (Reps.le l r)
  | _, _, .obj m h f r => .obj (by rw [l.mg.e']; exact m) (l.keep _ _ h (fun _ z => by cases z) f.2).1 (l.fr h (fun _ z => by cases z) f) (RepF.le l r)
  | _, _, .ref h => .ref (l.pre _ _ h)
  | _, _, .dic h i f r => .dic (l.keep _ _ h i.tbl f.2).1 i (l.fr h i.tbl f) (RepP.le l r)
  | _, _, .fn h f h2 f2 cr r => .fn (l.keep _ _ h lamHO_tbl f.2).1 (l.fr h lamHO_tbl f) (l.keep _ _ h2 LamX.codeO_ne f2.2).1 (l.fr h2 LamX.codeO_ne f2) (cr.imp fun b o hb fb => ⟨(l.keep _ _ hb celHO_tbl fb.2).1, l.fr hb celHO_tbl fb⟩) (Reps.le l r)
  | _, _, .exc m h f h2 f2 r => .exc (by rw [l.mg.e']; exact m) (l.keep _ _ h excHO_tbl f.2).1 (l.fr h excHO_tbl f) (l.keep _ _ h2 (fun _ z => by cases z) f2.2).1 (l.fr h2 (fun _ z => by cases z) f2) (RepF.le l r)
theorem Reps.le {c c' : RC} (l : c.Le c') : ∀ {ds : List D} {vs : List V}, Reps c ds vs → Reps c' ds vs
  | _, _, .nil => .nil
  | _, _, .cons h t => .cons (Rep.le l h) (Reps.le l t)
theorem RepP.le {c c' : RC} (l : c.Le c') : ∀ {ds : List (List Key × D)} {vs : List (List Key × V)}, RepP c ds vs → RepP c' ds vs
  | _, _, .nil => .nil
  | _, _, .cons h t => .cons (Rep.le l h) (RepP.le l t)
theorem RepF.le {c c' : RC} (l : c.Le c') : ∀ {ds : List (Str × D)} {vs : List (Str × V)}, RepF c ds vs → RepF c' ds vs
  | _, _, .nil => .nil
  | _, _, .cons h t => .cons (Rep.le l h) (RepF.le l t)
end
theorem Reps.length {c : RC} : ∀ {ds : List D} {vs : List V}, Reps c ds vs → ds.length = vs.length
  | _, _, .nil => rfl
  | _, _, .cons _ t => by rw [List.length_cons, List.length_cons, t.length]
theorem Reps.get {c : RC} : ∀ {ds : List D} {vs : List V} {i : Nat} {d : D}, Reps c ds vs → ds[i]? = some d → ∃ v, vs[i]? = some v ∧ Rep c d v
  | _, _, _, _, .nil, e => by simp at e
  | _, _, 0, d, .cons h _, e => by simp at e; subst e; exact ⟨_, rfl, h⟩
  | _, _, i + 1, d, .cons _ t, e => by
    obtain ⟨v, h1, h2⟩ := Reps.get (i := i) t (by simpa using e)
    exact ⟨v, by simpa using h1, h2⟩
theorem Reps.getV {c : RC} : ∀ {ds : List D} {vs : List V} {i : Nat} {v : V}, Reps c ds vs → vs[i]? = some v → ∃ d, ds[i]? = some d ∧ Rep c d v
  | _, _, _, _, .nil, e => by simp at e
  | _, _, 0, d, .cons h _, e => by simp at e; subst e; exact ⟨_, rfl, h⟩
  | _, _, i + 1, d, .cons _ t, e => by
    obtain ⟨v, h1, h2⟩ := Reps.getV (i := i) t (by simpa using e)
    exact ⟨v, by simpa using h1, h2⟩
theorem Reps.append {c : RC} : ∀ {ds es : List D} {vs us : List V}, Reps c ds vs → Reps c es us → Reps c (ds ++ es) (vs ++ us)
  | _, _, _, _, .nil, s => s
  | _, _, _, _, .cons h t, s => .cons h (t.append s)
theorem Reps.take {c : RC} : ∀ {ds : List D} {vs : List V} (n : Nat), Reps c ds vs → Reps c (ds.take n) (vs.take n)
  | _, _, 0, _ => .nil
  | _, _, _ + 1, .nil => .nil
  | _, _, n + 1, .cons h t => .cons h (t.take n)
theorem Reps.drop {c : RC} : ∀ {ds : List D} {vs : List V} (n : Nat), Reps c ds vs → Reps c (ds.drop n) (vs.drop n)
  | _, _, 0, r => r
  | _, _, _ + 1, .nil => .nil
  | _, _, n + 1, .cons _ t => t.drop n
theorem Reps.set {c : RC} {d : D} {v : V} (r : Rep c d v) : ∀ {ds : List D} {vs : List V} (n : Nat), Reps c ds vs → Reps c (ds.set n d) (vs.set n v)
  | _, _, _, .nil => .nil
  | _, _, 0, .cons _ t => .cons r t
  | _, _, n + 1, .cons h t => .cons h (t.set r n)
theorem RepF.look {c : RC} {f : Str} : ∀ {ds : List (Str × D)} {vs : List (Str × V)} {d : D}, RepF c ds vs → ds.lookup f = some d → ∃ v, vs.lookup f = some v ∧ Rep c d v
  | _, _, _, .nil, e => by simp at e
  | _, _, d, .cons (f := g) h t, e => by
    rw [List.lookup_cons] at e ⊢
    cases q : f == g with
    | true => rw [q] at e; cases e; exact ⟨_, rfl, h⟩
    | false => rw [q] at e; exact t.look e
theorem RepF.lookN {c : RC} {f : Str} : ∀ {ds : List (Str × D)} {vs : List (Str × V)}, RepF c ds vs → ds.lookup f = none → vs.lookup f = none
  | _, _, .nil, e => by simp
  | _, _, .cons (f := g) h t, e => by
    rw [List.lookup_cons] at e ⊢
    cases q : f == g with
    | true => rw [q] at e; cases e
    | false => rw [q] at e; exact t.lookN e
theorem RepF.length {c : RC} : ∀ {ds : List (Str × D)} {vs : List (Str × V)}, RepF c ds vs → ds.length = vs.length
  | _, _, .nil => rfl
  | _, _, .cons _ t => by rw [List.length_cons, List.length_cons, t.length]
/-- a field is stored -/
def putD (f : Str) (d : D) : List (Str × D) → List (Str × D)
  | [] => [(f, d)]
  | (g, e) :: r => if g = f then (g, d) :: r else (g, e) :: putD f d r
inductive Cell where
  | lst (ds : List D)
  | dic (t : Bool) (kvs : List (List Key × D))
  | obj (C : Str) (fs : List (Str × D))
abbrev EH := List Cell
def CellR (c : RC) : Cell → Addr → Prop
  | .lst ds, a => ∃ xs, c.H a = some (.lst xs) ∧ Reps c ds xs
  | .dic t kvs, a => ∃ o zs, c.H a = some o ∧ isDic t o zs ∧ RepP c kvs zs
  | .obj C fs, a => ∃ Ca dx vs, c.mg C = some (.ref Ca) ∧ c.H a = some (.ins Ca dx vs) ∧ RepF c fs vs
structure SR (c : RC) (h : EH) : Prop where
  len : c.ρ.length = h.length
  nd : c.ρ.Nodup
  cells : ∀ (n : Nat) (a : Addr) (k : Cell), c.ρ[n]? = some a → h[n]? = some k → CellR c k a
  nb : ∀ a ∈ c.ρ, ¬ c.B a
  bt : ∀ a, c.B a → ∃ o, c.H a = some o
theorem CellR.le {c c' : RC} (l : c.Le c') {k : Cell} {a : Addr} (h : c'.H a = c.H a) (r : CellR c k a) : CellR c' k a := by
  cases k with
  | lst ds => obtain ⟨xs, e, q⟩ := r; exact ⟨xs, h.trans e, q.le l⟩
  | dic t kvs => obtain ⟨o, zs, e, i, q⟩ := r; exact ⟨o, zs, h.trans e, i, q.le l⟩
  | obj C fs => obtain ⟨Ca, dx, vs, m, e, q⟩ := r; exact ⟨Ca, dx, vs, by rw [l.mg.e']; exact m, h.trans e, q.le l⟩
theorem CellR.ex {c : RC} {k : Cell} {a : Addr} (r : CellR c k a) : ∃ o, c.H a = some o := by
  cases k with
  | lst ds => obtain ⟨xs, e, q⟩ := r; exact ⟨_, e⟩
  | dic t kvs => obtain ⟨o, zs, e, i, q⟩ := r; exact ⟨_, e⟩
  | obj C fs => obtain ⟨Ca, dx, vs, m, e, q⟩ := r; exact ⟨_, e⟩
theorem SR.ex {c : RC} {h : EH} (s : SR c h) {a : Addr} (ha : a ∈ c.ρ) : ∃ o, c.H a = some o := by
  obtain ⟨n, hn, e⟩ := List.mem_iff_getElem.mp ha
  have h1 : c.ρ[n]? = some a := by rw [List.getElem?_eq_getElem hn, e]
  have hn' : n < h.length := by rw [← s.len]; exact hn
  exact (s.cells n a _ h1 (List.getElem?_eq_getElem hn')).ex
theorem codeO_ext {H H' : Hp} {P : Addr} {q : Str} (t : LamX.TabS H P q) (h1 : H' P = H P) (h2 : ∀ a, H a = some (LamX.CodeO a q) → H' a = some (LamX.CodeO a q)) : LamX.TabS H' P q := by
  obtain ⟨ps, k1, k2, k3⟩ := t
  refine ⟨ps, h1.trans k1, k2, fun pos cv hc => ?_⟩
  obtain ⟨c, e1, e2⟩ := k3 pos cv hc
  exact ⟨c, e1, h2 c e2⟩
/-- at a stands no table, no code object -/
def NoTab (H : Hp) (a : Addr) : Prop := (∀ ps, H a ≠ some (.tbl ps)) ∧ ∀ q, H a ≠ some (LamX.CodeO a q)
theorem tabs_upd {c : RC} {p : Addr} {o : HO} {ρ : List Addr} {B : Addr → Prop} (h : NoTab c.H p) : c.tabs → ({ c with ρ := ρ, B := B, H := upd c.H p o } : RC).tabs := fun t q hq =>
  codeO_ext (t q hq) (by
    obtain ⟨ps, k1, _⟩ := t q hq
    exact upd_ne (fun z => h.1 ps (by rw [← z]; exact k1))) fun a e => (upd_ne (fun z => h.2 q.2 (by rw [← z]; exact e))).trans e
theorem noTab_none {H : Hp} {a : Addr} (h : H a = none) : NoTab H a := ⟨fun _ z => (by rw [h] at z; cases z), fun _ z => (by rw [h] at z; cases z)⟩
theorem noTab_of {H : Hp} {a : Addr} {o : HO} (h : H a = some o) (h1 : ∀ ps, o ≠ .tbl ps) (h2 : ∀ φ, o ≠ .ext φ) : NoTab H a := ⟨fun ps z => (by rw [h] at z; exact h1 ps (Option.some.inj z)), fun q z => (by rw [h] at z; exact h2 _ (Option.some.inj z))⟩
theorem CellR.noTab {c : RC} {k : Cell} {a : Addr} (r : CellR c k a) : NoTab c.H a := by
  cases k with
  | lst ds => obtain ⟨xs, e, q⟩ := r; exact noTab_of e (fun _ z => by cases z) (fun _ z => by cases z)
  | dic t kvs =>
    obtain ⟨o, zs, e, i, q⟩ := r
    refine noTab_of e i.tbl fun φ z => ?_
    subst z
    rcases i with ⟨_, _, z, _⟩ | ⟨_, z⟩ <;> cases z
  | obj C fs => obtain ⟨Ca, dx, vs, m, e, q⟩ := r; exact noTab_of e (fun _ z => by cases z) (fun _ z => by cases z)
theorem SR.noTab {c : RC} {h : EH} (s : SR c h) {n : Nat} {a : Addr} (hn : c.ρ[n]? = some a) : NoTab c.H a := by
  have hn' : n < h.length := by rw [← s.len]; exact (List.getElem?_eq_some_iff.mp hn).1
  exact (s.cells n a _ hn (List.getElem?_eq_getElem hn')).noTab
/-- a new object -/
theorem SR.new {c : RC} {h : EH} {p : Addr} {o : HO} (s : SR c h) (hp : c.H p = none) : c.Le (c.put p o) ∧ SR (c.put p o) h ∧ (c.put p o).fr p := by
  have np : p ∉ c.ρ := fun z => by
    obtain ⟨o, e⟩ := s.ex z
    rw [hp] at e; cases e
  have ne : ∀ a o, c.H a = some o → a ≠ p := fun a o e z => by rw [z, hp] at e; cases e
  have l : c.Le (c.put p o) := by
    refine ⟨rfl, ⟨rfl, tabs_upd (noTab_none hp)⟩, fun _ h => h, fun _ h => .inl h, fun a u e => ⟨u, (upd_ne (ne a u e)).trans e⟩, fun _ _ h => h, fun a u e _ n => ⟨(upd_ne (ne a u e)).trans e, n⟩, fun a xs e => ?_, fun a o u e => (upd_ne (ne a _ e)).trans e⟩
    rcases e with e | ⟨u, e⟩
    · exact .inl ((upd_ne (ne a _ e)).trans e)
    · exact .inr ⟨u, (upd_ne (ne a _ e)).trans e⟩
  refine ⟨l, ⟨s.len, s.nd, fun n a k e1 e2 => ?_, s.nb, fun a b => ?_⟩, fun b => ?_, np⟩
  · have r := s.cells n a k e1 e2
    obtain ⟨u, e⟩ := r.ex
    exact r.le l (upd_ne (ne a u e))
  · obtain ⟨u, e⟩ := s.bt a b
    exact ⟨u, (upd_ne (ne a u e)).trans e⟩
  · obtain ⟨u, e⟩ := s.bt p b
    rw [hp] at e; cases e
/-- the cell n is written -/
theorem SR.write {c : RC} {h : EH} {n : Nat} {a : Addr} {o : HO} {k : Cell} (s : SR c h) (hn : c.ρ[n]? = some a) (hnt : ∀ xs, ¬ Rd c.H a (.tup xs)) (hnf : ∀ o u, c.H a ≠ some (.frz o u)) (hk : ∀ c', c.Le c' → c'.H a = some o → CellR c' k a) :
    c.Le (c.put a o) ∧ SR (c.put a o) (h.set n k) := by
  have ha : a ∈ c.ρ := List.mem_of_getElem? hn
  have l : c.Le (c.put a o) := by
    refine ⟨rfl, ⟨rfl, tabs_upd (s.noTab hn)⟩, fun _ h => h, fun _ h => .inl h, fun b u e => ?_, fun _ _ h => h, fun b u e _ nb => ⟨?_, nb⟩, fun b xs e => ?_, fun b o u e => (upd_ne (show b ≠ a from fun z => hnf o u (by rw [← z]; exact e))).trans e⟩
    · by_cases z : b = a
      · exact ⟨o, by rw [z]; exact upd_same⟩
      · exact ⟨u, (upd_ne z).trans e⟩
    · exact (upd_ne (show b ≠ a from fun z => nb (by rw [z]; exact ha))).trans e
    · have nb : b ≠ a := fun z => hnt xs (z ▸ e)
      rcases e with e | ⟨u, e⟩
      · exact .inl ((upd_ne nb).trans e)
      · exact .inr ⟨u, (upd_ne nb).trans e⟩
  refine ⟨l, ⟨by rw [List.length_set]; exact s.len, s.nd, fun m b k' e1 e2 => ?_, s.nb, fun b hb => ?_⟩⟩
  · by_cases hm : m = n
    · subst hm
      have : b = a := by
        have e1' : c.ρ[m]? = some b := e1
        rw [hn] at e1'
        exact (Option.some.inj e1').symm
      subst this
      have hlt : m < h.length := by
        rw [← s.len]; exact (List.getElem?_eq_some_iff.mp hn).1
      rw [List.getElem?_set_self hlt] at e2
      cases e2
      exact hk _ l upd_same
    · rw [List.getElem?_set_ne (Ne.symm hm)] at e2
      have nb : b ≠ a := fun z => hm (by
        subst z
        obtain ⟨h1, e1'⟩ := List.getElem?_eq_some_iff.mp e1
        obtain ⟨h2, e2'⟩ := List.getElem?_eq_some_iff.mp hn
        exact (List.getElem_inj s.nd).mp (e1'.trans e2'.symm))
      exact (s.cells m b k' e1 e2).le l (upd_ne nb)
  · obtain ⟨u, e⟩ := s.bt b hb
    exact ⟨u, (upd_ne (show b ≠ a from fun z => s.nb a ha (by rw [← z]; exact hb))).trans e⟩
abbrev Ev := List (Option D)
structure EnvR (c : RC) (ε : Ev) (σ : L2.St) : Prop where
  len : ε.length = σ.length
  at_ : ∀ (i : Nat) (d : D), ε[i]? = some (some d) → ∃ v, σ[i]? = some (some v) ∧ Rep c d v
theorem EnvR.le {c c' : RC} (l : c.Le c') {ε : Ev} {σ : L2.St} (r : EnvR c ε σ) : EnvR c' ε σ :=
  ⟨r.len, fun i d e => let ⟨v, h1, h2⟩ := r.at_ i d e; ⟨v, h1, h2.le l⟩⟩
theorem EnvR.set {c : RC} {ε : Ev} {σ : L2.St} (r : EnvR c ε σ) {d : D} {v : V} (rv : Rep c d v) (i : Nat) : EnvR c (ε.set i (some d)) (σ.set i (some v)) := by
  refine ⟨by rw [List.length_set, List.length_set]; exact r.len, fun j e h => ?_⟩
  by_cases hj : i = j
  · subst hj
    have hi : i < ε.length := by
      have := (List.getElem?_eq_some_iff.mp h).1
      rwa [List.length_set] at this
    rw [List.getElem?_set_self hi] at h
    cases h
    exact ⟨v, by rw [List.getElem?_set_self (by rw [← r.len]; exact hi)], rv⟩
  · rw [List.getElem?_set_ne hj] at h
    obtain ⟨w, h1, h2⟩ := r.at_ j e h
    exact ⟨w, by rw [List.getElem?_set_ne hj]; exact h1, h2⟩
end PD
namespace PD
open PySem PySem.Spec PyProof.Rows L2
variable [LamTab]
structure Ex where
  cls : Str
  fs : List (Str × D)
inductive R (α : Type) where
  | ok (a : α)
  | ex (e : Ex)
abbrev O (α : Type) := Option (R α × EH)
def ExR (c : RC) (e : Ex) (cls : Value) (dx : Option Addr) : Prop := ∃ Ca d vs, cls = .ref Ca ∧ c.mg e.cls = some (.ref Ca) ∧ dx = some d ∧ c.H d = some (.xd vs) ∧ c.fr d ∧ RepF c e.fs vs
def bR {α β : Type} (x : O α) (f : α → EH → O β) : O β := match x with
  | some (.ok a, h) => f a h
  | some (.ex e, h) => some (.ex e, h)
  | none => none
theorem bR_ok {α β : Type} (a : α) (h : EH) (f : α → EH → O β) : bR (some (.ok a, h)) f = f a h := (rfl)
theorem bR_ex {α β : Type} (e : Ex) (h : EH) (f : α → EH → O β) : bR (some (.ex e, h)) f = some (.ex e, h) := (rfl)
/-- a value, the cells as they are -/
def rt {α : Type} (x : Option α) (h : EH) : O α := match x with
  | some a => some (.ok a, h)
  | none => none
theorem rt_some {α : Type} (a : α) (h : EH) : rt (some a) h = some (.ok a, h) := (rfl)
abbrev M (α : Type) := Ev → EH → O α
/-- what is wanted of an exception -/
def Px {α : Type} (W : WX) (c : RC) (σ : L2.St) (r : R α) (h' : EH) : Prop := ∀ x, r = .ex x → ∀ c' cls dx, c.Le c' → SR c' h' → ExR c' x cls dx → W cls dx σ c'.H
theorem Px.le {α : Type} {W : WX} {c c1 : RC} {σ : L2.St} {r : R α} {h' : EH} (p : Px W c σ r h') (l : c.Le c1) : Px W c1 σ r h' := fun x e c' cls dx l' s q => p x e c' cls dx (l.trans l') s q
theorem Px.ok {α : Type} {W : WX} {c : RC} {σ : L2.St} {a : α} {h' : EH} : Px W c σ (.ok a) h' := fun _ e => nomatch e
/-- the reading of a mirror -/
def tX {α β : Type} (Rl : RC → α → β → Prop) (K : PySem.W.Frag) (mg : Str → Option Value) (W : WX) (m : M α) : L2.St → Hp → (β → Hp → Prop) → Prop := fun σ H Q =>
  ∃ (c : RC) (ε : Ev) (h : EH) (r : R α) (h' : EH), c.K = K ∧ MgE c mg ∧ c.H = H ∧ SR c h ∧ EnvR c ε σ ∧ m ε h = some (r, h') ∧ Px W c σ r h' ∧
    ∀ a, r = .ok a → ∀ c' b, c.Le c' → SR c' h' → Rl c' a b → Q b c'.H
theorem tX.bind {α β γ : Type} {Rl : RC → α → β → Prop} {K : PySem.W.Frag} {mg : Str → Option Value} {W : WX} {m : M α} {k : α → EH → O γ} {c : RC} {ε : Ev} {h h' : EH} {r : R γ} {σ : L2.St} {Q : β → Hp → Prop}
    (hK : c.K = K) (hm : MgE c mg) (sr : SR c h) (er : EnvR c ε σ) (e : bR (m ε h) k = some (r, h')) (px : Px W c σ r h')
    (go : ∀ a h1 c1 b, k a h1 = some (r, h') → c.Le c1 → SR c1 h1 → Rl c1 a b → Q b c1.H) : tX Rl K mg W m σ c.H Q := by
  cases q : m ε h with
  | none => rw [q] at e; cases e
  | some z =>
    obtain ⟨r1, h1⟩ := z
    cases r1 with
    | ok a =>
      rw [q] at e
      exact ⟨c, ε, h, .ok a, h1, hK, hm, rfl, sr, er, q, Px.ok, fun a' ea c1 b l s rb => by cases ea; exact go a h1 c1 b e l s rb⟩
    | ex x =>
      rw [q] at e
      cases e
      exact ⟨c, ε, h, .ex x, _, hK, hm, rfl, sr, er, q, fun y ey => px y (by cases ey; rfl), fun a' ea => nomatch ea⟩
/-- the last step -/
theorem tX.last {α β : Type} {Rl : RC → α → β → Prop} {K : PySem.W.Frag} {mg : Str → Option Value} {W : WX} {m : M α} {c : RC} {ε : Ev} {h h' : EH} {r : R α} {σ : L2.St} {Q : β → Hp → Prop}
    (hK : c.K = K) (hm : MgE c mg) (sr : SR c h) (er : EnvR c ε σ) (e : m ε h = some (r, h')) (px : Px W c σ r h')
    (go : ∀ a, r = .ok a → ∀ c' b, c.Le c' → SR c' h' → Rl c' a b → Q b c'.H) : tX Rl K mg W m σ c.H Q := ⟨c, ε, h, r, h', hK, hm, rfl, sr, er, e, px, go⟩
abbrev tE := tX Rep
abbrev tT := tX (fun (_ : RC) (a b : Bool) => a = b)
abbrev tA := tX Reps
abbrev RE (X : Cx) (W : WX) (e : Expr) (m : M D) : Prop := PE X e (tE X.K X.mg W m)
abbrev RT (X : Cx) (W : WX) (e : Expr) (m : M Bool) : Prop := PT X e (tT X.K X.mg W m)
abbrev RW (X : Cx) (W : WX) (e : Expr) (m : M Bool) : Prop := PW X e (tT X.K X.mg W m)
abbrev RA (X : Cx) (W : WX) (es : List Expr) (m : M (List D)) : Prop := PA X es (tA X.K X.mg W m)
theorem pe_imp {X : Cx} {e : Expr} {t t' : TE} (h : PE X e t) (k : ∀ σ H Q, t' σ H Q → t σ H Q) : PE X e t' := ⟨fun pins s σ H Q I q => h.run pins s σ H Q I (k σ H Q q)⟩
theorem pt_imp {X : Cx} {e : Expr} {t t' : TT} (h : PT X e t) (k : ∀ σ H Q, t' σ H Q → t σ H Q) : PT X e t' := ⟨fun pins s σ H Q I q => h.run pins s σ H Q I (k σ H Q q)⟩
theorem pw_imp {X : Cx} {e : Expr} {t t' : TT} (h : PW X e t) (k : ∀ σ H Q, t' σ H Q → t σ H Q) : PW X e t' := ⟨fun wh pins s σ H Q I q => h.run wh pins s σ H Q I (k σ H Q q)⟩
theorem pa_imp {X : Cx} {es : List Expr} {t t' : TA} (h : PA X es t) (k : ∀ σ H Q, t' σ H Q → t σ H Q) : PA X es t' := ⟨fun pos pins s σ H Q I q => h.run pos pins s σ H Q I (k σ H Q q)⟩
def mVar (i : Nat) : M D := fun ε h => rt (ε.getD i none) h
def mC (d : D) : M D := fun _ h => some (.ok d, h)
section
variable {X : Cx} {W : WX}
theorem re_var (i : Nat) {x : Str} {pos : Pos} (hN : X.N[i]? = some x := by rfl) (hv : Vis X.env.scope x := by first | exact Or.inl rfl | exact Or.inr (Or.inl rfl) | exact Or.inr (Or.inr rfl)) (hd : (x == ("__debug__" : Str)) = false := by decide)
    (hcd : (x == ("__classdict__" : Str)) = false := by decide) : RE X W (.Name x pos) (mVar i) := by
  refine pe_imp (pe_var hN hv hd hcd) fun σ H Q h => ?_
  obtain ⟨c, ε, h, r, h', hK, hm, rfl, sr, er, e, px, go⟩ := h
  cases q : ε.getD i none with
  | none => rw [mVar, q] at e; cases e
  | some d =>
    rw [mVar, q] at e
    cases e
    have q2 : ε[i]? = some (some d) := by
      rw [List.getD_eq_getElem?_getD] at q
      cases z : ε[i]? with
      | none => rw [z] at q; cases q
      | some y => rw [z] at q; exact congrArg some q
    obtain ⟨v, h1, h2⟩ := er.at_ i d q2
    exact ⟨v, h1, go d rfl c v (.refl c) sr h2⟩
theorem re_c {e : Expr} {d : D} {v : V} (h : PE X e (tC v)) (r : ∀ c : RC, c.K = X.K → MgE c X.mg → Rep c d v) : RE X W e (mC d) := by
  refine pe_imp h fun σ H Q h => ?_
  obtain ⟨c, ε, h, r', h', hK, hm, rfl, sr, er, e, px, go⟩ := h
  cases e
  exact go d rfl c v (.refl c) sr (r c hK hm)
theorem re_int {i j pos} : RE X W (.Constant (.int i) j pos) (mC (.int i)) := re_c pe_int fun _ _ _ => .int i
theorem re_bl {b j pos} : RE X W (.Constant (.bool b) j pos) (mC (.bl b)) := re_c pe_bl fun _ _ _ => .bl b
theorem re_non {j pos} : RE X W (.Constant .none j pos) (mC .non) := re_c pe_non fun _ _ _ => .non
theorem re_str (cs : List Nat) {x j pos} (e : x.cps.toList = cs := by decide +kernel) : RE X W (.Constant (.str x) j pos) (mC (.str cs)) := re_c pe_str fun _ _ _ => by
  subst e
  exact .str x.cps.toList
/-- a constant of the module -/
def GlobC (K : PySem.W.Frag) (mg : Str → Option Value) (x : Str) (d : D) : Prop := ∃ u v, mg x = some u ∧ RelV v u ∧ ∀ c : RC, c.K = K → MgE c mg → Rep c d v
theorem re_glob {x : Str} {d : D} {pos : Pos} (g : GlobC X.K X.mg x d) (hg : Gl X x := by rfl) (hd : (x == ("__debug__" : Str)) = false := by decide) : RE X W (.Name x pos) (mC d) := by
  obtain ⟨u, v, hm, r, rp⟩ := g
  exact re_c (pe_glob hg hm r hd) rp
def OpS (K : PySem.W.Frag) (mg : Str → Option Value) (r : R2) (f : EH → D → D → Option D) : Prop := ∀ (c : RC) (h : EH) (x y : V) (dx dy d : D) (Q : VK), c.K = K → MgE c mg → SR c h → Rep c dx x → Rep c dy y → f h dx dy = some d →
  (∀ c' v, c.Le c' → SR c' h → Rep c' d v → Q v c'.H) → r x y c.H Q
def mBin (f : EH → D → D → Option D) (a b : M D) : M D := fun ε h => bR (a ε h) fun x h1 => bR (b ε h1) fun y h2 => rt (f h2 x y) h2
theorem top_of {K : PySem.W.Frag} {mg : Str → Option Value} {r : R2} {f : EH → D → D → Option D} {a b : M D} (hs : OpS K mg r f) {σ : L2.St} {H : Hp} {Q : VK} (h : tE K mg W (mBin f a b) σ H Q) : tOp r (tE K mg W a) (tE K mg W b) σ H Q := by
  obtain ⟨c, ε, h, r', h', hK, hm, rfl, sr, er, e, px, go⟩ := h
  unfold tOp
  refine tX.bind hK hm sr er e px fun dx h1 c1 x e1 l1 s1 r1 => ?_
  refine tX.bind (l1.K.trans hK) (l1.mg.trans hm) s1 (er.le l1) e1 (px.le l1) fun dy h2 c2 y e2 l2 s2 r2 => ?_
  cases q : f h2 dx dy with
  | none => rw [q] at e2; cases e2
  | some d =>
    rw [q] at e2
    cases e2
    exact hs c2 _ x y dx dy d Q ((l2.K.trans l1.K).trans hK) ((l2.mg.trans l1.mg).trans hm) s2 (r1.le l2) r2 q fun c' v l3 s3 r3 => go d rfl c' v ((l1.trans l2).trans l3) s3 r3
theorem re_bin {op : Operator} {r : R2} {f : EH → D → D → Option D} {a b : Expr} {ma mb : M D} {pos : Pos} (ho : OpR X (binaryOp op) r) (hs : OpS X.K X.mg r f) (ha : RE X W a ma) (hb : RE X W b mb) : RE X W (.BinOp a op b pos) (mBin f ma mb) :=
  pe_imp (pe_op ho ha hb) fun _ _ _ h => top_of hs h
theorem re_cmp {op : CmpOp} {r : R2} {f : EH → D → D → Option D} {a b : Expr} {ma mb : M D} {pos : Pos} (ho : OpR X (compareOp op) r) (hs : OpS X.K X.mg r f) (ha : RE X W a ma) (hb : RE X W b mb) (hmk : behindInMarks op b = false) : RE X W (.Compare a [op] [b] pos) (mBin f ma mb) :=
  pe_imp (pe_cmpR ho ha hb hmk) fun _ _ _ h => top_of hs h
/-- a bool as a test -/
def asB (d : D) : Option Bool := match d with
  | .bl b => some b
  | _ => none
def mTst (m : M D) : M Bool := fun ε h => bR (m ε h) fun x h1 => rt (asB x) h1
theorem tB_of {K : PySem.W.Frag} {mg : Str → Option Value} {m : M D} {σ : L2.St} {H : Hp} {Q : Bool → Hp → Prop} (h : tT K mg W (mTst m) σ H Q) : tE K mg W m σ H fun x H1 => ∃ c, x = .bl c ∧ Q c H1 := by
  obtain ⟨c, ε, h, r', h', hK, hm, rfl, sr, er, e, px, go⟩ := h
  refine tX.bind hK hm sr er e px fun dx h1 c1 x e1 l1 s1 r1 => ?_
  cases r1 with
  | bl b => cases e1; exact ⟨b, rfl, go b rfl c1 b l1 s1 rfl⟩
  | _ => cases e1
theorem tx_imp {α β : Type} {Rl : RC → α → β → Prop} {K : PySem.W.Frag} {mg : Str → Option Value} {m : M α} {σ : L2.St} {H : Hp} {Q Q' : β → Hp → Prop} (h : tX Rl K mg W m σ H Q) (k : ∀ b H, Q b H → Q' b H) : tX Rl K mg W m σ H Q' := by
  obtain ⟨c, ε, h, r', h', hK, hm, rfl, sr, er, e, px, go⟩ := h
  exact ⟨c, ε, h, r', h', hK, hm, rfl, sr, er, e, px, fun a ea c' b l s r => k _ _ (go a ea c' b l s r)⟩
theorem rt_cmp {op : CmpOp} {r : R2} {f : EH → D → D → Option D} {a b : Expr} {ma mb : M D} {pos : Pos} (ho : OpR X (compareOp op) r) (hs : OpS X.K X.mg r f) (ha : RE X W a ma) (hb : RE X W b mb) (hmk : behindInMarks op b = false) : RT X W (.Compare a [op] [b] pos) (mTst (mBin f ma mb)) :=
  pt_imp (pt_cmpR ho ha hb hmk) fun σ H Q h => top_of hs (tB_of h)
theorem rt_val {e : Expr} {m : M D} (h : RE X W e m) (he : ∀ whole, isTrue e X.env whole = (do let v ← whole; standAt e.pos; holding [v] (truthy v)) := by intro _; rfl) : RT X W e (mTst m) :=
  pt_imp (pt_val h he) fun σ H Q h => tB_of h
def mNot (a : M Bool) : M Bool := fun ε h => bR (a ε h) fun b h1 => some (.ok (!b), h1)
def mAnd (a b : M Bool) : M Bool := fun ε h => bR (a ε h) fun x h1 => if x = true then b ε h1 else some (.ok false, h1)
def mOr (a b : M Bool) : M Bool := fun ε h => bR (a ε h) fun x h1 => if x = true then some (.ok true, h1) else b ε h1
def mIf {α : Type} (t : M Bool) (a b : M α) : M α := fun ε h => bR (t ε h) fun x h1 => if x = true then a ε h1 else b ε h1
theorem rt_not {a : Expr} {ma : M Bool} {pos : Pos} (ha : RT X W a ma) : RT X W (.UnaryOp .Not a pos) (mNot ma) := by
  refine pt_imp (pt_not ha) fun σ H Q h => ?_
  obtain ⟨c, ε, h, r', h', hK, hm, rfl, sr, er, e, px, go⟩ := h
  unfold tNot
  refine tX.bind hK hm sr er e px fun x h1 c1 b e1 l1 s1 r1 => ?_
  cases e1
  subst r1
  exact go _ rfl c1 _ l1 s1 rfl
theorem rw_and1 {a : Expr} {ma : M Bool} {pos : Pos} (ha : RT X W a ma) : RW X W (.BoolOp .And [a] pos) ma := pw_and1 ha
theorem rw_or1 {a : Expr} {ma : M Bool} {pos : Pos} (ha : RT X W a ma) : RW X W (.BoolOp .Or [a] pos) ma := pw_or1 ha
theorem rw_and {a b : Expr} {rest : List Expr} {ma mb : M Bool} {pos : Pos} (ha : RT X W a ma) (hb : RW X W (.BoolOp .And (b :: rest) pos) mb) : RW X W (.BoolOp .And (a :: b :: rest) pos) (mAnd ma mb) := by
  refine pw_imp (pw_and ha hb) fun σ H Q h => ?_
  obtain ⟨c, ε, h, r', h', hK, hm, rfl, sr, er, e, px, go⟩ := h
  unfold tAnd
  refine tX.bind hK hm sr er e px fun x h1 c1 b e1 l1 s1 r1 => ?_
  subst r1
  cases x with
  | true => exact tX.last (l1.K.trans hK) (l1.mg.trans hm) s1 (er.le l1) e1 (px.le l1) fun a ea c' b l s r => go a ea c' b (l1.trans l) s r
  | false => cases e1; exact go _ rfl c1 _ l1 s1 rfl
theorem rw_or {a b : Expr} {rest : List Expr} {ma mb : M Bool} {pos : Pos} (ha : RT X W a ma) (hb : RW X W (.BoolOp .Or (b :: rest) pos) mb) : RW X W (.BoolOp .Or (a :: b :: rest) pos) (mOr ma mb) := by
  refine pw_imp (pw_or ha hb) fun σ H Q h => ?_
  obtain ⟨c, ε, h, r', h', hK, hm, rfl, sr, er, e, px, go⟩ := h
  unfold tOr
  refine tX.bind hK hm sr er e px fun x h1 c1 b e1 l1 s1 r1 => ?_
  subst r1
  cases x with
  | false => exact tX.last (l1.K.trans hK) (l1.mg.trans hm) s1 (er.le l1) e1 (px.le l1) fun a ea c' b l s r => go a ea c' b (l1.trans l) s r
  | true => cases e1; exact go _ rfl c1 _ l1 s1 rfl
theorem rt_bool {e : Expr} {m : M Bool} (h : RW X W e m) : RT X W e m := PW.pt h
/-- .. as values -/
def mAndV (a b : M D) : M D := fun ε h => bR (a ε h) fun x h1 => match x with
  | .bl true => b ε h1
  | .bl false => some (.ok (.bl false), h1)
  | _ => none
def mOrV (a b : M D) : M D := fun ε h => bR (a ε h) fun x h1 => match x with
  | .bl true => some (.ok (.bl true), h1)
  | .bl false => b ε h1
  | _ => none
def mNotV (a : M D) : M D := fun ε h => bR (a ε h) fun x h1 => match x with
  | .bl b => some (.ok (.bl (!b)), h1)
  | _ => none
theorem re_one {op} {a : Expr} {ma : M D} {pos : Pos} (ha : RE X W a ma) : RE X W (.BoolOp op [a] pos) ma := pe_one ha
theorem re_and {a b : Expr} {rest : List Expr} {ma mb : M D} {pos : Pos} (ha : RE X W a ma) (hb : RE X W (.BoolOp .And (b :: rest) pos) mb) : RE X W (.BoolOp .And (a :: b :: rest) pos) (mAndV ma mb) := by
  refine pe_imp (pe_and ha hb) fun σ H Q h => ?_
  obtain ⟨c, ε, h, r', h', hK, hm, rfl, sr, er, e, px, go⟩ := h
  unfold tAndV
  refine tX.bind hK hm sr er e px fun x h1 c1 b e1 l1 s1 r1 => ?_
  cases r1 with
  | bl k =>
    cases k with
    | true => exact ⟨true, rfl, tX.last (l1.K.trans hK) (l1.mg.trans hm) s1 (er.le l1) e1 (px.le l1) fun a ea c' b l s r => go a ea c' b (l1.trans l) s r⟩
    | false => cases e1; exact ⟨false, rfl, go _ rfl c1 _ l1 s1 (.bl false)⟩
  | _ => cases e1
theorem re_or {a b : Expr} {rest : List Expr} {ma mb : M D} {pos : Pos} (ha : RE X W a ma) (hb : RE X W (.BoolOp .Or (b :: rest) pos) mb) : RE X W (.BoolOp .Or (a :: b :: rest) pos) (mOrV ma mb) := by
  refine pe_imp (pe_or ha hb) fun σ H Q h => ?_
  obtain ⟨c, ε, h, r', h', hK, hm, rfl, sr, er, e, px, go⟩ := h
  unfold tOrV
  refine tX.bind hK hm sr er e px fun x h1 c1 b e1 l1 s1 r1 => ?_
  cases r1 with
  | bl k =>
    cases k with
    | false => exact ⟨false, rfl, tX.last (l1.K.trans hK) (l1.mg.trans hm) s1 (er.le l1) e1 (px.le l1) fun a ea c' b l s r => go a ea c' b (l1.trans l) s r⟩
    | true => cases e1; exact ⟨true, rfl, go _ rfl c1 _ l1 s1 (.bl true)⟩
  | _ => cases e1
theorem re_not {a : Expr} {ma : M D} {pos : Pos} (ha : RE X W a ma) : RE X W (.UnaryOp .Not a pos) (mNotV ma) := by
  refine pe_imp (pe_not ha) fun σ H Q h => ?_
  obtain ⟨c, ε, h, r', h', hK, hm, rfl, sr, er, e, px, go⟩ := h
  unfold tNotV
  refine tX.bind hK hm sr er e px fun x h1 c1 b e1 l1 s1 r1 => ?_
  cases r1 with
  | bl k => cases e1; exact ⟨k, rfl, go _ rfl c1 _ l1 s1 (.bl _)⟩
  | _ => cases e1
theorem re_if {t a b : Expr} {mt : M Bool} {ma mb : M D} {pos : Pos} (ht : RT X W t mt) (ha : RE X W a ma) (hb : RE X W b mb) : RE X W (.IfExp t a b pos) (mIf mt ma mb) := by
  refine pe_imp (pe_ifExp ht ha hb) fun σ H Q h => ?_
  obtain ⟨c, ε, h, r', h', hK, hm, rfl, sr, er, e, px, go⟩ := h
  unfold tIf
  refine tX.bind hK hm sr er e px fun x h1 c1 b e1 l1 s1 r1 => ?_
  subst r1
  cases x with
  | true => exact tX.last (l1.K.trans hK) (l1.mg.trans hm) s1 (er.le l1) e1 (px.le l1) fun a ea c' b l s r => go a ea c' b (l1.trans l) s r
  | false => exact tX.last (l1.K.trans hK) (l1.mg.trans hm) s1 (er.le l1) e1 (px.le l1) fun a ea c' b l s r => go a ea c' b (l1.trans l) s r
def mNil : M (List D) := fun _ h => some (.ok [], h)
def mCons (a : M D) (b : M (List D)) : M (List D) := fun ε h => bR (a ε h) fun x h1 => bR (b ε h1) fun xs h2 => some (.ok (x :: xs), h2)
theorem ra_nil : RA X W [] mNil := by
  refine pa_imp pa_nil fun σ H Q h => ?_
  obtain ⟨c, ε, h, r', h', hK, hm, rfl, sr, er, e, px, go⟩ := h
  cases e
  exact go _ rfl c _ (.refl c) sr .nil
theorem ra_cons {e : Expr} {es : List Expr} {me : M D} {m : M (List D)} (ha : RE X W e me) (hr : RA X W es m) (hs : starEach (e :: es) X.env = (false, eval e X.env) :: starEach es X.env := by rfl) : RA X W (e :: es) (mCons me m) := by
  refine pa_imp (pa_cons ha hr hs) fun σ H Q h => ?_
  obtain ⟨c, ε, h, r', h', hK, hm, rfl, sr, er, e, px, go⟩ := h
  unfold tCons
  refine tX.bind hK hm sr er e px fun x h1 c1 b e1 l1 s1 r1 => ?_
  refine tX.bind (l1.K.trans hK) (l1.mg.trans hm) s1 (er.le l1) e1 (px.le l1) fun xs h2 c2 ys e2 l2 s2 r2 => ?_
  cases e2
  exact go _ rfl c2 _ (l1.trans l2) s2 (.cons (r1.le l2) r2)
def szL {α : Type} (ds : List α) (d : D) : Option D := if ds.length ≤ sizeLine then some d else none
def mTup (m : M (List D)) : M D := fun ε h => bR (m ε h) fun ds h1 => rt (szL ds (.tup ds)) h1
def mLst (m : M (List D)) : M D := fun ε h => bR (m ε h) fun ds h1 => rt (szL ds (.lst ds)) h1
theorem szL_some {α : Type} {ds : List α} {d e : D} (h : szL ds d = some e) : ds.length ≤ sizeLine ∧ e = d := by
  unfold szL at h
  split at h
  · exact ⟨by assumption, (Option.some.inj h).symm⟩
  · cases h
theorem re_tup {es : List Expr} {m : M (List D)} {x1 pos} (h : RA X W es m) : RE X W (.Tuple es x1 pos) (mTup m) := by
  refine pe_imp (pe_tup h) fun σ H Q h => ?_
  obtain ⟨c, ε, h, r', h', hK, hm, rfl, sr, er, e, px, go⟩ := h
  unfold tTup
  refine tX.bind hK hm sr er e px fun ds h1 c1 xs e1 l1 s1 r1 => ?_
  cases q : szL ds (.tup ds) with
  | none => rw [q] at e1; cases e1
  | some d =>
    rw [q] at e1
    cases e1
    obtain ⟨hz, rfl⟩ := szL_some q
    refine ⟨by rw [← r1.length]; exact hz, fun p hp => ?_⟩
    obtain ⟨l2, s2, f2⟩ := s1.new (o := .tup xs) hp
    exact go _ rfl _ _ (l1.trans l2) s2 (.tup (.inl (.inl upd_same)) (r1.le l2))
theorem re_lst {es : List Expr} {m : M (List D)} {pos} (h : RA X W es m) : RE X W (.List es pos) (mLst m) := by
  refine pe_imp (pe_lst h) fun σ H Q h => ?_
  obtain ⟨c, ε, h, r', h', hK, hm, rfl, sr, er, e, px, go⟩ := h
  unfold tLst
  refine tX.bind hK hm sr er e px fun ds h1 c1 xs e1 l1 s1 r1 => ?_
  cases q : szL ds (.lst ds) with
  | none => rw [q] at e1; cases e1
  | some d =>
    rw [q] at e1
    cases e1
    obtain ⟨hz, rfl⟩ := szL_some q
    refine ⟨by rw [← r1.length]; exact hz, fun p hp => ?_⟩
    obtain ⟨l2, s2, f2⟩ := s1.new (o := .lst xs) hp
    exact go _ rfl _ _ (l1.trans l2) s2 (.lst upd_same f2 (r1.le l2))
end
end PD
namespace PD
open PySem PySem.Spec PyProof.Rows L2
variable [LamTab]
/-- one's own list -/
def asO (h : EH) (d : D) : Option (List D) := match d with
  | .lst ds => some ds
  | .ref n => match h[n]? with
    | some (.lst ds) => some ds
    | _ => none
  | _ => none
/-- a list -/
def asL (h : EH) (d : D) : Option (List D) := match d with
  | .scr ds => some ds
  | d => asO h d
/-- a list or a tuple -/
def asS (h : EH) (d : D) : Option (List D) := match d with
  | .tup ds => some ds
  | d => asL h d
theorem asO_ok {c : RC} {h : EH} {d : D} {ds : List D} {v : V} (s : SR c h) (r : Rep c d v) (e : asO h d = some ds) : ∃ a xs, v = .ref a ∧ c.H a = some (.lst xs) ∧ Reps c ds xs := by
  cases r with
  | lst h1 f r => cases e; exact ⟨_, _, rfl, h1, r⟩
  | @ref n a hn =>
    unfold asO at e
    cases q : h[n]? with
    | none => simp only [q] at e; cases e
    | some k =>
      have cr := s.cells n a k hn q
      cases k with
      | lst es =>
        simp only [q] at e
        cases e
        obtain ⟨xs, e1, e2⟩ := cr
        exact ⟨a, xs, rfl, e1, e2⟩
      | _ => simp only [q] at e; cases e
  | _ => cases e
theorem asL_ok {c : RC} {h : EH} {d : D} {ds : List D} {v : V} (s : SR c h) (r : Rep c d v) (e : asL h d = some ds) : ∃ a xs, v = .ref a ∧ SqL c.K c.H a xs ∧ Reps c ds xs := by
  cases r with
  | scr h1 r => cases e; exact ⟨_, _, rfl, h1.sq, r⟩
  | lst h1 f r => cases e; exact ⟨_, _, rfl, .inl (.inl h1), r⟩
  | ref hn => obtain ⟨a, xs, e1, e2, e3⟩ := asO_ok s (.ref hn) e; exact ⟨a, xs, e1, .inl (.inl e2), e3⟩
  | _ => cases e
theorem asS_ok {c : RC} {h : EH} {d : D} {ds : List D} {v : V} (s : SR c h) (r : Rep c d v) (e : asS h d = some ds) : ∃ a xs, v = .ref a ∧ (SqL c.K c.H a xs ∨ SqT c.K c.H a xs) ∧ Reps c ds xs := by
  cases r with
  | tup h1 r => cases e; exact ⟨_, _, rfl, .inr h1, r⟩
  | scr h1 r => cases e; exact ⟨_, _, rfl, .inl h1.sq, r⟩
  | lst h1 f r => obtain ⟨a, xs, e1, e2, e3⟩ := asL_ok s (.lst h1 f r) e; exact ⟨a, xs, e1, .inl e2, e3⟩
  | ref hn => obtain ⟨a, xs, e1, e2, e3⟩ := asL_ok s (.ref hn) e; exact ⟨a, xs, e1, .inl e2, e3⟩
  | _ => cases e
/-- a new object's place: what one may say behind it -/
theorem put_ok {c : RC} {h : EH} (s : SR c h) {Q : VK} {d : D} {o : HO} (go : ∀ c' v, c.Le c' → SR c' h → Rep c' d v → Q v c'.H) (r : ∀ p, c.H p = none → c.Le (c.put p o) → (c.put p o).fr p → Rep (c.put p o) d (.ref p)) : ∀ p, c.H p = none → Q (.ref p) (upd c.H p o) := fun p hp => by
  obtain ⟨l, s', f⟩ := s.new (o := o) hp
  exact go _ _ l s' (r p hp l f)
theorem put_lst {c : RC} {h : EH} (s : SR c h) {Q : VK} {ds : List D} {xs : List V} (go : ∀ c' v, c.Le c' → SR c' h → Rep c' (.lst ds) v → Q v c'.H) (r : Reps c ds xs) : ∀ p, c.H p = none → Q (.ref p) (upd c.H p (.lst xs)) :=
  put_ok s go fun _ _ l f => .lst upd_same f (r.le l)
theorem put_tup {c : RC} {h : EH} (s : SR c h) {Q : VK} {ds : List D} {xs : List V} (go : ∀ c' v, c.Le c' → SR c' h → Rep c' (.tup ds) v → Q v c'.H) (r : Reps c ds xs) : ∀ p, c.H p = none → Q (.ref p) (upd c.H p (.tup xs)) :=
  put_ok s go fun _ _ l f => .tup (.inl (.inl upd_same)) (r.le l)
section
variable {K : PySem.W.Frag} {mg : Str → Option Value}
theorem OpS.or {r r' : R2} {f g : EH → D → D → Option D} (h : OpS K mg r f) (h' : OpS K mg r' g) : OpS K mg (fun x y H Q => r x y H Q ∨ r' x y H Q) (fun h x y => (f h x y).or (g h x y)) := by
  intro c eh x y dx dy d Q hK hm sr rx ry e go
  dsimp only at e
  cases q : f eh dx dy with
  | some z => rw [q] at e; cases e; exact .inl (h c eh x y dx dy _ Q hK hm sr rx ry q go)
  | none => rw [q] at e; exact .inr (h' c eh x y dx dy d Q hK hm sr rx ry e go)
theorem OpS.weak {r : R2} {f g : EH → D → D → Option D} (h : OpS K mg r f) (w : ∀ eh x y d, g eh x y = some d → f eh x y = some d) : OpS K mg r g := fun c eh x y dx dy d Q hK hm sr rx ry e go => h c eh x y dx dy d Q hK hm sr rx ry (w _ _ _ _ e) go
def dI2 (f : Int → Int → Option D) : EH → D → D → Option D := fun _ x y => match x, y with
  | .int i, .int j => f i j
  | _, _ => none
theorem ops_I0 (g : Int → Int → Int) : OpS K mg (rI0 fun i j => .int (g i j)) (dI2 fun i j => some (.int (g i j))) := by
  intro c eh x y dx dy d Q hK hm sr rx ry e go
  cases rx with
  | int i =>
    cases ry with
    | int j => cases e; exact ⟨i, j, rfl, rfl, go c _ (.refl c) sr (.int _)⟩
    | _ => cases e
  | _ => cases e
theorem ops_B0 (g : Int → Int → Bool) : OpS K mg (rI0 fun i j => .bl (g i j)) (dI2 fun i j => some (.bl (g i j))) := by
  intro c eh x y dx dy d Q hK hm sr rx ry e go
  cases rx with
  | int i =>
    cases ry with
    | int j => cases e; exact ⟨i, j, rfl, rfl, go c _ (.refl c) sr (.bl _)⟩
    | _ => cases e
  | _ => cases e
theorem ops_IC (C : Int → Int → Prop) [∀ i j, Decidable (C i j)] (g : Int → Int → Int) : OpS K mg (rI C fun i j => .int (g i j)) (dI2 fun i j => if C i j then some (.int (g i j)) else none) := by
  intro c eh x y dx dy d Q hK hm sr rx ry e go
  cases rx with
  | int i =>
    cases ry with
    | int j =>
      have e' : (if C i j then some (D.int (g i j)) else none) = some d := e
      by_cases hc : C i j
      · rw [if_pos hc] at e'; cases e'; exact ⟨i, j, rfl, rfl, hc, go c _ (.refl c) sr (.int _)⟩
      · rw [if_neg hc] at e'; cases e'
    | _ => cases e
  | _ => cases e
instance (i j : Int) : Decidable (CMul i j) := by unfold CMul; infer_instance
instance (i j : Int) : Decidable (CDiv i j) := by unfold CDiv; infer_instance
instance (i j : Int) : Decidable (CPow i j) := by unfold CPow; infer_instance
def dCatS (_ : EH) (x y : D) : Option D := match x, y with
  | .str a, .str b => if a.length + b.length ≤ sizeLine then some (.str (a ++ b)) else none
  | _, _ => none
theorem ops_catS : OpS K mg (fun x y H Q => ∃ i j, x = V.str i ∧ y = V.str j ∧ i.length + j.length ≤ sizeLine ∧ Q (.str (i ++ j)) H) dCatS := by
  intro c eh x y dx dy d Q hK hm sr rx ry e go
  cases rx with
  | str a =>
    cases ry with
    | str b =>
      have e' : (if a.length + b.length ≤ sizeLine then some (D.str (a ++ b)) else none) = some d := e
      by_cases hc : a.length + b.length ≤ sizeLine
      · rw [if_pos hc] at e'
        cases e'
        refine ⟨_, _, rfl, rfl, by simpa [Str.length] using hc, ?_⟩
        have ee : (⟨a.toArray⟩ : Str) ++ (⟨b.toArray⟩ : Str) = ⟨(a ++ b).toArray⟩ := by
          show (⟨a.toArray ++ b.toArray⟩ : Str) = _
          simp
        rw [ee]
        exact go c _ (.refl c) sr (.str _)
      · rw [if_neg hc] at e'; cases e'
    | _ => cases e
  | _ => cases e
def dCatL (h : EH) (x y : D) : Option D := match asO h x with
  | some a => (match asO h y with
    | some b => if a.length + b.length ≤ sizeLine then some (.lst (a ++ b)) else none
    | none => none)
  | none => none
theorem ops_catL : OpS K mg rCat dCatL := by
  intro c eh x y dx dy d Q hK hm sr rx ry e go
  unfold dCatL at e
  cases q : asO eh dx with
  | none => rw [q] at e; cases e
  | some a =>
    rw [q] at e
    dsimp only at e
    cases q2 : asO eh dy with
    | none => rw [q2] at e; cases e
    | some b =>
      rw [q2] at e
      dsimp only at e
      by_cases hc : a.length + b.length ≤ sizeLine
      · rw [if_pos hc] at e
        cases e
        obtain ⟨l, xs, rfl, h1, r1⟩ := asO_ok sr rx q
        obtain ⟨m, ys, rfl, h2, r2⟩ := asO_ok sr ry q2
        exact ⟨l, m, xs, ys, rfl, rfl, h1, h2, by rw [← r1.length, ← r2.length]; exact hc, put_lst sr go (r1.append r2)⟩
      · rw [if_neg hc] at e; cases e
def dCatT (_ : EH) (x y : D) : Option D := match x, y with
  | .tup a, .tup b => if a.length + b.length ≤ sizeLine then some (.tup (a ++ b)) else none
  | _, _ => none
theorem ops_catT : OpS K mg (rCatA K) dCatT := by
  intro c eh x y dx dy d Q hK hm sr rx ry e go
  subst hK
  cases rx with
  | @tup a1 ds1 xs1 h1 r1 =>
    cases ry with
    | @tup a2 ds2 xs2 h2 r2 =>
      have e' : (if ds1.length + ds2.length ≤ sizeLine then some (D.tup (ds1 ++ ds2)) else none) = some d := e
      by_cases hc : ds1.length + ds2.length ≤ sizeLine
      · rw [if_pos hc] at e'
        cases e'
        have q1 := r1.length
        have q2 := r2.length
        refine ⟨_, _, _, _, rfl, rfl, h1, h2, by omega, fun z => ?_, fun _ z => ?_, fun _ _ => put_tup sr go (r1.append r2)⟩
        · subst z
          cases r1
          exact go c _ (.refl c) sr (.tup h2 r2)
        · subst z
          cases r2
          rw [List.append_nil] at go
          exact go c _ (.refl c) sr (.tup h1 r1)
      · rw [if_neg hc] at e'; cases e'
    | _ => cases e
  | _ => cases e
end
def toPD : D → Option PyData
  | .non => some .none
  | .bl b => some (.bool b)
  | .int i => some (.int i)
  | .str cs => some (.str ⟨cs.toArray⟩)
  | .tup ds => (go ds).map .tuple
  | .lst ds => (go ds).map .list
  | _ => none
where go : List D → Option (List PyData)
  | [] => some []
  | d :: ds => match toPD d, go ds with
    | some x, some xs => some (x :: xs)
    | _, _ => none
mutual
theorem toPD_ok {c : RC} : ∀ {d : D} {v : V} {p : PyData}, Rep c d v → toPD d = some p → Dp c.K c.H v p
  | _, _, p, .non, e => by cases e; exact .non
  | _, _, p, .bl b, e => by cases e; exact .bl b
  | _, _, p, .int i, e => by cases e; exact .int i
  | _, _, p, .str cs, e => by cases e; exact .str _
  | .tup ds, _, p, .tup h r, e => by
    rw [toPD] at e
    cases q : toPD.go ds with
    | none => rw [q] at e; cases e
    | some ps => rw [q] at e; cases e; exact .tup h (toPDs_ok r q)
  | .lst ds, _, p, .lst h f r, e => by
    rw [toPD] at e
    cases q : toPD.go ds with
    | none => rw [q] at e; cases e
    | some ps => rw [q] at e; cases e; exact .lst (.inl (.inl h)) (toPDs_ok r q)
  | _, _, p, .obj _ _ _ _, e => by cases e
  | _, _, p, .dic _ _ _ _, e => by cases e
  | _, _, p, .ref _, e => by cases e
  | _, _, p, .scr _ _, e => by cases e
theorem toPDs_ok {c : RC} : ∀ {ds : List D} {vs : List V} {ps : List PyData}, Reps c ds vs → toPD.go ds = some ps → DpAll c.K c.H vs ps
  | _, _, ps, .nil, e => by cases e; exact .nil
  | d :: ds, _, ps, .cons h t, e => by
    rw [toPD.go] at e
    cases q1 : toPD d with
    | none => rw [q1] at e; cases e
    | some x =>
      cases q2 : toPD.go ds with
      | none => rw [q1, q2] at e; cases e
      | some xs => rw [q1, q2] at e; cases e; exact .cons (toPD_ok h q1) (toPDs_ok t q2)
end
/-- two data compared -/
def dEqv (x y : D) : Option Bool := match toPD x, toPD y with
  | some p, some q => if SeqAt.shaped p = true ∧ SeqAt.shaped q = true then some (PyData.eqv p q) else none
  | _, _ => none
def dEqD (neg : Bool) : EH → D → D → Option D := fun _ x y => (dEqv x y).map fun b => .bl (neg != b)
section
variable {K : PySem.W.Frag} {mg : Str → Option Value}
theorem dEqv_ok {c : RC} {x y : D} {v u : V} {b : Bool} (rx : Rep c x v) (ry : Rep c y u) (e : dEqv x y = some b) : ∃ d e, Dp c.K c.H v d ∧ Dp c.K c.H u e ∧ SeqAt.shaped d = true ∧ SeqAt.shaped e = true ∧ PyData.eqv d e = b := by
  unfold dEqv at e
  cases q1 : toPD x with
  | none => rw [q1] at e; cases e
  | some p =>
    cases q2 : toPD y with
    | none => rw [q1, q2] at e; cases e
    | some q =>
      rw [q1, q2] at e
      have e' : (if SeqAt.shaped p = true ∧ SeqAt.shaped q = true then some (PyData.eqv p q) else none) = some b := e
      by_cases hc : SeqAt.shaped p = true ∧ SeqAt.shaped q = true
      · rw [if_pos hc] at e'
        exact ⟨p, q, toPD_ok rx q1, toPD_ok ry q2, hc.1, hc.2, Option.some.inj e'⟩
      · rw [if_neg hc] at e'; cases e'
theorem ops_eqD : OpS K mg (rEqD K) (dEqD false) := by
  intro c eh x y dx dy d Q hK hm sr rx ry e go
  subst hK
  unfold dEqD at e
  cases q : dEqv dx dy with
  | none => rw [q] at e; cases e
  | some b =>
    rw [q] at e
    obtain ⟨p, r, h1, h2, h3, h4, h5⟩ := dEqv_ok rx ry q
    cases e
    exact ⟨p, r, h1, h2, h3, h4, by rw [h5]; exact go c _ (.refl c) sr (by cases b <;> exact .bl _)⟩
theorem ops_neD : OpS K mg (rNeD K) (dEqD true) := by
  intro c eh x y dx dy d Q hK hm sr rx ry e go
  subst hK
  unfold dEqD at e
  cases q : dEqv dx dy with
  | none => rw [q] at e; cases e
  | some b =>
    rw [q] at e
    obtain ⟨p, r, h1, h2, h3, h4, h5⟩ := dEqv_ok rx ry q
    cases e
    exact ⟨p, r, h1, h2, h3, h4, by rw [h5]; exact go c _ (.refl c) sr (by cases b <;> exact .bl _)⟩
/-- scalars, without a look at their signs -/
def scalD : D → D → Option Bool
  | .non, .non => some true | .non, .int _ => some false | .int _, .non => some false | .non, .bl _ => some false | .bl _, .non => some false | .non, .str _ => some false | .str _, .non => some false
  | .int a, .int b => some (decide (a = b)) | .bl a, .bl b => some (decide (a = b)) | .str a, .str b => some (decide (a = b))
  | .int _, .str _ => some false | .str _, .int _ => some false | .bl _, .str _ => some false | .str _, .bl _ => some false
  | _, _ => none
theorem scalD_ok {c : RC} {x y : D} {v u : V} {b : Bool} (rx : Rep c x v) (ry : Rep c y u) (e : scalD x y = some b) : scal v u = true ∧ decide (v = u) = b := by
  cases rx <;> cases ry <;> first
    | (cases e; done)
    | (cases e; exact ⟨rfl, by simp⟩)
theorem ops_eqS : OpS K mg rEq (fun _ x y => (scalD x y).map D.bl) := by
  intro c eh x y dx dy d Q hK hm sr rx ry e go
  dsimp only at e
  cases q : scalD dx dy with
  | none => rw [q] at e; cases e
  | some b =>
    rw [q] at e
    cases e
    obtain ⟨h1, h2⟩ := scalD_ok rx ry q
    exact ⟨h1, by rw [h2]; exact go c _ (.refl c) sr (.bl b)⟩
theorem ops_neS : OpS K mg rNe (fun _ x y => (scalD x y).map fun b => D.bl (!b)) := by
  intro c eh x y dx dy d Q hK hm sr rx ry e go
  dsimp only at e
  cases q : scalD dx dy with
  | none => rw [q] at e; cases e
  | some b =>
    rw [q] at e
    cases e
    obtain ⟨h1, h2⟩ := scalD_ok rx ry q
    exact ⟨h1, by rw [h2]; exact go c _ (.refl c) sr (.bl _)⟩
def dEq : EH → D → D → Option D := fun h x y => ((scalD x y).map D.bl).or (dEqD false h x y)
def dNe : EH → D → D → Option D := fun h x y => ((scalD x y).map fun b => D.bl (!b)).or (dEqD true h x y)
end
end PD
namespace PD
open PySem PySem.Spec PyProof.Rows L2
variable [LamTab]
def flatD : D → Bool
  | .non => true
  | .bl _ => true
  | .int _ => true
  | .str _ => true
  | _ => false
def eqF : D → D → Bool
  | .non, .non => true
  | .bl a, .bl b => a == b
  | .bl a, .int b => (if a then 1 else 0) == b
  | .int a, .bl b => a == (if b then 1 else 0)
  | .int a, .int b => a == b
  | .str a, .str b => a == b
  | _, _ => false
theorem flat_ok {c : RC} {d : D} {v : V} (r : Rep c d v) : flatV v = flatD d := by cases r <;> rfl
theorem eqF_ok {c : RC} {d e : D} {v u : V} (r : Rep c d v) (q : Rep c e u) : eqV v u = eqF d e := by
  cases r <;> cases q <;> first
    | rfl
    | (rename_i a b
       show ((⟨a.toArray⟩ : Str) == ⟨b.toArray⟩) = (a == b)
       rw [Bool.eq_iff_iff]
       simp)
theorem flats_ok {c : RC} : ∀ {ds : List D} {vs : List V}, Reps c ds vs → vs.all flatV = ds.all flatD
  | _, _, .nil => rfl
  | _, _, .cons h t => by rw [List.all_cons, List.all_cons, flat_ok h, flats_ok t]
theorem inV_ok {c : RC} {x : D} {v : V} (r : Rep c x v) : ∀ {ds : List D} {vs : List V}, Reps c ds vs → inV v vs = ds.any fun y => eqF y x
  | _, _, .nil => rfl
  | _, _, .cons h t => by
    have ih := inV_ok r t
    unfold inV at ih ⊢
    rw [List.any_cons, List.any_cons, ih, eqF_ok h r]
def dIn (neg : Bool) (h : EH) (x y : D) : Option D := match asS h y with
  | some ds => if flatD x = true ∧ ds.all flatD = true then some (.bl (neg != ds.any fun z => eqF z x)) else none
  | none => none
def dInS (neg : Bool) (_ : EH) (x y : D) : Option D := match x, y with
  | .str a, .str z => (match a with
    | [c] => some (.bl (neg != decide (c ∈ z)))
    | _ => none)
  | _, _ => none
section
variable {K : PySem.W.Frag} {mg : Str → Option Value}
theorem ops_in (neg : Bool) : OpS K mg (rIn K neg) (dIn neg) := by
  intro c eh x y dx dy d Q hK hm sr rx ry e go
  subst hK
  unfold dIn at e
  cases q : asS eh dy with
  | none => rw [q] at e; cases e
  | some ds =>
    rw [q] at e
    dsimp only at e
    obtain ⟨a, xs, rfl, h1, r1⟩ := asS_ok sr ry q
    by_cases hc : flatD dx = true ∧ ds.all flatD = true
    · rw [if_pos hc] at e
      cases e
      refine ⟨a, xs, rfl, h1, (flat_ok rx).trans hc.1, (flats_ok r1).trans hc.2, ?_⟩
      rw [inV_ok rx r1]
      cases neg
      · exact go c _ (.refl c) sr (by simpa using Rep.bl _)
      · exact go c _ (.refl c) sr (by simpa using Rep.bl _)
    · rw [if_neg hc] at e; cases e
theorem ops_inS : OpS K mg (fun x y H Q => ∃ (c : Nat) (z : Str), x = V.str ⟨#[c]⟩ ∧ y = V.str z ∧ Q (.bl (decide (c ∈ z.cps.toList))) H) (dInS false) := by
  intro c eh x y dx dy d Q hK hm sr rx ry e go
  cases rx with
  | str a =>
    cases ry with
    | str b =>
      match a, e with
      | [k], e =>
        cases e
        exact ⟨k, _, rfl, rfl, go c _ (.refl c) sr (by simpa using Rep.bl _)⟩
    | _ => cases e
  | _ => cases e
/-- is None, is not None -/
def isNon : D → Bool
  | .non => true
  | _ => false
def dIsN (neg : Bool) (_ : EH) (x y : D) : Option D := match y with
  | .non => some (.bl (neg != isNon x))
  | _ => none
theorem isNon_ok {c : RC} {d : D} {v : V} (r : Rep c d v) : decide (v = .non) = isNon d := by cases r <;> simp [isNon]
theorem ops_isN : OpS K mg (fun x y H Q => y = .non ∧ Q (.bl (decide (x = .non))) H) (dIsN false) := by
  intro c eh x y dx dy d Q hK hm sr rx ry e go
  cases ry with
  | non => cases e; exact ⟨rfl, by rw [isNon_ok rx]; exact go c _ (.refl c) sr (by simpa using Rep.bl _)⟩
  | _ => cases e
theorem atI_map {c : RC} {ds : List D} {xs : List V} {i : Int} {d : D} (r : Reps c ds xs) (e : atI ds i = some d) : ∃ v, atI xs i = some v ∧ Rep c d v := by
  unfold atI at e ⊢
  rw [← r.length]
  cases q : ixN ds.length i with
  | none => rw [q] at e; cases e
  | some j => rw [q] at e; exact r.get e
def dIx (h : EH) (x y : D) : Option D := match y with
  | .int i => (match x with
    | .str z => if z.length ≤ sizeLine then (atI z i).map fun k => .str [k] else none
    | x => match asS h x with
      | some ds => atI ds i
      | none => none)
  | _ => none
theorem ops_ix : OpS K mg (rIx K) dIx := by
  intro c eh x y dx dy d Q hK hm sr rx ry e go
  subst hK
  cases ry with
  | int i =>
    have fin : ∀ ds, asS eh dx = some ds → atI ds i = some d → rIx c.K x (.int i) c.H Q := fun ds q e => by
      obtain ⟨a, xs, rfl, h1, r1⟩ := asS_ok sr rx q
      obtain ⟨v, h2, r2⟩ := atI_map r1 e
      rcases h1 with h1 | h1
      · exact .inl ⟨a, xs, i, v, rfl, rfl, h1, h2, go c v (.refl c) sr r2⟩
      · exact .inr (.inl ⟨a, xs, i, v, rfl, rfl, h1, h2, go c v (.refl c) sr r2⟩)
    cases rx with
    | str z =>
      have e' : (if z.length ≤ sizeLine then (atI z i).map fun k => D.str [k] else none) = some d := e
      by_cases hc : z.length ≤ sizeLine
      · rw [if_pos hc] at e'
        cases q : atI z i with
        | none => rw [q] at e'; cases e'
        | some k =>
          rw [q] at e'
          cases e'
          exact .inr (.inr ⟨_, i, k, rfl, rfl, by simpa [Str.length] using hc, by simpa using q, go c _ (.refl c) sr (.str [k])⟩)
      · rw [if_neg hc] at e'; cases e'
    | @tup a ds xs h1 r1 => exact fin ds rfl e
    | @lst a ds xs h1 f r1 => exact fin ds rfl e
    | @scr a ds xs h1 r1 => exact fin ds rfl e
    | @ref n a hn =>
      cases q : asS eh (.ref n) with
      | none => unfold dIx at e; simp only [q] at e; cases e
      | some ds => unfold dIx at e; simp only [q] at e; exact fin ds q e
    | _ => cases e
  | _ => cases e
end
def cutD {α : Type} (xs : List α) (lo hi : Option Int) : List α := (xs.drop (HT.sIx xs.length 0 lo)).take (HT.sIx xs.length xs.length hi - HT.sIx xs.length 0 lo)
def mNoP : M (Option Int) := fun _ h => some (.ok none, h)
def mSmP (m : M D) : M (Option Int) := fun ε h => bR (m ε h) fun x h1 => match x with
  | .int i => some (.ok (some i), h1)
  | _ => none
def tO (K : PySem.W.Frag) (mg : Str → Option Value) (W : WX) := tX (α := Option Int) (fun (_ : RC) a b => a = b) K mg W
abbrev RO (X : Cx) (W : WX) (e : Option Expr) (m : M (Option Int)) : Prop := PO X e (tO X.K X.mg W m)
theorem po_imp {X : Cx} {e : Option Expr} {t t' : TO} (h : PO X e t) (k : ∀ σ H Q, t' σ H Q → t σ H Q) : PO X e t' := ⟨fun pins s σ H Q I q => h.run pins s σ H Q I (k σ H Q q)⟩
def dSl (h : EH) (x : D) (lo hi : Option Int) : Option D := match x with
  | .str z => if z.length ≤ sizeLine then some (.str (cutD z lo hi)) else none
  | .tup ds => some (.tup (cutD ds lo hi))
  | x => match asL h x with
    | some ds => some (.lst (cutD ds lo hi))
    | none => none
def mSl (a : M D) (lo hi : M (Option Int)) : M D := fun ε h => bR (a ε h) fun x h1 => bR (lo ε h1) fun l h2 => bR (hi ε h2) fun u h3 => rt (dSl h3 x l u) h3
section
variable {X : Cx} {W : WX}
theorem ro_none : RO X W none mNoP := by
  refine po_imp po_none fun σ H Q h => ?_
  obtain ⟨c, ε, h, r', h', hK, hm, rfl, sr, er, e, px, go⟩ := h
  cases e
  exact go _ rfl c _ (.refl c) sr rfl
theorem ro_some {e : Expr} {m : M D} (h : RE X W e m) : RO X W (some e) (mSmP m) := by
  refine po_imp (po_some h) fun σ H Q h => ?_
  obtain ⟨c, ε, h, r', h', hK, hm, rfl, sr, er, e, px, go⟩ := h
  unfold tPart
  refine tX.bind hK hm sr er e px fun x h1 c1 b e1 l1 s1 r1 => ?_
  cases r1 with
  | int i => cases e1; exact ⟨i, rfl, go _ rfl c1 _ l1 s1 rfl⟩
  | _ => cases e1
end
end PD
namespace PD
open PySem PySem.Spec PyProof.Rows L2
variable [LamTab]
section
variable {X : Cx} {W : WX}
theorem cutV_reps {c : RC} {ds : List D} {xs : List V} (r : Reps c ds xs) (lo hi : Option Int) : Reps c (cutD ds lo hi) (cutV xs lo hi) := by
  unfold cutD cutV
  rw [← r.length]
  exact (r.drop _).take _
theorem cutS_cutD (z : List Nat) (lo hi : Option Int) : cutS ⟨z.toArray⟩ lo hi = ⟨(cutD z lo hi).toArray⟩ := by
  unfold cutS cutD
  simp [Str.length]
theorem re_slice {a : Expr} {lo hi : Option Expr} {ma : M D} {ml mh : M (Option Int)} {p2 pos : Pos} (ha : RE X W a ma) (hl : RO X W lo ml) (hh : RO X W hi mh) : RE X W (.Subscript a (.Slice lo hi none p2) pos) (mSl ma ml mh) := by
  refine pe_imp (pe_slice (sl_list.or (sl_tupA.or sl_str)) ha hl hh) fun σ H Q h => ?_
  obtain ⟨c, ε, h, r', h', hK, hm, rfl, sr, er, e, px, go⟩ := h
  unfold tSl
  refine tX.bind hK hm sr er e px fun x h1 c1 v e1 l1 s1 r1 => ?_
  refine tX.bind (l1.K.trans hK) (l1.mg.trans hm) s1 (er.le l1) e1 (px.le l1) fun lo' h2 c2 lo2 e2 l2 s2 r2 => ?_
  refine tX.bind ((l2.K.trans l1.K).trans hK) ((l2.mg.trans l1.mg).trans hm) s2 ((er.le l1).le l2) e2 ((px.le l1).le l2) fun hi' h3 c3 hi2 e3 l3 s3 r3 => ?_
  subst r2 r3
  have r1' := (r1.le l2).le l3
  have hK3 : c3.K = X.K := ((l3.K.trans l2.K).trans l1.K).trans hK
  cases q : dSl h3 x lo' hi' with
  | none => rw [q] at e3; cases e3
  | some d =>
    rw [q] at e3
    cases e3
    have go' : ∀ c' v, c3.Le c' → SR c' _ → Rep c' d v → Q v c'.H := fun c' v l s r => go d rfl c' v (((l1.trans l2).trans l3).trans l) s r
    have fin : ∀ ds, asL _ x = some ds → some (D.lst (cutD ds lo' hi')) = some d → rSlL X.K v lo' hi' c3.H Q := fun ds q e => by
      cases e
      obtain ⟨a, xs, rfl, h1, r1⟩ := asL_ok s3 r1' q
      exact ⟨a, xs, rfl, (by rw [← hK3]; exact h1), put_lst s3 go' (cutV_reps r1 lo' hi')⟩
    cases r1' with
    | str z =>
      have e' : (if z.length ≤ sizeLine then some (D.str (cutD z lo' hi')) else none) = some d := q
      by_cases hc : z.length ≤ sizeLine
      · rw [if_pos hc] at e'
        cases e'
        exact .inr (.inr ⟨_, rfl, by simpa [Str.length] using hc, by rw [cutS_cutD]; exact go' c3 _ (.refl c3) s3 (.str _)⟩)
      · rw [if_neg hc] at e'; cases e'
    | @tup a ds xs k1 k2 =>
      cases q
      refine .inr (.inl ⟨a, xs, rfl, by rw [← hK3]; exact k1, fun hw => ?_, fun _ => put_tup s3 go' (cutV_reps k2 lo' hi')⟩)
      have ez : cutD ds lo' hi' = ds := by
        unfold cutD
        rw [k2.length, hw.1, hw.2, List.drop_zero, Nat.sub_zero, List.take_of_length_le (by rw [k2.length]; exact Nat.le_refl _)]
      exact go' c3 _ (.refl c3) s3 (by rw [ez]; exact .tup k1 k2)
    | @lst a ds xs k1 k2 k3 => exact .inl (fin ds rfl q)
    | @scr a ds xs k1 k2 => exact .inl (fin ds rfl q)
    | @ref n a hn =>
      have q' : (match asL h' (D.ref n) with
        | some ds => some (D.lst (cutD ds lo' hi'))
        | none => none) = some d := q
      cases q2 : asL h' (D.ref n) with
      | none => rw [q2] at q'; cases q'
      | some ds => rw [q2] at q'; exact .inl (fin ds q2 q')
    | _ => cases q
def CallS (K : PySem.W.Frag) (mg : Str → Option Value) (r : List V → Hp → VK → Prop) (f : EH → List D → Option D) : Prop := ∀ (c : RC) (h : EH) (xs : List V) (ds : List D) (d : D) (Q : VK), c.K = K → MgE c mg → SR c h → Reps c ds xs → f h ds = some d →
  (∀ c' v, c.Le c' → SR c' h → Rep c' d v → Q v c'.H) → r xs c.H Q
def mCall (f : EH → List D → Option D) (a : M (List D)) : M D := fun ε h => bR (a ε h) fun xs h1 => rt (f h1 xs) h1
theorem tcb_of {K : PySem.W.Frag} {mg : Str → Option Value} {r : List V → Hp → VK → Prop} {f : EH → List D → Option D} {a : M (List D)} (hs : CallS K mg r f) {σ : L2.St} {H : Hp} {Q : VK} (h : tE K mg W (mCall f a) σ H Q) : tCB r (tA K mg W a) σ H Q := by
  obtain ⟨c, ε, h, r', h', hK, hm, rfl, sr, er, e, px, go⟩ := h
  unfold tCB
  refine tX.bind hK hm sr er e px fun ds h1 c1 xs e1 l1 s1 r1 => ?_
  cases q : f h1 ds with
  | none => rw [q] at e1; cases e1
  | some d =>
    rw [q] at e1
    cases e1
    exact hs c1 _ xs ds d Q (l1.K.trans hK) (l1.mg.trans hm) s1 r1 q fun c' v l s r => go d rfl c' v (l1.trans l) s r
variable {e : Expr} {es : List Expr} {x : Str} {p pos : Pos} {ma : M (List D)} {id : String} {T : String} {r : List V → Hp → VK → Prop} {f : EH → List D → Option D}
theorem re_callB (hc : CallR X (.builtin id) r) (hs : CallS X.K X.mg r f) (hm : X.mg x = none) (ha : RA X W (e :: es) ma) (hv : bootBuiltins x = some (.builtin id) := by decide +kernel) (hg : Gl X x := by rfl) (hn : x ≠ "__name__" := by decide) (hdb : (x == ("__debug__" : Str)) = false := by decide)
    (he : starEach (e :: es) X.env = (false, eval e X.env) :: starEach es X.env := by rfl) (hpl : (backTo pos (starEach es X.env)).any (·.1) = false := by rfl) : RE X W (.Call (.Name x p) (e :: es) [] pos) (mCall f ma) :=
  pe_imp (pe_callB hc hg hm hv ha hn hdb he hpl) fun _ _ _ h => tcb_of hs h
theorem re_callTy (hc : CallR X (.type T) r) (hs : CallS X.K X.mg r f) (hm : X.mg x = none) (ha : RA X W (e :: es) ma) (hv : bootBuiltins x = some (.type T) := by decide +kernel) (hg : Gl X x := by rfl) (hn : x ≠ "__name__" := by decide) (hdb : (x == ("__debug__" : Str)) = false := by decide)
    (he : starEach (e :: es) X.env = (false, eval e X.env) :: starEach es X.env := by rfl) (hpl : (backTo pos (starEach es X.env)).any (·.1) = false := by rfl) : RE X W (.Call (.Name x p) (e :: es) [] pos) (mCall f ma) :=
  pe_imp (pe_callTy hc hg hm hv ha hn hdb he hpl) fun _ _ _ h => tcb_of hs h
end
section
variable {K : PySem.W.Frag} {mg : Str → Option Value}
def dLen1 (h : EH) (d : D) : Option D := match d with
  | .str z => if z.length ≤ sizeLine then some (.int z.length) else none
  | d => (match asS h d with
    | some xs => some (.int xs.length)
    | none => none)
def dLen (h : EH) (ds : List D) : Option D := match ds with
  | [d] => dLen1 h d
  | _ => none
theorem cs_len : CallS K mg (fun xs H Q => ∃ x n, xs = [x] ∧ LenV K x H n ∧ Q (.int n) H) dLen := by
  intro c eh xs ds d Q hK hm sr rx e go
  subst hK
  match ds, rx, e with
  | [d0], .cons r0 .nil, e =>
    have fin : ∀ v xs, Rep c d0 v → asS eh d0 = some xs → d = .int xs.length → ∃ x n, [v] = [x] ∧ LenV c.K x c.H n ∧ Q (.int n) c.H := fun v xs r0 q eq => by
      subst eq
      obtain ⟨a, ys, rfl, h1, r1⟩ := asS_ok sr r0 q
      refine ⟨_, ys.length, rfl, ?_, ?_⟩
      · rcases h1 with h1 | h1
        · exact .inl ⟨ys, h1, rfl⟩
        · exact .inr ⟨ys, h1, rfl⟩
      · rw [← r1.length]; exact go c _ (.refl c) sr (.int _)
    cases r0 with
    | str z =>
      have e' : (if z.length ≤ sizeLine then some (D.int z.length) else none) = some d := e
      by_cases hc : z.length ≤ sizeLine
      · rw [if_pos hc] at e'
        cases e'
        exact ⟨_, z.length, rfl, ⟨by simpa [Str.length] using hc, by simp [Str.length]⟩, go c _ (.refl c) sr (.int _)⟩
      · rw [if_neg hc] at e'; cases e'
    | @tup a ds xs h1 r1 => exact fin _ ds (.tup h1 r1) rfl (by cases e; rfl)
    | @lst a ds xs h1 f r1 => exact fin _ ds (.lst h1 f r1) rfl (by cases e; rfl)
    | @scr a ds xs h1 r1 => exact fin _ ds (.scr h1 r1) rfl (by cases e; rfl)
    | @ref n a hn =>
      have e' : (match asS eh (D.ref n) with
        | some xs => some (D.int xs.length)
        | none => none) = some d := e
      cases q : asS eh (.ref n) with
      | none => rw [q] at e'; cases e'
      | some ds => rw [q] at e'; exact fin _ ds (.ref hn) q (by cases e'; rfl)
    | _ => cases e
  | [], _, e => cases e
  | _ :: _ :: _, _, e => cases e
def dInt1 (d : D) : Option D := match d with
  | .int i => some (.int i)
  | .bl k => some (.int (if k then 1 else 0))
  | .str z => if z.length ≤ 640 then (PySem.intText? ⟨z.toArray⟩).map .int else none
  | _ => none
def dInt (_ : EH) (ds : List D) : Option D := match ds with
  | [d] => dInt1 d
  | _ => none
theorem cs_int : CallS K mg (fun xs H Q => ((∃ i, xs = [.int i] ∧ Q (.int i) H) ∨ ∃ k, xs = [.bl k] ∧ Q (.int (if k then 1 else 0)) H) ∨ (∃ a n, xs = [.str a] ∧ PySem.intText? a = some n ∧ a.length ≤ 640 ∧ Q (.int n) H)) dInt := by
  intro c eh xs ds d Q hK hm sr rx e go
  match ds, rx, e with
  | [d0], .cons r0 .nil, e =>
    cases r0 with
    | int i => cases e; exact .inl (.inl ⟨i, rfl, go c _ (.refl c) sr (.int _)⟩)
    | bl k => cases e; exact .inl (.inr ⟨k, rfl, go c _ (.refl c) sr (.int _)⟩)
    | str z =>
      have e' : (if z.length ≤ 640 then (PySem.intText? ⟨z.toArray⟩).map D.int else none) = some d := e
      by_cases hc : z.length ≤ 640
      · rw [if_pos hc] at e'
        cases q : PySem.intText? ⟨z.toArray⟩ with
        | none => rw [q] at e'; cases e'
        | some n => rw [q] at e'; cases e'; exact .inr ⟨_, n, rfl, q, by simpa [Str.length] using hc, go c _ (.refl c) sr (.int _)⟩
      · rw [if_neg hc] at e'; cases e'
    | _ => cases e
  | [], _, e => cases e
  | _ :: _ :: _, _, e => cases e
/-- the digits of an int -/
def decI (i : Int) : List Nat := (toString i).toList.map Char.toNat
def dStr1 (d : D) : Option D := match d with
  | .int i => if i.natAbs.log2 < 1920 then some (.str (decI i)) else none
  | .str z => some (.str z)
  | _ => none
def dStr (_ : EH) (ds : List D) : Option D := match ds with
  | [d] => dStr1 d
  | _ => none
theorem cs_str : CallS K mg (fun xs H Q => (∃ i, xs = [.int i] ∧ i.natAbs.log2 < 1920 ∧ Q (.str (toString i)) H) ∨ (∃ a, xs = [.str a] ∧ Q (.str a) H)) dStr := by
  intro c eh xs ds d Q hK hm sr rx e go
  match ds, rx, e with
  | [d0], .cons r0 .nil, e =>
    cases r0 with
    | int i =>
      have e' : (if i.natAbs.log2 < 1920 then some (D.str (decI i)) else none) = some d := e
      by_cases hc : i.natAbs.log2 < 1920
      · rw [if_pos hc] at e'
        cases e'
        have es : (Str.ofString (toString i)) = ⟨(decI i).toArray⟩ := by
          rw [Str.ofString_eq_toList]
          rfl
        exact .inl ⟨i, rfl, hc, by rw [es]; exact go c _ (.refl c) sr (.str _)⟩
      · rw [if_neg hc] at e'; cases e'
    | str z => cases e; exact .inr ⟨_, rfl, go c _ (.refl c) sr (.str _)⟩
    | _ => cases e
  | [], _, e => cases e
  | _ :: _ :: _, _, e => cases e
def dList (h : EH) (ds : List D) : Option D := match ds with
  | [d] => (match asS h d with
    | some xs => some (.lst xs)
    | none => none)
  | _ => none
theorem cs_list : CallS K mg (fun xs H Q => ∃ p ys, xs = [.ref p] ∧ (SqL K H p ys ∨ SqT K H p ys) ∧ ∀ l, H l = none → Q (.ref l) (upd H l (.lst ys))) dList := by
  intro c eh xs ds d Q hK hm sr rx e go
  subst hK
  match ds, rx, e with
  | [d0], .cons r0 .nil, e =>
    cases q : asS eh d0 with
    | none => unfold dList at e; simp only [q] at e; cases e
    | some xs =>
      unfold dList at e
      simp only [q] at e
      cases e
      obtain ⟨a, ys, rfl, h1, r1⟩ := asS_ok sr r0 q
      exact ⟨a, ys, rfl, h1, put_lst sr go r1⟩
  | [], _, e => cases e
  | _ :: _ :: _, _, e => cases e
def dTuple (h : EH) (ds : List D) : Option D := match ds with
  | [d] => (match asS h d with
    | some xs => some (.tup xs)
    | none => none)
  | _ => none
theorem cs_tuple : CallS K mg (fun xs H Q => ∃ p ys, xs = [.ref p] ∧ ((SqL K H p ys ∧ ∀ l, H l = none → Q (.ref l) (upd H l (.tup ys))) ∨ (SqT K H p ys ∧ Q (.ref p) H))) dTuple := by
  intro c eh xs ds d Q hK hm sr rx e go
  subst hK
  match ds, rx, e with
  | [d0], .cons r0 .nil, e =>
    cases q : asS eh d0 with
    | none => unfold dTuple at e; simp only [q] at e; cases e
    | some xs =>
      unfold dTuple at e
      simp only [q] at e
      cases e
      obtain ⟨a, ys, rfl, h1, r1⟩ := asS_ok sr r0 q
      rcases h1 with h1 | h1
      · exact ⟨a, ys, rfl, .inl ⟨h1, put_tup sr go r1⟩⟩
      · exact ⟨a, ys, rfl, .inr ⟨h1, go c _ (.refl c) sr (.tup h1 r1)⟩⟩
  | [], _, e => cases e
  | _ :: _ :: _, _, e => cases e
def asBs : List D → Option (List Bool)
  | [] => some []
  | .bl b :: ds => (asBs ds).map (b :: ·)
  | _ :: _ => none
theorem asBs_ok {c : RC} : ∀ {ds : List D} {xs : List V} {bs : List Bool}, Reps c ds xs → asBs ds = some bs → xs = bs.map V.bl
  | _, _, bs, .nil, e => by cases e; rfl
  | _, _, bs, .cons h t, e => by
    cases h with
    | bl b =>
      unfold asBs at e
      rename_i ds vs
      cases q : asBs ds with
      | none => rw [q] at e; cases e
      | some cs => rw [q] at e; cases e; rw [asBs_ok t q]; rfl
    | _ => cases e
def dAll (h : EH) (ds : List D) : Option D := match ds with
  | [d] => (match asL h d with
    | some xs => (asBs xs).map fun bs => .bl (bs.all id)
    | none => none)
  | _ => none
def dAny (h : EH) (ds : List D) : Option D := match ds with
  | [d] => (match asL h d with
    | some xs => (asBs xs).map fun bs => .bl (bs.any id)
    | none => none)
  | _ => none
theorem cs_all : CallS K mg (rAll K) dAll := by
  intro c eh xs ds d Q hK hm sr rx e go
  subst hK
  match ds, rx, e with
  | [d0], .cons r0 .nil, e =>
    cases q : asL eh d0 with
    | none => unfold dAll at e; simp only [q] at e; cases e
    | some xs =>
      unfold dAll at e
      simp only [q] at e
      obtain ⟨a, ys, rfl, h1, r1⟩ := asL_ok sr r0 q
      cases q2 : asBs xs with
      | none => rw [q2] at e; cases e
      | some bs => rw [q2] at e; cases e; exact ⟨a, bs, rfl, by rw [← asBs_ok r1 q2]; exact h1, go c _ (.refl c) sr (.bl _)⟩
  | [], _, e => cases e
  | _ :: _ :: _, _, e => cases e
theorem cs_any : CallS K mg (rAny K) dAny := by
  intro c eh xs ds d Q hK hm sr rx e go
  subst hK
  match ds, rx, e with
  | [d0], .cons r0 .nil, e =>
    cases q : asL eh d0 with
    | none => unfold dAny at e; simp only [q] at e; cases e
    | some xs =>
      unfold dAny at e
      simp only [q] at e
      obtain ⟨a, ys, rfl, h1, r1⟩ := asL_ok sr r0 q
      cases q2 : asBs xs with
      | none => rw [q2] at e; cases e
      | some bs => rw [q2] at e; cases e; exact ⟨a, bs, rfl, by rw [← asBs_ok r1 q2]; exact h1, go c _ (.refl c) sr (.bl _)⟩
  | [], _, e => cases e
  | _ :: _ :: _, _, e => cases e
end
end PD
namespace PD
open PySem PySem.Spec PyProof.Rows L2
variable [LamTab]
inductive RS where
  | nx (ε : Ev)
  | rt (d : D)
  | bk (ε : Ev)
  | ct (ε : Ev)
  | ex (e : Ex) (ε : Ev)
abbrev MS := Ev → EH → Option (RS × EH)
/-- what is wanted of a statement's end -/
def Fin (W : WX) (D : Ends) (c : RC) (r : RS) (h' : EH) : Prop := match r with
  | .nx ε' => ∀ c' σ', c.Le c' → SR c' h' → EnvR c' ε' σ' → D.nx σ' c'.H
  | .rt d => ∀ c' v, c.Le c' → SR c' h' → Rep c' d v → D.rt v c'.H
  | .bk ε' => ∀ c' σ', c.Le c' → SR c' h' → EnvR c' ε' σ' → D.bk σ' c'.H
  | .ct ε' => ∀ c' σ', c.Le c' → SR c' h' → EnvR c' ε' σ' → D.ct σ' c'.H
  | .ex e ε' => ∀ c' σ' cls dx, c.Le c' → SR c' h' → EnvR c' ε' σ' → ExR c' e cls dx → W cls dx σ' c'.H
theorem Fin.le {W : WX} {D : Ends} {c c1 : RC} {r : RS} {h' : EH} (f : Fin W D c r h') (l : c.Le c1) : Fin W D c1 r h' := by
  cases r with
  | nx ε' => exact fun c' σ' l' => f c' σ' (l.trans l')
  | rt d => exact fun c' v l' => f c' v (l.trans l')
  | bk ε' => exact fun c' σ' l' => f c' σ' (l.trans l')
  | ct ε' => exact fun c' σ' l' => f c' σ' (l.trans l')
  | ex e ε' => exact fun c' σ' cls dx l' => f c' σ' cls dx (l.trans l')
def tS (K : PySem.W.Frag) (mg : Str → Option Value) (W : WX) (m : MS) : TS := fun D σ H =>
  ∃ (c : RC) (ε : Ev) (h : EH) (r : RS) (h' : EH), c.K = K ∧ MgE c mg ∧ c.H = H ∧ SR c h ∧ EnvR c ε σ ∧ m ε h = some (r, h') ∧ Fin W D c r h'
abbrev RSt (X : Cx) (W : WX) (st : Stmt) (m : MS) : Prop := PS X st (tS X.K X.mg W m)
abbrev RSs (X : Cx) (W : WX) (sts : List Stmt) (m : MS) : Prop := PSs X sts (tS X.K X.mg W m)
theorem ps_imp {X : Cx} {st : Stmt} {t t' : TS} (h : PS X st t) (k : ∀ D σ H, t' D σ H → t D σ H) : PS X st t' := ⟨fun pins s σ H D I q => h.run pins s σ H D I (k D σ H q)⟩
theorem pss_imp {X : Cx} {st : List Stmt} {t t' : TS} (h : PSs X st t) (k : ∀ D σ H, t' D σ H → t D σ H) : PSs X st t' := ⟨fun pins s σ H D I q => h.run pins s σ H D I (k D σ H q)⟩
/-- an expression, then a statement's end -/
def bS {α : Type} (x : O α) (ε : Ev) (f : α → EH → Option (RS × EH)) : Option (RS × EH) := match x with
  | some (.ok a, h) => f a h
  | some (.ex e, h) => some (.ex e ε, h)
  | none => none
theorem tX.stm {α β : Type} {Rl : RC → α → β → Prop} {K : PySem.W.Frag} {mg : Str → Option Value} {W : WX} {m : M α} {k : α → EH → Option (RS × EH)} {c : RC} {ε : Ev} {h h' : EH} {r : RS} {σ : L2.St} {D : Ends} {Q : β → Hp → Prop}
    (hK : c.K = K) (hm : MgE c mg) (sr : SR c h) (er : EnvR c ε σ) (e : bS (m ε h) ε k = some (r, h')) (fin : Fin W D c r h')
    (go : ∀ a h1 c1 b, k a h1 = some (r, h') → c.Le c1 → SR c1 h1 → Rl c1 a b → Q b c1.H) : tX Rl K mg W m σ c.H Q := by
  cases q : m ε h with
  | none => rw [q] at e; cases e
  | some z =>
    obtain ⟨r1, h1⟩ := z
    cases r1 with
    | ok a =>
      rw [q] at e
      exact ⟨c, ε, h, .ok a, h1, hK, hm, rfl, sr, er, q, Px.ok, fun a' ea c1 b l s rb => by cases ea; exact go a h1 c1 b e l s rb⟩
    | ex x =>
      rw [q] at e
      cases e
      exact ⟨c, ε, h, .ex x, _, hK, hm, rfl, sr, er, q, fun y ey c' cls dx l s xr => by cases ey; exact fin c' σ cls dx l s (er.le l) xr, fun a' ea => nomatch ea⟩
section
variable {X : Cx} {W : WX}
def msNil : MS := fun ε h => some (.nx ε, h)
def msSeq (a b : MS) : MS := fun ε h => match a ε h with
  | some (.nx ε1, h1) => b ε1 h1
  | some (r, h1) => some (r, h1)
  | none => none
theorem rss_nil : RSs X W [] msNil := by
  refine pss_imp pss_nil fun D σ H h => ?_
  obtain ⟨c, ε, h, r, h', hK, hm, rfl, sr, er, e, fin⟩ := h
  cases e
  exact fin c σ (.refl c) sr er
theorem seq_of {K : PySem.W.Frag} {mg : Str → Option Value} {m1 m2 : MS} {D : Ends} {σ : L2.St} {H : Hp} (h : tS K mg W (msSeq m1 m2) D σ H) : tSeq (tS K mg W m1) (tS K mg W m2) D σ H := by
  obtain ⟨c, ε, h, r, h', hK, hm, rfl, sr, er, e, fin⟩ := h
  unfold msSeq at e
  cases q : m1 ε h with
  | none => rw [q] at e; cases e
  | some z =>
    obtain ⟨r1, h1⟩ := z
    rw [q] at e
    refine ⟨c, ε, h, r1, h1, hK, hm, rfl, sr, er, q, ?_⟩
    cases r1 with
    | nx ε1 => exact fun c' σ' l s en => ⟨c', ε1, h1, r, h', l.K.trans hK, l.mg.trans hm, rfl, s, en, e, fin.le l⟩
    | rt d => cases e; exact fin
    | bk ε' => cases e; exact fin
    | ct ε' => cases e; exact fin
    | ex x ε' => cases e; exact fin
theorem rss_cons {st : Stmt} {rest : List Stmt} {m1 m2 : MS} (h1 : RSt X W st m1) (h2 : RSs X W rest m2) : RSs X W (st :: rest) (msSeq m1 m2) :=
  pss_imp (pss_cons h1 h2) fun _ _ _ h => seq_of h
theorem rss_one {st : Stmt} {m : MS} (h : RSt X W st m) : RSs X W [st] m := pss_one h
def msRet (a : M D) : MS := fun ε h => bS (a ε h) ε fun d h1 => some (.rt d, h1)
theorem rs_ret {e : Expr} {m : M D} {pos : Pos} (he : RE X W e m) : RSt X W (.Return (some e) pos) (msRet m) := by
  refine ps_imp (ps_ret he) fun D σ H h => ?_
  obtain ⟨c, ε, h, r, h', hK, hm, rfl, sr, er, e, fin⟩ := h
  unfold tRet
  refine tX.stm hK hm sr er e fin fun d h1 c1 v e1 l1 s1 r1 => ?_
  cases e1
  exact fin c1 v l1 s1 r1
def msIf (t : M Bool) (a b : MS) : MS := fun ε h => bS (t ε h) ε fun k h1 => if k = true then a ε h1 else b ε h1
theorem rs_if {t : Expr} {a b : List Stmt} {mt : M Bool} {ma mb : MS} {pos : Pos} (ht : RT X W t mt) (ha : RSs X W a ma) (hb : RSs X W b mb) : RSt X W (.If t a b pos) (msIf mt ma mb) := by
  refine ps_imp (ps_if ht ha hb) fun D σ H h => ?_
  obtain ⟨c, ε, h, r, h', hK, hm, rfl, sr, er, e, fin⟩ := h
  unfold tIfS
  refine tX.stm hK hm sr er e fin fun k h1 c1 v e1 l1 s1 r1 => ?_
  subst r1
  cases k with
  | true => exact ⟨c1, ε, h1, r, h', l1.K.trans hK, l1.mg.trans hm, rfl, s1, er.le l1, e1, fin.le l1⟩
  | false => exact ⟨c1, ε, h1, r, h', l1.K.trans hK, l1.mg.trans hm, rfl, s1, er.le l1, e1, fin.le l1⟩
def msExpr (a : M D) : MS := fun ε h => bS (a ε h) ε fun _ h1 => some (.nx ε, h1)
theorem rs_expr {e : Expr} {m : M D} {pos : Pos} (he : RE X W e m) (hs : swapsWith e none pos.line X.env = pure false := by rfl) : RSt X W (.Expr e pos) (msExpr m) := by
  refine ps_imp (ps_expr he hs) fun D σ H h => ?_
  obtain ⟨c, ε, h, r, h', hK, hm, rfl, sr, er, e, fin⟩ := h
  unfold tDrop
  refine tX.stm hK hm sr er e fin fun k h1 c1 v e1 l1 s1 r1 => ?_
  cases e1
  exact fin c1 σ l1 s1 (er.le l1)
def msBk : MS := fun ε h => some (.bk ε, h)
def msCt : MS := fun ε h => some (.ct ε, h)
theorem rs_continue {pos : Pos} : RSt X W (.Continue pos) msCt := by
  refine ps_imp ps_continue fun D σ H h => ?_
  obtain ⟨c, ε, h, r, h', hK, hm, rfl, sr, er, e, fin⟩ := h
  cases e
  exact fin c σ (.refl c) sr er
abbrev MG := D → Ev → EH → Option (Ev × EH)
abbrev MGs := List D → Ev → EH → Option (Ev × EH)
/-- the slots but S are as they were -/
structure Save (S : List Nat) (σ σ' : L2.St) : Prop where
  len : σ'.length = σ.length
  at_ : ∀ i, i ∉ S → σ'[i]? = σ[i]?
theorem Save.refl {S : List Nat} {σ : L2.St} : Save S σ σ := ⟨rfl, fun _ _ => rfl⟩
def tG (K : PySem.W.Frag) (mg : Str → Option Value) (S : List Nat) (m : MG) : TG := fun v σ H Q => ∃ (c : RC) (d : D) (ε : Ev) (h : EH) (ε' : Ev) (h' : EH), c.K = K ∧ MgE c mg ∧ c.H = H ∧ SR c h ∧ Rep c d v ∧ EnvR c ε σ ∧ m d ε h = some (ε', h') ∧ ∀ c' σ', c.Le c' → SR c' h' → EnvR c' ε' σ' → Save S σ σ' → Q σ' c'.H
def tGs (K : PySem.W.Frag) (mg : Str → Option Value) (S : List Nat) (m : MGs) : TGs := fun vs σ H Q => ∃ (c : RC) (ds : List D) (ε : Ev) (h : EH) (ε' : Ev) (h' : EH), c.K = K ∧ MgE c mg ∧ c.H = H ∧ SR c h ∧ Reps c ds vs ∧ EnvR c ε σ ∧ m ds ε h = some (ε', h') ∧ ∀ c' σ', c.Le c' → SR c' h' → EnvR c' ε' σ' → Save S σ σ' → Q σ' c'.H
abbrev RG (X : Cx) (tg : Expr) (S : List Nat) (m : MG) : Prop := PG X tg (tG X.K X.mg S m)
abbrev RGs (X : Cx) (tgs : List Expr) (S : List Nat) (m : MGs) : Prop := PGs X tgs (tGs X.K X.mg S m)
theorem pg_imp {X : Cx} {tg : Expr} {t t' : TG} (h : PG X tg t) (k : ∀ v σ H Q, t' v σ H Q → t v σ H Q) : PG X tg t' := ⟨fun pins s σ H v u Q I r q => h.run pins s σ H v u Q I r (k v σ H Q q)⟩
theorem pgs_imp {X : Cx} {tg : List Expr} {t t' : TGs} (h : PGs X tg t) (k : ∀ v σ H Q, t' v σ H Q → t v σ H Q) : PGs X tg t' := ⟨fun pins s σ H v u Q I r q => h.run pins s σ H v u Q I r (k v σ H Q q)⟩
def mgName (i : Nat) : MG := fun d ε h => some (ε.set i (some d), h)
theorem rg_name (i : Nat) {x : Str} {pos : Pos} (hN : X.N.Nodup) (hi : X.N[i]? = some x := by rfl) (hx : Loc X.env.scope x := by first | exact Or.inl rfl | exact Or.inr rfl) (hf : X.fn x = true ∨ X.env.scope.names.lookup x = some .local := by first | exact .inl rfl | exact .inr rfl | assumption) : RG X (.Name x pos) [i] (mgName i) := by
  refine pg_imp (pg_name hN hi hx hf) fun v σ H Q h => ?_
  obtain ⟨c, d, ε, h, ε', h', hK, hm, rfl, sr, rv, er, e, go⟩ := h
  cases e
  exact go c _ (.refl c) sr (er.set rv i) ⟨List.length_set, fun j hj => List.getElem?_set_ne (fun z => hj (by simp [z]))⟩
def mgNil : MGs := fun ds ε h => match ds with
  | [] => some (ε, h)
  | _ :: _ => none
def mgCons (a : MG) (b : MGs) : MGs := fun ds ε h => match ds with
  | [] => none
  | d :: r => match a d ε h with
    | some (ε1, h1) => b r ε1 h1
    | none => none
theorem rgs_nil : RGs X [] [] mgNil := by
  refine pgs_imp pgs_nil fun vs σ H Q h => ?_
  obtain ⟨c, ds, ε, h, ε', h', hK, hm, rfl, sr, rv, er, e, go⟩ := h
  cases rv with
  | nil => cases e; exact ⟨rfl, go c σ (.refl c) sr er .refl⟩
  | cons _ _ => cases e
theorem rgs_cons {e : Expr} {es : List Expr} {S T : List Nat} {a : MG} {b : MGs} (h1 : RG X e S a) (h2 : RGs X es T b) (hs : (assignEach (e :: es) X.env).map (·.2) = assign e X.env :: (assignEach es X.env).map (·.2) := by rfl) : RGs X (e :: es) (S ++ T) (mgCons a b) := by
  refine pgs_imp (pgs_cons h1 h2 hs) fun vs σ H Q h => ?_
  obtain ⟨c, ds, ε, h, ε', h', hK, hm, rfl, sr, rv, er, e, go⟩ := h
  cases rv with
  | nil => cases e
  | @cons d ds v vs r t =>
    have e' : (match a d ε h with
      | some (ε1, h1) => b ds ε1 h1
      | none => none) = some (ε', h') := e
    cases q : a d ε h with
    | none => rw [q] at e'; cases e'
    | some z =>
      obtain ⟨ε1, h1⟩ := z
      rw [q] at e'
      exact ⟨v, vs, rfl, c, d, ε, h, ε1, h1, hK, hm, rfl, sr, r, er, q, fun c' σ' l s en sv => ⟨c', ds, ε1, h1, ε', h', l.K.trans hK, l.mg.trans hm, rfl, s, t.le l, en, e', fun c2 σ2 l2 s2 en2 sv2 => go c2 σ2 (l.trans l2) s2 en2
        ⟨sv2.len.trans sv.len, fun i hi => (sv2.at_ i fun z => hi (List.mem_append_right _ z)).trans (sv.at_ i fun z => hi (List.mem_append_left _ z))⟩⟩⟩
/-- (a, b, ..) = a tuple of that length -/
def mgTup (n : Nat) (ms : MGs) : MG := fun d ε h => match d with
  | .tup ds => if ds.length = n then ms ds ε h else none
  | _ => none
theorem rg_tup {es : List Expr} {k : Nat} {S : List Nat} {ms : MGs} {pos : Pos} {n : Nat} (hc : X.calm = true) (h : RGs X es S ms) (hn : (assignEach es X.env).length = n := by rfl) (hst : (assignEach es X.env).findIdx? (·.1) = none := by rfl) : RG X (.Tuple es k pos) S (mgTup n ms) := by
  refine pg_imp (pg_tup hc h hn hst) fun v σ H Q h => ?_
  obtain ⟨c, d, ε, h, ε', h', hK, hm, rfl, sr, rv, er, e, go⟩ := h
  cases rv with
  | @tup a ds xs k1 k2 =>
    have e' : (if ds.length = n then ms ds ε h else none) = some (ε', h') := e
    by_cases hl : ds.length = n
    · rw [if_pos hl] at e'
      exact ⟨a, xs, rfl, by rw [← hK]; exact k1, by rw [← k2.length]; exact hl, c, ds, ε, h, ε', h', hK, hm, rfl, sr, k2, er, e', go⟩
    · rw [if_neg hl] at e'; cases e'
  | _ => cases e
/-- o[i] = v, o a list cell -/
def putL (h : EH) (o i v : D) : Option EH := match o, i with
  | .ref n, .int k => (match h[n]? with
    | some (.lst ds) => (match ixN ds.length k with
      | some j => some (h.set n (.lst (ds.set j v)))
      | none => none)
    | _ => none)
  | _, _ => none
def mgSub (o i : M D) : MG := fun v ε h => match o ε h with
  | some (.ok x, h1) => (match i ε h1 with
    | some (.ok y, h2) => (putL h2 x y v).map fun h3 => (ε, h3)
    | _ => none)
  | _ => none
theorem rg_sub {o i : Expr} {mo mi : M D} {pos : Pos} {W : WX} (ho : RE X W o mo) (hi : RE X W i mi)
    (ha : ∀ v, assign (.Subscript o i pos) X.env v = (do
      let ov ← holding [v] (eval o X.env)
      let iv ← holding [v, ov] (eval i X.env)
      standAt pos
      holding [v, ov, iv] (setItem ov iv v)
      release [v, ov, iv] []) := by intro _; rfl) : RG X (.Subscript o i pos) [] (mgSub mo mi) := by
  refine pg_imp (pg_sub ho hi set_list ha) fun v σ H Q h => ?_
  obtain ⟨c, d, ε, h, ε', h', hK, hm, rfl, sr, rv, er, e, go⟩ := h
  unfold mgSub at e
  cases q : mo ε h with
  | none => rw [q] at e; cases e
  | some z =>
    obtain ⟨r1, h1⟩ := z
    cases r1 with
    | ex x => rw [q] at e; cases e
    | ok x =>
      rw [q] at e
      dsimp only at e
      refine ⟨c, ε, h, .ok x, h1, hK, hm, rfl, sr, er, q, Px.ok, fun x' ex c1 ov l1 s1 r1 => ?_⟩
      cases ex
      cases q2 : mi ε h1 with
      | none => rw [q2] at e; cases e
      | some z =>
        obtain ⟨r2, h2⟩ := z
        cases r2 with
        | ex x => rw [q2] at e; cases e
        | ok y =>
          rw [q2] at e
          dsimp only at e
          refine ⟨c1, ε, h1, .ok y, h2, l1.K.trans hK, l1.mg.trans hm, rfl, s1, er.le l1, q2, Px.ok, fun y' ey c2 iv l2 s2 r2 => ?_⟩
          cases ey
          cases q3 : putL h2 x y d with
          | none => rw [q3] at e; cases e
          | some h3 =>
            rw [q3] at e
            cases e
            cases r2 with
            | int k =>
              have r1' := r1.le l2
              cases r1' with
              | @ref n a hn =>
                unfold putL at q3
                dsimp only at q3
                cases q4 : h2[n]? with
                | none => rw [q4] at q3; cases q3
                | some cl =>
                  rw [q4] at q3
                  cases cl with
                  | lst ds =>
                    dsimp only at q3
                    obtain ⟨xs, e1, e2⟩ := s2.cells n a _ hn q4
                    cases q5 : ixN ds.length k with
                    | none => rw [q5] at q3; cases q3
                    | some j =>
                      rw [q5] at q3
                      cases q3
                      refine ⟨a, xs, k, j, rfl, rfl, e1, by rw [← e2.length]; exact q5, ?_⟩
                      have rv2 : Rep c2 d v := (rv.le l1).le l2
                      obtain ⟨l3, s3⟩ := s2.write (o := .lst (xs.set j v)) (k := .lst (ds.set j d)) hn (fun ys z => by
                        rcases z with z | ⟨u, z⟩ <;> rw [e1] at z <;> cases z) (fun o u z => by rw [e1] at z; cases z) fun c' l' eh => ⟨_, eh, (e2.le l').set (rv2.le l') j⟩
                      exact go _ σ ((l1.trans l2).trans l3) s3 (((er.le l1).le l2).le l3) .refl
                  | _ => cases q3
              | _ => cases q3
            | _ => cases x <;> cases q3
def bG (x : Option (Ev × EH)) : Option (RS × EH) := x.map fun z => (.nx z.1, z.2)
def msAsg (a : M D) (g : MG) : MS := fun ε h => bS (a ε h) ε fun d h1 => bG (g d ε h1)
theorem asg_of {K : PySem.W.Frag} {mg : Str → Option Value} {a : M D} {g : MG} {S : List Nat} {D : Ends} {σ : L2.St} {H : Hp} (h : tS K mg W (msAsg a g) D σ H) : tAsg (tE K mg W a) (tG K mg S g) D σ H := by
  obtain ⟨c, ε, h, r, h', hK, hm, rfl, sr, er, e, fin⟩ := h
  unfold tAsg
  refine tX.stm hK hm sr er e fin fun d h1 c1 v e1 l1 s1 r1 => ?_
  cases q : g d ε h1 with
  | none => rw [q] at e1; cases e1
  | some z =>
    obtain ⟨ε2, h2⟩ := z
    rw [q] at e1
    cases e1
    exact ⟨c1, d, ε, h1, ε2, _, l1.K.trans hK, l1.mg.trans hm, rfl, s1, r1, er.le l1, q, fun c' σ' l s en _ => fin c' σ' (l1.trans l) s en⟩
theorem rs_asg {tg e : Expr} {m : M D} {g : MG} {S : List Nat} {pos : Pos} (he : RE X W e m) (hg : RG X tg S g) (hs : swapsWithSole [tg] e pos.line X.env = pure false := by rfl) (hw : swappedStores [tg] e X.env = pure none := by rfl)
    (h1 : (assignEach [tg] X.env).map (·.2) = [assign tg X.env] := by rfl) : RSt X W (.Assign [tg] e pos) (msAsg m g) := ps_imp (ps_asg he hg hs hw h1) fun _ _ _ h => asg_of h
theorem rs_set (i : Nat) {x : Str} {e : Expr} {m : M D} {pos pos' : Pos} (hN : X.N.Nodup) (he : RE X W e m) (hi : X.N[i]? = some x := by rfl) (hx : Loc X.env.scope x := by first | exact Or.inl rfl | exact Or.inr rfl) (hs : swapsWith e (some (.Name x pos')) pos.line X.env = pure false := by rfl)
    (hf : X.fn x = true ∨ X.env.scope.names.lookup x = some .local := by first | exact .inl rfl | exact .inr rfl | assumption) : RSt X W (.Assign [.Name x pos'] e pos) (msAsg m (mgName i)) := by
  refine ps_imp (ps_set hN hi hx he hs hf) fun D σ H h => ?_
  obtain ⟨c, ε, h, r, h', hK, hm, rfl, sr, er, e, fin⟩ := h
  unfold tAsg
  refine tX.stm hK hm sr er e fin fun d h1 c1 v e1 l1 s1 r1 => ?_
  cases e1
  exact fin c1 _ l1 s1 ((er.le l1).set r1 i)
/-- a, b = x, y with plain local names -/
def msPar (i j : Nat) (m : M (List D)) : MS := fun ε h => bS (m ε h) ε fun ds h1 => match ds with
  | [d, e] => some (.nx ((ε.set i (some d)).set j (some e)), h1)
  | _ => none
end
end PD
namespace PD
open PySem PySem.Spec PyProof.Rows L2
variable [LamTab]
/-- the walk J gives ds -/
def WalkR (c : RC) (ds : List D) (J : It) : Prop := ∃ (G : Hp → Prop) (Y : Nat → Hp → V → Hp → Prop), Walk J ds.length G Y ∧ (∀ c', c.LeW c' → G c'.H) ∧
  ∀ (i : Nat) (x : V) (c' : RC) (h : EH) (H' : Hp), c.LeW c' → SR c' h → Y i c'.H x H' → ∃ c'', c''.H = H' ∧ c'.Le c'' ∧ SR c'' h ∧ ∃ d, ds[i]? = some d ∧ Rep c'' d x
theorem WalkR.le {c c1 : RC} {ds : List D} {J : It} (w : WalkR c ds J) (l : c.Le c1) : WalkR c1 ds J := by
  obtain ⟨G, Y, hw, hG, hY⟩ := w
  exact ⟨G, Y, hw, fun c' l' => hG c' (l.toW.trans l'), fun i x c' h H' l' => hY i x c' h H' (l.toW.trans l')⟩
def tI (K : PySem.W.Frag) (mg : Str → Option Value) (W : WX) (m : M (List D)) : TI := tX WalkR K mg W m
abbrev RI (X : Cx) (W : WX) (tg it : Expr) (m : M (List D)) : Prop := PI X tg it (tI X.K X.mg W m)
theorem pi_imp {X : Cx} {tg it : Expr} {t t' : TI} (h : PI X tg it t) (k : ∀ σ H Q, t' σ H Q → t σ H Q) : PI X tg it t' := ⟨fun pins s σ H R I q => h.run pins s σ H R I (k σ H R q)⟩
theorem walkR_list {c : RC} {a : Addr} {ds : List D} {xs : List V} (h : ∀ c', c.LeW c' → SqL c.K c'.H a xs) (r : Reps c ds xs) : WalkR c ds (Itl c.K a) := by
  refine ⟨fun H => SqL c.K H a xs, YAt xs, ?_, h, fun i x c' h H' l s y => ?_⟩
  · rw [r.length]; exact walk_list
  · obtain ⟨rfl, e⟩ := y
    obtain ⟨d, h1, h2⟩ := (r.leW l).getV e
    exact ⟨c', rfl, .refl c', s, d, h1, h2⟩
theorem walkR_tup {c : RC} {a : Addr} {ds : List D} {xs : List V} (h : SqT c.K c.H a xs) (r : Reps c ds xs) : WalkR c ds (Itt c.K a) := by
  refine ⟨fun H => SqT c.K H a xs, YAt xs, ?_, fun c' l => by rw [← l.K]; exact l.sqT h, fun i x c' h H' l s y => ?_⟩
  · rw [r.length]; exact walk_tup
  · obtain ⟨rfl, e⟩ := y
    obtain ⟨d, h1, h2⟩ := (r.leW l).getV e
    exact ⟨c', rfl, .refl c', s, d, h1, h2⟩
def miL (a : M D) : M (List D) := fun ε h => bR (a ε h) fun x h1 => match x with
  | .lst ds => some (.ok ds, h1)
  | .scr ds => some (.ok ds, h1)
  | _ => none
def miT (a : M D) : M (List D) := fun ε h => bR (a ε h) fun x h1 => match x with
  | .tup ds => some (.ok ds, h1)
  | _ => none
def miS (a : M D) : M (List D) := fun ε h => bR (a ε h) fun x h1 => match x with
  | .str z => some (.ok (z.map fun c => .str [c]), h1)
  | _ => none
section
variable {X : Cx} {W : WX} {tg : Expr}
theorem ri_list {e : Expr} {m : M D} (he : RE X W e m) : RI X W tg e (miL m) := by
  refine pi_imp (pi_list he) fun σ H R h => ?_
  obtain ⟨c, ε, h, r, h', hK, hm, rfl, sr, er, e, px, go⟩ := h
  unfold iList
  refine tX.bind hK hm sr er e px fun d h1 c1 v e1 l1 s1 r1 => ?_
  cases r1 with
  | @lst a ds xs k1 k2 k3 =>
    cases e1
    refine ⟨a, rfl, ⟨xs, .inl (.inl k1)⟩, go _ rfl c1 _ l1 s1 ?_⟩
    rw [← hK, ← l1.K]
    exact walkR_list (fun c' l => .inl (.inl (l.lstH k1 k2).1)) k3
  | @scr a ds xs k1 k2 =>
    cases e1
    refine ⟨a, rfl, ⟨xs, by rw [← hK, ← l1.K]; exact k1.sq⟩, go _ rfl c1 _ l1 s1 ?_⟩
    rw [← hK, ← l1.K]
    exact walkR_list (fun c' l => by rw [← l.K]; exact (l.scrL k1).sq) k2
  | _ => cases e1
theorem ri_tup {e : Expr} {m : M D} (he : RE X W e m) : RI X W tg e (miT m) := by
  refine pi_imp (pi_tup he) fun σ H R h => ?_
  obtain ⟨c, ε, h, r, h', hK, hm, rfl, sr, er, e, px, go⟩ := h
  unfold iTup
  refine tX.bind hK hm sr er e px fun d h1 c1 v e1 l1 s1 r1 => ?_
  cases r1 with
  | @tup a ds xs k1 k2 =>
    cases e1
    refine ⟨a, rfl, ⟨xs, by rw [← hK, ← l1.K]; exact k1⟩, go _ rfl c1 _ l1 s1 ?_⟩
    rw [← hK, ← l1.K]
    exact walkR_tup k1 k2
  | _ => cases e1
theorem ri_str {e : Expr} {m : M D} (he : RE X W e m) : RI X W tg e (miS m) := by
  refine pi_imp (pi_str he) fun σ H R h => ?_
  obtain ⟨c, ε, h, r, h', hK, hm, rfl, sr, er, e, px, go⟩ := h
  unfold iStr
  refine tX.bind hK hm sr er e px fun d h1 c1 v e1 l1 s1 r1 => ?_
  cases r1 with
  | str z =>
    cases e1
    refine ⟨_, rfl, go _ rfl c1 _ l1 s1 ⟨fun _ => True, fun i H v H' => H' = H ∧ ∃ c, (⟨z.toArray⟩ : Str).cps[i]? = some c ∧ v = .str ⟨#[c]⟩, ?_, fun _ _ => trivial, fun i x c' h H' l s y => ?_⟩⟩
    · have w := walk_str (z := (⟨z.toArray⟩ : Str))
      rw [List.length_map]
      exact w
    · obtain ⟨rfl, k, h1, rfl⟩ := y
      refine ⟨c', rfl, .refl c', s, .str [k], ?_, .str [k]⟩
      have h1' : z[i]? = some k := by simpa using h1
      rw [List.getElem?_map, h1']
      rfl
  | _ => cases e1
/-- range(n) -/
def rngD (lo : Int) (n : Nat) : List D := (List.range n).map fun i => .int (lo + (i : Nat))
def miR1 (a : M (List D)) : M (List D) := fun ε h => bR (a ε h) fun xs h1 => match xs with
  | [.int j] => if -(2 ^ 62) ≤ j ∧ j < 2 ^ 62 then some (.ok (rngD 0 j.toNat), h1) else none
  | _ => none
def miR2 (a : M (List D)) : M (List D) := fun ε h => bR (a ε h) fun xs h1 => match xs with
  | [.int i, .int j] => if -(2 ^ 62) ≤ i ∧ i < 2 ^ 62 ∧ -(2 ^ 62) ≤ j ∧ j < 2 ^ 62 then some (.ok (rngD i (j - i).toNat), h1) else none
  | _ => none
theorem walkR_range {c : RC} (lo : Int) (n : Nat) : WalkR c (rngD lo n) (Itr lo n) := by
  refine ⟨fun _ => True, fun i H x H' => i < n ∧ H' = H ∧ x = .int (lo + (i : Nat)), ?_, fun _ _ => trivial, fun i x c' h H' l s y => ?_⟩
  · have w := walk_range (lo := lo) (n := n)
    have e : (rngD lo n).length = n := by simp [rngD]
    rw [e]
    exact ⟨w.goes, w.stops, fun i H x H' hi g y => (show i < n ∧ H' = H ∧ x = .int (lo + (i : Nat)) from ⟨hi, w.yields i H x H' hi g y⟩)⟩
  · obtain ⟨hi, rfl, rfl⟩ := y
    refine ⟨c', rfl, .refl c', s, .int (lo + (i : Nat)), ?_, .int _⟩
    unfold rngD
    rw [List.getElem?_map, List.getElem?_range hi]
    rfl
theorem ri_range1 {a : Expr} {ma : M (List D)} {p pos : Pos} (hm : X.mg "range" = none) (ha : RA X W [a] ma) (hg : Gl X "range" := by rfl) (hs : starEach [a] X.env = [(false, eval a X.env)] := by rfl) : RI X W tg (.Call (.Name "range" p) [a] [] pos) (miR1 ma) := by
  refine pi_imp (pi_range1 hg hm ha hs) fun σ H R h => ?_
  obtain ⟨c, ε, h, r, h', hK, hm, rfl, sr, er, e, px, go⟩ := h
  unfold iRng1
  refine tX.bind hK hm sr er e px fun ds h1 c1 vs e1 l1 s1 r1 => ?_
  cases r1 with
  | nil => cases e1
  | cons q t =>
    cases q with
    | int j =>
      cases t with
      | nil =>
        have e' : (if -(2 ^ 62) ≤ j ∧ j < 2 ^ 62 then some (PD.R.ok (rngD 0 j.toNat), h1) else none) = some (r, h') := e1
        by_cases hc : -(2 ^ 62) ≤ j ∧ j < 2 ^ 62
        · rw [if_pos hc] at e'
          cases e'
          exact ⟨j, rfl, hc.1, hc.2, go _ rfl c1 _ l1 s1 (walkR_range 0 j.toNat)⟩
        · rw [if_neg hc] at e'; cases e'
      | cons _ _ => cases e1
    | _ => cases e1
/-- pairs, each a new tuple -/
theorem walkR_pair {c : RC} {J : It} {G : Hp → Prop} {f g : Nat → Option V} {ds : List D} (w : Walk J ds.length G (YPair f g)) (hG : ∀ c', c.LeW c' → G c'.H)
    (hd : ∀ (i : Nat) (x y : V) (c' : RC), c.LeW c' → f i = some x → g i = some y → ∃ d e, ds[i]? = some (.tup [d, e]) ∧ Rep c' d x ∧ Rep c' e y) : WalkR c ds J := by
  refine ⟨G, _, w, hG, fun i v c' h H' l s y => ?_⟩
  obtain ⟨T, x, z, rfl, hT, rfl, h1, h2⟩ := y
  obtain ⟨d, e, e1, r1, r2⟩ := hd i x z c' l h1 h2
  obtain ⟨l', s', f'⟩ := s.new (o := .tup [x, z]) hT
  exact ⟨c'.put T (.tup [x, z]), rfl, l', s', _, e1, .tup (.inl (.inl upd_same)) (.cons (r1.le l') (.cons (r2.le l') .nil))⟩
def zipD (as bs : List D) : List D := (as.zip bs).map fun p => .tup [p.1, p.2]
def miZip (a : M (List D)) : M (List D) := fun ε h => bR (a ε h) fun xs h1 => match xs with
  | [x, y] => (match x, y with
    | .lst as, .lst bs => some (.ok (zipD as bs), h1)
    | .tup as, .tup bs => some (.ok (zipD as bs), h1)
    | .scr as, .lst bs => some (.ok (zipD as bs), h1)
    | .lst as, .scr bs => some (.ok (zipD as bs), h1)
    | .scr as, .scr bs => some (.ok (zipD as bs), h1)
    | _, _ => none)
  | _ => none
/-- lists, locked ones too -/
def lsD : D → Option (List D)
  | .lst as => some as
  | .scr as => some as
  | _ => none
theorem lsD_ok {c : RC} {d : D} {v : V} {as : List D} (r : Rep c d v) (e : lsD d = some as) : ∃ a xs, v = .ref a ∧ SqL c.K c.H a xs ∧ Reps c as xs ∧ ∀ c', c.LeW c' → SqL c'.K c'.H a xs := by
  cases r with
  | @lst a as' xs k1 k2 k3 =>
    cases e
    exact ⟨a, xs, rfl, .inl (.inl k1), k3, fun c' l => .inl (.inl (l.lstH k1 k2).1)⟩
  | @scr a as' xs k1 k2 =>
    cases e
    exact ⟨a, xs, rfl, k1.sq, k2, fun c' l => (l.scrL k1).sq⟩
  | _ => cases e
theorem zip_at {c : RC} {as bs : List D} {xs ys : List V} (ra : Reps c as xs) (rb : Reps c bs ys) (i : Nat) (x y : V) (c' : RC) (l : c.LeW c') (e1 : xs[i]? = some x) (e2 : ys[i]? = some y) : ∃ d e, (zipD as bs)[i]? = some (.tup [d, e]) ∧ Rep c' d x ∧ Rep c' e y := by
  obtain ⟨d, h1, r1⟩ := ra.getV e1
  obtain ⟨e, h2, r2⟩ := rb.getV e2
  refine ⟨d, e, ?_, r1.leW l, r2.leW l⟩
  unfold zipD
  rw [List.getElem?_map, List.getElem?_zip_eq_some.mpr (show as[i]? = some (d, e).1 ∧ bs[i]? = some (d, e).2 from ⟨h1, h2⟩)]
  rfl
theorem ri_zip {e e2 : Expr} {ma : M (List D)} {p pos tpos : Pos} {elts : List Expr} {kk : Nat} (hm : X.mg "zip" = none) (ha : RA X W [e, e2] ma) (hg : Gl X "zip" := by rfl)
    (hs : starEach [e, e2] X.env = (false, eval e X.env) :: starEach [e2] X.env := by rfl) (hpl : (backTo pos (starEach [e2] X.env)).any (·.1) = false := by rfl) : RI X W (.Tuple elts kk tpos) (.Call (.Name "zip" p) [e, e2] [] pos) (miZip ma) := by
  refine pi_imp (RZ.pi_zipA hg hm ha hs hpl) fun σ H R h => ?_
  obtain ⟨c, ε, h, r, h', hK, hm, rfl, sr, er, e, px, go⟩ := h
  unfold RZ.iZipA
  refine tX.bind hK hm sr er e px fun ds h1 c1 vs e1 l1 s1 r1 => ?_
  have hK1 : c1.K = X.K := l1.K.trans hK
  match ds, r1, e1 with
  | [d1, d2], .cons q1 (.cons q2 .nil), e1 =>
    cases z1 : lsD d1 with
    | some as =>
      cases z2 : lsD d2 with
      | some bs =>
        have e1' : some (PD.R.ok (zipD as bs), h1) = some (r, h') := by
          cases d1 <;> first
            | (cases z1; done)
            | (cases z1; cases d2 <;> first
                | (cases z2; done)
                | (cases z2; exact e1))
        cases e1'
        obtain ⟨a, xs, rfl, g1, g2, g3⟩ := lsD_ok q1 z1
        obtain ⟨b, ys, rfl, j1, j2, j3⟩ := lsD_ok q2 z2
        refine ⟨a, b, xs, ys, rfl, .inl ⟨by rw [← hK1]; exact g1, by rw [← hK1]; exact j1, go _ rfl c1 _ l1 s1 (walkR_pair (G := fun H => SqL X.K H a xs ∧ SqL X.K H b ys) (walk_zip ?_) (fun c' l => ⟨by have := g3 c' l; rw [l.K, hK1] at this; exact this, by have := j3 c' l; rw [l.K, hK1] at this; exact this⟩) (zip_at g2 j2))⟩⟩
        simp [zipD, g2.length, j2.length]
      | none =>
        cases d1 <;> first
          | (cases z1; done)
          | (cases d2 <;> first
              | (cases z2; done)
              | (cases e1; done))
    | none =>
    cases q1 with
    | @lst a as xs k1 k2 k3 => cases z1
    | @scr a as xs k1 k2 => cases z1
    | @tup a as xs k1 k2 =>
      cases q2 with
      | @tup b bs ys j1 j2 =>
        cases e1
        have w : Walk (RZ.ItzT X.K a b) (zipD as bs).length (fun H => SqT X.K H a xs ∧ SqT X.K H b ys) (YPair (fun i => xs[i]?) (fun i => ys[i]?)) := by
          have en : (zipD as bs).length = min xs.length ys.length := by simp [zipD, k2.length, j2.length]
          rw [en]
          refine ⟨fun i _ hi q => ?_, fun _ q => ⟨xs, ys, q.1, q.2, by omega⟩, fun i H v H' _ q y => ?_⟩
          · have h1 : i < xs.length := by omega
            have h2 : i < ys.length := by omega
            exact ⟨xs, ys, xs[i], ys[i], q.1, q.2, by simp [h1], by simp [h2]⟩
          · obtain ⟨T, x, z, h1, h2, h3, h4, h5⟩ := y
            exact ⟨T, x, z, h1, h2, h3, h4 xs q.1, h5 ys q.2⟩
        refine ⟨a, b, xs, ys, rfl, .inr ⟨by rw [← hK1]; exact k1, by rw [← hK1]; exact j1, go _ rfl c1 _ l1 s1 (walkR_pair w (fun c' l => ?_) (zip_at k2 j2))⟩⟩
        rw [← hK1, ← l.K]
        exact ⟨l.sqT k1, l.sqT j1⟩
      | _ => cases e1
    | _ => cases e1
  | [], _, e1 => cases e1
  | [_], _, e1 => cases e1
  | _ :: _ :: _ :: _, _, e1 => cases e1
def enumD (as : List D) : List D := as.zipIdx.map fun p => .tup [.int (p.2 : Nat), p.1]
def forL (g : MG) (b : MS) : List D → Ev → EH → Option (RS × EH)
  | [], ε, h => some (.nx ε, h)
  | d :: ds, ε, h => match g d ε h with
    | none => none
    | some (ε1, h1) => match b ε1 h1 with
      | some (.nx ε2, h2) => forL g b ds ε2 h2
      | some (.ct ε2, h2) => forL g b ds ε2 h2
      | some (.bk ε2, h2) => some (.nx ε2, h2)
      | some (.rt d, h2) => some (.rt d, h2)
      | some (.ex e ε2, h2) => some (.ex e ε2, h2)
      | none => none
def msFor (it : M (List D)) (g : MG) (b : MS) : MS := fun ε h => bS (it ε h) ε fun ds h1 => forL g b ds ε h1
theorem rs_for {iter : Expr} {body : List Stmt} {mi : M (List D)} {g : MG} {S : List Nat} {b : MS} {pos : Pos} (hp : PassesOwn (model X.prog X.w) X.A X.env X.xe) (hc : X.calm = true) (hi : RI X W tg iter mi) (hg : RG X tg S g) (hb : RSs X W body b)
    (hs : ∀ x, foldedSetIterable iter X.env x = pure x := by intro _; rfl) : RSt X W (.For tg iter body [] pos) (msFor mi g b) := by
  refine ps_imp (ps_for hp hc hi hg hb hs) fun D σ H h => ?_
  obtain ⟨c, ε, h, r, h', hK, hm, rfl, sr, er, e, fin⟩ := h
  unfold tFor
  refine tX.stm hK hm sr er e fin fun ds h1 c1 J e1 l1 s1 r1 => ?_
  obtain ⟨G, Y, hw, hG, hY⟩ := r1
  have hK1 := l1.K.trans hK
  have hm1 := l1.mg.trans hm
  refine for_it hw (fun i σ H => ∃ c2 ε2 h2, c1.Le c2 ∧ c2.H = H ∧ SR c2 h2 ∧ EnvR c2 ε2 σ ∧ forL g b (ds.drop i) ε2 h2 = some (r, h')) ⟨c1, ε, h1, .refl c1, rfl, s1, er.le l1, by simpa using e1⟩ ?_ ?_ ?_
  · rintro i σ H hi ⟨c2, ε2, h2, l2, rfl, _⟩
    exact hG c2 l2.toW
  · rintro i x σ H H' hi ⟨c2, ε2, h2, l2, rfl, s2, en2, e2⟩ y
    obtain ⟨c3, rfl, l3, s3, d, hd, rd⟩ := hY i x c2 h2 H' l2.toW s2 y
    have hdr : ds.drop i = d :: ds.drop (i + 1) := by
      rw [List.drop_eq_getElem_cons hi]
      have : ds[i] = d := by
        have := List.getElem?_eq_getElem hi
        rw [this] at hd
        exact Option.some.inj hd
      rw [this]
    rw [hdr] at e2
    unfold forL at e2
    cases q : g d ε2 h2 with
    | none => rw [q] at e2; cases e2
    | some z =>
      obtain ⟨ε3, h3⟩ := z
      rw [q] at e2
      dsimp only at e2
      refine ⟨c3, d, ε2, h2, ε3, h3, ((l3.K.trans l2.K).trans hK1), ((l3.mg.trans l2.mg).trans hm1), rfl, s3, rd, en2.le l3, q, fun c4 σ4 l4 s4 en4 _ => ?_⟩
      have L4 := (l2.trans l3).trans l4
      cases q2 : b ε3 h3 with
      | none => rw [q2] at e2; cases e2
      | some z =>
        obtain ⟨rb, h5⟩ := z
        rw [q2] at e2
        refine ⟨c4, ε3, h3, rb, h5, L4.K.trans hK1, L4.mg.trans hm1, rfl, s4, en4, q2, ?_⟩
        cases rb with
        | nx ε5 => exact fun c5 σ5 l5 s5 en5 => ⟨c5, ε5, h5, L4.trans l5, rfl, s5, en5, e2⟩
        | ct ε5 => exact fun c5 σ5 l5 s5 en5 => ⟨c5, ε5, h5, L4.trans l5, rfl, s5, en5, e2⟩
        | bk ε5 => cases e2; exact (fin.le (l1.trans L4))
        | rt d5 => cases e2; exact (fin.le (l1.trans L4))
        | ex x5 ε5 => cases e2; exact (fin.le (l1.trans L4))
  · rintro σ H ⟨c2, ε2, h2, l2, rfl, s2, en2, e2⟩
    rw [List.drop_length] at e2
    cases e2
    exact fin c2 σ (l1.trans l2) s2 en2
end
end PD
namespace PD
open PySem PySem.Spec PyProof.Rows L2
variable [LamTab]
/-- nothing is let out -/
abbrev W0 : WX := fun _ _ _ _ => False
def wipeE (ε : Ev) : List Nat → Ev
  | [] => ε
  | i :: r => (wipeE ε r).set i none
theorem wipe_envR {c : RC} : ∀ (vs : List Nat) {ε : Ev} {σ : L2.St}, EnvR c ε σ → EnvR c (wipeE ε vs) (wipe σ vs)
  | [], _, _, r => r
  | i :: vs, ε, σ, r => by
    have ih := wipe_envR vs r
    unfold wipeE wipe
    refine ⟨by rw [List.length_set, List.length_set]; exact ih.len, fun j d h => ?_⟩
    by_cases hj : i = j
    · subst hj
      have hi : i < (wipeE ε vs).length := by
        have := (List.getElem?_eq_some_iff.mp h).1
        rwa [List.length_set] at this
      rw [List.getElem?_set_self hi] at h
      cases h
    · rw [List.getElem?_set_ne hj] at h
      rw [List.getElem?_set_ne hj]
      exact ih.at_ j d h
theorem wipe_in {i : Nat} : ∀ {vs : List Nat} {σ : L2.St}, i ∈ vs → i < σ.length → (wipe σ vs)[i]? = some none
  | v :: vs, σ, hi, hl => by
    unfold wipe
    by_cases e : v = i
    · subst e
      rw [List.getElem?_set_self (by rw [wipe_length]; exact hl)]
    · rw [List.getElem?_set_ne e]
      exact wipe_in ((List.mem_cons.mp hi).resolve_left fun z => e z.symm) hl
theorem wipe_save {S vs : List Nat} {σ σ' : L2.St} (s : Save S (wipe σ vs) σ') (h : ∀ i ∈ S, i ∈ vs) : wipe σ' vs = wipe σ vs := by
  have hl : σ'.length = σ.length := by rw [s.len, wipe_length]
  refine List.ext_getElem? fun i => ?_
  by_cases hi : i ∈ vs
  · by_cases hb : i < σ.length
    · rw [wipe_in hi (by rw [hl]; exact hb), wipe_in hi hb]
    · rw [List.getElem?_eq_none (by rw [wipe_length, hl]; omega), List.getElem?_eq_none (by rw [wipe_length]; omega)]
  · rw [wipe_out hi, s.at_ i fun z => hi (h i z)]
/-- the tests of a clause -/
abbrev RTs (X : Cx) (W : WX) (ifs : List Expr) (m : M Bool) : Prop := PTs X ifs (tT X.K X.mg W m)
def mYes : M Bool := fun _ h => some (.ok true, h)
theorem pts_imp {X : Cx} {ifs : List Expr} {t t' : TT} (h : PTs X ifs t) (k : ∀ σ H Q, t' σ H Q → t σ H Q) : PTs X ifs t' := ⟨fun pins s σ H Q I q => h.run pins s σ H Q I (k σ H Q q)⟩
theorem rts_nil {X : Cx} {W : WX} : RTs X W [] mYes := by
  refine pts_imp pts_nil fun σ H Q h => ?_
  obtain ⟨c, ε, h, r, h', hK, hm, rfl, sr, er, e, px, go⟩ := h
  cases e
  exact go _ rfl c _ (.refl c) sr rfl
theorem rts_one {X : Cx} {W : WX} {e : Expr} {m : M Bool} (h : RT X W e m) : RTs X W [e] m := pts_one h
/-- the items of a comprehension; nothing is raised within -/
def lcL (g : MG) (t : M Bool) (e : M D) : List D → Ev → EH → Option (List D × EH)
  | [], _, h => some ([], h)
  | d :: ds, ε, h => match g d ε h with
    | none => none
    | some (ε1, h1) => match t ε1 h1 with
      | some (.ok true, h2) => (match e ε1 h2 with
        | some (.ok y, h3) => (match lcL g t e ds ε h3 with
          | some (ys, h4) => some (y :: ys, h4)
          | none => none)
        | _ => none)
      | some (.ok false, h2) => lcL g t e ds ε h2
      | _ => none
def okL (x : Option (List D × EH)) : O D := match x with
  | some (ds, h) => if ds.length ≤ sizeLine then some (.ok (.lst ds), h) else none
  | none => none
def mLc (vs : List Nat) (it : M (List D)) (g : MG) (t : M Bool) (e : M D) : M D := fun ε h => bR (it ε h) fun ds h1 => okL (lcL g t e ds (wipeE ε vs) h1)
/-- other things not to be touched -/
abbrev RC.av (c : RC) (B : Addr → Prop) : RC := { c with B := B }
mutual
theorem Rep.fewer {c : RC} {B : Addr → Prop} (hB : ∀ a, B a → c.B a) : ∀ {d : D} {v : V}, Rep c d v → Rep (c.av B) d v
  | _, _, .non => .non
  | _, _, .bl b => .bl b
  | _, _, .int i => .int i
  | _, _, .str cs => .str cs
  | _, _, .tup h r => .tup h (Reps.fewer hB r)
  | _, _, .lst h f r => .lst h ⟨fun z => f.1 (hB _ z), f.2⟩ (Reps.fewer hB r)
  | _, _, .scr h r => .scr h (Reps.fewer hB r)
  | _, _, .obj m h f r => .obj m h ⟨fun z => f.1 (hB _ z), f.2⟩ (RepF.fewer hB r)
  | _, _, .dic h i f r => .dic h i ⟨fun z => f.1 (hB _ z), f.2⟩ (RepP.fewer hB r)
  | _, _, .fn h f h2 f2 cr r => .fn h ⟨fun z => f.1 (hB _ z), f.2⟩ h2 ⟨fun z => f2.1 (hB _ z), f2.2⟩ (cr.imp fun b o hb fb => ⟨hb, fun z => fb.1 (hB _ z), fb.2⟩) (Reps.fewer hB r)
  | _, _, .exc m h f h2 f2 r => .exc m h ⟨fun z => f.1 (hB _ z), f.2⟩ h2 ⟨fun z => f2.1 (hB _ z), f2.2⟩ (RepF.fewer hB r)
  | _, _, .ref h => .ref h
theorem Reps.fewer {c : RC} {B : Addr → Prop} (hB : ∀ a, B a → c.B a) : ∀ {ds : List D} {vs : List V}, Reps c ds vs → Reps (c.av B) ds vs
  | _, _, .nil => .nil
  | _, _, .cons h t => .cons (Rep.fewer hB h) (Reps.fewer hB t)
theorem RepP.fewer {c : RC} {B : Addr → Prop} (hB : ∀ a, B a → c.B a) : ∀ {ds : List (List Key × D)} {vs : List (List Key × V)}, RepP c ds vs → RepP (c.av B) ds vs
  | _, _, .nil => .nil
  | _, _, .cons h t => .cons (Rep.fewer hB h) (RepP.fewer hB t)
theorem RepF.fewer {c : RC} {B : Addr → Prop} (hB : ∀ a, B a → c.B a) : ∀ {ds : List (Str × D)} {vs : List (Str × V)}, RepF c ds vs → RepF (c.av B) ds vs
  | _, _, .nil => .nil
  | _, _, .cons h t => .cons (Rep.fewer hB h) (RepF.fewer hB t)
end
/-- c before the list at p was laid, c' with the list not to be touched -/
structure Over (c c' : RC) (p : Addr) : Prop where
  le : c.Le c'
  Bp : c'.B p
  new : c.H p = none
  bt : ∀ a, c.B a → ∃ o, c.H a = some o
theorem Over.step {c c' c'' : RC} {p : Addr} (o : Over c c' p) (l : c'.Le c'') : Over c c'' p := ⟨o.le.trans l, l.B p o.Bp, o.new, o.bt⟩
/-- back: the list is one's own -/
theorem Over.back {c c' : RC} {p : Addr} (o : Over c c' p) : c.Le (c'.av c.B) := ⟨o.le.K, o.le.mg, fun _ h => h, fun _ h => .inl h, o.le.dom, o.le.pre, o.le.keep, o.le.tup, o.le.frz⟩
theorem Over.ne {c c' : RC} {p : Addr} (o : Over c c' p) {a : Addr} {u : HO} (h : c.H a = some u) : a ≠ p := fun z => by
  rw [z, o.new] at h; cases h
theorem Over.sr {c c' : RC} {p : Addr} {h : EH} (o : Over c c' p) (s : SR c' h) : SR (c'.av c.B) h :=
  ⟨s.len, s.nd, fun n a k e1 e2 => (by
    have r := s.cells n a k e1 e2
    cases k with
    | lst ds => obtain ⟨xs, h1, h2⟩ := r; exact ⟨xs, h1, h2.fewer o.le.B⟩
    | dic t kvs => obtain ⟨ob, zs, h1, h3, h2⟩ := r; exact ⟨ob, zs, h1, h3, h2.fewer o.le.B⟩
    | obj C fs => obtain ⟨Ca, dx, vs, h0, h1, h2⟩ := r; exact ⟨Ca, dx, vs, h0, h1, h2.fewer o.le.B⟩), fun a ha hb => s.nb a ha (o.le.B a hb), fun a hb => s.bt a (o.le.B a hb)⟩
mutual
theorem Rep.more {c : RC} {p : Addr} {xs : List V} (hp : c.H p = none) : ∀ {d : D} {v : V}, Rep c d v → Rep { c with B := fun a => c.B a ∨ a = p, H := upd c.H p (.lst xs) } d v
  | _, _, .non => .non
  | _, _, .bl b => .bl b
  | _, _, .int i => .int i
  | _, _, .str cs => .str cs
  | _, _, .tup (a := a) (xs := ys) h r => .tup (by
      rcases h with (h | ⟨u, h⟩) | h
      · exact .inl (.inl ((upd_ne (show a ≠ p from fun z => by rw [z, hp] at h; cases h)).trans h))
      · exact .inl (.inr ⟨u, (upd_ne (show a ≠ p from fun z => by rw [z, hp] at h; cases h)).trans h⟩)
      · exact .inr h) (Reps.more hp r)
  | _, _, .lst (a := a) h f r => by
      have ne : a ≠ p := fun z => by rw [z, hp] at h; cases h
      exact .lst ((upd_ne ne).trans h) ⟨fun z => z.elim f.1 ne, f.2⟩ (Reps.more hp r)
  | _, _, .scr (a := a) h r => .scr (by
      rcases h with ⟨u, h⟩ | h
      · exact .inl ⟨u, (upd_ne (show a ≠ p from fun z => by rw [z, hp] at h; cases h)).trans h⟩
      · exact .inr h) (Reps.more hp r)
  | _, _, .obj (a := a) m h f r => by
      have ne : a ≠ p := fun z => by rw [z, hp] at h; cases h
      exact .obj m ((upd_ne ne).trans h) ⟨fun z => z.elim f.1 ne, f.2⟩ (RepF.more hp r)
  | _, _, .dic (a := a) h i f r => by
      have ne : a ≠ p := fun z => by rw [z, hp] at h; cases h
      exact .dic ((upd_ne ne).trans h) i ⟨fun z => z.elim f.1 ne, f.2⟩ (RepP.more hp r)
  | _, _, .fn h f h2 f2 cr r => by
      have ne : ∀ {a : Addr} {o : HO}, c.H a = some o → a ≠ p := fun e z => by rw [z, hp] at e; cases e
      exact .fn ((upd_ne (ne h)).trans h) ⟨fun z => z.elim f.1 (ne h), f.2⟩ ((upd_ne (ne h2)).trans h2) ⟨fun z => z.elim f2.1 (ne h2), f2.2⟩ (cr.imp fun b o hb fb => ⟨(upd_ne (ne hb)).trans hb, fun z => z.elim fb.1 (ne hb), fb.2⟩) (Reps.more hp r)
  | _, _, .exc m h f h2 f2 r => by
      have ne : ∀ {a : Addr} {o : HO}, c.H a = some o → a ≠ p := fun e z => by rw [z, hp] at e; cases e
      exact .exc m ((upd_ne (ne h)).trans h) ⟨fun z => z.elim f.1 (ne h), f.2⟩ ((upd_ne (ne h2)).trans h2) ⟨fun z => z.elim f2.1 (ne h2), f2.2⟩ (RepF.more hp r)
  | _, _, .ref h => .ref h
theorem Reps.more {c : RC} {p : Addr} {xs : List V} (hp : c.H p = none) : ∀ {ds : List D} {vs : List V}, Reps c ds vs → Reps { c with B := fun a => c.B a ∨ a = p, H := upd c.H p (.lst xs) } ds vs
  | _, _, .nil => .nil
  | _, _, .cons h t => .cons (Rep.more hp h) (Reps.more hp t)
theorem RepP.more {c : RC} {p : Addr} {xs : List V} (hp : c.H p = none) : ∀ {ds : List (List Key × D)} {vs : List (List Key × V)}, RepP c ds vs → RepP { c with B := fun a => c.B a ∨ a = p, H := upd c.H p (.lst xs) } ds vs
  | _, _, .nil => .nil
  | _, _, .cons h t => .cons (Rep.more hp h) (RepP.more hp t)
theorem RepF.more {c : RC} {p : Addr} {xs : List V} (hp : c.H p = none) : ∀ {ds : List (Str × D)} {vs : List (Str × V)}, RepF c ds vs → RepF { c with B := fun a => c.B a ∨ a = p, H := upd c.H p (.lst xs) } ds vs
  | _, _, .nil => .nil
  | _, _, .cons h t => .cons (Rep.more hp h) (RepF.more hp t)
end
/-- the start -/
theorem Over.start {c : RC} {h : EH} {p : Addr} {xs : List V} (s : SR c h) (hp : c.H p = none) : Over c { c with B := fun a => c.B a ∨ a = p, H := upd c.H p (.lst xs) } p ∧ SR { c with B := fun a => c.B a ∨ a = p, H := upd c.H p (.lst xs) } h := by
  have np : p ∉ c.ρ := fun z => by
    obtain ⟨o, e⟩ := s.ex z
    rw [hp] at e; cases e
  have ne : ∀ a o, c.H a = some o → a ≠ p := fun a o e z => by rw [z, hp] at e; cases e
  refine ⟨⟨⟨rfl, ⟨rfl, tabs_upd (noTab_none hp)⟩, fun _ h => .inl h, fun a h => h.imp id fun z => by rw [z]; exact hp, fun a u e => ⟨u, (upd_ne (ne a u e)).trans e⟩, fun _ _ h => h, fun a u e _ n => ⟨(upd_ne (ne a u e)).trans e, n⟩, fun a ys e => ?_, fun a o u e => (upd_ne (ne a _ e)).trans e⟩, .inr rfl, hp, s.bt⟩, ⟨s.len, s.nd, fun n a k e1 e2 => ?_, fun a ha z => z.elim (s.nb a ha) fun z => np (z ▸ ha), fun a hb => ?_⟩⟩
  · rcases e with e | ⟨u, e⟩
    · exact .inl ((upd_ne (ne a _ e)).trans e)
    · exact .inr ⟨u, (upd_ne (ne a _ e)).trans e⟩
  · have r := s.cells n a k e1 e2
    cases k with
    | lst ds => obtain ⟨ys, h1, h2⟩ := r; exact ⟨ys, (upd_ne (ne a _ h1)).trans h1, h2.more hp⟩
    | dic t kvs => obtain ⟨ob, zs, h1, h3, h2⟩ := r; exact ⟨ob, zs, (upd_ne (ne a _ h1)).trans h1, h3, h2.more hp⟩
    | obj C fs => obtain ⟨Ca, dx, vs, h0, h1, h2⟩ := r; exact ⟨Ca, dx, vs, h0, (upd_ne (ne a _ h1)).trans h1, h2.more hp⟩
  · rcases hb with hb | rfl
    · obtain ⟨u, e⟩ := s.bt a hb
      exact ⟨u, (upd_ne (ne a u e)).trans e⟩
    · exact ⟨_, upd_same⟩
mutual
theorem Rep.putB {c : RC} {p : Addr} {xs ys : List V} (hB : c.B p) (hp : c.H p = some (.lst xs)) : ∀ {d : D} {v : V}, Rep c d v → Rep (c.put p (.lst ys)) d v
  | _, _, .non => .non
  | _, _, .bl b => .bl b
  | _, _, .int i => .int i
  | _, _, .str cs => .str cs
  | _, _, .tup (a := a) h r => .tup (by
      rcases h with (h | ⟨u, h⟩) | h
      · exact .inl (.inl ((upd_ne (show a ≠ p from fun z => by rw [z, hp] at h; cases h)).trans h))
      · exact .inl (.inr ⟨u, (upd_ne (show a ≠ p from fun z => by rw [z, hp] at h; cases h)).trans h⟩)
      · exact .inr h) (Reps.putB hB hp r)
  | _, _, .lst (a := a) h f r => by
      have ne : a ≠ p := fun z => f.1 (z ▸ hB)
      exact .lst ((upd_ne ne).trans h) f (Reps.putB hB hp r)
  | _, _, .scr (a := a) h r => .scr (by
      rcases h with ⟨u, h⟩ | h
      · exact .inl ⟨u, (upd_ne (show a ≠ p from fun z => by rw [z, hp] at h; cases h)).trans h⟩
      · exact .inr h) (Reps.putB hB hp r)
  | _, _, .obj (a := a) m h f r => by
      have ne : a ≠ p := fun z => f.1 (z ▸ hB)
      exact .obj m ((upd_ne ne).trans h) f (RepF.putB hB hp r)
  | _, _, .dic (a := a) h i f r => by
      have ne : a ≠ p := fun z => f.1 (z ▸ hB)
      exact .dic ((upd_ne ne).trans h) i f (RepP.putB hB hp r)
  | _, _, .fn h f h2 f2 cr r => by
      have ne : ∀ {a : Addr}, c.fr a → a ≠ p := fun f z => f.1 (z ▸ hB)
      exact .fn ((upd_ne (ne f)).trans h) f ((upd_ne (ne f2)).trans h2) f2 (cr.imp fun b o hb fb => ⟨(upd_ne (ne fb)).trans hb, fb⟩) (Reps.putB hB hp r)
  | _, _, .exc m h f h2 f2 r => by
      have ne : ∀ {a : Addr}, c.fr a → a ≠ p := fun f z => f.1 (z ▸ hB)
      exact .exc m ((upd_ne (ne f)).trans h) f ((upd_ne (ne f2)).trans h2) f2 (RepF.putB hB hp r)
  | _, _, .ref h => .ref h
theorem Reps.putB {c : RC} {p : Addr} {xs ys : List V} (hB : c.B p) (hp : c.H p = some (.lst xs)) : ∀ {ds : List D} {vs : List V}, Reps c ds vs → Reps (c.put p (.lst ys)) ds vs
  | _, _, .nil => .nil
  | _, _, .cons h t => .cons (Rep.putB hB hp h) (Reps.putB hB hp t)
theorem RepP.putB {c : RC} {p : Addr} {xs ys : List V} (hB : c.B p) (hp : c.H p = some (.lst xs)) : ∀ {ds : List (List Key × D)} {vs : List (List Key × V)}, RepP c ds vs → RepP (c.put p (.lst ys)) ds vs
  | _, _, .nil => .nil
  | _, _, .cons h t => .cons (Rep.putB hB hp h) (RepP.putB hB hp t)
theorem RepF.putB {c : RC} {p : Addr} {xs ys : List V} (hB : c.B p) (hp : c.H p = some (.lst xs)) : ∀ {ds : List (Str × D)} {vs : List (Str × V)}, RepF c ds vs → RepF (c.put p (.lst ys)) ds vs
  | _, _, .nil => .nil
  | _, _, .cons h t => .cons (Rep.putB hB hp h) (RepF.putB hB hp t)
end
theorem Over.putB {c c' : RC} {h : EH} {p : Addr} {xs ys : List V} (o : Over c c' p) (s : SR c' h) (hp : c'.H p = some (.lst xs)) : Over c (c'.put p (.lst ys)) p ∧ SR (c'.put p (.lst ys)) h := by
  have hB : c'.B p := o.Bp
  refine ⟨⟨⟨o.le.K, ⟨o.le.mg.e, fun t => tabs_upd (ρ := c'.ρ) (B := c'.B) (noTab_of hp (fun _ z => by cases z) fun _ z => by cases z) (o.le.mg.t t)⟩, o.le.B, o.le.Bn, fun a u e => ?_, o.le.pre, fun a u e t n => ?_, fun a zs e => ?_, fun a u w e => (upd_ne (show a ≠ p from o.ne e)).trans (o.le.frz a u w e)⟩, o.Bp, o.new, o.bt⟩, ⟨s.len, s.nd, fun n a k e1 e2 => ?_, s.nb, fun a hb => ?_⟩⟩
  · obtain ⟨u', h1⟩ := o.le.dom a u e
    exact ⟨u', (upd_ne (o.ne e)).trans h1⟩
  · obtain ⟨h1, n1⟩ := o.le.keep a u e t n
    exact ⟨(upd_ne (o.ne e)).trans h1, n1⟩
  · rcases o.le.tup a zs e with e' | ⟨u, e'⟩
    · exact .inl ((upd_ne (show a ≠ p from fun z => by rw [z, hp] at e'; cases e')).trans e')
    · exact .inr ⟨u, (upd_ne (show a ≠ p from fun z => by rw [z, hp] at e'; cases e')).trans e'⟩
  · have r := s.cells n a k e1 e2
    have ne : a ≠ p := fun z => s.nb a (List.mem_of_getElem? e1) (z ▸ hB)
    cases k with
    | lst ds => obtain ⟨zs, h1, h2⟩ := r; exact ⟨zs, (upd_ne ne).trans h1, h2.putB hB hp⟩
    | dic t kvs => obtain ⟨ob, zs, h1, h3, h2⟩ := r; exact ⟨ob, zs, (upd_ne ne).trans h1, h3, h2.putB hB hp⟩
    | obj C fs => obtain ⟨Ca, dx, vs, h0, h1, h2⟩ := r; exact ⟨Ca, dx, vs, h0, (upd_ne ne).trans h1, h2.putB hB hp⟩
  · by_cases e : a = p
    · exact ⟨_, by rw [e]; exact upd_same⟩
    · obtain ⟨u, q⟩ := s.bt a hb
      exact ⟨u, (upd_ne e).trans q⟩
theorem EnvR.putB {c : RC} {p : Addr} {xs ys : List V} (hB : c.B p) (hp : c.H p = some (.lst xs)) {ε : Ev} {σ : L2.St} (r : EnvR c ε σ) : EnvR (c.put p (.lst ys)) ε σ := ⟨r.len, fun i d e => let ⟨v, h1, h2⟩ := r.at_ i d e; ⟨v, h1, h2.putB hB hp⟩⟩
theorem EnvR.more {c : RC} {p : Addr} {xs : List V} (hp : c.H p = none) {ε : Ev} {σ : L2.St} (r : EnvR c ε σ) : EnvR { c with B := fun a => c.B a ∨ a = p, H := upd c.H p (.lst xs) } ε σ := ⟨r.len, fun i d e => let ⟨v, h1, h2⟩ := r.at_ i d e; ⟨v, h1, h2.more hp⟩⟩
theorem lc_of {K : PySem.W.Frag} {mg : Str → Option Value} {W : WX} {mi : M (List D)} {g : MG} {S vs : List Nat} {t : M Bool} {el : M D} {σ : L2.St} {H : Hp} {Q : VK} (hS : ∀ i ∈ S, i ∈ vs) (h : tE K mg W (mLc vs mi g t el) σ H Q) :
    tLc (tI K mg W mi) (tG K mg S g) (tT K mg W0 t) (tE K mg W0 el) vs σ H Q := by
  obtain ⟨c, ε, h, r, h', hK, hm, rfl, sr, er, e, px, go⟩ := h
  unfold tLc
  refine tX.bind hK hm sr er e px fun ds h1 c1 J e1 l1 s1 r1 => ?_
  intro p hp
  obtain ⟨G, Y, hw, hG, hY⟩ := r1
  have hK1 := l1.K.trans hK
  have hm1 := l1.mg.trans hm
  cases q : lcL g t el ds (wipeE ε vs) h1 with
  | none => rw [q] at e1; cases e1
  | some z =>
    obtain ⟨all, hE⟩ := z
    rw [q] at e1
    have e1' : (if all.length ≤ sizeLine then some (PD.R.ok (D.lst all), hE) else none) = some (r, h') := e1
    by_cases hz : all.length ≤ sizeLine
    · rw [if_pos hz] at e1'
      cases e1'
      obtain ⟨o2, s2⟩ := Over.start (xs := []) s1 hp
      refine lc_it hw (fun i H => ∃ c2 h2 acc xs rest, Over c1 c2 p ∧ c2.H = H ∧ SR c2 h2 ∧ H p = some (.lst xs) ∧ Reps c2 acc xs ∧ EnvR c2 (wipeE ε vs) (wipe σ vs) ∧ lcL g t el (ds.drop i) (wipeE ε vs) h2 = some (rest, h') ∧ acc ++ rest = all) ?_ ?_ ?_ ?_
      · exact ⟨_, h1, [], [], all, o2, rfl, s2, upd_same, .nil, EnvR.more hp (wipe_envR vs (er.le l1)), q, rfl⟩
      · rintro i H hi ⟨c2, h2, acc, xs, rest, o, rfl, _⟩
        exact hG c2 o.le.toW
      · rintro i x H H' hi ⟨c2, h2, acc, xs, rest, o, rfl, s, hxs, racc, en, e2, ea⟩ y
        obtain ⟨c3, rfl, l3, s3, d, hd, rd⟩ := hY i x c2 h2 H' o.le.toW s y
        have hdr : ds.drop i = d :: ds.drop (i + 1) := by
          rw [List.drop_eq_getElem_cons hi]
          have : ds[i] = d := by
            have := List.getElem?_eq_getElem hi
            rw [this] at hd
            exact Option.some.inj hd
          rw [this]
        rw [hdr] at e2
        unfold lcL at e2
        have o3 := o.step l3
        have p3 := (l3.keep p _ hxs (fun _ z => by cases z) fun z => s.nb p z o.Bp).1
        have hK3 : c3.K = K := o3.le.K.trans hK1
        have hm3 : MgE c3 mg := o3.le.mg.trans hm1
        cases q2 : g d (wipeE ε vs) h2 with
        | none => rw [q2] at e2; cases e2
        | some z =>
          obtain ⟨ε3, h3⟩ := z
          rw [q2] at e2
          dsimp only at e2
          refine ⟨c3, d, wipeE ε vs, h2, ε3, h3, hK3, hm3, rfl, s3, rd, en.le l3, q2, fun c4 σ4 l4 s4 en4 sv => ⟨wipe_save sv hS, ?_⟩⟩
          have o4 := o3.step l4
          have p4 := (l4.keep p _ p3 (fun _ z => by cases z) fun z => s3.nb p z o3.Bp).1
          have hK4 : c4.K = K := o4.le.K.trans hK1
          have hm4 : MgE c4 mg := o4.le.mg.trans hm1
          cases q3 : t ε3 h3 with
          | none => rw [q3] at e2; cases e2
          | some z =>
            obtain ⟨rb, h5⟩ := z
            rw [q3] at e2
            cases rb with
            | ex x5 => cases e2
            | ok b =>
              refine ⟨c4, ε3, h3, .ok b, h5, hK4, hm4, rfl, s4, en4, q3, Px.ok, fun b' eb c5 b'' l5 s5 rb => ?_⟩
              cases eb
              subst rb
              have o5 := o4.step l5
              have p5 := (l5.keep p _ p4 (fun _ z => by cases z) fun z => s4.nb p z o4.Bp).1
              have en5 : EnvR c5 (wipeE ε vs) (wipe σ vs) := ((en.le l3).le l4).le l5
              have racc5 := ((racc.le l3).le l4).le l5
              cases b with
              | false =>
                rw [if_neg Bool.false_ne_true]
                exact ⟨c5, h5, acc, xs, rest, o5, rfl, s5, p5, racc5, en5, e2, ea⟩
              | true =>
                rw [if_pos rfl]
                dsimp only at e2
                cases q4 : el ε3 h5 with
                | none => rw [q4] at e2; cases e2
                | some z =>
                  obtain ⟨ry, h6⟩ := z
                  rw [q4] at e2
                  cases ry with
                  | ex x6 => cases e2
                  | ok y0 =>
                    dsimp only at e2
                    refine ⟨c5, ε3, h5, .ok y0, h6, o5.le.K.trans hK1, o5.le.mg.trans hm1, rfl, s5, en4.le l5, q4, Px.ok, fun y' ey c6 yv l6 s6 ry => ?_⟩
                    cases ey
                    have o6 := o5.step l6
                    have p6 := (l6.keep p _ p5 (fun _ z => by cases z) fun z => s5.nb p z o5.Bp).1
                    cases q5 : lcL g t el (ds.drop (i + 1)) (wipeE ε vs) h6 with
                    | none => rw [q5] at e2; cases e2
                    | some z =>
                      obtain ⟨ys, h7⟩ := z
                      rw [q5] at e2
                      cases e2
                      have hlen : xs.length < sizeLine := by
                        rw [← racc.length]
                        have := congrArg List.length ea
                        simp only [List.length_append, List.length_cons] at this
                        omega
                      refine ⟨xs, p6, hlen, ?_⟩
                      obtain ⟨o7, s7⟩ := o6.putB (ys := xs ++ [yv]) s6 p6
                      exact ⟨_, h6, acc ++ [y0], xs ++ [yv], ys, o7, rfl, s7, upd_same, ((racc5.le l6).append (.cons ry .nil)).putB o6.Bp p6, (en5.le l6).putB o6.Bp p6, q5, by rw [List.append_assoc]; exact ea⟩
      · rintro H ⟨c2, h2, acc, xs, rest, o, rfl, s, hxs, racc, en, e2, ea⟩
        rw [List.drop_length] at e2
        cases e2
        rw [List.append_nil] at ea
        subst ea
        refine go _ rfl (c2.av c1.B) _ (l1.trans o.back) (o.sr s) (.lst hxs ⟨fun z => ?_, fun z => s.nb p z o.Bp⟩ (racc.fewer o.le.B))
        obtain ⟨u, eu⟩ := o.bt p z
        rw [o.new] at eu; cases eu
    · rw [if_neg hz] at e1'; cases e1'
section
variable {X : Cx} {W : WX}
theorem re_lc {elt tg iter : Expr} {ifs : List Expr} {scope : Scope} {own : List (Str × Nat)} {pos : Pos} {mi : M (List D)} {g : MG} {S : List Nat} {t : M Bool} {e : M D} (hc : X.calm = true) (hN : X.N.Nodup) (hi : RI X W tg iter mi) (ok : BlkOk X.N X.env.scope scope own) (hS : ∀ i ∈ S, i ∈ own.map (·.2))
    (hg : ∀ (s : Shared) (H : Hp) (C : Addr) (cl : List (Str × Addr)) (fp : List Addr), RG (X.blk s H scope (compEnvC scope cl C X.env) fp) tg S g) (ht : ∀ (s : Shared) (H : Hp) (C : Addr) (cl : List (Str × Addr)) (fp : List Addr), RTs (X.blk s H scope (compEnvC scope cl C X.env) fp) W0 ifs t)
    (he : ∀ (s : Shared) (H : Hp) (C : Addr) (cl : List (Str × Addr)) (fp : List Addr), RE (X.blk s H scope (compEnvC scope cl C X.env) fp) W0 elt e) (hs : ∀ x, foldedSetIterable iter X.env x = pure x := by intro _; rfl) :
    RE X W (.ListComp elt [⟨tg, iter, ifs, 0⟩] scope pos) (mLc (own.map (·.2)) mi g t e) := by
  refine pe_imp (pe_lc (g := tG X.K X.mg S g) (tt := tT X.K X.mg W0 t) (te := tE X.K X.mg W0 e) hc hN hi ok hg ht he hs) fun σ H Q h => ?_
  exact lc_of hS h
end
end PD
namespace PD
open PySem PySem.Spec PyProof.Rows L2
variable [LamTab]
def noRef : D → Bool
  | .ref _ => false
  | .tup ds => go ds
  | .lst ds => go ds
  | .scr ds => go ds
  | .obj _ fs => gf fs
  | .dic _ kvs => gp kvs
  | .fn _ ds => go ds
  | .exc _ fs => gf fs
  | _ => true
where
  go : List D → Bool
  | [] => true
  | d :: ds => noRef d && go ds
  gf : List (Str × D) → Bool
  | [] => true
  | (_, d) :: ds => noRef d && gf ds
  gp : List (List Key × D) → Bool
  | [] => true
  | (_, d) :: ds => noRef d && gp ds
/-- the cells forgotten, other things not to be touched -/
abbrev RC.bare (c : RC) (B : Addr → Prop) : RC := { c with ρ := [], B := B }
mutual
theorem Rep.bare {c : RC} {B : Addr → Prop} (hB : ∀ a, B a → c.B a ∨ a ∈ c.ρ) : ∀ {d : D} {v : V}, Rep c d v → noRef d = true → Rep (c.bare B) d v
  | _, _, .non, _ => .non
  | _, _, .bl b, _ => .bl b
  | _, _, .int i, _ => .int i
  | _, _, .str cs, _ => .str cs
  | .tup ds, _, .tup h r, e => .tup h (Reps.bare hB r (by rw [noRef] at e; exact e))
  | .lst ds, _, .lst h f r, e => .lst h ⟨fun z => (hB _ z).elim f.1 f.2, List.not_mem_nil⟩ (Reps.bare hB r (by rw [noRef] at e; exact e))
  | .scr ds, _, .scr h r, e => .scr h (Reps.bare hB r (by rw [noRef] at e; exact e))
  | .obj C fs, _, .obj m h f r, e => .obj m h ⟨fun z => (hB _ z).elim f.1 f.2, List.not_mem_nil⟩ (RepF.bare hB r (by rw [noRef] at e; exact e))
  | .dic t kvs, _, .dic h i f r, e => .dic h i ⟨fun z => (hB _ z).elim f.1 f.2, List.not_mem_nil⟩ (RepP.bare hB r (by rw [noRef] at e; exact e))
  | .fn i ds, _, .fn h f k f2 cr r, e => .fn h ⟨fun z => (hB _ z).elim f.1 f.2, List.not_mem_nil⟩ k ⟨fun z => (hB _ z).elim f2.1 f2.2, List.not_mem_nil⟩ (cr.imp fun b o hb fb => ⟨hb, fun z => (hB _ z).elim fb.1 fb.2, List.not_mem_nil⟩) (Reps.bare hB r (by rw [noRef] at e; exact e))
  | .exc C fs, _, .exc m h f h2 f2 r, e => .exc m h ⟨fun z => (hB _ z).elim f.1 f.2, List.not_mem_nil⟩ h2 ⟨fun z => (hB _ z).elim f2.1 f2.2, List.not_mem_nil⟩ (RepF.bare hB r (by rw [noRef] at e; exact e))
  | _, _, .ref h, e => by cases e
theorem Reps.bare {c : RC} {B : Addr → Prop} (hB : ∀ a, B a → c.B a ∨ a ∈ c.ρ) : ∀ {ds : List D} {vs : List V}, Reps c ds vs → noRef.go ds = true → Reps (c.bare B) ds vs
  | _, _, .nil, _ => .nil
  | _, _, .cons h t, e => by
    rw [noRef.go, Bool.and_eq_true] at e
    exact .cons (Rep.bare hB h e.1) (Reps.bare hB t e.2)
theorem RepP.bare {c : RC} {B : Addr → Prop} (hB : ∀ a, B a → c.B a ∨ a ∈ c.ρ) : ∀ {ds : List (List Key × D)} {vs : List (List Key × V)}, RepP c ds vs → noRef.gp ds = true → RepP (c.bare B) ds vs
  | _, _, .nil, _ => .nil
  | _, _, .cons h t, e => by
    rw [noRef.gp, Bool.and_eq_true] at e
    exact .cons (Rep.bare hB h e.1) (RepP.bare hB t e.2)
theorem RepF.bare {c : RC} {B : Addr → Prop} (hB : ∀ a, B a → c.B a ∨ a ∈ c.ρ) : ∀ {ds : List (Str × D)} {vs : List (Str × V)}, RepF c ds vs → noRef.gf ds = true → RepF (c.bare B) ds vs
  | _, _, .nil, _ => .nil
  | _, _, .cons h t, e => by
    rw [noRef.gf, Bool.and_eq_true] at e
    exact .cons (Rep.bare hB h e.1) (RepF.bare hB t e.2)
end
mutual
theorem Rep.unbare {c : RC} {ρ : List Addr} {B : Addr → Prop} (h1 : ∀ a ∈ ρ, c.B a) (h2 : ∀ a, B a → c.B a) (h0 : c.ρ = []) : ∀ {d : D} {v : V}, Rep c d v → Rep { c with ρ := ρ, B := B } d v
  | _, _, .non => .non
  | _, _, .bl b => .bl b
  | _, _, .int i => .int i
  | _, _, .str cs => .str cs
  | _, _, .tup h r => .tup h (Reps.unbare h1 h2 h0 r)
  | _, _, .lst h f r => .lst h ⟨fun z => f.1 (h2 _ z), fun z => f.1 (h1 _ z)⟩ (Reps.unbare h1 h2 h0 r)
  | _, _, .scr h r => .scr h (Reps.unbare h1 h2 h0 r)
  | _, _, .obj m h f r => .obj m h ⟨fun z => f.1 (h2 _ z), fun z => f.1 (h1 _ z)⟩ (RepF.unbare h1 h2 h0 r)
  | _, _, .dic h i f r => .dic h i ⟨fun z => f.1 (h2 _ z), fun z => f.1 (h1 _ z)⟩ (RepP.unbare h1 h2 h0 r)
  | _, _, .fn h f k f2 cr r => .fn h ⟨fun z => f.1 (h2 _ z), fun z => f.1 (h1 _ z)⟩ k ⟨fun z => f2.1 (h2 _ z), fun z => f2.1 (h1 _ z)⟩ (cr.imp fun b o hb fb => ⟨hb, fun z => fb.1 (h2 _ z), fun z => fb.1 (h1 _ z)⟩) (Reps.unbare h1 h2 h0 r)
  | _, _, .exc m h f k f2 r => .exc m h ⟨fun z => f.1 (h2 _ z), fun z => f.1 (h1 _ z)⟩ k ⟨fun z => f2.1 (h2 _ z), fun z => f2.1 (h1 _ z)⟩ (RepF.unbare h1 h2 h0 r)
  | _, _, .ref h => by rw [h0] at h; simp at h
theorem Reps.unbare {c : RC} {ρ : List Addr} {B : Addr → Prop} (h1 : ∀ a ∈ ρ, c.B a) (h2 : ∀ a, B a → c.B a) (h0 : c.ρ = []) : ∀ {ds : List D} {vs : List V}, Reps c ds vs → Reps { c with ρ := ρ, B := B } ds vs
  | _, _, .nil => .nil
  | _, _, .cons h t => .cons (Rep.unbare h1 h2 h0 h) (Reps.unbare h1 h2 h0 t)
theorem RepP.unbare {c : RC} {ρ : List Addr} {B : Addr → Prop} (h1 : ∀ a ∈ ρ, c.B a) (h2 : ∀ a, B a → c.B a) (h0 : c.ρ = []) : ∀ {ds : List (List Key × D)} {vs : List (List Key × V)}, RepP c ds vs → RepP { c with ρ := ρ, B := B } ds vs
  | _, _, .nil => .nil
  | _, _, .cons h t => .cons (Rep.unbare h1 h2 h0 h) (RepP.unbare h1 h2 h0 t)
theorem RepF.unbare {c : RC} {ρ : List Addr} {B : Addr → Prop} (h1 : ∀ a ∈ ρ, c.B a) (h2 : ∀ a, B a → c.B a) (h0 : c.ρ = []) : ∀ {ds : List (Str × D)} {vs : List (Str × V)}, RepF c ds vs → RepF { c with ρ := ρ, B := B } ds vs
  | _, _, .nil => .nil
  | _, _, .cons h t => .cons (Rep.unbare h1 h2 h0 h) (RepF.unbare h1 h2 h0 t)
end
/-- freeze -/
def frz1 (h : EH) (d : D) : Option D := match d with
  | .ref n => (match h[n]? with
    | some (.lst ds) => if noRef.go ds = true then some (.lst ds) else none
    | some (.obj C fs) => if noRef.gf fs = true then some (.obj C fs) else none
    | some (.dic t kvs) => if noRef.gp kvs = true then some (.dic t kvs) else none
    | _ => none)
  | d => if noRef d = true then some d else none
def frzL (h : EH) : List D → Option (List D)
  | [] => some []
  | d :: ds => match frz1 h d, frzL h ds with
    | some x, some xs => some (x :: xs)
    | _, _ => none
def frz (h : EH) (d : D) : Option D := match d with
  | .tup ds => (frzL h ds).map .tup
  | .lst ds => (frzL h ds).map .lst
  | d => frz1 h d
theorem frz1_ok {c : RC} {h : EH} {B : Addr → Prop} {d e : D} {v : V} (s : SR c h) (hB : ∀ a, B a → c.B a) (r : Rep c d v) (q : frz1 h d = some e) : Rep (c.bare B) e v := by
  have hB' : ∀ a, B a → c.B a ∨ a ∈ c.ρ := fun a z => .inl (hB a z)
  have fin : (if noRef d = true then some d else none) = some e → Rep (c.bare B) e v := fun q => by
    by_cases hc : noRef d = true
    · rw [if_pos hc] at q; cases q; exact r.bare hB' hc
    · rw [if_neg hc] at q; cases q
  cases r with
  | @ref n a hn =>
    unfold frz1 at q
    dsimp only at q
    cases q2 : h[n]? with
    | none => rw [q2] at q; cases q
    | some k =>
      rw [q2] at q
      have cr := s.cells n a k hn q2
      have nb : ¬ B a := fun z => s.nb a (List.mem_of_getElem? hn) (hB a z)
      cases k with
      | lst ds =>
        dsimp only at q
        by_cases hc : noRef.go ds = true
        · rw [if_pos hc] at q
          cases q
          obtain ⟨xs, e1, e2⟩ := cr
          exact .lst e1 ⟨nb, List.not_mem_nil⟩ (e2.bare hB' hc)
        · rw [if_neg hc] at q; cases q
      | dic t kvs =>
        dsimp only at q
        by_cases hc : noRef.gp kvs = true
        · rw [if_pos hc] at q
          cases q
          obtain ⟨o, zs, e1, e3, e2⟩ := cr
          exact .dic e1 e3 ⟨nb, List.not_mem_nil⟩ (e2.bare hB' hc)
        · rw [if_neg hc] at q; cases q
      | obj C fs =>
        dsimp only at q
        by_cases hc : noRef.gf fs = true
        · rw [if_pos hc] at q
          cases q
          obtain ⟨Ca, dx, vs, e0, e1, e2⟩ := cr
          exact .obj e0 e1 ⟨nb, List.not_mem_nil⟩ (e2.bare hB' hc)
        · rw [if_neg hc] at q; cases q
  | _ => exact fin q
theorem frzL_ok {c : RC} {h : EH} {B : Addr → Prop} (s : SR c h) (hB : ∀ a, B a → c.B a) : ∀ {ds es : List D} {vs : List V}, Reps c ds vs → frzL h ds = some es → Reps (c.bare B) es vs
  | _, _, _, .nil, q => by cases q; exact .nil
  | d :: ds, es, _, .cons r t, q => by
    unfold frzL at q
    cases q1 : frz1 h d with
    | none => rw [q1] at q; cases q
    | some x =>
      cases q2 : frzL h ds with
      | none => rw [q1, q2] at q; cases q
      | some xs => rw [q1, q2] at q; cases q; exact .cons (frz1_ok s hB r q1) (frzL_ok s hB t q2)
theorem frz_ok {c : RC} {h : EH} {B : Addr → Prop} {d e : D} {v : V} (s : SR c h) (hB : ∀ a, B a → c.B a) (r : Rep c d v) (q : frz h d = some e) : Rep (c.bare B) e v := by
  cases r with
  | @tup a ds xs k1 k2 =>
    have q' : (frzL h ds).map D.tup = some e := q
    cases q1 : frzL h ds with
    | none => rw [q1] at q'; cases q'
    | some es => rw [q1] at q'; cases q'; exact .tup k1 (frzL_ok s hB k2 q1)
  | @lst a ds xs k1 k2 k3 =>
    have q' : (frzL h ds).map D.lst = some e := q
    cases q1 : frzL h ds with
    | none => rw [q1] at q'; cases q'
    | some es => rw [q1] at q'; cases q'; exact .lst k1 ⟨fun z => k2.1 (hB _ z), List.not_mem_nil⟩ (frzL_ok s hB k3 q1)
  | non => exact frz1_ok s hB .non q
  | bl b => exact frz1_ok s hB (.bl b) q
  | int i => exact frz1_ok s hB (.int i) q
  | str cs => exact frz1_ok s hB (.str cs) q
  | obj m k1 k2 k3 => exact frz1_ok s hB (.obj m k1 k2 k3) q
  | dic k1 k2 k3 k4 => exact frz1_ok s hB (.dic k1 k2 k3 k4) q
  | fn k1 k2 k3 k4 k5 k6 => exact frz1_ok s hB (.fn k1 k2 k3 k4 k5 k6) q
  | exc k1 k2 k3 k4 k5 k6 => exact frz1_ok s hB (.exc k1 k2 k3 k4 k5 k6) q
  | ref hn => exact frz1_ok s hB (.ref hn) q
  | scr k1 k2 => exact frz1_ok s hB (.scr k1 k2) q
abbrev PF := List D → Option (R D)
/-- a body run over no cells -/
def startE (n : Nat) (ds : List D) : Ev := ds.map some ++ List.replicate (n - ds.length) none
def endP (x : Option (RS × EH)) : Option (R D) := match x with
  | some (.rt d, h) => (frz h d).map .ok
  | some (.nx _, _) => some (.ok .non)
  | some (.ex e _, _) => if noRef.gf e.fs = true then some (.ex e) else none
  | _ => none
def runP (n : Nat) (m : MS) : PF := fun ds => endP (m (startE n ds) [])
def SpP (K : PySem.W.Frag) (mg : Str → Option Value) (n : Nat) (F : PF) : Sp := fun vs H Q E => ∃ (c : RC) (ds : List D) (r : R D), c.K = K ∧ MgE c mg ∧ c.H = H ∧ c.ρ = [] ∧ (∀ a, c.B a → ∃ o, H a = some o) ∧ Reps c ds vs ∧ ds.length = n ∧ F ds = some r ∧
  (∀ d, r = .ok d → ∀ c' v, c.Le c' → c'.ρ = [] → Rep c' d v → Q v c'.H) ∧ (∀ e, r = .ex e → ∀ c' cls dx, c.Le c' → c'.ρ = [] → ExR c' e cls dx → E cls dx c'.H)
theorem SR.nil {c : RC} (h : c.ρ = []) (bt : ∀ a, c.B a → ∃ o, c.H a = some o) : SR c [] :=
  ⟨by rw [h]; rfl, by rw [h]; exact List.nodup_nil, fun n a k e => by rw [h] at e; simp at e, fun a e => by rw [h] at e; simp at e, bt⟩
theorem start_envR {c : RC} {ds : List D} {vs : List V} {N : List Str} (r : Reps c ds vs) : EnvR c (startE N.length ds) (L2.start N vs) := by
  refine ⟨by simp [startE, L2.start, r.length], fun i d e => ?_⟩
  unfold startE at e
  unfold L2.start
  by_cases hi : i < ds.length
  · rw [List.getElem?_append_left (by simpa using hi), List.getElem?_map] at e
    rw [List.getElem?_append_left (by rw [List.length_map, ← r.length]; exact hi), List.getElem?_map]
    cases q : ds[i]? with
    | none => rw [q] at e; cases e
    | some d' =>
      rw [q] at e
      cases e
      obtain ⟨v, h1, h2⟩ := r.get q
      exact ⟨v, by rw [h1]; rfl, h2⟩
  · rw [List.getElem?_append_right (by simp; omega)] at e
    exfalso
    rw [List.getElem?_replicate] at e
    split at e <;> cases e
/-- what one has of a pure def -/
structure FnP (P : Program) (w : World) (K : PySem.W.Frag) (mg : Str → Option Value) (base : Heap) (x : Str) (k n : Nat) (F : PF) : Prop where
  ex : ∃ (f : Addr) (fd : FuncData) (ps : List Str), mg x = some (.ref f) ∧ PySem.W.keepIn K (.ref f) = true ∧ Binds K fd ps [] ∧ ps.length = n ∧ FnOk P w K mg base (L2.CX P w) k f fd ps (SpP K mg n F)
section
variable {P : Program} {w : World} {K : PySem.W.Frag} {mg : Str → Option Value} {base : Heap}
theorem body_of {N : List Str} {m : MS} {vs : List V} {H : Hp} {Q : VK} {E : XK} {n : Nat} (h : SpP K mg n (runP N.length m) vs H Q E) : tS K mg (fun cls d _ H' => E cls d H') m { nx := fun _ H' => Q .non H', rt := Q } (L2.start N vs) H := by
  obtain ⟨c, ds, r, hK, hm, rfl, hρ, bt, rv, hn, e, go, gx⟩ := h
  have sr := SR.nil hρ bt
  unfold runP at e
  cases q : m (startE N.length ds) [] with
  | none => rw [q] at e; cases e
  | some z =>
    obtain ⟨rs, h'⟩ := z
    rw [q] at e
    have back : ∀ c', c.Le c' → c.Le (c'.bare c.B) := fun c' l => ⟨l.K, l.mg, fun _ h => h, fun _ h => .inl h, l.dom, fun n a e => by rw [hρ] at e; simp at e, fun a o e t n => ⟨(l.keep a o e t n).1, List.not_mem_nil⟩, l.tup, l.frz⟩
    refine ⟨c, startE N.length ds, [], rs, h', hK, hm, rfl, sr, start_envR rv, q, ?_⟩
    cases rs with
    | nx ε' =>
      cases e
      exact fun c' σ' l s en => go _ rfl (c'.bare c.B) _ (back c' l) rfl .non
    | rt d =>
      have e' : (frz h' d).map R.ok = some r := e
      cases q2 : frz h' d with
      | none => rw [q2] at e'; cases e'
      | some d' =>
        rw [q2] at e'
        cases e'
        exact fun c' v l s rd => go _ rfl (c'.bare c.B) v (back c' l) rfl (frz_ok s l.B rd q2)
    | bk ε' => cases e
    | ct ε' => cases e
    | ex x ε' =>
      have e' : (if noRef.gf x.fs = true then some (R.ex x) else none) = some r := e
      by_cases hc : noRef.gf x.fs = true
      · rw [if_pos hc] at e'
        cases e'
        refine fun c' σ' cls dx l s en xr => gx _ rfl (c'.bare c.B) cls dx (back c' l) rfl ?_
        obtain ⟨Ca, d, vs, h1, h2, h3, h4, h5, h6⟩ := xr
        exact ⟨Ca, d, vs, h1, h2, h3, h4, ⟨fun z => h5.1 (l.B _ z), List.not_mem_nil⟩, h6.bare (fun a z => .inl (l.B a z)) hc⟩
      · rw [if_neg hc] at e'; cases e'
theorem fnP {x qual : Str} {params : Arguments} {body : List Stmt} {scope : Scope} {f : Addr} {fd : FuncData} {N ps : List Str} {k : Nat} {m : MS} {dvs : List V} {kws : List (Str × V)} (F : FunD K x qual params body scope dvs kws f fd) (S : FnScope N ps scope)
    (hb : ∀ (cdv : Value) (A : Around) (outer : List Env) (s : Shared) (H : Hp) (E : XK), Room k (A.deeper (envOfC qual scope s.heap.objs.size f cdv)) → RSs (cxOf (L2.CX P w) P w K mg base N qual scope f cdv A outer s H E) (fun cls d _ H' => E cls d H') body m) :
    FnOk P w K mg base (L2.CX P w) (k + 1) f fd ps (SpP K mg ps.length (runP N.length m)) := by
  refine F.ok S (fun vs H Q E h => ?_) (fun cdv A outer s H vs Q E hr h => ⟨_, hb cdv A outer s H E hr, body_of h⟩)
  obtain ⟨c, ds, r, _, _, _, _, _, rv, hn, _⟩ := h
  rw [← rv.length, hn]
end
/-- a gives lists of n -/
def ArN (n : Nat) (a : M (List D)) : Prop := ∀ ε h ds h', a ε h = some (.ok ds, h') → ds.length = n
theorem ar_nil : ArN 0 mNil := fun ε h ds h' e => by cases e; rfl
theorem ar_cons {n : Nat} {a : M D} {b : M (List D)} (hb : ArN n b) : ArN (n + 1) (mCons a b) := fun ε h ds h' e => by
  unfold mCons at e
  cases q : a ε h with
  | none => rw [q] at e; cases e
  | some z =>
    obtain ⟨r1, h1⟩ := z
    rw [q] at e
    cases r1 with
    | ex x => cases e
    | ok x =>
      rw [bR_ok] at e
      cases q2 : b ε h1 with
      | none => rw [q2] at e; cases e
      | some z =>
        obtain ⟨r2, h2⟩ := z
        rw [q2] at e
        cases r2 with
        | ex x => cases e
        | ok xs => cases e; exact congrArg Nat.succ (hb _ _ _ _ q2)
def mCallP (F : PF) (a : M (List D)) : M D := fun ε h => bR (a ε h) fun ds h1 => if noRef.go ds = true then (F ds).map fun r => (r, h1) else none
section
variable {X : Cx} {W : WX}
theorem callP_of {K : PySem.W.Frag} {mg : Str → Option Value} {n : Nat} {F : PF} {a : M (List D)} {σ : L2.St} {H : Hp} {Q : VK} (hn : ArN n a) (h : tE K mg W (mCallP F a) σ H Q) :
    tCallSD (SpP K mg n F) [] (fun σ cls d H' => W cls d σ H') (tA K mg W a) σ H Q := by
  obtain ⟨c, ε, h, r, h', hK, hm, rfl, sr, er, e, px, go⟩ := h
  unfold tCallSD
  cases q : a ε h with
  | none => rw [mCallP, q] at e; cases e
  | some z =>
    obtain ⟨ra, h1⟩ := z
    rw [mCallP, q] at e
    cases ra with
    | ex x =>
      cases e
      exact ⟨c, ε, h, .ex x, _, hK, hm, rfl, sr, er, q, fun y ey => px y (by cases ey; rfl), fun a' ea => nomatch ea⟩
    | ok ds =>
      refine ⟨c, ε, h, .ok ds, h1, hK, hm, rfl, sr, er, q, Px.ok, fun ds' eds c1 vs l1 s1 r1 => ?_⟩
      cases eds
      have e' : (if noRef.go ds = true then (F ds).map fun r => (r, h1) else none) = some (r, h') := e
      by_cases hc : noRef.go ds = true
      · rw [if_pos hc] at e'
        cases q2 : F ds with
        | none => rw [q2] at e'; cases e'
        | some r2 =>
          rw [q2] at e'
          cases e'
          rw [List.append_nil]
          have hK1 := l1.K.trans hK
          have hm1 := l1.mg.trans hm
          -- the callee's view: our cells are not to be touched
          have r1' : Reps (c1.bare fun a => c1.B a ∨ a ∈ c1.ρ) ds vs := r1.bare (fun _ z => z) hc
          have back : ∀ c', (c1.bare fun a => c1.B a ∨ a ∈ c1.ρ).Le c' → c1.Le { c' with ρ := c1.ρ, B := c1.B } ∧ SR { c' with ρ := c1.ρ, B := c1.B } h' := fun c' l => by
            have l2 : c1.Le { c' with ρ := c1.ρ, B := c1.B } := ⟨l.K, l.mg, fun _ h => h, fun _ h => .inl h, l.dom, fun _ _ h => h, fun a o e t n => ⟨(l.keep a o e t List.not_mem_nil).1, n⟩, l.tup, l.frz⟩
            refine ⟨l2, s1.len, s1.nd, fun n a k e1 e2 => ?_, s1.nb, fun a hb => ?_⟩
            · have cr := s1.cells n a k e1 e2
              obtain ⟨o, eo⟩ := cr.ex
              refine cr.le l2 ?_
              have nt : ∀ ps, o ≠ .tbl ps := fun ps z => by
                subst z
                cases k with
                | lst ds => obtain ⟨xs, h1, _⟩ := cr; rw [eo] at h1; cases h1
                | dic t kvs => obtain ⟨o', zs, h1, h3, _⟩ := cr; rw [eo] at h1; cases h1; exact h3.tbl _ rfl
                | obj C fs => obtain ⟨_, _, _, _, h1, _⟩ := cr; rw [eo] at h1; cases h1
              exact (l.keep a o eo nt List.not_mem_nil).1.trans eo.symm
            · obtain ⟨o, eo⟩ := s1.bt a hb
              exact l.dom a o eo
          refine ⟨c1.bare fun a => c1.B a ∨ a ∈ c1.ρ, ds, r, hK1, hm1, rfl, rfl, fun a z => ?_, r1', hn _ _ _ _ q, q2, fun d ed c' v l hρ rd => ?_, fun x ex c' cls dx l hρ xr => ?_⟩
          · rcases z with z | z
            · exact s1.bt a z
            · exact s1.ex z
          · obtain ⟨l2, s2⟩ := back c' l
            refine go d ed { c' with ρ := c1.ρ, B := c1.B } v (l1.trans l2) s2 ?_
            exact Rep.unbare (fun a ha => l.B a (.inr ha)) (fun a ha => l.B a (.inl ha)) hρ rd
          · obtain ⟨l2, s2⟩ := back c' l
            refine px x ex { c' with ρ := c1.ρ, B := c1.B } cls dx (l1.trans l2) s2 ?_
            obtain ⟨Ca, d, us, h1, h2, h3, h4, h5, h6⟩ := xr
            exact ⟨Ca, d, us, h1, h2, h3, h4, ⟨fun z => h5.1 (l.B _ (.inl z)), fun z => h5.1 (l.B _ (.inr z))⟩, RepF.unbare (fun a ha => l.B a (.inr ha)) (fun a ha => l.B a (.inl ha)) hρ h6⟩
      · rw [if_neg hc] at e'; cases e'
theorem re_callP {x : Str} {p pos : Pos} {e : Expr} {es : List Expr} {k j n : Nat} {F : PF} {ma : M (List D)} (G : FnP X.prog X.w X.K X.mg X.base x k n F) (hr : Room j X.A) (tk : Takes X W) (ha : RA X W (e :: es) ma) (hk : k ≤ j := by decide)
    (hn : ArN n ma := by repeat (first | exact ar_nil | refine ar_cons ?_)) (hg : Gl X x := by rfl)
    (hdb : (x == ("__debug__" : Str)) = false := by decide) (he : starEach (e :: es) X.env = (false, eval e X.env) :: starEach es X.env := by rfl) (hpl : (backTo pos (starEach es X.env)).any (·.1) = false := by rfl) :
    RE X W (.Call (.Name x p) (e :: es) [] pos) (mCallP F ma) := by
  obtain ⟨f, fd, ps, hm, hkp, hb, hl, F⟩ := G.ex
  exact pe_imp (pe_callSD F (hr.mono hk) hg hm hkp hb .nil (fun σ => passAt tk σ) ha hdb he hpl) fun σ H Q h => callP_of hn h
end
end PD
namespace PD
open PySem PySem.Spec PyProof.Rows L2
variable [LamTab]
mutual
theorem Rep.re {c : RC} {ρ : List Addr} {B : Addr → Prop} (hB : ∀ a, B a ∨ a ∈ ρ → c.B a ∨ a ∈ c.ρ) : ∀ {d : D} {v : V}, Rep c d v → noRef d = true → Rep { c with ρ := ρ, B := B } d v
  | _, _, .non, _ => .non
  | _, _, .bl b, _ => .bl b
  | _, _, .int i, _ => .int i
  | _, _, .str cs, _ => .str cs
  | .tup ds, _, .tup h r, e => .tup h (Reps.re hB r (by rw [noRef] at e; exact e))
  | .lst ds, _, .lst h f r, e => .lst h ⟨fun z => (hB _ (.inl z)).elim f.1 f.2, fun z => (hB _ (.inr z)).elim f.1 f.2⟩ (Reps.re hB r (by rw [noRef] at e; exact e))
  | .scr ds, _, .scr h r, e => .scr h (Reps.re hB r (by rw [noRef] at e; exact e))
  | .obj C fs, _, .obj m h f r, e => .obj m h ⟨fun z => (hB _ (.inl z)).elim f.1 f.2, fun z => (hB _ (.inr z)).elim f.1 f.2⟩ (RepF.re hB r (by rw [noRef] at e; exact e))
  | .dic t kvs, _, .dic h i f r, e => .dic h i ⟨fun z => (hB _ (.inl z)).elim f.1 f.2, fun z => (hB _ (.inr z)).elim f.1 f.2⟩ (RepP.re hB r (by rw [noRef] at e; exact e))
  | .fn i ds, _, .fn h f k f2 cr r, e => .fn h ⟨fun z => (hB _ (.inl z)).elim f.1 f.2, fun z => (hB _ (.inr z)).elim f.1 f.2⟩ k ⟨fun z => (hB _ (.inl z)).elim f2.1 f2.2, fun z => (hB _ (.inr z)).elim f2.1 f2.2⟩ (cr.imp fun b o hb fb => ⟨hb, fun z => (hB _ (.inl z)).elim fb.1 fb.2, fun z => (hB _ (.inr z)).elim fb.1 fb.2⟩) (Reps.re hB r (by rw [noRef] at e; exact e))
  | .exc C fs, _, .exc m h f h2 f2 r, e => .exc m h ⟨fun z => (hB _ (.inl z)).elim f.1 f.2, fun z => (hB _ (.inr z)).elim f.1 f.2⟩ h2 ⟨fun z => (hB _ (.inl z)).elim f2.1 f2.2, fun z => (hB _ (.inr z)).elim f2.1 f2.2⟩ (RepF.re hB r (by rw [noRef] at e; exact e))
  | _, _, .ref h, e => by cases e
theorem Reps.re {c : RC} {ρ : List Addr} {B : Addr → Prop} (hB : ∀ a, B a ∨ a ∈ ρ → c.B a ∨ a ∈ c.ρ) : ∀ {ds : List D} {vs : List V}, Reps c ds vs → noRef.go ds = true → Reps { c with ρ := ρ, B := B } ds vs
  | _, _, .nil, _ => .nil
  | _, _, .cons h t, e => by
    rw [noRef.go, Bool.and_eq_true] at e
    exact .cons (Rep.re hB h e.1) (Reps.re hB t e.2)
theorem RepP.re {c : RC} {ρ : List Addr} {B : Addr → Prop} (hB : ∀ a, B a ∨ a ∈ ρ → c.B a ∨ a ∈ c.ρ) : ∀ {ds : List (List Key × D)} {vs : List (List Key × V)}, RepP c ds vs → noRef.gp ds = true → RepP { c with ρ := ρ, B := B } ds vs
  | _, _, .nil, _ => .nil
  | _, _, .cons h t, e => by
    rw [noRef.gp, Bool.and_eq_true] at e
    exact .cons (Rep.re hB h e.1) (RepP.re hB t e.2)
theorem RepF.re {c : RC} {ρ : List Addr} {B : Addr → Prop} (hB : ∀ a, B a ∨ a ∈ ρ → c.B a ∨ a ∈ c.ρ) : ∀ {ds : List (Str × D)} {vs : List (Str × V)}, RepF c ds vs → noRef.gf ds = true → RepF { c with ρ := ρ, B := B } ds vs
  | _, _, .nil, _ => .nil
  | _, _, .cons h t, e => by
    rw [noRef.gf, Bool.and_eq_true] at e
    exact .cons (Rep.re hB h e.1) (RepF.re hB t e.2)
end
def pureC : Cell → Bool
  | .lst ds => noRef.go ds
  | .dic _ kvs => noRef.gp kvs
  | .obj _ fs => noRef.gf fs
/-- the first n cells alone -/
def trim (n : Nat) (h : EH) : Option EH := if h.length = n then some h else if (h.take n).all pureC = true then some (h.take n) else none
def frz1I (n : Nat) (h : EH) (d : D) : Option D := match d with
  | .ref m => if m < n then some (.ref m) else (match h[m]? with
    | some (.lst ds) => if noRef.go ds = true then some (.lst ds) else none
    | some (.obj C fs) => if noRef.gf fs = true then some (.obj C fs) else none
    | some (.dic t kvs) => if noRef.gp kvs = true then some (.dic t kvs) else none
    | _ => none)
  | d => if noRef d = true then some d else none
def frzLI (n : Nat) (h : EH) : List D → Option (List D)
  | [] => some []
  | d :: ds => match frz1I n h d, frzLI n h ds with
    | some x, some xs => some (x :: xs)
    | _, _ => none
def frzI (n : Nat) (h : EH) (d : D) : Option D := match d with
  | .tup ds => (frzLI n h ds).map .tup
  | .lst ds => (frzLI n h ds).map .lst
  | d => frz1I n h d
abbrev RC.cut (c : RC) (n : Nat) : RC := { c with ρ := c.ρ.take n }
theorem cut_sub {c : RC} {n : Nat} : ∀ a, c.B a ∨ a ∈ c.ρ.take n → c.B a ∨ a ∈ c.ρ := fun a z => z.imp id List.mem_of_mem_take
theorem cut_not {c : RC} {h : EH} {n m : Nat} {a : Addr} (s : SR c h) (hm : c.ρ[m]? = some a) (hn : n ≤ m) : a ∉ c.ρ.take n := fun z => by
  obtain ⟨j, hj, e⟩ := List.mem_iff_getElem.mp z
  rw [List.getElem_take] at e
  obtain ⟨h2, e2⟩ := List.getElem?_eq_some_iff.mp hm
  have hj' : j < c.ρ.length := by rw [List.length_take] at hj; omega
  have := (List.getElem_inj s.nd).mp (e.trans e2.symm)
  rw [List.length_take] at hj
  omega
theorem frz1I_ok {c : RC} {h : EH} {n : Nat} {d e : D} {v : V} (s : SR c h) (r : Rep c d v) (q : frz1I n h d = some e) : Rep (c.cut n) e v := by
  have fin : (if noRef d = true then some d else none) = some e → Rep (c.cut n) e v := fun q => by
    by_cases hc : noRef d = true
    · rw [if_pos hc] at q; cases q; exact r.re cut_sub hc
    · rw [if_neg hc] at q; cases q
  cases r with
  | @ref m a hn =>
    unfold frz1I at q
    dsimp only at q
    by_cases hmn : m < n
    · rw [if_pos hmn] at q
      cases q
      exact .ref (by rw [List.getElem?_take_of_lt hmn]; exact hn)
    · rw [if_neg hmn] at q
      cases q2 : h[m]? with
      | none => rw [q2] at q; cases q
      | some k =>
        rw [q2] at q
        have cr := s.cells m a k hn q2
        have nb : ¬ c.B a := fun z => s.nb a (List.mem_of_getElem? hn) z
        have nm := cut_not (n := n) s hn (by omega)
        cases k with
        | lst ds =>
          dsimp only at q
          by_cases hc : noRef.go ds = true
          · rw [if_pos hc] at q
            cases q
            obtain ⟨xs, e1, e2⟩ := cr
            exact .lst e1 ⟨nb, nm⟩ (e2.re cut_sub hc)
          · rw [if_neg hc] at q; cases q
        | dic t kvs =>
          dsimp only at q
          by_cases hc : noRef.gp kvs = true
          · rw [if_pos hc] at q
            cases q
            obtain ⟨o, zs, e1, e3, e2⟩ := cr
            exact .dic e1 e3 ⟨nb, nm⟩ (e2.re cut_sub hc)
          · rw [if_neg hc] at q; cases q
        | obj C fs =>
          dsimp only at q
          by_cases hc : noRef.gf fs = true
          · rw [if_pos hc] at q
            cases q
            obtain ⟨Ca, dx, vs, e0, e1, e2⟩ := cr
            exact .obj e0 e1 ⟨nb, nm⟩ (e2.re cut_sub hc)
          · rw [if_neg hc] at q; cases q
  | _ => exact fin q
theorem frzLI_ok {c : RC} {h : EH} {n : Nat} (s : SR c h) : ∀ {ds es : List D} {vs : List V}, Reps c ds vs → frzLI n h ds = some es → Reps (c.cut n) es vs
  | _, _, _, .nil, q => by cases q; exact .nil
  | d :: ds, es, _, .cons r t, q => by
    unfold frzLI at q
    cases q1 : frz1I n h d with
    | none => rw [q1] at q; cases q
    | some x =>
      cases q2 : frzLI n h ds with
      | none => rw [q1, q2] at q; cases q
      | some xs => rw [q1, q2] at q; cases q; exact .cons (frz1I_ok s r q1) (frzLI_ok s t q2)
theorem frzI_ok {c : RC} {h : EH} {n : Nat} {d e : D} {v : V} (s : SR c h) (r : Rep c d v) (q : frzI n h d = some e) : Rep (c.cut n) e v := by
  cases r with
  | @tup a ds xs k1 k2 =>
    have q' : (frzLI n h ds).map D.tup = some e := q
    cases q1 : frzLI n h ds with
    | none => rw [q1] at q'; cases q'
    | some es => rw [q1] at q'; cases q'; exact .tup k1 (frzLI_ok s k2 q1)
  | @lst a ds xs k1 k2 k3 =>
    have q' : (frzLI n h ds).map D.lst = some e := q
    cases q1 : frzLI n h ds with
    | none => rw [q1] at q'; cases q'
    | some es => rw [q1] at q'; cases q'; exact .lst k1 ⟨k2.1, fun z => k2.2 (List.mem_of_mem_take z)⟩ (frzLI_ok s k3 q1)
  | non => exact frz1I_ok s .non q
  | bl b => exact frz1I_ok s (.bl b) q
  | int i => exact frz1I_ok s (.int i) q
  | str cs => exact frz1I_ok s (.str cs) q
  | obj m k1 k2 k3 => exact frz1I_ok s (.obj m k1 k2 k3) q
  | dic k1 k2 k3 k4 => exact frz1I_ok s (.dic k1 k2 k3 k4) q
  | fn k1 k2 k3 k4 k5 k6 => exact frz1I_ok s (.fn k1 k2 k3 k4 k5 k6) q
  | exc k1 k2 k3 k4 k5 k6 => exact frz1I_ok s (.exc k1 k2 k3 k4 k5 k6) q
  | ref hn => exact frz1I_ok s (.ref hn) q
  | scr k1 k2 => exact frz1I_ok s (.scr k1 k2) q
theorem trim_ok {c : RC} {h h1 : EH} {n : Nat} (s : SR c h) (q : trim n h = some h1) : SR (c.cut n) h1 := by
  unfold trim at q
  by_cases e : h.length = n
  · rw [if_pos e] at q
    cases q
    have e2 : c.ρ.take n = c.ρ := List.take_of_length_le (by rw [s.len, e]; exact Nat.le_refl _)
    have e3 : c.cut n = c := by
      show ({ c with ρ := c.ρ.take n } : RC) = c
      rw [e2]
    rw [e3]; exact s
  · rw [if_neg e] at q
    by_cases hp : (h.take n).all pureC = true
    · rw [if_pos hp] at q
      cases q
      refine ⟨by rw [List.length_take, List.length_take, s.len], s.nd.sublist (List.take_sublist _ _), fun m a k e1 e2 => ?_, fun a ha => s.nb a (List.mem_of_mem_take ha), s.bt⟩
      have hm : m < n := by
        have := (List.getElem?_eq_some_iff.mp e2).1
        rw [List.length_take] at this
        omega
      have e1' : c.ρ[m]? = some a := by
        have z : (c.ρ.take n)[m]? = some a := e1
        rwa [List.getElem?_take_of_lt hm] at z
      have e2' : h[m]? = some k := by rwa [List.getElem?_take_of_lt hm] at e2
      have hk : pureC k = true := List.all_eq_true.mp hp k (List.mem_of_getElem? e2)
      have r := s.cells m a k e1' e2'
      cases k with
      | lst ds => obtain ⟨xs, h1, h2⟩ := r; exact ⟨xs, h1, h2.re cut_sub hk⟩
      | dic t kvs => obtain ⟨o, zs, h1, h3, h2⟩ := r; exact ⟨o, zs, h1, h3, h2.re cut_sub hk⟩
      | obj C fs => obtain ⟨Ca, dx, vs, h0, h1, h2⟩ := r; exact ⟨Ca, dx, vs, h0, h1, h2.re cut_sub hk⟩
    · rw [if_neg hp] at q; cases q
theorem le_cut {c c' : RC} (l : c.Le c') : c.Le (c'.cut c.ρ.length) := by
  refine ⟨l.K, l.mg, l.B, l.Bn, l.dom, fun n a e => ?_, fun a o e t n => ⟨(l.keep a o e t n).1, fun z => (l.keep a o e t n).2 (List.mem_of_mem_take z)⟩, l.tup, l.frz⟩
  have hn := (List.getElem?_eq_some_iff.mp e).1
  show (c'.ρ.take c.ρ.length)[n]? = some a
  rw [List.getElem?_take_of_lt hn]
  exact l.pre n a e
abbrev IF := List D → EH → Option (R D × EH)
def endI (n : Nat) (x : Option (RS × EH)) : Option (R D × EH) := match x with
  | some (.rt d, h) => (match frzI n h d, trim n h with
    | some d', some h1 => some (.ok d', h1)
    | _, _ => none)
  | some (.nx _, h) => (trim n h).map fun h1 => (.ok .non, h1)
  | some (.ex e _, h) => if noRef.gf e.fs = true then (trim n h).map fun h1 => (.ex e, h1) else none
  | _ => none
def runI (n : Nat) (m : MS) : IF := fun ds h => endI h.length (m (startE n ds) h)
/-- the def gives a new cell -/
def endA (n : Nat) (x : Option (RS × EH)) : Option (R D × EH) := match x with
  | some (.rt (.ref m), h) => if n = m ∧ h.length = n + 1 then some (.ok (.ref n), h) else none
  | _ => none
def runA (n : Nat) (m : MS) : IF := fun ds h => endA h.length (m (startE n ds) h)
def SpI (K : PySem.W.Frag) (mg : Str → Option Value) (n : Nat) (F : IF) : Sp := fun vs H Q E => ∃ (c : RC) (h : EH) (ds : List D) (r : R D) (h' : EH), c.K = K ∧ MgE c mg ∧ c.H = H ∧ SR c h ∧ Reps c ds vs ∧ ds.length = n ∧ F ds h = some (r, h') ∧
  (∀ d, r = .ok d → ∀ c' v, c.Le c' → SR c' h' → Rep c' d v → Q v c'.H) ∧ (∀ e, r = .ex e → ∀ c' cls dx, c.Le c' → SR c' h' → ExR c' e cls dx → E cls dx c'.H)
structure FnI (P : Program) (w : World) (K : PySem.W.Frag) (mg : Str → Option Value) (base : Heap) (x : Str) (k n : Nat) (F : IF) : Prop where
  ex : ∃ (f : Addr) (fd : FuncData) (ps : List Str), mg x = some (.ref f) ∧ PySem.W.keepIn K (.ref f) = true ∧ Binds K fd ps [] ∧ ps.length = n ∧ FnOk P w K mg base (L2.CX P w) k f fd ps (SpI K mg n F)
section
variable {P : Program} {w : World} {K : PySem.W.Frag} {mg : Str → Option Value} {base : Heap}
theorem bodyI_of {N : List Str} {m : MS} {vs : List V} {H : Hp} {Q : VK} {E : XK} {n : Nat} (h : SpI K mg n (runI N.length m) vs H Q E) : tS K mg (fun cls d _ H' => E cls d H') m { nx := fun _ H' => Q .non H', rt := Q } (L2.start N vs) H := by
  obtain ⟨c, h, ds, r, h', hK, hm, rfl, sr, rv, hn, e, go, gx⟩ := h
  unfold runI at e
  cases q : m (startE N.length ds) h with
  | none => rw [q] at e; cases e
  | some z =>
    obtain ⟨rs, h2⟩ := z
    rw [q] at e
    refine ⟨c, startE N.length ds, h, rs, h2, hK, hm, rfl, sr, start_envR rv, q, ?_⟩
    rw [← sr.len] at e
    cases rs with
    | nx ε' =>
      have e' : (trim c.ρ.length h2).map (fun h1 => (R.ok D.non, h1)) = some (r, h') := e
      cases q1 : trim c.ρ.length h2 with
      | none => rw [q1] at e'; cases e'
      | some h1 =>
        rw [q1] at e'
        cases e'
        exact fun c' σ' l s en => go _ rfl (c'.cut c.ρ.length) _ (le_cut l) (trim_ok s q1) .non
    | rt d =>
      have e' : (match frzI c.ρ.length h2 d, trim c.ρ.length h2 with
        | some d', some h1 => some (R.ok d', h1)
        | _, _ => none) = some (r, h') := e
      cases q1 : frzI c.ρ.length h2 d with
      | none => rw [q1] at e'; cases e'
      | some d' =>
        cases q2 : trim c.ρ.length h2 with
        | none => rw [q1, q2] at e'; cases e'
        | some h1 =>
          rw [q1, q2] at e'
          cases e'
          exact fun c' v l s rd => go _ rfl (c'.cut c.ρ.length) v (le_cut l) (trim_ok s q2) (frzI_ok s rd q1)
    | bk ε' => cases e
    | ct ε' => cases e
    | ex x ε' =>
      have e' : (if noRef.gf x.fs = true then (trim c.ρ.length h2).map (fun h1 => (R.ex x, h1)) else none) = some (r, h') := e
      by_cases hc : noRef.gf x.fs = true
      · rw [if_pos hc] at e'
        cases q1 : trim c.ρ.length h2 with
        | none => rw [q1] at e'; cases e'
        | some h1 =>
          rw [q1] at e'
          cases e'
          refine fun c' σ' cls dx l s en xr => gx _ rfl (c'.cut c.ρ.length) cls dx (le_cut l) (trim_ok s q1) ?_
          obtain ⟨Ca, d, vs, h1, h2, h3, h4, h5, h6⟩ := xr
          exact ⟨Ca, d, vs, h1, h2, h3, h4, ⟨h5.1, fun z => h5.2 (List.mem_of_mem_take z)⟩, h6.re cut_sub hc⟩
      · rw [if_neg hc] at e'; cases e'
theorem bodyA_of {N : List Str} {m : MS} {vs : List V} {H : Hp} {Q : VK} {E : XK} {n : Nat} (h : SpI K mg n (runA N.length m) vs H Q E) : tS K mg (fun cls d _ H' => E cls d H') m { nx := fun _ H' => Q .non H', rt := Q } (L2.start N vs) H := by
  obtain ⟨c, h, ds, r, h', hK, hm, rfl, sr, rv, hn, e, go, gx⟩ := h
  unfold runA at e
  cases q : m (startE N.length ds) h with
  | none => rw [q] at e; cases e
  | some z =>
    obtain ⟨rs, h2⟩ := z
    rw [q] at e
    refine ⟨c, startE N.length ds, h, rs, h2, hK, hm, rfl, sr, start_envR rv, q, ?_⟩
    cases rs with
    | rt d =>
      cases d with
      | ref m' =>
        have e' : (if h.length = m' ∧ h2.length = h.length + 1 then some (R.ok (D.ref h.length), h2) else none) = some (r, h') := e
        by_cases hc : h.length = m' ∧ h2.length = h.length + 1
        · rw [if_pos hc] at e'
          cases e'
          rw [← hc.1]
          exact fun c' v l s rd => go _ rfl c' v l s rd
        · rw [if_neg hc] at e'; cases e'
      | _ => cases e
    | _ => cases e
theorem fnI {x qual : Str} {params : Arguments} {body : List Stmt} {scope : Scope} {f : Addr} {fd : FuncData} {N ps : List Str} {k : Nat} {m : MS} {dvs : List V} {kws : List (Str × V)} (F : FunD K x qual params body scope dvs kws f fd) (S : FnScope N ps scope)
    (hb : ∀ (cdv : Value) (A : Around) (outer : List Env) (s : Shared) (H : Hp) (E : XK), Room k (A.deeper (envOfC qual scope s.heap.objs.size f cdv)) → RSs (cxOf (L2.CX P w) P w K mg base N qual scope f cdv A outer s H E) (fun cls d _ H' => E cls d H') body m) :
    FnOk P w K mg base (L2.CX P w) (k + 1) f fd ps (SpI K mg ps.length (runI N.length m)) := by
  refine F.ok S (fun vs H Q E h => ?_) (fun cdv A outer s H vs Q E hr h => ⟨_, hb cdv A outer s H E hr, bodyI_of h⟩)
  obtain ⟨c, h, ds, r, h', _, _, _, _, rv, hn, _⟩ := h
  rw [← rv.length, hn]
theorem fnA {x qual : Str} {params : Arguments} {body : List Stmt} {scope : Scope} {f : Addr} {fd : FuncData} {N ps : List Str} {k : Nat} {m : MS} {dvs : List V} {kws : List (Str × V)} (F : FunD K x qual params body scope dvs kws f fd) (S : FnScope N ps scope)
    (hb : ∀ (cdv : Value) (A : Around) (outer : List Env) (s : Shared) (H : Hp) (E : XK), Room k (A.deeper (envOfC qual scope s.heap.objs.size f cdv)) → RSs (cxOf (L2.CX P w) P w K mg base N qual scope f cdv A outer s H E) (fun cls d _ H' => E cls d H') body m) :
    FnOk P w K mg base (L2.CX P w) (k + 1) f fd ps (SpI K mg ps.length (runA N.length m)) := by
  refine F.ok S (fun vs H Q E h => ?_) (fun cdv A outer s H vs Q E hr h => ⟨_, hb cdv A outer s H E hr, bodyA_of h⟩)
  obtain ⟨c, h, ds, r, h', _, _, _, _, rv, hn, _⟩ := h
  rw [← rv.length, hn]
end
def mCallI (F : IF) (a : M (List D)) : M D := fun ε h => bR (a ε h) fun ds h1 => F ds h1
section
variable {X : Cx} {W : WX}
theorem callI_of {K : PySem.W.Frag} {mg : Str → Option Value} {n : Nat} {F : IF} {a : M (List D)} {σ : L2.St} {H : Hp} {Q : VK} (hn : ArN n a) (h : tE K mg W (mCallI F a) σ H Q) :
    tCallSD (SpI K mg n F) [] (fun σ cls d H' => W cls d σ H') (tA K mg W a) σ H Q := by
  obtain ⟨c, ε, h, r, h', hK, hm, rfl, sr, er, e, px, go⟩ := h
  unfold tCallSD
  cases q : a ε h with
  | none => rw [mCallI, q] at e; cases e
  | some z =>
    obtain ⟨ra, h1⟩ := z
    rw [mCallI, q] at e
    cases ra with
    | ex x =>
      cases e
      exact ⟨c, ε, h, .ex x, _, hK, hm, rfl, sr, er, q, fun y ey => px y (by cases ey; rfl), fun a' ea => nomatch ea⟩
    | ok ds =>
      refine ⟨c, ε, h, .ok ds, h1, hK, hm, rfl, sr, er, q, Px.ok, fun ds' eds c1 vs l1 s1 r1 => ?_⟩
      cases eds
      rw [List.append_nil]
      exact ⟨c1, h1, ds, r, h', l1.K.trans hK, l1.mg.trans hm, rfl, s1, r1, hn _ _ _ _ q, e, fun d ed c' v l s rd => go d ed c' v (l1.trans l) s rd, fun x ex c' cls dx l s xr => px x ex c' cls dx (l1.trans l) s xr⟩
theorem re_callI {x : Str} {p pos : Pos} {e : Expr} {es : List Expr} {k j n : Nat} {F : IF} {ma : M (List D)} (G : FnI X.prog X.w X.K X.mg X.base x k n F) (hr : Room j X.A) (tk : Takes X W) (ha : RA X W (e :: es) ma) (hk : k ≤ j := by decide)
    (hn : ArN n ma := by repeat (first | exact ar_nil | refine ar_cons ?_)) (hg : Gl X x := by rfl)
    (hdb : (x == ("__debug__" : Str)) = false := by decide) (he : starEach (e :: es) X.env = (false, eval e X.env) :: starEach es X.env := by rfl) (hpl : (backTo pos (starEach es X.env)).any (·.1) = false := by rfl) :
    RE X W (.Call (.Name x p) (e :: es) [] pos) (mCallI F ma) := by
  obtain ⟨f, fd, ps, hm, hkp, hb, hl, F⟩ := G.ex
  exact pe_imp (pe_callSD F (hr.mono hk) hg hm hkp hb .nil (fun σ => passAt tk σ) ha hdb he hpl) fun σ H Q h => callI_of hn h
end
/-- [..] as a cell -/
def mLstC (m : M (List D)) : M D := fun ε h => bR (m ε h) fun ds h1 => if ds.length ≤ sizeLine then some (.ok (.ref h1.length), h1 ++ [.lst ds]) else none
theorem SR.cell {c : RC} {h : EH} {p : Addr} {ds : List D} {xs : List V} (s : SR c h) (hp : c.H p = none) (r : Reps c ds xs) : c.Le { c with ρ := c.ρ ++ [p], H := upd c.H p (.lst xs) } ∧ SR { c with ρ := c.ρ ++ [p], H := upd c.H p (.lst xs) } (h ++ [.lst ds]) := by
  have np : p ∉ c.ρ := fun z => by
    obtain ⟨o, e⟩ := s.ex z
    rw [hp] at e; cases e
  have ne : ∀ a o, c.H a = some o → a ≠ p := fun a o e z => by rw [z, hp] at e; cases e
  have l : c.Le { c with ρ := c.ρ ++ [p], H := upd c.H p (.lst xs) } := by
    refine ⟨rfl, ⟨rfl, tabs_upd (noTab_none hp)⟩, fun _ h => h, fun _ h => .inl h, fun a u e => ⟨u, (upd_ne (ne a u e)).trans e⟩, fun n a e => ?_, fun a u e _ n => ⟨(upd_ne (ne a u e)).trans e, fun z => ?_⟩, fun a ys e => ?_, fun a o u e => (upd_ne (ne a _ e)).trans e⟩
    · show (c.ρ ++ [p])[n]? = some a
      rw [List.getElem?_append_left (List.getElem?_eq_some_iff.mp e).1]
      exact e
    · rcases List.mem_append.mp z with z | z
      · exact n z
      · exact ne a u e (List.mem_singleton.mp z)
    · rcases e with e | ⟨u, e⟩
      · exact .inl ((upd_ne (ne a _ e)).trans e)
      · exact .inr ⟨u, (upd_ne (ne a _ e)).trans e⟩
  refine ⟨l, ⟨by rw [List.length_append, List.length_append, s.len]; rfl, ?_, fun n a k e1 e2 => ?_, fun a ha z => ?_, fun a hb => ?_⟩⟩
  · rw [List.nodup_append]
    refine ⟨s.nd, by simp, fun a ha b hb => ?_⟩
    rw [List.mem_singleton.mp hb]
    exact fun z => np (z ▸ ha)
  · have e1' : (c.ρ ++ [p])[n]? = some a := e1
    by_cases hn : n < c.ρ.length
    · rw [List.getElem?_append_left hn] at e1'
      rw [List.getElem?_append_left (by rw [← s.len]; exact hn)] at e2
      have cr := s.cells n a k e1' e2
      obtain ⟨o, eo⟩ := cr.ex
      exact cr.le l (upd_ne (ne a o eo))
    · rw [List.getElem?_append_right (by omega)] at e1'
      rw [List.getElem?_append_right (by rw [← s.len]; omega), ← s.len] at e2
      cases q : n - c.ρ.length with
      | zero =>
        rw [q] at e1' e2
        cases e1'
        cases e2
        exact ⟨xs, upd_same, r.le l⟩
      | succ m =>
        rw [q] at e1'
        simp at e1'
  · rcases List.mem_append.mp ha with ha | ha
    · exact s.nb a ha z
    · rw [List.mem_singleton.mp ha] at z
      obtain ⟨o, e⟩ := s.bt p z
      rw [hp] at e; cases e
  · obtain ⟨o, e⟩ := s.bt a hb
    exact ⟨o, (upd_ne (ne a o e)).trans e⟩
theorem re_lstC {X : Cx} {W : WX} {es : List Expr} {m : M (List D)} {pos} (h : RA X W es m) : RE X W (.List es pos) (mLstC m) := by
  refine pe_imp (pe_lst h) fun σ H Q h => ?_
  obtain ⟨c, ε, h, r', h', hK, hm, rfl, sr, er, e, px, go⟩ := h
  unfold tLst
  refine tX.bind hK hm sr er e px fun ds h1 c1 xs e1 l1 s1 r1 => ?_
  by_cases hz : ds.length ≤ sizeLine
  · rw [if_pos hz] at e1
    cases e1
    refine ⟨by rw [← r1.length]; exact hz, fun p hp => ?_⟩
    obtain ⟨l2, s2⟩ := s1.cell hp r1
    refine go _ rfl _ _ (l1.trans l2) s2 (.ref ?_)
    show (c1.ρ ++ [p])[h1.length]? = some p
    rw [← s1.len, List.getElem?_append_right (Nat.le_refl _), Nat.sub_self]
    rfl
  · rw [if_neg hz] at e1; cases e1
end PD
namespace PD
open PySem PySem.Spec PyProof.Rows L2
variable [LamTab]
inductive Ty where
  | non | bool | int | str | tup | lst | dic
  deriving DecidableEq
def Ty.nm : Ty → String
  | .non => "NoneType" | .bool => "bool" | .int => "int" | .str => "str" | .tup => "tuple" | .lst => "list" | .dic => "dict"
def isa : Ty → Ty → Bool
  | .non, .non => true | .bool, .bool => true | .bool, .int => true | .int, .int => true | .str, .str => true | .tup, .tup => true | .lst, .lst => true | .dic, .dic => true
  | _, _ => false
theorem kit_isa : ∀ a b : Ty, kitB a.nm b.nm = some (isa a b) := by
  intro a b
  cases a <;> cases b <;> decide +kernel
def tyD (h : EH) (d : D) : Option Ty := match d with
  | .non => some .non
  | .bl _ => some .bool
  | .int _ => some .int
  | .str _ => some .str
  | .tup _ => some .tup
  | .lst _ => some .lst
  | .scr _ => some .lst
  | .ref n => (match h[n]? with
    | some (.lst _) => some .lst
    | _ => none)
  | _ => none
theorem tyD_ok {c : RC} {h : EH} {d : D} {v : V} {t : Ty} (s : SR c h) (r : Rep c d v) (e : tyD h d = some t) : TyX c.K c.H v (.type t.nm) := by
  cases r with
  | non => cases e; exact .base .non
  | bl b => cases e; exact .base (.bl b)
  | int i => cases e; exact .base (.int i)
  | str cs => cases e; exact .base (.str _)
  | @tup a ds xs k1 k2 =>
    cases e
    rcases k1 with (k1 | ⟨o, k1⟩) | ⟨o, its, n, k1, k3, _⟩
    · exact .base (.tup k1)
    · exact .fTuple k1
    · exact .kTuple k1 k3
  | @lst a ds xs k1 k2 k3 =>
    cases e
    exact .base (.lst k1)
  | scr k1 k2 =>
    cases e
    rcases k1 with ⟨o, k1⟩ | ⟨o, its, n, k1, k3, _⟩
    · exact .base (.frz k1)
    · exact .kList k1 k3
  | obj _ _ _ _ => cases e
  | dic _ _ _ _ => cases e
  | fn _ _ _ _ _ _ => cases e
  | exc _ _ _ _ _ _ => cases e
  | @ref n a hn =>
    unfold tyD at e
    dsimp only at e
    cases q : h[n]? with
    | none => rw [q] at e; cases e
    | some k =>
      rw [q] at e
      cases k with
      | lst ds =>
        cases e
        obtain ⟨xs, e1, _⟩ := s.cells n a _ hn q
        exact .base (.lst e1)
      | _ => cases e
def mIsi (ts : List Ty) (a : M D) : M D := fun ε h => bR (a ε h) fun d h1 => match tyD h1 d with
  | some t => some (.ok (.bl (ts.any (isa t))), h1)
  | none => none
section
variable {X : Cx} {W : WX}
theorem re_isi (T : Ty) {e : Expr} {x : Str} {p p2 pos : Pos} {m : M D} (hm : X.mg "isinstance" = none) (hmx : X.mg x = none) (he : RE X W e m) (hv : bootBuiltins x = some (.type T.nm) := by decide +kernel)
    (hg : Gl X "isinstance" := by rfl) (hgx : Gl X x := by rfl) (hnx : x ≠ "__name__" := by decide) (hdx : (x == ("__debug__" : Str)) = false := by decide)
    (hs1 : starEach [e, .Name x p2] X.env = (false, eval e X.env) :: starEach [.Name x p2] X.env := by rfl) (hs2 : starEach [.Name x p2] X.env = (false, eval (.Name x p2) X.env) :: starEach [] X.env := by rfl)
    (hpl : (backTo pos (starEach [.Name x p2] X.env)).any (·.1) = false := by rfl) : RE X W (.Call (.Name "isinstance" p) [e, .Name x p2] [] pos) (mIsi [T] m) := by
  refine pe_imp (pe_callB (x := "isinstance") call_isi hg hm (by decide +kernel) (pa_cons he (pa_cons (pe_bltn (v := .ty T.nm) (u := .type T.nm) hgx hmx hv rfl hnx hdx) pa_nil hs2) hs1) (by decide) (by decide) hs1 hpl) fun σ H Q h => ?_
  obtain ⟨c, ε, h, r, h', hK, hm, rfl, sr, er, e, px, go⟩ := h
  unfold tCB tCons tC tNil
  refine tX.bind hK hm sr er e px fun d h1 c1 v e1 l1 s1 r1 => ?_
  cases q : tyD h1 d with
  | none => rw [q] at e1; cases e1
  | some t =>
    rw [q] at e1
    cases e1
    have ty := tyD_ok s1 r1 q
    rw [l1.K.trans hK] at ty
    refine ⟨v, .ty T.nm, _, _, isa t T, rfl, .ty _, ty, kit_ty (kit_isa t T), go _ rfl c1 _ l1 s1 ?_⟩
    simpa using Rep.bl (isa t T)
theorem re_isi2 (T U : Ty) {e : Expr} {x y : Str} {p p2 p3 p4 pos : Pos} {k : Nat} {m : M D} (hm : X.mg "isinstance" = none) (hmx : X.mg x = none) (hmy : X.mg y = none) (he : RE X W e m) (hv : bootBuiltins x = some (.type T.nm) := by decide +kernel) (hvy : bootBuiltins y = some (.type U.nm) := by decide +kernel)
    (hg : Gl X "isinstance" := by rfl) (hgx : Gl X x := by rfl) (hgy : Gl X y := by rfl) (hnx : x ≠ "__name__" := by decide) (hdx : (x == ("__debug__" : Str)) = false := by decide) (hny : y ≠ "__name__" := by decide) (hdy : (y == ("__debug__" : Str)) = false := by decide)
    (hs1 : starEach [e, .Tuple [.Name x p2, .Name y p3] k p4] X.env = (false, eval e X.env) :: starEach [.Tuple [.Name x p2, .Name y p3] k p4] X.env := by rfl) (hs2 : starEach [.Tuple [.Name x p2, .Name y p3] k p4] X.env = (false, eval (.Tuple [.Name x p2, .Name y p3] k p4) X.env) :: starEach [] X.env := by rfl)
    (hs3 : starEach [.Name x p2, .Name y p3] X.env = (false, eval (.Name x p2) X.env) :: starEach [.Name y p3] X.env := by rfl) (hs4 : starEach [.Name y p3] X.env = (false, eval (.Name y p3) X.env) :: starEach [] X.env := by rfl)
    (hpl : (backTo pos (starEach [.Tuple [.Name x p2, .Name y p3] k p4] X.env)).any (·.1) = false := by rfl) : RE X W (.Call (.Name "isinstance" p) [e, .Tuple [.Name x p2, .Name y p3] k p4] [] pos) (mIsi [T, U] m) := by
  refine pe_imp (pe_callB (x := "isinstance") call_isiT hg hm (by decide +kernel) (pa_cons he (pa_cons (pe_tup (pa_cons (pe_bltn (v := .ty T.nm) (u := .type T.nm) hgx hmx hv rfl hnx hdx) (pa_cons (pe_bltn (v := .ty U.nm) (u := .type U.nm) hgy hmy hvy rfl hny hdy) pa_nil hs4) hs3)) pa_nil hs2) hs1) (by decide) (by decide) hs1 hpl) fun σ H Q h => ?_
  obtain ⟨c, ε, h, r, h', hK, hm, rfl, sr, er, e, px, go⟩ := h
  unfold tCB tCons tTup tC tNil
  refine tX.bind hK hm sr er e px fun d h1 c1 v e1 l1 s1 r1 => ?_
  refine ⟨by show 2 ≤ sizeLine; decide, fun tp htp => ?_⟩
  cases q : tyD h1 d with
  | none => rw [q] at e1; cases e1
  | some t =>
    rw [q] at e1
    cases e1
    obtain ⟨l2, s2, f2⟩ := s1.new (o := .tup [.ty T.nm, .ty U.nm]) htp
    have ty := tyD_ok s2 (r1.le l2) q
    have hK2 : (c1.put tp (.tup [.ty T.nm, .ty U.nm])).K = X.K := l1.K.trans hK
    rw [hK2] at ty
    refine ⟨v, tp, [.ty T.nm, .ty U.nm], _, [.type T.nm, .type U.nm], [T, U].any (isa t), rfl, upd_same, .cons (.ty _) (.cons (.ty _) .nil), ty, ?_, go _ rfl _ _ (l1.trans l2) s2 (.bl _)⟩
    refine kitAny_cons (b := isa t T) (kit_ty (kit_isa t T)) (fun hb => ?_) fun hb => by simp [hb]
    refine kitAny_cons (b := isa t U) (kit_ty (kit_isa t U)) (fun hb2 => ?_) fun hb2 => by simp [hb2]
    rw [kitAny_nil]
    simp [hb, hb2]
def MtS (K : PySem.W.Frag) (mg : Str → Option Value) (r : V → List V → Hp → VK → Prop) (f : EH → List Nat → List D → Option D) : Prop := ∀ (c : RC) (h : EH) (z : List Nat) (xs : List V) (ds : List D) (d : D) (Q : VK), c.K = K → MgE c mg → SR c h → Reps c ds xs → f h z ds = some d →
  (∀ c' v, c.Le c' → SR c' h → Rep c' d v → Q v c'.H) → r (.str ⟨z.toArray⟩) xs c.H Q
def mMtS (f : EH → List Nat → List D → Option D) (o : M D) (a : M (List D)) : M D := fun ε h => bR (o ε h) fun x h1 => match x with
  | .str z => bR (a ε h1) fun ds h2 => rt (f h2 z ds) h2
  | _ => none
theorem mts_of {K : PySem.W.Frag} {mg : Str → Option Value} {r : V → List V → Hp → VK → Prop} {f : EH → List Nat → List D → Option D} {o : M D} {a : M (List D)} (hs : MtS K mg r f) {σ : L2.St} {H : Hp} {Q : VK} (h : tE K mg W (mMtS f o a) σ H Q) : tBM K "str" r (tE K mg W o) (tA K mg W a) σ H Q := by
  obtain ⟨c, ε, h, r', h', hK, hm, rfl, sr, er, e, px, go⟩ := h
  unfold tBM
  refine tX.bind hK hm sr er e px fun d h1 c1 v e1 l1 s1 r1 => ?_
  cases r1 with
  | str z =>
    refine ⟨rfl, ?_⟩
    refine tX.bind (l1.K.trans hK) (l1.mg.trans hm) s1 (er.le l1) e1 (px.le l1) fun ds h2 c2 xs e2 l2 s2 r2 => ?_
    cases q : f h2 z ds with
    | none => rw [q] at e2; cases e2
    | some d =>
      rw [q] at e2
      cases e2
      exact hs c2 _ z xs ds d Q ((l2.K.trans l1.K).trans hK) ((l2.mg.trans l1.mg).trans hm) s2 r2 q fun c' v l s r => go d rfl c' v ((l1.trans l2).trans l) s r
  | _ => cases e1
theorem re_mts {id : String} {name : Str} {r : V → List V → Hp → VK → Prop} {f : EH → List Nat → List D → Option D} {o e : Expr} {es : List Expr} {apos cpos : Pos} {mo : M D} {ma : M (List D)} (slot : Slot "str" name id) (hty : typeOf (.builtin id) = pure (.type "method_descriptor")) (hm : MtR X id r) (hs : MtS X.K X.mg r f) (ho : RE X W o mo) (ha : RA X W (e :: es) ma)
    (hbase : attributeBase o name X.env (eval o X.env) = eval o X.env := by rfl)
    (hfew : ((backTo cpos (starEach (e :: es) X.env)).all (fun x => !x.1) && (backToKw cpos (keywordEach [] X.env)).all (fun x => x.1.isSome)
      && decide ((e :: es).length + ([] : List Keyword).length + (if ([] : List Keyword).isEmpty then 0 else 1) < 30)) = true := by rfl)
    (hline : (apos.endLine == cpos.line) = true := by rfl) (hss : starEach (e :: es) X.env = (false, eval e X.env) :: starEach es X.env := by rfl) (hplain : (backTo cpos (starEach es X.env)).any (·.1) = false := by rfl) :
    RE X W (.Call (.Attribute o name apos) (e :: es) [] cpos) (mMtS f mo ma) :=
  pe_imp (pe_bm PySem.F.plainAttrs_str slot hty hm ho ha hbase hfew hline hss hplain) fun _ _ _ h => mts_of hs h
end
/-- lists of texts -/
def asTs : List D → Option (List (List Nat))
  | [] => some []
  | .str z :: ds => (asTs ds).map (z :: ·)
  | _ :: _ => none
theorem asTs_ok {c : RC} : ∀ {ds : List D} {xs : List V} {zs : List (List Nat)}, Reps c ds xs → asTs ds = some zs → xs = (zs.map fun z => (⟨z.toArray⟩ : Str)).map V.str
  | _, _, bs, .nil, e => by cases e; rfl
  | _, _, bs, .cons h t, e => by
    cases h with
    | str z =>
      unfold asTs at e
      rename_i ds vs
      cases q : asTs ds with
      | none => rw [q] at e; cases e
      | some cs => rw [q] at e; cases e; rw [asTs_ok t q]; rfl
    | _ => cases e
def permL {α : Type} (p : List Nat) (xs : List α) : List α := p.filterMap (xs[·]?)
def mPerm (p : List Nat) (a : M (List D)) : M (List D) := fun ε h => bR (a ε h) fun ds h1 => some (.ok (permL p ds), h1)
end PD
namespace PD
open PySem PySem.Spec PyProof.Rows L2
variable [LamTab]
section
variable {X : Cx} {W : WX}
def dAdd : EH → D → D → Option D := fun h x y => (dI2 (fun i j => some (.int (i + j))) h x y).or ((dCatS h x y).or ((dCatT h x y).or (dCatL h x y)))
def dSub : EH → D → D → Option D := dI2 fun i j => some (.int (i - j))
def dMul : EH → D → D → Option D := dI2 fun i j => if CMul i j then some (.int (i * j)) else none
def dDiv : EH → D → D → Option D := dI2 fun i j => if CDiv i j then some (.int (i / j)) else none
def dMod : EH → D → D → Option D := dI2 fun i j => if 0 < j then some (.int (i % j)) else none
def dPow : EH → D → D → Option D := dI2 fun i j => if CPow i j then some (.int (i ^ j.toNat)) else none
def dLt : EH → D → D → Option D := dI2 fun i j => some (.bl (decide (i < j)))
def dLe : EH → D → D → Option D := dI2 fun i j => some (.bl (decide (i ≤ j)))
def dGt : EH → D → D → Option D := dI2 fun i j => some (.bl (decide (j < i)))
def dGe : EH → D → D → Option D := dI2 fun i j => some (.bl (decide (j ≤ i)))
def dInA : EH → D → D → Option D := fun h x y => (dInS false h x y).or (dIn false h x y)
variable {a b : Expr} {ma mb : M D} {pos : Pos}
theorem re_add (ha : RE X W a ma) (hb : RE X W b mb) : RE X W (.BinOp a .Add b pos) (mBin dAdd ma mb) :=
  re_bin (op_add.or (op_add_str.or (op_catA.or op_cat))) ((ops_I0 _).or (ops_catS.or (ops_catT.or ops_catL))) ha hb
theorem re_sub (ha : RE X W a ma) (hb : RE X W b mb) : RE X W (.BinOp a .Sub b pos) (mBin dSub ma mb) := re_bin op_sub (ops_I0 _) ha hb
theorem re_mul (ha : RE X W a ma) (hb : RE X W b mb) : RE X W (.BinOp a .Mult b pos) (mBin dMul ma mb) := re_bin op_mul (ops_IC CMul _) ha hb
theorem re_div (ha : RE X W a ma) (hb : RE X W b mb) : RE X W (.BinOp a .FloorDiv b pos) (mBin dDiv ma mb) := re_bin op_fdiv (ops_IC CDiv _) ha hb
theorem re_mod (ha : RE X W a ma) (hb : RE X W b mb) : RE X W (.BinOp a .Mod b pos) (mBin dMod ma mb) := re_bin op_mod (ops_IC (fun _ j => 0 < j) _) ha hb
theorem re_pow (ha : RE X W a ma) (hb : RE X W b mb) : RE X W (.BinOp a .Pow b pos) (mBin dPow ma mb) := re_bin op_pow (ops_IC CPow _) ha hb
theorem re_lt (ha : RE X W a ma) (hb : RE X W b mb) : RE X W (.Compare a [.Lt] [b] pos) (mBin dLt ma mb) := re_cmp op_lt (ops_B0 _) ha hb (nomark _)
theorem re_le (ha : RE X W a ma) (hb : RE X W b mb) : RE X W (.Compare a [.LtE] [b] pos) (mBin dLe ma mb) := re_cmp op_le (ops_B0 _) ha hb (nomark _)
theorem re_ge (ha : RE X W a ma) (hb : RE X W b mb) : RE X W (.Compare a [.GtE] [b] pos) (mBin dGe ma mb) := re_cmp op_ge (ops_B0 fun i j => decide (j ≤ i)) ha hb (nomark _)
theorem re_eq {k : Nat} (hr : Room k X.A) (ha : RE X W a ma) (hb : RE X W b mb) : RE X W (.Compare a [.Eq] [b] pos) (mBin dEq ma mb) := re_cmp (op_eq.or (op_eqD hr.units)) (ops_eqS.or ops_eqD) ha hb (nomark _)
theorem re_in (ha : RE X W a ma) (hb : RE X W b mb) (hm : behindInMarks .In b = false := by rfl) : RE X W (.Compare a [.In] [b] pos) (mBin dInA ma mb) := re_cmp (op_in_sign.or op_in_seq) (ops_inS.or (ops_in false)) ha hb hm
theorem re_is (ha : RE X W a ma) (hb : RE X W b mb) : RE X W (.Compare a [.Is] [b] pos) (mBin (dIsN false) ma mb) := re_cmp op_isN ops_isN ha hb (nomark _)
theorem rt_lt (ha : RE X W a ma) (hb : RE X W b mb) : RT X W (.Compare a [.Lt] [b] pos) (mTst (mBin dLt ma mb)) := rt_cmp op_lt (ops_B0 _) ha hb (nomark _)
theorem rt_gt (ha : RE X W a ma) (hb : RE X W b mb) : RT X W (.Compare a [.Gt] [b] pos) (mTst (mBin dGt ma mb)) := rt_cmp op_gt (ops_B0 fun i j => decide (j < i)) ha hb (nomark _)
theorem rt_ge (ha : RE X W a ma) (hb : RE X W b mb) : RT X W (.Compare a [.GtE] [b] pos) (mTst (mBin dGe ma mb)) := rt_cmp op_ge (ops_B0 fun i j => decide (j ≤ i)) ha hb (nomark _)
theorem rt_eq {k : Nat} (hr : Room k X.A) (ha : RE X W a ma) (hb : RE X W b mb) : RT X W (.Compare a [.Eq] [b] pos) (mTst (mBin dEq ma mb)) := rt_cmp (op_eq.or (op_eqD hr.units)) (ops_eqS.or ops_eqD) ha hb (nomark _)
theorem rt_ne {k : Nat} (hr : Room k X.A) (ha : RE X W a ma) (hb : RE X W b mb) : RT X W (.Compare a [.NotEq] [b] pos) (mTst (mBin dNe ma mb)) := rt_cmp (op_ne.or (op_neD hr.units)) (ops_neS.or ops_neD) ha hb (nomark _)
theorem rt_in (ha : RE X W a ma) (hb : RE X W b mb) (hm : behindInMarks .In b = false := by rfl) : RT X W (.Compare a [.In] [b] pos) (mTst (mBin dInA ma mb)) := rt_cmp (op_in_sign.or op_in_seq) (ops_inS.or (ops_in false)) ha hb hm
theorem rt_is (ha : RE X W a ma) (hb : RE X W b mb) : RT X W (.Compare a [.Is] [b] pos) (mTst (mBin (dIsN false) ma mb)) := rt_cmp op_isN ops_isN ha hb (nomark _)
def mChain (f g : EH → D → D → Option D) (a b c : M D) : M D := fun ε h => bR (a ε h) fun x h1 => bR (b ε h1) fun y h2 => bR (rt ((f h2 x y).bind asB) h2) fun k h3 => if k = true then bR (c ε h3) fun z h4 => rt (g h4 y z) h4 else some (.ok (.bl false), h3)
theorem chain_of {K : PySem.W.Frag} {mg : Str → Option Value} {r r' : R2} {f g : EH → D → D → Option D} {a b c : M D} (hs : OpS K mg r f) (hs' : OpS K mg r' g) {σ : L2.St} {H : Hp} {Q : VK} (h : tE K mg W (mChain f g a b c) σ H Q) : tChain r r' (tE K mg W a) (tE K mg W b) (tE K mg W c) σ H Q := by
  obtain ⟨c0, ε, h, r0, h', hK, hm, rfl, sr, er, e, px, go⟩ := h
  unfold tChain
  refine tX.bind hK hm sr er e px fun dx h1 c1 x e1 l1 s1 r1 => ?_
  refine tX.bind (l1.K.trans hK) (l1.mg.trans hm) s1 (er.le l1) e1 (px.le l1) fun dy h2 c2 y e2 l2 s2 r2 => ?_
  have L2' := l1.trans l2
  cases q : f h2 dx dy with
  | none => rw [q] at e2; cases e2
  | some d =>
    rw [q] at e2
    cases d with
    | bl k =>
      refine hs c2 _ x y dx dy _ _ (L2'.K.trans hK) (L2'.mg.trans hm) s2 (r1.le l2) r2 q fun c3 v l3 s3 r3 => ?_
      have L3 := L2'.trans l3
      cases r3
      refine ⟨k, rfl, ?_⟩
      cases k with
      | false =>
        rw [if_neg Bool.false_ne_true]
        cases e2
        exact go _ rfl c3 _ L3 s3 (.bl false)
      | true =>
        rw [if_pos rfl]
        have e2' : bR (c ε h2) (fun z h4 => rt (g h4 dy z) h4) = some (r0, h') := e2
        refine tX.bind (L3.K.trans hK) (L3.mg.trans hm) s3 (er.le L3) e2' (px.le L3) fun dz h4 c4 z e4 l4 s4 r4 => ?_
        cases q4 : g h4 dy dz with
        | none => rw [q4] at e4; cases e4
        | some d4 =>
          rw [q4] at e4
          cases e4
          exact hs' c4 _ y z dy dz d4 Q ((L3.trans l4).K.trans hK) ((L3.trans l4).mg.trans hm) s4 ((r2.le l3).le l4) r4 q4 fun c' v l s r => go _ rfl c' v ((L3.trans l4).trans l) s r
    | _ => cases e2
variable {c : Expr} {mc : M D}
theorem rt_lele (ha : RE X W a ma) (hb : RE X W b mb) (hc : RE X W c mc) (hm : lastMarks [.LtE, .LtE] [b, c] = false := by with_unfolding_all rfl) : RT X W (.Compare a [.LtE, .LtE] [b, c] pos) (mTst (mChain dLe dLe ma mb mc)) :=
  pt_imp (pt_chain op_le op_le ha hb hc hm) fun _ _ _ h => chain_of (ops_B0 _) (ops_B0 _) (tB_of h)
def mNeg (a : M D) : M D := fun ε h => bR (a ε h) fun x h1 => match x with
  | .int i => some (.ok (.int (-i)), h1)
  | _ => none
theorem re_ix (ha : RE X W a ma) (hb : RE X W b mb) (hs : PlainIx b := by exact fun _ _ => rfl) : RE X W (.Subscript a b pos) (mBin dIx ma mb) := pe_imp (pe_ix ix_seq ha hb hs) fun _ _ _ h => top_of ops_ix h
variable {e : Expr} {p : Pos} {m : M (List D)}
theorem re_len (hm : X.mg "len" = none) (ha : RA X W [e] m) (hg : Gl X "len" := by rfl) (he : starEach [e] X.env = (false, eval e X.env) :: starEach [] X.env := by rfl) : RE X W (.Call (.Name "len" p) [e] [] pos) (mCall dLen m) := re_callB call_len cs_len hm ha (by decide +kernel) hg (by decide) (by decide) he rfl
theorem re_intc (hm : X.mg "int" = none) (ha : RA X W [e] m) (hg : Gl X "int" := by rfl) (he : starEach [e] X.env = (false, eval e X.env) :: starEach [] X.env := by rfl) : RE X W (.Call (.Name "int" p) [e] [] pos) (mCall dInt m) := re_callTy (call_int1.or call_int_str) cs_int hm ha (by decide +kernel) hg (by decide) (by decide) he rfl
theorem re_strc (hm : X.mg "str" = none) (ha : RA X W [e] m) (hg : Gl X "str" := by rfl) (he : starEach [e] X.env = (false, eval e X.env) :: starEach [] X.env := by rfl) : RE X W (.Call (.Name "str" p) [e] [] pos) (mCall dStr m) := re_callTy (call_str_int.or SkE.call_str_str) cs_str hm ha (by decide +kernel) hg (by decide) (by decide) he rfl
theorem re_listc (hm : X.mg "list" = none) (ha : RA X W [e] m) (hg : Gl X "list" := by rfl) (he : starEach [e] X.env = (false, eval e X.env) :: starEach [] X.env := by rfl) : RE X W (.Call (.Name "list" p) [e] [] pos) (mCall dList m) := re_callTy call_list_of cs_list hm ha (by decide +kernel) hg (by decide) (by decide) he rfl
theorem re_tuplec (hm : X.mg "tuple" = none) (ha : RA X W [e] m) (hg : Gl X "tuple" := by rfl) (he : starEach [e] X.env = (false, eval e X.env) :: starEach [] X.env := by rfl) : RE X W (.Call (.Name "tuple" p) [e] [] pos) (mCall dTuple m) := re_callTy call_tuple_of cs_tuple hm ha (by decide +kernel) hg (by decide) (by decide) he rfl
theorem re_all (hc : X.calm = true) (hm : X.mg "all" = none) (ha : RA X W [e] m) (hg : Gl X "all" := by rfl) (he : starEach [e] X.env = (false, eval e X.env) :: starEach [] X.env := by rfl) : RE X W (.Call (.Name "all" p) [e] [] pos) (mCall dAll m) := re_callB (cr_all hc) cs_all hm ha (by decide +kernel) hg (by decide) (by decide) he rfl
theorem re_any (hc : X.calm = true) (hm : X.mg "any" = none) (ha : RA X W [e] m) (hg : Gl X "any" := by rfl) (he : starEach [e] X.env = (false, eval e X.env) :: starEach [] X.env := by rfl) : RE X W (.Call (.Name "any" p) [e] [] pos) (mCall dAny m) := re_callB (cr_any hc) cs_any hm ha (by decide +kernel) hg (by decide) (by decide) he rfl
theorem rs_setLc (i : Nat) {y : Str} {py : Pos} {elt tg iter : Expr} {ifs : List Expr} {scope : Scope} {own : List (Str × Nat)} {pos spos : Pos} {mi : M (List D)} {g : MG} {S : List Nat} {t : M Bool} {e : M D} (hc : X.calm = true) (hN : X.N.Nodup)
    (hi : RI X W tg iter mi) (ok : BlkOk X.N X.env.scope scope own)
    (hg : ∀ (s : Shared) (H : Hp) (C : Addr) (cl : List (Str × Addr)) (fp : List Addr), RG (X.blk s H scope (compEnvC scope cl C X.env) fp) tg S g) (ht : ∀ (s : Shared) (H : Hp) (C : Addr) (cl : List (Str × Addr)) (fp : List Addr), RTs (X.blk s H scope (compEnvC scope cl C X.env) fp) W0 ifs t)
    (he : ∀ (s : Shared) (H : Hp) (C : Addr) (cl : List (Str × Addr)) (fp : List Addr), RE (X.blk s H scope (compEnvC scope cl C X.env) fp) W0 elt e) (hS : ∀ i ∈ S, i ∈ own.map (·.2) := by decide) (hy : X.N[i]? = some y := by rfl) (hyl : X.env.scope.names.lookup y = some .local := by rfl)
    (hsw : swapsWith (.ListComp elt [⟨tg, iter, ifs, 0⟩] scope pos) (some (.Name y py)) spos.line X.env = pure true := by exact sw_true rfl rfl rfl (by decide +kernel)) (hs : ∀ x, foldedSetIterable iter X.env x = pure x := by intro _; rfl) :
    RSt X W (.Assign [.Name y py] (.ListComp elt [⟨tg, iter, ifs, 0⟩] scope pos) spos) (msAsg (mLc (own.map (·.2)) mi g t e) (mgName i)) := by
  refine ps_imp (ps_setLc (g := tG X.K X.mg S g) (tt := tT X.K X.mg W0 t) (te := tE X.K X.mg W0 e) hc hN hy hyl hsw hi ok hg ht he hs) fun D σ H h => ?_
  obtain ⟨c, ε, h, r, h', hK, hm, rfl, sr, er, e, fin⟩ := h
  unfold tAsg
  refine lc_of hS ?_
  refine tX.stm hK hm sr er e fin fun d h1 c1 v e1 l1 s1 r1 => ?_
  cases e1
  exact fin c1 _ l1 s1 ((er.le l1).set r1 i)
end
section
variable {P : Program} {w : World} {K : PySem.W.Frag} {mg : Str → Option Value} {base : Heap} {N : List Str} {qual : Str} {scope : Scope} {f : Addr} {cdv : Value} {A : Around} {outer : List Env} {s : Shared} {H : Hp} {E : XK}
theorem tkOf : Takes (cxOf (L2.CX P w) P w K mg base N qual scope f cdv A outer s H E) (fun cls d _ H' => E cls d H') := takes_of rfl rfl rfl rfl
theorem poOf : PassesOwn (model P w) (A.deeper (envOfC qual scope s.heap.objs.size f cdv)) (envOfC qual scope s.heap.objs.size f cdv) (cxOf (L2.CX P w) P w K mg base N qual scope f cdv A outer s H E).xe := PassesOwn.leaving
end
end PD
namespace PD
open PySem PySem.Spec PyProof.Rows L2
variable [LamTab]
theorem ba2 {a b : Bool} (h : (a && b) = true) : a = true ∧ b = true := by simpa using h
mutual
theorem dB_ok {K : PySem.W.Frag} : ∀ {d : D} {u : Value}, dB K d u = true → ∃ v, RelV v u ∧ ∀ c : RC, c.K = K → Rep c d v
  | .non, u, h => by
    cases u <;> first | (rw [dB] at h <;> first | cases h | (intros; simp at *)) | skip
    exact ⟨.non, rfl, fun c _ => .non⟩
  | .bl b, u, h => by
    cases u with
    | bool c =>
      rw [dB] at h
      have e : b = c := by simpa using h
      subst e
      exact ⟨.bl b, rfl, fun c _ => .bl b⟩
    | _ => simp [dB] at h
  | .int i, u, h => by
    cases u with
    | int j t =>
      rw [dB] at h
      have e : i = j := of_decide_eq_true h
      subst e
      exact ⟨.int i, ⟨t, rfl⟩, fun c _ => .int i⟩
    | _ => simp [dB] at h
  | .str cs, u, h => by
    cases u with
    | str y t =>
      rw [dB] at h
      have e : y.cps.toList = cs := of_decide_eq_true h
      subst e
      exact ⟨.str y, ⟨t, rfl⟩, fun c _ => .str _⟩
    | _ => simp [dB] at h
  | .tup ds, u, h => by
    cases u with
    | ref a =>
      rw [dB] at h
      cases q : K.lookup a with
      | none => rw [q] at h; cases h
      | some o =>
        obtain ⟨oc, od, dt, osl⟩ := o
        rw [q] at h
        cases oc with
        | type c =>
          cases dt with
          | seq its n =>
            obtain ⟨h1, h2⟩ := ba2 (show (decide (c = "tuple") && (decide (its.size ≤ sizeLine) && dBs K ds its.toList)) = true from h)
            obtain ⟨h3, h4⟩ := ba2 h2
            obtain ⟨vs, r, rp⟩ := dBs_ok h4
            refine ⟨.ref a, rfl, fun c0 hK => .tup (.inr ⟨_, its, n, by rw [hK]; exact q, congrArg Value.type (of_decide_eq_true h1), rfl, of_decide_eq_true h3, r⟩) (rp c0 hK)⟩
          | _ => cases h
        | _ => cases dt <;> cases h
    | _ => simp [dB] at h
  | .scr ds, u, h => by
    cases u with
    | ref a =>
      rw [dB] at h
      cases q : K.lookup a with
      | none => rw [q] at h; cases h
      | some o =>
        obtain ⟨oc, od, dt, osl⟩ := o
        rw [q] at h
        cases oc with
        | type c =>
          cases od with
          | none =>
            cases dt with
            | seq its n =>
              obtain ⟨h1, h2⟩ := ba2 (show (decide (c = "list") && (decide (its.size ≤ sizeLine) && dBs K ds its.toList)) = true from h)
              obtain ⟨h3, h4⟩ := ba2 h2
              obtain ⟨vs, r, rp⟩ := dBs_ok h4
              refine ⟨.ref a, rfl, fun c0 hK => .scr (.inr ⟨_, its, n, by rw [hK]; exact q, congrArg Value.type (of_decide_eq_true h1), rfl, rfl, of_decide_eq_true h3, r⟩) (rp c0 hK)⟩
            | _ => cases h
          | some x => cases dt <;> cases h
        | _ => cases od <;> cases dt <;> cases h
    | _ => simp [dB] at h
  | .lst _, u, h => by simp [dB] at h
  | .dic _ _, u, h => by simp [dB] at h
  | .obj _ _, u, h => by simp [dB] at h
  | .ref _, u, h => by simp [dB] at h
theorem dBs_ok {K : PySem.W.Frag} : ∀ {ds : List D} {us : List Value}, dBs K ds us = true → ∃ vs, Vals vs us ∧ ∀ c : RC, c.K = K → Reps c ds vs
  | [], us, h => by
    cases us with
    | nil => exact ⟨[], .nil, fun _ _ => .nil⟩
    | cons _ _ => simp [dBs] at h
  | d :: ds, us, h => by
    cases us with
    | nil => simp [dBs] at h
    | cons u us =>
      rw [dBs] at h
      obtain ⟨h1, h2⟩ := ba2 h
      obtain ⟨v, r, rp⟩ := dB_ok h1
      obtain ⟨vs, rs, rps⟩ := dBs_ok h2
      exact ⟨v :: vs, .cons r rs, fun c hK => .cons (rp c hK) (rps c hK)⟩
end
theorem globC_of {K : PySem.W.Frag} {h : Heap} {mg : Str → Option Value} (X : K.In h) (G : h.Ns mainGlobals mg) {x : Str} {d : D} (c : gloB K x d = true) : GlobC K mg x d := by
  unfold gloB at c
  cases q : PySem.W.nsIn K mainGlobals x with
  | none => rw [q] at c; cases c
  | some u =>
    cases u with
    | none => rw [q] at c; cases c
    | some u =>
      rw [q] at c
      obtain ⟨v, r, rp⟩ := dB_ok c
      exact ⟨u, v, PySem.W.mg_of X G q, r, fun c hK _ => rp c hK⟩
theorem SaysG.d {fa : List He.Fa} {fn : List He.DefD} {gs : List (Str × D)} {K : PySem.W.Frag} (c : SaysG fa fn gs K) : He.SaysD fa fn K := congrArg (fun z : AlG => z.1) c
theorem SaysG.glob {fa : List He.Fa} {fn : List He.DefD} {gs : List (Str × D)} {K : PySem.W.Frag} (c : SaysG fa fn gs K) {p : Str × D} (hp : p ∈ gs) : gloB K p.1 p.2 = true :=
  List.all_eq_true.mp (congrArg (fun z : AlG => z.2) c : (gs.all fun p => gloB K p.1 p.2) = true) p hp
theorem SaysD.facts' {fa : List He.Fa} {fn : List He.DefD} {K : PySem.W.Frag} (c : He.SaysD fa fn K) {f : He.Fa} (h : f ∈ fa) : f.ok K = true := by
  obtain ⟨i, hi, e⟩ := List.mem_iff_getElem.mp h
  exact c.fact i (f := f) (by rw [List.getElem?_eq_getElem hi, e])
theorem SaysD.def' {fa : List He.Fa} {fn : List He.DefD} {K : PySem.W.Frag} (c : He.SaysD fa fn K) {d : He.DefD} (h : d ∈ fn) : ∃ fd, FunD K d.name d.qual d.params d.body d.scope (d.dvs K) (d.kws K) (He.fAd K d.at_) fd := by
  obtain ⟨i, hi, e⟩ := List.mem_iff_getElem.mp h
  exact c.def_ i (d := d) (by rw [List.getElem?_eq_getElem hi, e])
section
variable {P : Program} {w : World} {K : PySem.W.Frag} {mg : Str → Option Value} {base : Heap}
theorem fnOk0 {k n : Nat} {f : Addr} {fd : FuncData} {ps : List Str} : FnOk P w K mg base (L2.CX P w) k f fd ps (SpP K mg n fun _ => none) :=
  ⟨fun vs H Q E h => (by obtain ⟨_, _, _, _, _, _, _, _, _, _, e, _⟩ := h; cases e), fun A outer s H args us vs Q E _ _ _ _ h => (by obtain ⟨_, _, _, _, _, _, _, _, _, _, e, _⟩ := h; cases e)⟩
theorem FnP.mono {x : Str} {j k n : Nat} {F : PF} (h : FnP P w K mg base x j n F) (l : j ≤ k) : FnP P w K mg base x k n F := by
  obtain ⟨f, fd, ps, a, b, c, d, e⟩ := h.ex
  exact ⟨⟨f, fd, ps, a, b, c, d, e.mono l⟩⟩
end
end PD
namespace PD
open PySem PySem.Spec PyProof.Rows L2
variable [LamTab]
theorem reps_ints {c : RC} : ∀ ns : List Int, Reps c (ns.map D.int) (ns.map V.int)
  | [] => .nil
  | n :: ns => .cons (.int n) (reps_ints ns)
end PD
namespace PD
open PySem PySem.Spec PyProof.Rows L2
variable [LamTab]
def stL (s : Str) : List Nat := s.cps.toList
def partD (z s : List Nat) : List Nat × List Nat × List Nat := (stL (Txt.partition (toS z) (toS s)).1, stL (Txt.partition (toS z) (toS s)).2.1, stL (Txt.partition (toS z) (toS s)).2.2)
def s1 (f : List Nat → Option D) (ds : List D) : Option D := match ds with
  | [.str s] => f s
  | _ => none
def dPart (_ : EH) (z : List Nat) (ds : List D) : Option D := s1 (fun s => if s ≠ [] ∧ z.length ≤ 16777216 then some (.tup [.str (partD z s).1, .str (partD z s).2.1, .str (partD z s).2.2]) else none) ds
theorem str1 {c : RC} {ds : List D} {xs : List V} {f : List Nat → Option D} {d : D} (rx : Reps c ds xs) (e : s1 f ds = some d) : ∃ s, ds = [.str s] ∧ xs = [.str (toS s)] ∧ f s = some d := by
  match ds, rx, e with
  | [d0], .cons r0 .nil, e =>
    cases r0 with
    | str s => exact ⟨s, rfl, rfl, e⟩
    | _ => cases e
  | [], _, e => cases e
  | a :: b :: r, _, e =>
    have : s1 f (a :: b :: r) = none := by cases a <;> rfl
    rw [this] at e
    cases e
theorem ne_len {s : List Nat} (h : s ≠ []) : ((toS s).length == 0) = false := by
  cases s with
  | nil => exact absurd rfl h
  | cons _ _ => rfl
theorem len_toS (z : List Nat) : (toS z).length = z.length := by simp [toS, Str.length]
section
variable {K : PySem.W.Frag} {mg : Str → Option Value}
theorem ms_part : MtS K mg (fun x xs H Q => ∃ a b, x = .str a ∧ xs = [.str b] ∧ (b.length == 0) = false ∧ a.length ≤ sizeLine ∧ ∀ p, H p = none → Q (.ref p) (upd H p (.tup [.str (Txt.partition a b).1, .str (Txt.partition a b).2.1, .str (Txt.partition a b).2.2]))) dPart := by
  intro c eh z xs ds d Q hK hm sr rx e go
  obtain ⟨s, rfl, rfl, e⟩ := str1 (f := fun s => if s ≠ [] ∧ z.length ≤ 16777216 then some (.tup [.str (partD z s).1, .str (partD z s).2.1, .str (partD z s).2.2]) else none) rx e
  by_cases hc : s ≠ [] ∧ z.length ≤ 16777216
  · rw [if_pos hc] at e
    cases e
    exact ⟨_, _, rfl, rfl, ne_len hc.1, by show (toS z).length ≤ 16777216; rw [len_toS]; exact hc.2, put_tup sr go (.cons (.str _) (.cons (.str _) (.cons (.str _) .nil)))⟩
  · rw [if_neg hc] at e; cases e
end
section
variable {X : Cx} {W : WX} {o e : Expr} {mo : M D} {m : M (List D)} {apos pos : Pos}
theorem re_part (ho : RE X W o mo) (ha : RA X W [e] m) (hbase : attributeBase o "partition" X.env (eval o X.env) = eval o X.env := by rfl)
    (hfew : ((backTo pos (starEach [e] X.env)).all (fun x => !x.1) && (backToKw pos (keywordEach [] X.env)).all (fun x => x.1.isSome)
      && decide (([e] : List Expr).length + ([] : List Keyword).length + (if ([] : List Keyword).isEmpty then 0 else 1) < 30)) = true := by rfl)
    (hline : (apos.endLine == pos.line) = true := by rfl) (hss : starEach [e] X.env = (false, eval e X.env) :: starEach [] X.env := by rfl) : RE X W (.Call (.Attribute o "partition" apos) [e] [] pos) (mMtS dPart mo m) :=
  re_mts PySem.F.slot_str_partition PySem.F.type_str_partition mt_partition ms_part ho ha hbase hfew hline hss rfl
end
end PD
namespace PD
open PySem PySem.Spec PyProof.Rows L2
variable [LamTab]
def insD (h : EH) (d : D) : Option (Str × List (Str × D)) := match d with
  | .obj C fs => some (C, fs)
  | .ref n => (match h[n]? with
    | some (.obj C fs) => some (C, fs)
    | _ => none)
  | _ => none
theorem insD_ok {c : RC} {h : EH} {d : D} {v : V} {C : Str} {fs : List (Str × D)} (s : SR c h) (r : Rep c d v) (e : insD h d = some (C, fs)) :
    ∃ a Ca dx vs, v = .ref a ∧ c.mg C = some (.ref Ca) ∧ c.H a = some (.ins Ca dx vs) ∧ RepF c fs vs := by
  cases r with
  | obj m k1 k2 k3 => cases e; exact ⟨_, _, _, _, rfl, m, k1, k3⟩
  | @ref n a hn =>
    unfold insD at e
    dsimp only at e
    cases q : h[n]? with
    | none => rw [q] at e; cases e
    | some k =>
      rw [q] at e
      cases k with
      | obj C' fs' =>
        cases e
        obtain ⟨Ca, dx, vs, h1, h2, h3⟩ := s.cells n a _ hn q
        exact ⟨a, Ca, dx, vs, rfl, h1, h2, h3⟩
      | _ => cases e
  | _ => cases e
/-- what one has of a class whose fields fs are read or written -/
def ClsF (K : PySem.W.Frag) (mg : Str → Option Value) (C f : Str) : Prop := ∃ Ca, mg C = some (.ref Ca) ∧ Cls K Ca ∧ NoAttr K Ca f
def ClsFs (K : PySem.W.Frag) (mg : Str → Option Value) (Cs : List Str) (f : Str) : Prop := ∀ C ∈ Cs, ClsF K mg C f
theorem ClsFs.nil {K : PySem.W.Frag} {mg : Str → Option Value} {f : Str} : ClsFs K mg [] f := fun _ h => nomatch h
theorem ClsFs.cons {K : PySem.W.Frag} {mg : Str → Option Value} {C f : Str} {Cs : List Str} (h : ClsF K mg C f) (t : ClsFs K mg Cs f) : ClsFs K mg (C :: Cs) f := fun D hD => by
  rcases List.mem_cons.mp hD with e | e
  · rw [e]; exact h
  · exact t D e
theorem ClsFs.at {K : PySem.W.Frag} {mg : Str → Option Value} {C f : Str} {Cs : List Str} {Ca : Addr} (h : ClsFs K mg Cs f) (hC : C ∈ Cs) (hm : mg C = some (.ref Ca)) : Cls K Ca ∧ NoAttr K Ca f := by
  obtain ⟨Cb, h1, h2, h3⟩ := h C hC
  rw [hm] at h1
  cases h1
  exact ⟨h2, h3⟩
/-- o.f -/
def dFld (Cs : List Str) (f : Str) (h : EH) (d : D) : Option D := match insD h d with
  | some (C, fs) => if C ∈ Cs then fs.lookup f else none
  | none => none
def mFld (Cs : List Str) (f : Str) (a : M D) : M D := fun ε h => bR (a ε h) fun x h1 => rt (dFld Cs f h1 x) h1
section
variable {X : Cx} {W : WX}
theorem re_fld {Cs : List Str} {f : Str} {e : Expr} {m : M D} {pos : Pos} (hC : ClsFs X.K X.mg Cs f) (he : RE X W e m) (hb : attributeBase e f X.env (eval e X.env) = eval e X.env := by rfl) : RE X W (.Attribute e f pos) (mFld Cs f m) := by
  refine pe_imp (pe_fld he hb) fun σ H Q h => ?_
  obtain ⟨c, ε, h, r, h', hK, hm, rfl, sr, er, e, px, go⟩ := h
  unfold tFld
  refine tX.bind hK hm sr er e px fun d h1 c1 v e1 l1 s1 r1 => ?_
  unfold dFld at e1
  cases q : insD h1 d with
  | none => rw [q] at e1; cases e1
  | some z =>
    obtain ⟨C, fs⟩ := z
    rw [q] at e1
    dsimp only at e1
    by_cases hc : C ∈ Cs
    · rw [if_pos hc] at e1
      obtain ⟨a, Ca, dx, vs, rfl, k1, k2, k3⟩ := insD_ok s1 r1 q
      cases q2 : fs.lookup f with
      | none => rw [q2] at e1; cases e1
      | some d2 =>
        rw [q2] at e1
        cases e1
        obtain ⟨v2, h2, r2⟩ := k3.look q2
        obtain ⟨hc1, hc2⟩ := hC.at hc (by rw [← hm.mge, ← l1.mg.e']; exact k1)
        exact ⟨a, Ca, dx, vs, v2, rfl, k2, hc1, hc2, h2, go _ rfl c1 v2 l1 s1 r2⟩
    · rw [if_neg hc] at e1; cases e1
theorem putF_rep {c : RC} {f : Str} {d : D} {v : V} (r : Rep c d v) : ∀ {fs : List (Str × D)} {vs : List (Str × V)}, RepF c fs vs → RepF c (putD f d fs) (putF f v vs)
  | _, _, .nil => .cons r .nil
  | _, _, .cons (f := g) h t => by
    unfold putD putF
    by_cases e : g = f
    · rw [if_pos e, if_pos e]; exact .cons r t
    · rw [if_neg e, if_neg e]; exact .cons h (putF_rep r t)
def putO (Cs : List Str) (f : Str) (h : EH) (x y : D) : Option EH := match x with
  | .ref n => (match h[n]? with
    | some (.obj C fs) => if C ∈ Cs ∧ fs.length < 1000 then some (h.set n (.obj C (putD f y fs))) else none
    | _ => none)
  | _ => none
def msFld (Cs : List Str) (f : Str) (o v : M D) : MS := fun ε h => bS (v ε h) ε fun y h1 => bS (o ε h1) ε fun x h2 => (putO Cs f h2 x y).map fun h3 => (.nx ε, h3)
theorem putO_ok {c : RC} {h h' : EH} {Cs : List Str} {f : Str} {x y : D} {u v : V} (s : SR c h) (rx : Rep c x u) (ry : Rep c y v) (e : putO Cs f h x y = some h') (hC : ClsFs c.K c.mg Cs f) :
    ∃ a Ca dx vs, u = .ref a ∧ c.H a = some (.ins Ca dx vs) ∧ Cls c.K Ca ∧ NoAttr c.K Ca f ∧ vs.length < 1000 ∧ c.Le (c.put a (.ins Ca dx (putF f v vs))) ∧ SR (c.put a (.ins Ca dx (putF f v vs))) h' := by
  cases rx with
  | @ref n a hn =>
    unfold putO at e
    dsimp only at e
    cases q : h[n]? with
    | none => rw [q] at e; cases e
    | some k =>
      rw [q] at e
      cases k with
      | obj C fs =>
        dsimp only at e
        by_cases hc : C ∈ Cs ∧ fs.length < 1000
        · rw [if_pos hc] at e
          cases e
          obtain ⟨Ca, dx, vs, h1, h2, h3⟩ := s.cells n a _ hn q
          obtain ⟨hc1, hc2⟩ := hC.at hc.1 h1
          obtain ⟨l3, s3⟩ := s.write (o := .ins Ca dx (putF f v vs)) (k := .obj C (putD f y fs)) hn (fun ys z => by
            rcases z with z | ⟨u, z⟩ <;> rw [h2] at z <;> cases z) (fun o u z => by rw [h2] at z; cases z) fun c' l' eh => ⟨Ca, dx, _, by rw [l'.mg.e']; exact h1, eh, putF_rep (ry.le l') (h3.le l')⟩
          exact ⟨a, Ca, dx, vs, rfl, h2, hc1, hc2, by rw [← h3.length]; exact hc.2, l3, s3⟩
        · rw [if_neg hc] at e; cases e
      | _ => cases e
  | _ => cases e
theorem rs_fld {Cs : List Str} {f : Str} {o value : Expr} {mo mv : M D} {pos pos' : Pos} (hC : ClsFs X.K X.mg Cs f) (ho : RE X W o mo) (hv : RE X W value mv) (hs : swapsWith value (some (.Attribute o f pos')) pos.line X.env = pure false := by rfl) :
    RSt X W (.Assign [.Attribute o f pos'] value pos) (msFld Cs f mo mv) := by
  refine ps_imp (ps_fld ho hv hs) fun D σ H h => ?_
  obtain ⟨c, ε, h, r, h', hK, hm, rfl, sr, er, e, fin⟩ := h
  unfold sFld
  refine tX.stm hK hm sr er e fin fun y h1 c1 v e1 l1 s1 r1 => ?_
  refine tX.stm (l1.K.trans hK) (l1.mg.trans hm) s1 (er.le l1) e1 (fin.le l1) fun x h2 c2 u e2 l2 s2 r2 => ?_
  cases q : putO Cs f h2 x y with
  | none => rw [q] at e2; cases e2
  | some h3 =>
    rw [q] at e2
    cases e2
    obtain ⟨a, Ca, dx, vs, rfl, k1, k2, k3, k4, l3, s3⟩ := putO_ok s2 r2 (r1.le l2) q (by rw [l2.K, l1.K, hK, l2.mg.e', l1.mg.e', hm.mge]; exact hC)
    rw [l2.K, l1.K, hK] at k2 k3
    exact ⟨a, Ca, dx, vs, rfl, k1, k2, k3, k4, fin _ σ ((l1.trans l2).trans l3) s3 (((er.le l1).le l2).le l3)⟩
end
structure MetI (P : Program) (w : World) (K : PySem.W.Frag) (mg : Str → Option Value) (base : Heap) (C m : Str) (k n : Nat) (F : IF) : Prop where
  ex : ∃ (Ca f : Addr) (fd : FuncData) (ps : List Str), mg C = some (.ref Ca) ∧ Cls K Ca ∧ Meth K Ca m f ∧ Binds K fd ps [] ∧ ps.length = n ∧ FnOk P w K mg base (L2.CX P w) k f fd ps (SpI K mg n F)
structure MetP (P : Program) (w : World) (K : PySem.W.Frag) (mg : Str → Option Value) (base : Heap) (C m : Str) (k n : Nat) (F : PF) : Prop where
  ex : ∃ (Ca f : Addr) (fd : FuncData) (ps : List Str), mg C = some (.ref Ca) ∧ Cls K Ca ∧ Meth K Ca m f ∧ Binds K fd ps [] ∧ ps.length = n ∧ FnOk P w K mg base (L2.CX P w) k f fd ps (SpP K mg n F)
/-- the wish does not look at the slots -/
def Flat (W : WX) : Prop := ∀ cls d σ σ' H, W cls d σ H → W cls d σ' H
theorem flat0 : Flat W0 := fun _ _ _ _ _ h => h
theorem flatE {E : XK} : Flat fun cls d _ H' => E cls d H' := fun _ _ _ _ _ h => h
abbrev EW (W : WX) : XK := fun cls d H => W cls d [] H
theorem passE {X : Cx} {W : WX} (tk : Takes X W) (fl : Flat W) : Passes (L2.CX X.prog X.w) X (EW W) := fun pins σ H s e s' I c => by
  obtain ⟨a, B, H', cls, d, h1, h2, h3, h4, h5, h6, h7, h8⟩ := c
  exact passAt tk σ pins H s e s' I ⟨a, B, H', cls, d, h1, h2, h3, h4, h5, h6, h7, fl _ _ _ _ _ h8⟩
def mMeI (C m : Str) (F : IF) (o : M D) (a : M (List D)) : M D := fun ε h => bR (o ε h) fun x h1 => match insD h1 x with
  | some (C', fs) => if C' = C ∧ fs.lookup m = none then bR (a ε h1) fun ds h2 => F (x :: ds) h2 else none
  | none => none
def mMeP (C m : Str) (F : PF) (o : M D) (a : M (List D)) : M D := fun ε h => bR (o ε h) fun x h1 => match insD h1 x with
  | some (C', fs) => if C' = C ∧ fs.lookup m = none then bR (a ε h1) fun ds h2 => if noRef.go (x :: ds) = true then (F (x :: ds)).map fun r => (r, h2) else none else none
  | none => none
end PD
namespace PD
open PySem PySem.Spec PyProof.Rows L2
variable [LamTab]
section
variable {X : Cx} {W : WX}
theorem spP_of {K : PySem.W.Frag} {mg : Str → Option Value} {c : RC} {h : EH} {ds : List D} {vs : List V} {n : Nat} {F : PF} {r : R D} {Q : VK} {E : XK} (hK : c.K = K) (hm : MgE c mg) (s : SR c h) (rv : Reps c ds vs) (hn : ds.length = n) (hr : noRef.go ds = true) (e : F ds = some r)
    (go : ∀ d, r = .ok d → ∀ c' v, c.Le c' → SR c' h → Rep c' d v → Q v c'.H) (gx : ∀ x, r = .ex x → ∀ c' cls dx, c.Le c' → SR c' h → ExR c' x cls dx → E cls dx c'.H) : SpP K mg n F vs c.H Q E := by
  have r1' : Reps (c.bare fun a => c.B a ∨ a ∈ c.ρ) ds vs := rv.bare (fun _ z => z) hr
  have back : ∀ c', (c.bare fun a => c.B a ∨ a ∈ c.ρ).Le c' → c.Le { c' with ρ := c.ρ, B := c.B } ∧ SR { c' with ρ := c.ρ, B := c.B } h := fun c' l => by
    have l2 : c.Le { c' with ρ := c.ρ, B := c.B } := ⟨l.K, l.mg, fun _ h => h, fun _ h => .inl h, l.dom, fun _ _ h => h, fun a o e t n => ⟨(l.keep a o e t List.not_mem_nil).1, n⟩, l.tup, l.frz⟩
    refine ⟨l2, s.len, s.nd, fun n a k e1 e2 => ?_, s.nb, fun a hb => ?_⟩
    · have cr := s.cells n a k e1 e2
      obtain ⟨o, eo⟩ := cr.ex
      refine cr.le l2 ?_
      have nt : ∀ ps, o ≠ .tbl ps := fun ps z => by
        subst z
        cases k with
        | lst ds => obtain ⟨xs, h1, _⟩ := cr; rw [eo] at h1; cases h1
        | dic t kvs => obtain ⟨o', zs, h1, h3, _⟩ := cr; rw [eo] at h1; cases h1; exact h3.tbl _ rfl
        | obj C fs => obtain ⟨_, _, _, _, h1, _⟩ := cr; rw [eo] at h1; cases h1
      exact (l.keep a o eo nt List.not_mem_nil).1.trans eo.symm
    · obtain ⟨o, eo⟩ := s.bt a hb
      exact l.dom a o eo
  refine ⟨c.bare fun a => c.B a ∨ a ∈ c.ρ, ds, r, hK, hm, rfl, rfl, fun a z => ?_, r1', hn, e, fun d ed c' v l hρ rd => ?_, fun x ex c' cls dx l hρ xr => ?_⟩
  · rcases z with z | z
    · exact s.bt a z
    · exact s.ex z
  · obtain ⟨l2, s2⟩ := back c' l
    refine go d ed { c' with ρ := c.ρ, B := c.B } v l2 s2 ?_
    exact Rep.unbare (fun a ha => l.B a (.inr ha)) (fun a ha => l.B a (.inl ha)) hρ rd
  · obtain ⟨l2, s2⟩ := back c' l
    refine gx x ex { c' with ρ := c.ρ, B := c.B } cls dx l2 s2 ?_
    obtain ⟨Ca, d, us, h1, h2, h3, h4, h5, h6⟩ := xr
    exact ⟨Ca, d, us, h1, h2, h3, h4, ⟨fun z => h5.1 (l.B _ (.inl z)), fun z => h5.1 (l.B _ (.inr z))⟩, RepF.unbare (fun a ha => l.B a (.inr ha)) (fun a ha => l.B a (.inl ha)) hρ h6⟩
theorem meP_of {C m : Str} {Ca : Addr} {n : Nat} {F : PF} {o : M D} {a : M (List D)} {σ : L2.St} {H : Hp} {Q : VK} (hCa : X.mg C = some (.ref Ca)) (fl : Flat W) (hn : ArN n a) (h : tE X.K X.mg W (mMeP C m F o a) σ H Q) :
    tMeth Ca m (SpP X.K X.mg (n + 1) F) [] (EW W) (tE X.K X.mg W o) (tA X.K X.mg W a) σ H Q := by
  obtain ⟨c, ε, h, r, h', hK, hm, rfl, sr, er, e, px, go⟩ := h
  unfold tMeth
  refine tX.bind hK hm sr er e px fun x h1 c1 v e1 l1 s1 r1 => ?_
  cases q : insD h1 x with
  | none => rw [q] at e1; cases e1
  | some z =>
    obtain ⟨C', fs⟩ := z
    rw [q] at e1
    dsimp only at e1
    by_cases hc : C' = C ∧ fs.lookup m = none
    · rw [if_pos hc] at e1
      obtain ⟨p, Cb, dx, vs, rfl, k1, k2, k3⟩ := insD_ok s1 r1 q
      obtain ⟨rfl, hl⟩ := hc
      rw [l1.mg.e', hm.mge, hCa] at k1
      cases k1
      refine ⟨p, dx, vs, rfl, k2, k3.lookN hl, ?_⟩
      cases q1 : a ε h1 with
      | none => rw [q1] at e1; cases e1
      | some z =>
        obtain ⟨ra, h2⟩ := z
        rw [q1] at e1
        cases ra with
        | ex y =>
          cases e1
          exact ⟨c1, ε, h1, .ex y, _, l1.K.trans hK, l1.mg.trans hm, rfl, s1, er.le l1, q1, fun z ez c' cls dx l s xr => px z (by cases ez; rfl) c' cls dx (l1.trans l) s xr, fun a' ea => nomatch ea⟩
        | ok ds =>
          rw [bR_ok] at e1
          by_cases hr : noRef.go (x :: ds) = true
          · rw [if_pos hr] at e1
            cases q2 : F (x :: ds) with
            | none => rw [q2] at e1; cases e1
            | some r2 =>
              rw [q2] at e1
              cases e1
              refine ⟨c1, ε, h1, .ok ds, _, l1.K.trans hK, l1.mg.trans hm, rfl, s1, er.le l1, q1, Px.ok, fun ds' eds c2 us l2 s2 r2' => ?_⟩
              cases eds
              rw [List.append_nil]
              exact spP_of (l2.K.trans (l1.K.trans hK)) (l2.mg.trans (l1.mg.trans hm)) s2 (.cons (r1.le l2) r2') (congrArg Nat.succ (hn _ _ _ _ q1)) hr q2 (fun d ed c' v l s rd => go d ed c' v ((l1.trans l2).trans l) s rd)
                fun y ey c' cls dx l s xr => fl _ _ _ _ _ (px y ey c' cls dx ((l1.trans l2).trans l) s xr)
          · rw [if_neg hr] at e1; cases e1
    · rw [if_neg hc] at e1; cases e1
theorem re_methP {pl : Sem Bool} {C m : Str} {o e : Expr} {es : List Expr} {apos pos : Pos} {k j n : Nat} {F : PF} {mo : M D} {ma : M (List D)} (G : MetP X.prog X.w X.K X.mg X.base C m k (n + 1) F) (hr : Room j X.A) (tk : Takes X W) (fl : Flat W) (ho : RE X W o mo) (ha : RA X W (e :: es) ma) (hk : k ≤ j := by decide)
    (hn : ArN n ma := by repeat (first | exact ar_nil | refine ar_cons ?_)) (hst : starEach (e :: es) X.env = (false, eval e X.env) :: starEach es X.env := by rfl) (hpl : (backTo pos (starEach es X.env)).any (·.1) = false := by rfl)
    (ht : eval (.Call (.Attribute o m apos) (e :: es) [] pos) X.env = (do
      let ov ← eval o X.env
      standAt apos.atName
      let (f, first) ← holding [ov] (getMethod ov m pl)
      callWith pos f first (backTo pos (starEach (e :: es) X.env)) (backToKw pos (keywordEach [] X.env))) := by rfl) : RE X W (.Call (.Attribute o m apos) (e :: es) [] pos) (mMeP C m F mo ma) := by
  obtain ⟨Ca, f, fd, ps, h1, h2, h3, h4, h5, h6⟩ := G.ex
  exact pe_imp (pe_meth (pl := pl) ho h2 h3 h6 (hr.mono hk) h4 .nil (passE tk fl) ha hst hpl ht) fun σ H Q h => meP_of h1 fl hn h
theorem re_methP0 {pl : Sem Bool} {C m : Str} {o : Expr} {apos pos : Pos} {k j : Nat} {F : PF} {mo : M D} (G : MetP X.prog X.w X.K X.mg X.base C m k 1 F) (hr : Room j X.A) (tk : Takes X W) (fl : Flat W) (ho : RE X W o mo) (hk : k ≤ j := by decide)
    (ht : eval (.Call (.Attribute o m apos) [] [] pos) X.env = (do
      let ov ← eval o X.env
      standAt apos.atName
      let (f, first) ← holding [ov] (getMethod ov m pl)
      callWith pos f first (backTo pos (starEach [] X.env)) (backToKw pos (keywordEach [] X.env))) := by rfl) : RE X W (.Call (.Attribute o m apos) [] [] pos) (mMeP C m F mo mNil) := by
  obtain ⟨Ca, f, fd, ps, h1, h2, h3, h4, h5, h6⟩ := G.ex
  refine pe_imp (pe_meth0 (pl := pl) ho h2 h3 h6 (hr.mono hk) h4 .nil (passE tk fl) ht) fun σ H Q h => ?_
  have := meP_of (n := 0) h1 fl ar_nil h
  unfold tMeth at this ⊢
  refine tx_imp this fun v H1 ⟨a, dx, fs, e1, e2, e3, q⟩ => ⟨a, dx, fs, e1, e2, e3, ?_⟩
  obtain ⟨c, ε, h, r, h', hK, hm, rfl, sr, er, e, px, go⟩ := q
  cases e
  exact go [] rfl c [] (.refl c) sr .nil
end
theorem SR.cellG {c : RC} {h : EH} {p : Addr} {o : HO} {k : Cell} (s : SR c h) (hp : c.H p = none) (hk : ∀ c' : RC, c.Le c' → c'.H p = some o → CellR c' k p) : c.Le { c with ρ := c.ρ ++ [p], H := upd c.H p o } ∧ SR { c with ρ := c.ρ ++ [p], H := upd c.H p o } (h ++ [k]) := by
  have np : p ∉ c.ρ := fun z => by
    obtain ⟨o, e⟩ := s.ex z
    rw [hp] at e; cases e
  have ne : ∀ a o, c.H a = some o → a ≠ p := fun a o e z => by rw [z, hp] at e; cases e
  have l : c.Le { c with ρ := c.ρ ++ [p], H := upd c.H p o } := by
    refine ⟨rfl, ⟨rfl, tabs_upd (noTab_none hp)⟩, fun _ h => h, fun _ h => .inl h, fun a u e => ⟨u, (upd_ne (ne a u e)).trans e⟩, fun n a e => ?_, fun a u e _ n => ⟨(upd_ne (ne a u e)).trans e, fun z => ?_⟩, fun a ys e => ?_, fun a o u e => (upd_ne (ne a _ e)).trans e⟩
    · show (c.ρ ++ [p])[n]? = some a
      rw [List.getElem?_append_left (List.getElem?_eq_some_iff.mp e).1]
      exact e
    · rcases List.mem_append.mp z with z | z
      · exact n z
      · exact ne a u e (List.mem_singleton.mp z)
    · rcases e with e | ⟨u, e⟩
      · exact .inl ((upd_ne (ne a _ e)).trans e)
      · exact .inr ⟨u, (upd_ne (ne a _ e)).trans e⟩
  refine ⟨l, ⟨by rw [List.length_append, List.length_append, s.len]; rfl, ?_, fun n a k' e1 e2 => ?_, fun a ha z => ?_, fun a hb => ?_⟩⟩
  · rw [List.nodup_append]
    refine ⟨s.nd, by simp, fun a ha b hb => ?_⟩
    rw [List.mem_singleton.mp hb]
    exact fun z => np (z ▸ ha)
  · have e1' : (c.ρ ++ [p])[n]? = some a := e1
    by_cases hn : n < c.ρ.length
    · rw [List.getElem?_append_left hn] at e1'
      rw [List.getElem?_append_left (by rw [← s.len]; exact hn)] at e2
      have cr := s.cells n a k' e1' e2
      obtain ⟨o, eo⟩ := cr.ex
      exact cr.le l (upd_ne (ne a o eo))
    · rw [List.getElem?_append_right (by omega)] at e1'
      rw [List.getElem?_append_right (by rw [← s.len]; omega), ← s.len] at e2
      cases q : n - c.ρ.length with
      | zero =>
        rw [q] at e1' e2
        cases e1'
        cases e2
        exact hk _ l upd_same
      | succ m =>
        rw [q] at e1'
        simp at e1'
  · rcases List.mem_append.mp ha with ha | ha
    · exact s.nb a ha z
    · rw [List.mem_singleton.mp ha] at z
      obtain ⟨o, e⟩ := s.bt p z
      rw [hp] at e; cases e
  · obtain ⟨o, e⟩ := s.bt a hb
    exact ⟨o, (upd_ne (ne a o e)).trans e⟩
/-- C(..): __init__ F over the new cell -/
structure MkI (P : Program) (w : World) (K : PySem.W.Frag) (mg : Str → Option Value) (base : Heap) (C : Str) (k n : Nat) (dd : List D) (F : IF) : Prop where
  ex : ∃ (Ca f : Addr) (fd : FuncData) (ps : List Str) (us : List Value) (dvs : List V), mg C = some (.ref Ca) ∧ Mk K Ca f ∧ Binds K fd ps us ∧ Vals dvs us ∧ (∀ c : RC, c.K = K → MgE c mg → Reps c dd dvs) ∧ ps.length = n + 1 + dd.length ∧ FnOk P w K mg base (L2.CX P w) k f fd ps (SpI K mg (n + 1 + dd.length) F)
/-- .. the object as a value, never written again -/
def mMkP (C : Str) (dd : List D) (F : IF) (a : M (List D)) : M D := fun ε h => bR (a ε h) fun ds h1 => match F (.ref h1.length :: (ds ++ dd)) (h1 ++ [.obj C []]) with
  | some (.ok .non, h2) => (match frzI h1.length h2 (.ref h1.length), trim h1.length h2 with
    | some d, some h3 => some (.ok d, h3)
    | _, _ => none)
  | some (.ex e, h2) => if noRef.gf e.fs = true then (trim h1.length h2).map fun h3 => (.ex e, h3) else none
  | _ => none
section
variable {X : Cx} {W : WX}
theorem mk_start {c : RC} {h : EH} {C : Str} {Ca x dx : Addr} (s : SR c h) (hC : c.mg C = some (.ref Ca)) (hx : c.H x = none) (hd : c.H dx = none) (ne : dx ≠ x) :
    c.Le { c with ρ := c.ρ ++ [x], H := upd (upd c.H dx (.own x)) x (.ins Ca dx []) } ∧ SR { c with ρ := c.ρ ++ [x], H := upd (upd c.H dx (.own x)) x (.ins Ca dx []) } (h ++ [.obj C []]) := by
  obtain ⟨l1, s1, f1⟩ := s.new (o := .own x) hd
  have hx' : (c.put dx (.own x)).H x = none := (upd_ne (show x ≠ dx from fun z => ne z.symm)).trans hx
  obtain ⟨l2, s2⟩ := s1.cellG (o := .ins Ca dx []) (k := .obj C []) hx' fun c' l e => ⟨Ca, dx, [], by rw [l.mg.e']; exact hC, e, .nil⟩
  exact ⟨l1.trans l2, s2⟩
theorem mkP_of {C : Str} {Ca : Addr} {n : Nat} {dd : List D} {dvs : List V} {F : IF} {a : M (List D)} {σ : L2.St} {H : Hp} {Q : VK} (hCa : X.mg C = some (.ref Ca)) (hd : ∀ c : RC, c.K = X.K → MgE c X.mg → Reps c dd dvs) (fl : Flat W) (hn : ArN n a) (h : tE X.K X.mg W (mMkP C dd F a) σ H Q) :
    tMake Ca (SpI X.K X.mg (n + 1 + dd.length) F) dvs (EW W) (tA X.K X.mg W a) σ H Q := by
  obtain ⟨c, ε, h, r, h', hK, hm, rfl, sr, er, e, px, go⟩ := h
  unfold tMake
  cases q1 : a ε h with
  | none => rw [mMkP, q1] at e; cases e
  | some z =>
    obtain ⟨ra, h1⟩ := z
    rw [mMkP, q1] at e
    cases ra with
    | ex y =>
      cases e
      exact ⟨c, ε, h, .ex y, _, hK, hm, rfl, sr, er, q1, fun z ez => px z (by cases ez; rfl), fun a' ea => nomatch ea⟩
    | ok ds =>
      refine ⟨c, ε, h, .ok ds, h1, hK, hm, rfl, sr, er, q1, Px.ok, fun ds' eds c1 vs l1 s1 r1 x dx hx hdx ne => ?_⟩
      cases eds
      have hK1 := l1.K.trans hK
      have hm1 := l1.mg.trans hm
      obtain ⟨l2, s2⟩ := mk_start (C := C) (Ca := Ca) s1 (by rw [hm1.mge]; exact hCa) hx hdx ne
      rw [bR_ok] at e
      have rx : Rep { c1 with ρ := c1.ρ ++ [x], H := upd (upd c1.H dx (.own x)) x (.ins Ca dx []) } (.ref h1.length) (.ref x) := .ref (by
        show (c1.ρ ++ [x])[h1.length]? = some x
        rw [← s1.len, List.getElem?_append_right (Nat.le_refl _), Nat.sub_self]
        rfl)
      have rr := Reps.cons rx ((r1.le l2).append (hd _ hK1 (l2.mg.trans hm1)))
      have len : (D.ref h1.length :: (ds ++ dd)).length = n + 1 + dd.length := by
        rw [List.length_cons, List.length_append, hn _ _ _ _ q1]
        omega
      have L2' := l1.trans l2
      -- back to the cells before
      have lc : ∀ c', { c1 with ρ := c1.ρ ++ [x], H := upd (upd c1.H dx (.own x)) x (.ins Ca dx []) }.Le c' → c1.Le (c'.cut c1.ρ.length) := fun c' l => le_cut (l2.trans l)
      cases q2 : F (.ref h1.length :: (ds ++ dd)) (h1 ++ [.obj C []]) with
      | none => rw [q2] at e; cases e
      | some z =>
        obtain ⟨rf, h2⟩ := z
        rw [q2] at e
        cases rf with
        | ok d =>
          cases d with
          | non =>
            dsimp only at e
            cases q3 : frzI h1.length h2 (.ref h1.length) with
            | none => rw [q3] at e; cases e
            | some d' =>
              cases q4 : trim h1.length h2 with
              | none => rw [q3, q4] at e; cases e
              | some h3 =>
                rw [q3, q4] at e
                cases e
                refine ⟨{ c1 with ρ := c1.ρ ++ [x], H := upd (upd c1.H dx (.own x)) x (.ins Ca dx []) }, _, _, _, _, hK1, l2.mg.trans hm1, rfl, s2, rr, len, q2, fun d ed c' v l s rd => (by
                  cases ed; cases rd
                  rw [← s1.len] at q3 q4
                  have rx' := rx.le l
                  rw [← s1.len] at rx'
                  exact ⟨rfl, go _ rfl (c'.cut c1.ρ.length) _ (l1.trans (lc c' l)) (trim_ok s q4) (frzI_ok s rx' q3)⟩), fun y ey => nomatch ey⟩
          | _ => cases e
        | ex y =>
          dsimp only at e
          by_cases hr : noRef.gf y.fs = true
          · rw [if_pos hr] at e
            cases q4 : trim h1.length h2 with
            | none => rw [q4] at e; cases e
            | some h3 =>
              rw [q4] at e
              cases e
              refine ⟨{ c1 with ρ := c1.ρ ++ [x], H := upd (upd c1.H dx (.own x)) x (.ins Ca dx []) }, _, _, _, _, hK1, l2.mg.trans hm1, rfl, s2, rr, len, q2, (fun d ed => nomatch ed), fun z ez c' cls dx l s xr => (by
                cases ez
                rw [← s1.len] at q4
                refine fl _ _ _ _ _ (px y rfl (c'.cut c1.ρ.length) cls dx (l1.trans (lc c' l)) (trim_ok s q4) ?_)
                obtain ⟨Ca', d, us, g1, g2, g3, g4, g5, g6⟩ := xr
                exact ⟨Ca', d, us, g1, g2, g3, g4, ⟨g5.1, fun z => g5.2 (List.mem_of_mem_take z)⟩, g6.re cut_sub hr⟩)⟩
          · rw [if_neg hr] at e; cases e
variable {C : Str} {p pos : Pos} {e : Expr} {es : List Expr} {k j n : Nat} {dd : List D} {F : IF} {ma : M (List D)}
theorem re_mkP (G : MkI X.prog X.w X.K X.mg X.base C k n dd F) (hr : Room j X.A) (tk : Takes X W) (fl : Flat W) (ha : RA X W (e :: es) ma) (hk : k + 1 ≤ j := by decide)
    (hn : ArN n ma := by repeat (first | exact ar_nil | refine ar_cons ?_)) (hg : Gl X C := by rfl) (hdb : (C == ("__debug__" : Str)) = false := by decide) (he : starEach (e :: es) X.env = (false, eval e X.env) :: starEach es X.env := by rfl) (hpl : (backTo pos (starEach es X.env)).any (·.1) = false := by rfl) :
    RE X W (.Call (.Name C p) (e :: es) [] pos) (mMkP C dd F ma) := by
  obtain ⟨Ca, f, fd, ps, us, dvs, h1, h2, h3, h4, h5, h6, h7⟩ := G.ex
  exact pe_imp (pe_make h2 h7 (hr.mono hk) hg h1 h3 h4 (passE tk fl) ha hdb he hpl) fun σ H Q h => mkP_of h1 h5 fl hn h
end
end PD
namespace PD
open PySem PySem.Spec PyProof.Rows L2
variable [LamTab]
section
variable {X : Cx} {W : WX}
def mStar (a : M D) (b : M (List D)) : M (List D) := fun ε h => bR (a ε h) fun x h1 => match asS h1 x with
  | some xs => bR (b ε h1) fun ys h2 => some (.ok (xs ++ ys), h2)
  | none => none
theorem ra_star {e : Expr} {p : Pos} {es : List Expr} {me : M D} {m : M (List D)} (he : RE X W e me) (hr : RA X W es m) (hs : starEach (.Starred e p :: es) X.env = (true, eval e X.env) :: starEach es X.env := by rfl) : RA X W (.Starred e p :: es) (mStar me m) := by
  refine pa_imp (StX.pa_star he hr hs) fun σ H Q h => ?_
  obtain ⟨c, ε, h, r', h', hK, hm, rfl, sr, er, e, px, go⟩ := h
  unfold StX.tStar
  refine tX.bind hK hm sr er e px fun x h1 c1 v e1 l1 s1 r1 => ?_
  cases q : asS h1 x with
  | none => rw [q] at e1; cases e1
  | some ds =>
    rw [q] at e1
    obtain ⟨a, xs, rfl, hx, rx⟩ := asS_ok s1 r1 q
    have hx' : SqT X.K c1.H a xs ∨ SqL X.K c1.H a xs := by
      rw [← hK, ← l1.K]
      exact hx.symm
    refine ⟨a, xs, rfl, hx', ?_⟩
    refine tX.bind (l1.K.trans hK) (l1.mg.trans hm) s1 (er.le l1) e1 (px.le l1) fun ys h2 c2 zs e2 l2 s2 r2 => ?_
    cases e2
    exact go _ rfl c2 _ (l1.trans l2) s2 ((rx.le l2).append r2)
def whL (t : M Bool) (b : MS) : Nat → Ev → EH → Option (RS × EH)
  | 0, _, _ => none
  | n + 1, ε, h => bS (t ε h) ε fun k h1 => if k = true then (match b ε h1 with
    | some (.nx ε2, h2) => whL t b n ε2 h2
    | some (.ct ε2, h2) => whL t b n ε2 h2
    | some (.bk ε2, h2) => some (.nx ε2, h2)
    | some (.rt d, h2) => some (.rt d, h2)
    | some (.ex e ε2, h2) => some (.ex e ε2, h2)
    | none => none) else some (.nx ε, h1)
def msWh (n : Nat) (t : M Bool) (b : MS) : MS := fun ε h => whL t b n ε h
def addI (x y : D) : Option D := match x, y with
  | .int i, .int j => some (.int (i + j))
  | _, _ => none
def msFAug (Cs : List Str) (f : Str) (o v : M D) : MS := fun ε h => bS (o ε h) ε fun x h1 => match dFld Cs f h1 x with
  | some z => bS (v ε h1) ε fun y h2 => (match addI z y with
    | some w => if (insD h1 x).map (·.1) = (insD h2 x).map (·.1) then (putO Cs f h2 x w).map fun h3 => (.nx ε, h3) else none
    | none => none)
  | none => none
end
end PD
namespace PD
open PySem PySem.Spec PyProof.Rows L2
variable [LamTab]
mutual
theorem Rep.moreG {c : RC} {p : Addr} {o : HO} (hp : c.H p = none) : ∀ {d : D} {v : V}, Rep c d v → Rep { c with B := fun a => c.B a ∨ a = p, H := upd c.H p o } d v
  | _, _, .non => .non
  | _, _, .bl b => .bl b
  | _, _, .int i => .int i
  | _, _, .str cs => .str cs
  | _, _, .tup (a := a) (xs := ys) h r => .tup (by
      rcases h with (h | ⟨u, h⟩) | h
      · exact .inl (.inl ((upd_ne (show a ≠ p from fun z => by rw [z, hp] at h; cases h)).trans h))
      · exact .inl (.inr ⟨u, (upd_ne (show a ≠ p from fun z => by rw [z, hp] at h; cases h)).trans h⟩)
      · exact .inr h) (Reps.moreG hp r)
  | _, _, .lst (a := a) h f r => by
      have ne : a ≠ p := fun z => by rw [z, hp] at h; cases h
      exact .lst ((upd_ne ne).trans h) ⟨fun z => z.elim f.1 ne, f.2⟩ (Reps.moreG hp r)
  | _, _, .scr (a := a) h r => .scr (by
      rcases h with ⟨u, h⟩ | h
      · exact .inl ⟨u, (upd_ne (show a ≠ p from fun z => by rw [z, hp] at h; cases h)).trans h⟩
      · exact .inr h) (Reps.moreG hp r)
  | _, _, .obj (a := a) m h f r => by
      have ne : a ≠ p := fun z => by rw [z, hp] at h; cases h
      exact .obj m ((upd_ne ne).trans h) ⟨fun z => z.elim f.1 ne, f.2⟩ (RepF.moreG hp r)
  | _, _, .dic (a := a) h i f r => by
      have ne : a ≠ p := fun z => by rw [z, hp] at h; cases h
      exact .dic ((upd_ne ne).trans h) i ⟨fun z => z.elim f.1 ne, f.2⟩ (RepP.moreG hp r)
  | _, _, .fn h f h2 f2 cr r => by
      have ne : ∀ {a : Addr} {o : HO}, c.H a = some o → a ≠ p := fun e z => by rw [z, hp] at e; cases e
      exact .fn ((upd_ne (ne h)).trans h) ⟨fun z => z.elim f.1 (ne h), f.2⟩ ((upd_ne (ne h2)).trans h2) ⟨fun z => z.elim f2.1 (ne h2), f2.2⟩ (cr.imp fun b o hb fb => ⟨(upd_ne (ne hb)).trans hb, fun z => z.elim fb.1 (ne hb), fb.2⟩) (Reps.moreG hp r)
  | _, _, .exc m h f h2 f2 r => by
      have ne : ∀ {a : Addr} {o : HO}, c.H a = some o → a ≠ p := fun e z => by rw [z, hp] at e; cases e
      exact .exc m ((upd_ne (ne h)).trans h) ⟨fun z => z.elim f.1 (ne h), f.2⟩ ((upd_ne (ne h2)).trans h2) ⟨fun z => z.elim f2.1 (ne h2), f2.2⟩ (RepF.moreG hp r)
  | _, _, .ref h => .ref h
theorem Reps.moreG {c : RC} {p : Addr} {o : HO} (hp : c.H p = none) : ∀ {ds : List D} {vs : List V}, Reps c ds vs → Reps { c with B := fun a => c.B a ∨ a = p, H := upd c.H p o } ds vs
  | _, _, .nil => .nil
  | _, _, .cons h t => .cons (Rep.moreG hp h) (Reps.moreG hp t)
theorem RepP.moreG {c : RC} {p : Addr} {o : HO} (hp : c.H p = none) : ∀ {ds : List (List Key × D)} {vs : List (List Key × V)}, RepP c ds vs → RepP { c with B := fun a => c.B a ∨ a = p, H := upd c.H p o } ds vs
  | _, _, .nil => .nil
  | _, _, .cons h t => .cons (Rep.moreG hp h) (RepP.moreG hp t)
theorem RepF.moreG {c : RC} {p : Addr} {o : HO} (hp : c.H p = none) : ∀ {ds : List (Str × D)} {vs : List (Str × V)}, RepF c ds vs → RepF { c with B := fun a => c.B a ∨ a = p, H := upd c.H p o } ds vs
  | _, _, .nil => .nil
  | _, _, .cons h t => .cons (Rep.moreG hp h) (RepF.moreG hp t)
end
/-- the start -/
theorem Over.startG {c : RC} {h : EH} {p : Addr} {o : HO} (s : SR c h) (hp : c.H p = none) : Over c { c with B := fun a => c.B a ∨ a = p, H := upd c.H p o } p ∧ SR { c with B := fun a => c.B a ∨ a = p, H := upd c.H p o } h := by
  have np : p ∉ c.ρ := fun z => by
    obtain ⟨ob', e⟩ := s.ex z
    rw [hp] at e; cases e
  have ne : ∀ a ob, c.H a = some ob → a ≠ p := fun a o e z => by rw [z, hp] at e; cases e
  refine ⟨⟨⟨rfl, ⟨rfl, tabs_upd (noTab_none hp)⟩, fun _ h => .inl h, fun a h => h.imp id fun z => by rw [z]; exact hp, fun a u e => ⟨u, (upd_ne (ne a u e)).trans e⟩, fun _ _ h => h, fun a u e _ n => ⟨(upd_ne (ne a u e)).trans e, n⟩, fun a ys e => ?_, fun a ob u e => (upd_ne (ne a _ e)).trans e⟩, .inr rfl, hp, s.bt⟩, ⟨s.len, s.nd, fun n a k e1 e2 => ?_, fun a ha z => z.elim (s.nb a ha) fun z => np (z ▸ ha), fun a hb => ?_⟩⟩
  · rcases e with e | ⟨u, e⟩
    · exact .inl ((upd_ne (ne a _ e)).trans e)
    · exact .inr ⟨u, (upd_ne (ne a _ e)).trans e⟩
  · have r := s.cells n a k e1 e2
    cases k with
    | lst ds => obtain ⟨ys, h1, h2⟩ := r; exact ⟨ys, (upd_ne (ne a _ h1)).trans h1, h2.moreG hp⟩
    | dic t kvs => obtain ⟨ob, zs, h1, h3, h2⟩ := r; exact ⟨ob, zs, (upd_ne (ne a _ h1)).trans h1, h3, h2.moreG hp⟩
    | obj C fs => obtain ⟨Ca, dx, vs, h0, h1, h2⟩ := r; exact ⟨Ca, dx, vs, h0, (upd_ne (ne a _ h1)).trans h1, h2.moreG hp⟩
  · rcases hb with hb | rfl
    · obtain ⟨u, e⟩ := s.bt a hb
      exact ⟨u, (upd_ne (ne a u e)).trans e⟩
    · exact ⟨_, upd_same⟩
mutual
theorem Rep.putBG {c : RC} {p : Addr} {o o' : HO} (hB : c.B p) (hp : c.H p = some o) (g1 : ∀ xs, o ≠ .tup xs) (g2 : ∀ a b, o ≠ .frz a b) : ∀ {d : D} {v : V}, Rep c d v → Rep (c.put p o') d v
  | _, _, .non => .non
  | _, _, .bl b => .bl b
  | _, _, .int i => .int i
  | _, _, .str cs => .str cs
  | _, _, .tup (a := a) h r => .tup (by
      rcases h with (h | ⟨u, h⟩) | h
      · exact .inl (.inl ((upd_ne (show a ≠ p from fun z => by rw [z, hp] at h; exact g1 _ (Option.some.inj h))).trans h))
      · exact .inl (.inr ⟨u, (upd_ne (show a ≠ p from fun z => by rw [z, hp] at h; exact g2 _ _ (Option.some.inj h))).trans h⟩)
      · exact .inr h) (Reps.putBG hB hp g1 g2 r)
  | _, _, .lst (a := a) h f r => by
      have ne : a ≠ p := fun z => f.1 (z ▸ hB)
      exact .lst ((upd_ne ne).trans h) f (Reps.putBG hB hp g1 g2 r)
  | _, _, .scr (a := a) h r => .scr (by
      rcases h with ⟨u, h⟩ | h
      · exact .inl ⟨u, (upd_ne (show a ≠ p from fun z => by rw [z, hp] at h; exact g2 _ _ (Option.some.inj h))).trans h⟩
      · exact .inr h) (Reps.putBG hB hp g1 g2 r)
  | _, _, .obj (a := a) m h f r => by
      have ne : a ≠ p := fun z => f.1 (z ▸ hB)
      exact .obj m ((upd_ne ne).trans h) f (RepF.putBG hB hp g1 g2 r)
  | _, _, .dic (a := a) h i f r => by
      have ne : a ≠ p := fun z => f.1 (z ▸ hB)
      exact .dic ((upd_ne ne).trans h) i f (RepP.putBG hB hp g1 g2 r)
  | _, _, .fn h f h2 f2 cr r => by
      have ne : ∀ {a : Addr}, c.fr a → a ≠ p := fun f z => f.1 (z ▸ hB)
      exact .fn ((upd_ne (ne f)).trans h) f ((upd_ne (ne f2)).trans h2) f2 (cr.imp fun b o hb fb => ⟨(upd_ne (ne fb)).trans hb, fb⟩) (Reps.putBG hB hp g1 g2 r)
  | _, _, .exc m h f h2 f2 r => by
      have ne : ∀ {a : Addr}, c.fr a → a ≠ p := fun f z => f.1 (z ▸ hB)
      exact .exc m ((upd_ne (ne f)).trans h) f ((upd_ne (ne f2)).trans h2) f2 (RepF.putBG hB hp g1 g2 r)
  | _, _, .ref h => .ref h
theorem Reps.putBG {c : RC} {p : Addr} {o o' : HO} (hB : c.B p) (hp : c.H p = some o) (g1 : ∀ xs, o ≠ .tup xs) (g2 : ∀ a b, o ≠ .frz a b) : ∀ {ds : List D} {vs : List V}, Reps c ds vs → Reps (c.put p o') ds vs
  | _, _, .nil => .nil
  | _, _, .cons h t => .cons (Rep.putBG hB hp g1 g2 h) (Reps.putBG hB hp g1 g2 t)
theorem RepP.putBG {c : RC} {p : Addr} {o o' : HO} (hB : c.B p) (hp : c.H p = some o) (g1 : ∀ xs, o ≠ .tup xs) (g2 : ∀ a b, o ≠ .frz a b) : ∀ {ds : List (List Key × D)} {vs : List (List Key × V)}, RepP c ds vs → RepP (c.put p o') ds vs
  | _, _, .nil => .nil
  | _, _, .cons h t => .cons (Rep.putBG hB hp g1 g2 h) (RepP.putBG hB hp g1 g2 t)
theorem RepF.putBG {c : RC} {p : Addr} {o o' : HO} (hB : c.B p) (hp : c.H p = some o) (g1 : ∀ xs, o ≠ .tup xs) (g2 : ∀ a b, o ≠ .frz a b) : ∀ {ds : List (Str × D)} {vs : List (Str × V)}, RepF c ds vs → RepF (c.put p o') ds vs
  | _, _, .nil => .nil
  | _, _, .cons h t => .cons (Rep.putBG hB hp g1 g2 h) (RepF.putBG hB hp g1 g2 t)
end
theorem Over.putBG {c c' : RC} {h : EH} {p : Addr} {b b' : HO} (o : Over c c' p) (s : SR c' h) (hp : c'.H p = some b) (g1 : ∀ xs, b ≠ .tup xs) (g2 : ∀ x y, b ≠ .frz x y) (g3 : NoTab c'.H p := by exact noTab_of (by assumption) (fun _ z => by cases z) (fun _ z => by cases z)) : Over c (c'.put p b') p ∧ SR (c'.put p b') h := by
  have hB : c'.B p := o.Bp
  refine ⟨⟨⟨o.le.K, ⟨o.le.mg.e, fun t => tabs_upd (ρ := c'.ρ) (B := c'.B) g3 (o.le.mg.t t)⟩, o.le.B, o.le.Bn, fun a u e => ?_, o.le.pre, fun a u e t n => ?_, fun a zs e => ?_, fun a u w e => (upd_ne (show a ≠ p from o.ne e)).trans (o.le.frz a u w e)⟩, o.Bp, o.new, o.bt⟩, ⟨s.len, s.nd, fun n a k e1 e2 => ?_, s.nb, fun a hb => ?_⟩⟩
  · obtain ⟨u', h1⟩ := o.le.dom a u e
    exact ⟨u', (upd_ne (o.ne e)).trans h1⟩
  · obtain ⟨h1, n1⟩ := o.le.keep a u e t n
    exact ⟨(upd_ne (o.ne e)).trans h1, n1⟩
  · rcases o.le.tup a zs e with e' | ⟨u, e'⟩
    · exact .inl ((upd_ne (show a ≠ p from fun z => by rw [z, hp] at e'; exact g1 _ (Option.some.inj e'))).trans e')
    · exact .inr ⟨u, (upd_ne (show a ≠ p from fun z => by rw [z, hp] at e'; exact g2 _ _ (Option.some.inj e'))).trans e'⟩
  · have r := s.cells n a k e1 e2
    have ne : a ≠ p := fun z => s.nb a (List.mem_of_getElem? e1) (z ▸ hB)
    cases k with
    | lst ds => obtain ⟨zs, h1, h2⟩ := r; exact ⟨zs, (upd_ne ne).trans h1, h2.putBG hB hp g1 g2⟩
    | dic t kvs => obtain ⟨ob, zs, h1, h3, h2⟩ := r; exact ⟨ob, zs, (upd_ne ne).trans h1, h3, h2.putBG hB hp g1 g2⟩
    | obj C fs => obtain ⟨Ca, dx, vs, h0, h1, h2⟩ := r; exact ⟨Ca, dx, vs, h0, (upd_ne ne).trans h1, h2.putBG hB hp g1 g2⟩
  · by_cases e : a = p
    · exact ⟨_, by rw [e]; exact upd_same⟩
    · obtain ⟨u, q⟩ := s.bt a hb
      exact ⟨u, (upd_ne e).trans q⟩
theorem EnvR.putBG {c : RC} {p : Addr} {o o' : HO} (hB : c.B p) (hp : c.H p = some o) (g1 : ∀ xs, o ≠ .tup xs) (g2 : ∀ a b, o ≠ .frz a b) {ε : Ev} {σ : L2.St} (r : EnvR c ε σ) : EnvR (c.put p o') ε σ := ⟨r.len, fun i d e => let ⟨v, h1, h2⟩ := r.at_ i d e; ⟨v, h1, h2.putBG hB hp g1 g2⟩⟩
theorem EnvR.moreG {c : RC} {p : Addr} {o : HO} (hp : c.H p = none) {ε : Ev} {σ : L2.St} (r : EnvR c ε σ) : EnvR { c with B := fun a => c.B a ∨ a = p, H := upd c.H p o } ε σ := ⟨r.len, fun i d e => let ⟨v, h1, h2⟩ := r.at_ i d e; ⟨v, h1, h2.moreG hp⟩⟩
def keyD (d : D) : Option Key := match d with
  | .int i => some (.inl i)
  | .str z => some (.inr (toS z))
  | _ => none
theorem keyD_ok {c : RC} {d : D} {v : V} {k : Key} (r : Rep c d v) (e : keyD d = some k) : v = kV k := by
  cases r with
  | int i => cases e; rfl
  | str z => cases e; rfl
  | _ => cases e
def keysD : List D → Option (List Key)
  | [] => some []
  | d :: ds => match keyD d, keysD ds with
    | some k, some ks => some (k :: ks)
    | _, _ => none
theorem keysD_ok {c : RC} : ∀ {ds : List D} {vs : List V} {ks : List Key}, Reps c ds vs → keysD ds = some ks → vs = ks.map kV
  | _, _, _, .nil, e => by cases e; rfl
  | d :: ds, _, ks, .cons r t, e => by
    unfold keysD at e
    cases q1 : keyD d with
    | none => rw [q1] at e; cases e
    | some k =>
      cases q2 : keysD ds with
      | none => rw [q1, q2] at e; cases e
      | some ks' => rw [q1, q2] at e; cases e; rw [keyD_ok r q1, keysD_ok t q2]; rfl
def lkK (k : List Key) : List (List Key × D) → Option D
  | [] => none
  | p :: r => if p.1 = k then some p.2 else lkK k r
theorem lookP {c : RC} {k : List Key} : ∀ {kvs : List (List Key × D)} {zs : List (List Key × V)}, RepP c kvs zs → ∀ {d : D}, lkK k kvs = some d → ∃ v, valV zs k = some v ∧ Rep c d v
  | _, _, .nil, d, e => by cases e
  | _, _, .cons (f := g) h t, d, e => by
    unfold lkK at e
    dsimp only at e
    by_cases q : g = k
    · rw [if_pos q] at e
      cases e
      exact ⟨_, valV_pos q, h⟩
    · rw [if_neg q] at e
      rw [valV_neg q]
      exact lookP t e
theorem lookPN {c : RC} {k : List Key} : ∀ {kvs : List (List Key × D)} {zs : List (List Key × V)}, RepP c kvs zs → lkK k kvs = none → valV zs k = none
  | _, _, .nil, e => valV_nil
  | _, _, .cons (f := g) h t, e => by
    unfold lkK at e
    dsimp only at e
    by_cases q : g = k
    · rw [if_pos q] at e; cases e
    · rw [if_neg q] at e
      rw [valV_neg q]
      exact lookPN t e
theorem valV_one (k : Key) : ∀ zs : List (Key × V), valV (zs.map fun p => ([p.1], p.2)) [k] = valV zs k
  | [] => by rw [List.map_nil, valV_nil, valV_nil]
  | p :: zs => by
    rw [List.map_cons]
    by_cases q : p.1 = k
    · rw [valV_pos q, valV_pos (p := ([p.1], p.2)) (by rw [q])]
    · rw [valV_neg q, valV_neg (p := ([p.1], p.2)) (by simpa using q), valV_one k zs]
end PD
namespace PD
open PySem PySem.Spec PyProof.Rows L2
variable [LamTab]
/-- a dict whose keys are ints and texts -/
def asDic (h : EH) (d : D) : Option (List (List Key × D)) := match d with
  | .dic false kvs => some kvs
  | .ref n => (match h[n]? with
    | some (.dic false kvs) => some kvs
    | _ => none)
  | _ => none
theorem asDic_ok {c : RC} {h : EH} {d : D} {v : V} {kvs : List (List Key × D)} (s : SR c h) (r : Rep c d v) (e : asDic h d = some kvs) : ∃ (a : Addr) (ys : List (Key × V)), v = .ref a ∧ c.H a = some (.dK ys) ∧ RepP c kvs (ys.map fun p => ([p.1], p.2)) := by
  have fin : ∀ {a : Addr} {o : HO} {zs : List (List Key × V)}, v = .ref a → c.H a = some o → isDic false o zs → RepP c kvs zs → ∃ (a : Addr) (ys : List (Key × V)), v = .ref a ∧ c.H a = some (.dK ys) ∧ RepP c kvs (ys.map fun p => ([p.1], p.2)) := fun {a o zs} h1 h2 h3 h4 => by
    rcases h3 with ⟨_, ys, rfl, rfl⟩ | ⟨z, _⟩
    · exact ⟨a, ys, h1, h2, h4⟩
    · cases z
  cases r with
  | @dic a t o kvs' zs k1 k2 k3 k4 =>
    cases t with
    | false => cases e; exact fin rfl k1 k2 k4
    | true => cases e
  | @ref n a hn =>
    unfold asDic at e
    dsimp only at e
    cases q : h[n]? with
    | none => rw [q] at e; cases e
    | some k =>
      rw [q] at e
      cases k with
      | dic t kvs' =>
        cases t with
        | true => cases e
        | false =>
          cases e
          obtain ⟨o, zs, h1, h3, h2⟩ := s.cells n a _ hn q
          exact fin rfl h1 h3 h2
      | _ => cases e
  | _ => cases e
def dDGet (h : EH) (x y : D) : Option (Option D) := match asDic h x, keyD y with
  | some kvs, some k => some (lkK [k] kvs)
  | _, _ => none
theorem dget_ok {c : RC} {h : EH} {x y : D} {v u : V} {r : Option D} (s : SR c h) (rx : Rep c x v) (ry : Rep c y u) (e : dDGet h x y = some r) :
    ∃ a o, v = .ref a ∧ IsD c.H a ∧ DGet c.H a u o ∧ (∀ d, r = some d → ∃ w, o = some w ∧ Rep c d w) ∧ (r = none → o = none) := by
  unfold dDGet at e
  cases q1 : asDic h x with
  | none => rw [q1] at e; cases e
  | some kvs =>
    cases q2 : keyD y with
    | none => rw [q1, q2] at e; cases e
    | some k =>
      rw [q1, q2] at e
      cases e
      obtain ⟨a, ys, rfl, h1, h2⟩ := asDic_ok s rx q1
      have hk := keyD_ok ry q2
      subst hk
      refine ⟨a, valV ys k, rfl, .inl ⟨ys, .inl h1⟩, .k h1, fun d e => ?_, fun e => ?_⟩
      · obtain ⟨w, e1, e2⟩ := lookP h2 e
        rw [valV_one] at e1
        exact ⟨w, e1, e2⟩
      · have := lookPN h2 e
        rwa [valV_one] at this
def dDIx (h : EH) (x y : D) : Option D := (dDGet h x y).bind id
def dDIn (neg : Bool) (h : EH) (y x : D) : Option D := (dDGet h x y).map fun r => .bl (neg != r.isSome)
section
variable {X : Cx} {W : WX} {a b : Expr} {ma mb : M D} {pos : Pos} {k : Nat}
theorem re_dix (hr : Room k X.A) (ha : RE X W a ma) (hb : RE X W b mb) (hs : NoSl b := by exact fun _ _ => rfl) : RE X W (.Subscript a b pos) (mBin dDIx ma mb) := by
  refine pe_imp (pe_dget (by have := hr.units; omega) ha hb hs) fun σ H Q h => ?_
  obtain ⟨c, ε, h, r', h', hK, hm, rfl, sr, er, e, px, go⟩ := h
  unfold tDGet
  refine tX.bind hK hm sr er e px fun dx h1 c1 x e1 l1 s1 r1 => ?_
  refine tX.bind (l1.K.trans hK) (l1.mg.trans hm) s1 (er.le l1) e1 (px.le l1) fun dy h2 c2 y e2 l2 s2 r2 => ?_
  unfold dDIx at e2
  cases q : dDGet h2 dx dy with
  | none => rw [q] at e2; cases e2
  | some r =>
    rw [q] at e2
    cases r with
    | none => cases e2
    | some d =>
      cases e2
      obtain ⟨a, o, rfl, _, g1, g2, _⟩ := dget_ok s2 (r1.le l2) r2 q
      obtain ⟨w, rfl, rw'⟩ := g2 d rfl
      exact ⟨a, w, rfl, g1, go d rfl c2 w (l1.trans l2) s2 rw'⟩
theorem din_of {ma mb : M D} {σ : L2.St} {H : Hp} {Q : VK} (h : tE X.K X.mg W (mBin (dDIn false) ma mb) σ H Q) : tDIn (tE X.K X.mg W ma) (tE X.K X.mg W mb) σ H Q := by
  obtain ⟨c, ε, h, r', h', hK, hm, rfl, sr, er, e, px, go⟩ := h
  unfold tDIn
  refine tX.bind hK hm sr er e px fun dx h1 c1 x e1 l1 s1 r1 => ?_
  refine tX.bind (l1.K.trans hK) (l1.mg.trans hm) s1 (er.le l1) e1 (px.le l1) fun dy h2 c2 y e2 l2 s2 r2 => ?_
  unfold dDIn at e2
  cases q : dDGet h2 dy dx with
  | none => rw [q] at e2; cases e2
  | some r =>
    rw [q] at e2
    cases e2
    obtain ⟨a, o, rfl, _, g1, g2, g3⟩ := dget_ok s2 r2 (r1.le l2) q
    have eo : o.isSome = r.isSome := by
      cases r with
      | none => rw [g3 rfl]; rfl
      | some d => obtain ⟨w, e, _⟩ := g2 d rfl; rw [e]; rfl
    refine ⟨a, o, rfl, g1, ?_⟩
    rw [eo]
    refine go _ rfl c2 _ (l1.trans l2) s2 ?_
    show Rep c2 (.bl (false != r.isSome)) _
    rw [Bool.false_bne]
    exact .bl _
theorem re_din (hr : Room k X.A) (ha : RE X W a ma) (hb : RE X W b mb) (hmk : behindInMarks .In b = false := by first | exact nobehind _ (by decide) (by decide) | rfl) : RE X W (.Compare a [.In] [b] pos) (mBin (dDIn false) ma mb) :=
  pe_imp (pe_cmp (pc_din (by have := hr.units; omega) ha hb) hmk) fun _ _ _ h => din_of h
end
end PD
namespace PD
open PySem PySem.Spec PyProof.Rows L2
variable [LamTab]
inductive RepPr (c : RC) : List (D × D) → List (V × V) → Prop
  | nil : RepPr c [] []
  | cons {k d : D} {ds : List (D × D)} {x v : V} {vs : List (V × V)} : Rep c k x → Rep c d v → RepPr c ds vs → RepPr c ((k, d) :: ds) ((x, v) :: vs)
theorem RepPr.le {c c' : RC} (l : c.Le c') : ∀ {ds : List (D × D)} {vs : List (V × V)}, RepPr c ds vs → RepPr c' ds vs
  | _, _, .nil => .nil
  | _, _, .cons h1 h2 t => .cons (h1.le l) (h2.le l) (t.le l)
def mPairs : List (M D × M D) → M (List (D × D))
  | [] => fun _ h => some (.ok [], h)
  | p :: r => fun ε h => bR (p.1 ε h) fun x h1 => bR (p.2 ε h1) fun y h2 => bR (mPairs r ε h2) fun ps h3 => some (.ok ((x, y) :: ps), h3)
theorem pairs_of {K : PySem.W.Frag} {mg : Str → Option Value} {W : WX} {σ : L2.St} : ∀ (ps : List (M D × M D)) {H : Hp} {Q : List (V × V) → Hp → Prop}, tX RepPr K mg W (mPairs ps) σ H Q → tPairs (ps.map fun p => (tE K mg W p.1, tE K mg W p.2)) σ H Q
  | [], H, Q, h => by
    obtain ⟨c, ε, h, r', h', hK, hm, rfl, sr, er, e, px, go⟩ := h
    cases e
    exact go _ rfl c _ (.refl c) sr .nil
  | p :: r, H, Q, h => by
    obtain ⟨c, ε, h, r', h', hK, hm, rfl, sr, er, e, px, go⟩ := h
    rw [List.map_cons]
    unfold tPairs
    refine tX.bind hK hm sr er e px fun x h1 c1 v e1 l1 s1 r1 => ?_
    refine tX.bind (l1.K.trans hK) (l1.mg.trans hm) s1 (er.le l1) e1 (px.le l1) fun y h2 c2 u e2 l2 s2 r2 => ?_
    refine pairs_of r ?_
    refine tX.bind (l2.K.trans (l1.K.trans hK)) (l2.mg.trans (l1.mg.trans hm)) s2 ((er.le l1).le l2) e2 ((px.le l1).le l2) fun qs h3 c3 zs e3 l3 s3 r3 => ?_
    cases e3
    exact go _ rfl c3 _ ((l1.trans l2).trans l3) s3 (.cons ((r1.le l2).le l3) (r2.le l3) r3)
inductive RPs (X : Cx) (W : WX) : List (Option Expr) → List Expr → List (M D × M D) → Prop
  | nil : RPs X W [] [] []
  | cons {k v : Expr} {ks : List (Option Expr)} {vs : List Expr} {mk mv : M D} {r : List (M D × M D)} : RE X W k mk → RE X W v mv → RPs X W ks vs r → RPs X W (some k :: ks) (v :: vs) ((mk, mv) :: r)
theorem RPs.pps {X : Cx} {W : WX} {pos : Pos} {ks : List (Option Expr)} {vs : List Expr} {r : List (M D × M D)} (h : RPs X W ks vs r) : PPs X pos ks vs (r.map fun p => (tE X.K X.mg W p.1, tE X.K X.mg W p.2)) := by
  induction h with
  | nil => exact pps_nil
  | cons h1 h2 _ ih => exact pps_cons h1 h2 ih
def putKD (k : List Key) (d : D) (kvs : List (List Key × D)) : List (List Key × D) := if (kvs.any fun p => decide (p.1 = k)) = true then kvs.map (fun p => if p.1 = k then (p.1, d) else p) else kvs ++ [(k, d)]
theorem repP_keys {c : RC} {k : List Key} : ∀ {kvs : List (List Key × D)} {zs : List (List Key × V)}, RepP c kvs zs → (kvs.any fun p => decide (p.1 = k)) = (zs.any fun p => decide (p.1 = k))
  | _, _, .nil => rfl
  | _, _, .cons _ t => by rw [List.any_cons, List.any_cons, repP_keys t]
theorem repP_map {c : RC} {k : List Key} {d : D} {v : V} (r : Rep c d v) : ∀ {kvs : List (List Key × D)} {zs : List (List Key × V)}, RepP c kvs zs → RepP c (kvs.map fun p => if p.1 = k then (p.1, d) else p) (zs.map fun p => if p.1 = k then (p.1, v) else p)
  | _, _, .nil => .nil
  | _, _, .cons (f := g) h t => by
    rw [List.map_cons, List.map_cons]
    by_cases q : g = k
    · rw [if_pos q, if_pos q]; exact .cons r (repP_map r t)
    · rw [if_neg q, if_neg q]; exact .cons h (repP_map r t)
theorem repP_app {c : RC} {k : List Key} {d : D} {v : V} (r : Rep c d v) : ∀ {kvs : List (List Key × D)} {zs : List (List Key × V)}, RepP c kvs zs → RepP c (kvs ++ [(k, d)]) (zs ++ [(k, v)])
  | _, _, .nil => .cons r .nil
  | _, _, .cons h t => .cons h (repP_app r t)
theorem putK_rep {c : RC} {k : List Key} {d : D} {v : V} (r : Rep c d v) {kvs : List (List Key × D)} {zs : List (List Key × V)} (h : RepP c kvs zs) : RepP c (putKD k d kvs) (putK zs k v) := by
  unfold putKD putK
  rw [repP_keys h]
  split
  · exact repP_map r h
  · exact repP_app r h
theorem putK_one (k : Key) (v : V) (ys : List (Key × V)) : putK (ys.map fun p => ([p.1], p.2)) [k] v = (putK ys k v).map fun p => ([p.1], p.2) := by
  unfold putK
  have e1 : ((ys.map fun p => (([p.1] : List Key), p.2)).any fun kv => decide (kv.1 = [k])) = ys.any fun kv => decide (kv.1 = k) := by
    rw [List.any_map]
    congr 1
    funext p
    simp
  rw [e1]
  split
  · rw [List.map_map, List.map_map]
    refine List.map_congr_left fun p _ => ?_
    show (if [p.1] = [k] then ([p.1], v) else ([p.1], p.2)) = _
    by_cases q : p.1 = k
    · rw [if_pos (by rw [q])]
      simp [q]
    · rw [if_neg (by simpa using q)]
      simp [q]
  · simp
theorem RepPr.len {c : RC} : ∀ {ds : List (D × D)} {vs : List (V × V)}, RepPr c ds vs → ds.length = vs.length
  | _, _, .nil => rfl
  | _, _, .cons _ _ t => by rw [List.length_cons, List.length_cons, t.len]
end PD
namespace PD
open PySem PySem.Spec PyProof.Rows L2
variable [LamTab]
section
variable {X : Cx} {W : WX}
def mDnew : M D := fun _ h => some (.ok (.ref h.length), h ++ [.dic false []])
theorem re_dnew {pos : Pos} : RE X W (.Dict [] [] pos) mDnew := by
  refine pe_imp pe_dnewK fun σ H Q h => ?_
  obtain ⟨c, ε, h, r', h', hK, hm, rfl, sr, er, e, px, go⟩ := h
  intro p hp
  cases e
  obtain ⟨l2, s2⟩ := sr.cellG (o := .dK []) (k := .dic false []) hp fun c' l e => ⟨_, [], e, .inl ⟨rfl, [], rfl, rfl⟩, .nil⟩
  refine go _ rfl _ _ l2 s2 (.ref ?_)
  show (c.ρ ++ [p])[h.length]? = some p
  rw [← sr.len, List.getElem?_append_right (Nat.le_refl _), Nat.sub_self]
  rfl
def putDc (h : EH) (x y d : D) : Option EH := match x, keyD y with
  | .ref n, some k => (match h[n]? with
    | some (.dic false kvs) => if kvs.length < 16777216 then some (h.set n (.dic false (putKD [k] d kvs))) else none
    | _ => none)
  | _, _ => none
theorem RepP.len {c : RC} : ∀ {ds : List (List Key × D)} {vs : List (List Key × V)}, RepP c ds vs → ds.length = vs.length
  | _, _, .nil => rfl
  | _, _, .cons _ t => by rw [List.length_cons, List.length_cons, RepP.len t]
def msDPut (o i v : M D) : MS := fun ε h => bS (v ε h) ε fun z h1 => bS (o ε h1) ε fun x h2 => bS (i ε h2) ε fun y h3 => (putDc h3 x y z).map fun h4 => (.nx ε, h4)
end
def lkS (z : List Nat) : List (List Nat × D) → Option D
  | [] => none
  | p :: r => if p.1 = z then some p.2 else lkS z r
inductive Ent (K : PySem.W.Frag) : List (List Nat × D) → List DictEntry → Prop
  | nil : Ent K [] []
  | cons {z : List Nat} {d : D} {r : List (List Nat × D)} {e : DictEntry} {l : List DictEntry} {t : Tok} {v : V} : e.key = .str (toS z) t → RelV v e.val → (∀ c : RC, c.K = K → Rep c d v) → Ent K r l → Ent K ((z, d) :: r) (e :: l)
theorem entB_ok {K : PySem.W.Frag} : ∀ {r : List (List Nat × D)} {l : List DictEntry}, entB K r l = true → Ent K r l
  | [], [], _ => .nil
  | [], _ :: _, h => by cases h
  | _ :: _, [], h => by cases h
  | p :: r, e :: l, h => by
    unfold entB at h
    obtain ⟨h1, h2⟩ := ba2 h
    obtain ⟨h3, h4⟩ := ba2 h2
    obtain ⟨v, rv, rp⟩ := dB_ok h3
    cases q : e.key with
    | str y t =>
      rw [q] at h1
      have ey : y.cps.toList = p.1 := of_decide_eq_true h1
      exact .cons (t := t) (by rw [q, ← ey]; rfl) rv rp (entB_ok h4)
    | _ => rw [q] at h1; cases h1
end PD
namespace PD
open PySem PySem.Spec PyProof.Rows L2
variable [LamTab]
/-- the module's name x is a dict of these -/
structure DicC (K : PySem.W.Frag) (w : World) (mg : Str → Option Value) (x : Str) (kvs : List (List Nat × D)) : Prop where
  ex : ∃ (d : Addr) (es : Array DictEntry) (n : Nat), mg x = some (.ref d) ∧ KDict K w d es n ∧ Ent K kvs es.toList
def mC1 (f : D → Option D) (a : M D) : M D := fun ε h => bR (a ε h) fun x h1 => rt (f x) h1
theorem SaysG2.g {fa : List He.Fa} {fn : List He.DefD} {gs : List (Str × D)} {ds : List DicD} {w : World} {K : PySem.W.Frag} (c : SaysG2 fa fn gs ds w K) : SaysG fa fn gs K := congrArg (fun z : AlG2 => z.1) c
theorem SaysG2.dic {fa : List He.Fa} {fn : List He.DefD} {gs : List (Str × D)} {ds : List DicD} {w : World} {K : PySem.W.Frag} {h : Heap} {mg : Str → Option Value} (X : K.In h) (G : h.Ns mainGlobals mg) (c : SaysG2 fa fn gs ds w K) {p : DicD} (hp : p ∈ ds) (hn : dispL p.2 = false := by rfl) : DicC K w mg p.1 p.2 := by
  have c1 : (ds.all fun p => dicB K p.1 p.2) = true := congrArg (fun z : AlG2 => z.2.1) c
  have c2 : (ds.map fun p => He.dicW K (He.ga K p.1)) = ds.map fun p => some (He.keysIn w.params (p.2.map fun q => toS q.1)) := congrArg (fun z : AlG2 => z.2.2) c
  have b := List.all_eq_true.mp c1 p hp
  have t : He.dicW K (He.ga K p.1) = some (He.keysIn w.params (p.2.map fun q => toS q.1)) := List.map_inj_left.mp c2 p hp
  obtain ⟨es, n, kd⟩ := He.dicW_ok t
  unfold dicB at b
  rw [hn, Bool.false_or] at b
  cases q : PySem.W.nsIn K mainGlobals p.1 with
  | none => rw [q] at b; cases b
  | some u =>
    cases u with
    | none => rw [q] at b; cases b
    | some u =>
      cases u with
      | ref d =>
        rw [q] at b
        have eg : He.ga K p.1 = d := by
          unfold He.ga
          rw [q]
        rw [eg] at kd
        dsimp only at b
        rw [kd.at_] at b
        exact ⟨d, es, n, PySem.W.mg_of X G q, kd, entB_ok b⟩
      | _ => rw [q] at b; cases b
end PD
namespace PD
open PySem PySem.Spec PyProof.Rows L2
end PD
namespace PD
open PySem PySem.Spec PyProof.Rows L2
variable [LamTab]
section
variable {P : Program} {w : World} {K : PySem.W.Frag} {mg : Str → Option Value} {base : Heap}
theorem FnI.mono {x : Str} {j k n : Nat} {F : IF} (h : FnI P w K mg base x j n F) (l : j ≤ k) : FnI P w K mg base x k n F := by
  obtain ⟨f, fd, ps, a, b, c, d, e⟩ := h.ex
  exact ⟨⟨f, fd, ps, a, b, c, d, e.mono l⟩⟩
theorem MetI.mono {C x : Str} {j k n : Nat} {F : IF} (h : MetI P w K mg base C x j n F) (l : j ≤ k) : MetI P w K mg base C x k n F := by
  obtain ⟨Ca, f, fd, ps, a, a2, b, c, d, e⟩ := h.ex
  exact ⟨⟨Ca, f, fd, ps, a, a2, b, c, d, e.mono l⟩⟩
theorem MetP.mono {C x : Str} {j k n : Nat} {F : PF} (h : MetP P w K mg base C x j n F) (l : j ≤ k) : MetP P w K mg base C x k n F := by
  obtain ⟨Ca, f, fd, ps, a, a2, b, c, d, e⟩ := h.ex
  exact ⟨⟨Ca, f, fd, ps, a, a2, b, c, d, e.mono l⟩⟩
end
end PD
namespace PD
open PySem PySem.Spec PyProof.Rows L2
variable [LamTab]
def lcL2 (g : MG) (t : M Bool) (mi : M (List D)) (g1 : MG) (t1 : M Bool) (e : M D) (vs1 : List Nat) : List D → Ev → EH → Option (List D × EH)
  | [], _, h => some ([], h)
  | d :: ds, ε, h => match g d ε h with
    | none => none
    | some (ε1, h1) => match t ε1 h1 with
      | some (.ok true, h2) => (match mi ε1 h2 with
        | some (.ok ds1, h3) => (match lcL g1 t1 e ds1 (wipeE ε1 vs1) h3 with
          | some (ys, h4) => (match lcL2 g t mi g1 t1 e vs1 ds ε h4 with
            | some (zs, h5) => some (ys ++ zs, h5)
            | none => none)
          | none => none)
        | _ => none)
      | some (.ok false, h2) => lcL2 g t mi g1 t1 e vs1 ds ε h2
      | _ => none
def mLc2 (vs : List Nat) (mi : M (List D)) (g : MG) (t : M Bool) (mi1 : M (List D)) (g1 : MG) (t1 : M Bool) (e : M D) (vs1 : List Nat) : M D := fun ε h => bR (mi ε h) fun ds h1 => okL (lcL2 g t mi1 g1 t1 e vs1 ds (wipeE ε vs) h1)
theorem MgE.put {c : RC} {mg : Str → Option Value} {p : Addr} {o : HO} (h : NoTab c.H p) (m : MgE c mg) : MgE (c.put p o) mg := ⟨m.e, fun _ => tabs_upd (ρ := c.ρ) (B := c.B) h (m.t trivial)⟩
theorem noTab_lst {H : Hp} {p : Addr} {xs : List V} (h : H p = some (.lst xs)) : NoTab H p := noTab_of h (fun _ z => by cases z) (fun _ z => by cases z)
theorem lew_putB {c : RC} {h : EH} {p : Addr} {xs ys : List V} (s : SR c h) (hB : c.B p) (hp : c.H p = some (.lst xs)) : c.LeW (c.put p (.lst ys)) := by
  refine ⟨rfl, rfl, fun _ z => .inl z, fun _ _ z => z, fun a o e => ?_, fun a o e _ nb n => ⟨(upd_ne (show a ≠ p from fun z => nb (z ▸ hB))).trans e, n⟩, fun a zs e => ?_, fun a o u e => ?_⟩
  · by_cases z : a = p
    · exact ⟨_, by rw [z]; exact upd_same⟩
    · exact ⟨o, (upd_ne z).trans e⟩
  · have ne : a ≠ p := fun z => by
      subst z
      rcases e with e | ⟨u, e⟩ <;> rw [hp] at e <;> cases e
    rcases e with e | ⟨u, e⟩
    · exact .inl ((upd_ne ne).trans e)
    · exact .inr ⟨u, (upd_ne ne).trans e⟩
  · exact (upd_ne (show a ≠ p from fun z => by rw [z, hp] at e; cases e)).trans e
/-- one turn, the list at p growing -/
theorem lc_turn {K : PySem.W.Frag} {mg : Str → Option Value} {g : MG} {S vs : List Nat} {t : M Bool} {el : M D} {σ : L2.St} {ε : Ev} {c1 c2 : RC} {h2 hE : EH} {p : Addr} {acc rest dr : List D} {xs : List V} {d : D} {x : V} {Nx : Hp → Prop} (hS : ∀ i ∈ S, i ∈ vs)
    (hK : c2.K = K) (hm : MgE c2 mg) (o : Over c1 c2 p) (s : SR c2 h2) (hxs : c2.H p = some (.lst xs)) (racc : Reps c2 acc xs) (en : EnvR c2 (wipeE ε vs) (wipe σ vs)) (rd : Rep c2 d x) (e2 : lcL g t el (d :: dr) (wipeE ε vs) h2 = some (rest, hE)) (hz : (acc ++ rest).length ≤ sizeLine)
    (next : ∀ c3 h3 acc3 xs3 rest3, c3.K = K → MgE c3 mg → Over c1 c3 p → SR c3 h3 → c3.H p = some (.lst xs3) → Reps c3 acc3 xs3 → c2.LeW c3 → (∀ ε' σ', EnvR c2 ε' σ' → EnvR c3 ε' σ') → lcL g t el dr (wipeE ε vs) h3 = some (rest3, hE) → acc3 ++ rest3 = acc ++ rest → Nx c3.H) :
    tG K mg S g x (wipe σ vs) c2.H fun σ2 H2 => wipe σ2 vs = wipe σ vs ∧ tT K mg W0 t σ2 H2 fun b H3 => if b = true then tE K mg W0 el σ2 H3 fun y H4 => ∃ ac, H4 p = some (.lst ac) ∧ ac.length < sizeLine ∧ Nx (upd H4 p (.lst (ac ++ [y]))) else Nx H3 := by
  unfold lcL at e2
  cases q2 : g d (wipeE ε vs) h2 with
  | none => rw [q2] at e2; cases e2
  | some z =>
    obtain ⟨ε3, h3⟩ := z
    rw [q2] at e2
    dsimp only at e2
    refine ⟨c2, d, wipeE ε vs, h2, ε3, h3, hK, hm, rfl, s, rd, en, q2, fun c4 σ4 l4 s4 en4 sv => ⟨wipe_save sv hS, ?_⟩⟩
    have o4 := o.step l4
    have p4 := (l4.keep p _ hxs (fun _ z => by cases z) fun z => s.nb p z o.Bp).1
    have hK4 : c4.K = K := l4.K.trans hK
    have hm4 : MgE c4 mg := l4.mg.trans hm
    cases q3 : t ε3 h3 with
    | none => rw [q3] at e2; cases e2
    | some z =>
      obtain ⟨rb, h5⟩ := z
      rw [q3] at e2
      cases rb with
      | ex x5 => cases e2
      | ok b =>
        refine ⟨c4, ε3, h3, .ok b, h5, hK4, hm4, rfl, s4, en4, q3, Px.ok, fun b' eb c5 b'' l5 s5 rb => ?_⟩
        cases eb
        subst rb
        have o5 := o4.step l5
        have p5 := (l5.keep p _ p4 (fun _ z => by cases z) fun z => s4.nb p z o4.Bp).1
        have racc5 := (racc.le l4).le l5
        cases b with
        | false =>
          rw [if_neg Bool.false_ne_true]
          exact next c5 h5 acc xs rest (l5.K.trans hK4) (l5.mg.trans hm4) o5 s5 p5 racc5 (l4.trans l5).toW (fun _ _ en' => (en'.le l4).le l5) e2 rfl
        | true =>
          rw [if_pos rfl]
          dsimp only at e2
          cases q4 : el ε3 h5 with
          | none => rw [q4] at e2; cases e2
          | some z =>
            obtain ⟨ry, h6⟩ := z
            rw [q4] at e2
            cases ry with
            | ex x6 => cases e2
            | ok y0 =>
              dsimp only at e2
              refine ⟨c5, ε3, h5, .ok y0, h6, l5.K.trans hK4, l5.mg.trans hm4, rfl, s5, en4.le l5, q4, Px.ok, fun y' ey c6 yv l6 s6 ry => ?_⟩
              cases ey
              have o6 := o5.step l6
              have p6 := (l6.keep p _ p5 (fun _ z => by cases z) fun z => s5.nb p z o5.Bp).1
              cases q5 : lcL g t el dr (wipeE ε vs) h6 with
              | none => rw [q5] at e2; cases e2
              | some z =>
                obtain ⟨ys, h7⟩ := z
                rw [q5] at e2
                cases e2
                have hlen : xs.length < sizeLine := by
                  rw [← racc.length]
                  simp only [List.length_append, List.length_cons] at hz
                  omega
                refine ⟨xs, p6, hlen, ?_⟩
                obtain ⟨o7, s7⟩ := o6.putB (ys := xs ++ [yv]) s6 p6
                exact next (c6.put p (.lst (xs ++ [yv]))) h6 (acc ++ [y0]) (xs ++ [yv]) ys (l6.K.trans (l5.K.trans hK4)) (MgE.put (noTab_lst p6) (l6.mg.trans (l5.mg.trans hm4))) o7 s7 upd_same (((racc5.le l6).append (.cons ry .nil)).putB o6.Bp p6) (((l4.trans l5).trans l6).toW.trans (lew_putB s6 o6.Bp p6)) (fun _ _ en' => (((en'.le l4).le l5).le l6).putB o6.Bp p6) q5 (by rw [List.append_assoc]; rfl)
theorem lc2_of {K : PySem.W.Frag} {mg : Str → Option Value} {W : WX} {mi mi1 : M (List D)} {g g1 : MG} {S S1 vs vs1 : List Nat} {t t1 : M Bool} {el : M D} {σ : L2.St} {H : Hp} {Q : VK} (hS : ∀ i ∈ S, i ∈ vs) (hS1 : ∀ i ∈ S1, i ∈ vs1) (h : tE K mg W (mLc2 vs mi g t mi1 g1 t1 el vs1) σ H Q) :
    tLc2 (tI K mg W mi) (tG K mg S g) (tT K mg W0 t) (tI K mg W0 mi1) (tG K mg S1 g1) (tT K mg W0 t1) (tE K mg W0 el) vs vs1 σ H Q := by
  obtain ⟨c, ε, h, r, h', hK, hm, rfl, sr, er, e, px, go⟩ := h
  unfold tLc2
  refine tX.bind hK hm sr er e px fun ds h1 c1 J e1 l1 s1 r1 => ?_
  intro p hp
  obtain ⟨G, Y, hw, hG, hY⟩ := r1
  have hK1 := l1.K.trans hK
  have hm1 := l1.mg.trans hm
  cases q : lcL2 g t mi1 g1 t1 el vs1 ds (wipeE ε vs) h1 with
  | none => rw [q] at e1; cases e1
  | some z =>
    obtain ⟨all, hE⟩ := z
    rw [q] at e1
    have e1' : (if all.length ≤ sizeLine then some (PD.R.ok (D.lst all), hE) else none) = some (r, h') := e1
    by_cases hz : all.length ≤ sizeLine
    · rw [if_pos hz] at e1'
      cases e1'
      obtain ⟨o2, s2⟩ := Over.start (xs := []) s1 hp
      let Pv : Nat → Hp → Prop := fun i H => ∃ c2 h2 acc xs rest, c2.K = K ∧ MgE c2 mg ∧ Over c1 c2 p ∧ c2.H = H ∧ SR c2 h2 ∧ H p = some (.lst xs) ∧ Reps c2 acc xs ∧ EnvR c2 (wipeE ε vs) (wipe σ vs) ∧ lcL2 g t mi1 g1 t1 el vs1 (ds.drop i) (wipeE ε vs) h2 = some (rest, h') ∧ acc ++ rest = all
      refine ⟨fun i m H => m = ds.length - i ∧ i ≤ ds.length ∧ Pv i H, ⟨ds.length, by simp, Nat.zero_le _, _, h1, [], [], all, o2.le.K.trans hK1, o2.le.mg.trans hm1, o2, rfl, s2, upd_same, .nil, EnvR.more hp (wipe_envR vs (er.le l1)), q, rfl⟩, ?_⟩
      rintro i m H ⟨rfl, hi, c2, h2, acc, xs, rest, hK2, hm2, o, rfl, s, hxs, racc, en, e2, ea⟩
      by_cases hlt : i < ds.length
      · refine .inr ⟨hw.goes i _ hlt (hG c2 o.le.toW), Pv (i + 1), fun H' p' => ⟨ds.length - (i + 1), by omega, rfl, hlt, p'⟩, fun x H' y => ?_⟩
        obtain ⟨c3, rfl, l3, s3, d, hd, rd⟩ := hY i x c2 h2 H' o.le.toW s (hw.yields i _ x H' hlt (hG c2 o.le.toW) y)
        have hdr : ds.drop i = d :: ds.drop (i + 1) := by
          rw [List.drop_eq_getElem_cons hlt]
          have : ds[i] = d := by
            have := List.getElem?_eq_getElem hlt
            rw [this] at hd
            exact Option.some.inj hd
          rw [this]
        rw [hdr] at e2
        unfold lcL2 at e2
        have o3 := o.step l3
        have p3 := (l3.keep p _ hxs (fun _ z => by cases z) fun z => s.nb p z o.Bp).1
        have hK3 : c3.K = K := l3.K.trans hK2
        have hm3 : MgE c3 mg := l3.mg.trans hm2
        cases q2 : g d (wipeE ε vs) h2 with
        | none => rw [q2] at e2; cases e2
        | some z =>
          obtain ⟨ε3, h3⟩ := z
          rw [q2] at e2
          dsimp only at e2
          refine ⟨c3, d, wipeE ε vs, h2, ε3, h3, hK3, hm3, rfl, s3, rd, en.le l3, q2, fun c4 σ4 l4 s4 en4 sv => ⟨wipe_save sv hS, ?_⟩⟩
          have o4 := o3.step l4
          have p4 := (l4.keep p _ p3 (fun _ z => by cases z) fun z => s3.nb p z o3.Bp).1
          have hK4 : c4.K = K := l4.K.trans hK3
          have hm4 : MgE c4 mg := l4.mg.trans hm3
          cases q3 : t ε3 h3 with
          | none => rw [q3] at e2; cases e2
          | some z =>
            obtain ⟨rb, h5⟩ := z
            rw [q3] at e2
            cases rb with
            | ex x5 => cases e2
            | ok b =>
              refine ⟨c4, ε3, h3, .ok b, h5, hK4, hm4, rfl, s4, en4, q3, Px.ok, fun b' eb c5 b'' l5 s5 rb => ?_⟩
              cases eb
              subst rb
              have o5 := o4.step l5
              have p5 := (l5.keep p _ p4 (fun _ z => by cases z) fun z => s4.nb p z o4.Bp).1
              have en5 : EnvR c5 (wipeE ε vs) (wipe σ vs) := ((en.le l3).le l4).le l5
              have racc5 := ((racc.le l3).le l4).le l5
              have hK5 : c5.K = K := l5.K.trans hK4
              have hm5 : MgE c5 mg := l5.mg.trans hm4
              cases b with
              | false =>
                rw [if_neg Bool.false_ne_true]
                exact ⟨c5, h5, acc, xs, rest, hK5, hm5, o5, rfl, s5, p5, racc5, en5, e2, ea⟩
              | true =>
                rw [if_pos rfl]
                dsimp only at e2
                cases q4 : mi1 ε3 h5 with
                | none => rw [q4] at e2; cases e2
                | some z =>
                  obtain ⟨ry, h6⟩ := z
                  rw [q4] at e2
                  cases ry with
                  | ex x6 => cases e2
                  | ok ds1 =>
                    dsimp only at e2
                    refine ⟨c5, ε3, h5, .ok ds1, h6, hK5, hm5, rfl, s5, en4.le l5, q4, Px.ok, fun y' ey c6 J1 l6 s6 rJ => ?_⟩
                    cases ey
                    have o6 := o5.step l6
                    have p6 := (l6.keep p _ p5 (fun _ z => by cases z) fun z => s5.nb p z o5.Bp).1
                    have hK6 : c6.K = K := l6.K.trans hK5
                    have hm6 : MgE c6 mg := l6.mg.trans hm5
                    cases q5 : lcL g1 t1 el ds1 (wipeE ε3 vs1) h6 with
                    | none => rw [q5] at e2; cases e2
                    | some z =>
                      obtain ⟨ys, hM⟩ := z
                      rw [q5] at e2
                      dsimp only at e2
                      cases q6 : lcL2 g t mi1 g1 t1 el vs1 (ds.drop (i + 1)) (wipeE ε vs) hM with
                      | none => rw [q6] at e2; cases e2
                      | some z =>
                        obtain ⟨zs, h7⟩ := z
                        rw [q6] at e2
                        cases e2
                        obtain ⟨G1, Y1, hw1, hG1, hY1⟩ := rJ
                        have o66 : Over c1 c6 p := o6
                        let Pv1 : Nat → Hp → Prop := fun j H => ∃ c7 h7 acc7 xs7 rest7, c7.K = K ∧ MgE c7 mg ∧ c6.LeW c7 ∧ Over c1 c7 p ∧ c7.H = H ∧ SR c7 h7 ∧ H p = some (.lst xs7) ∧ Reps c7 acc7 xs7 ∧ EnvR c7 (wipeE ε vs) (wipe σ vs) ∧ EnvR c7 (wipeE ε3 vs1) (wipe σ4 vs1) ∧
                          lcL g1 t1 el (ds1.drop j) (wipeE ε3 vs1) h7 = some (rest7, hM) ∧ acc7 ++ (rest7 ++ zs) = all
                        refine ⟨fun j k H => k = ds1.length - j ∧ j ≤ ds1.length ∧ Pv1 j H, ⟨ds1.length, by simp, Nat.zero_le _, c6, h6, acc, xs, ys, hK6, hm6, RC.Le.toW (.refl c6), o6, rfl, s6, p6, racc5.le l6, en5.le l6, wipe_envR vs1 ((en4.le l5).le l6), q5, ea⟩, ?_⟩
                        rintro j k H ⟨rfl, hj, c7, h7, acc7, xs7, rest7, hK7, hm7, l7, o7, rfl, s7, hxs7, racc7, en7, en7', e7, ea7⟩
                        by_cases hlt1 : j < ds1.length
                        · refine .inr ⟨hw1.goes j _ hlt1 (hG1 c7 l7), Pv1 (j + 1), fun H' p' => ⟨ds1.length - (j + 1), by omega, rfl, hlt1, p'⟩, fun x1 H' y1 => ?_⟩
                          obtain ⟨c8, rfl, l8, s8, d1, hd1, rd1⟩ := hY1 j x1 c7 h7 H' l7 s7 (hw1.yields j _ x1 H' hlt1 (hG1 c7 l7) y1)
                          have hdr1 : ds1.drop j = d1 :: ds1.drop (j + 1) := by
                            rw [List.drop_eq_getElem_cons hlt1]
                            have : ds1[j] = d1 := by
                              have := List.getElem?_eq_getElem hlt1
                              rw [this] at hd1
                              exact Option.some.inj hd1
                            rw [this]
                          rw [hdr1] at e7
                          have p8 := (l8.keep p _ hxs7 (fun _ z => by cases z) fun z => s7.nb p z o7.Bp).1
                          refine lc_turn (Nx := Pv1 (j + 1)) hS1 (l8.K.trans hK7) (l8.mg.trans hm7) (o7.step l8) s8 p8 (racc7.le l8) (en7'.le l8) rd1 e7 (by
                            have := congrArg List.length ea7
                            simp only [List.length_append] at this ⊢
                            omega) fun c9 h9 acc9 xs9 rest9 hK9 hm9 o9 s9 p9 racc9 lw9 eu9 e9 ea9 => ?_
                          refine ⟨c9, h9, acc9, xs9, rest9, hK9, hm9, (l7.trans l8.toW).trans lw9, o9, rfl, s9, p9, racc9, eu9 _ _ (en7.le l8), eu9 _ _ (en7'.le l8), e9, ?_⟩
                          rw [← List.append_assoc, ea9, List.append_assoc]
                          exact ea7
                        · have ej : j = ds1.length := by omega
                          subst ej
                          refine .inl ⟨hw1.stops _ (hG1 c7 l7), ?_⟩
                          rw [List.drop_length] at e7
                          cases e7
                          exact ⟨c7, _, acc7, xs7, zs, hK7, hm7, o7, rfl, s7, hxs7, racc7, en7, q6, ea7⟩
      · have ei : i = ds.length := by omega
        subst ei
        refine .inl ⟨hw.stops _ (hG c2 o.le.toW), ?_⟩
        rw [List.drop_length] at e2
        cases e2
        rw [List.append_nil] at ea
        subst ea
        refine go _ rfl (c2.av c1.B) _ (l1.trans o.back) (o.sr s) (.lst hxs ⟨fun z => ?_, fun z => s.nb p z o.Bp⟩ (racc.fewer o.le.B))
        obtain ⟨u, eu⟩ := o.bt p z
        rw [o.new] at eu; cases eu
    · rw [if_neg hz] at e1'; cases e1'
section
variable {X : Cx} {W : WX}
theorem re_lc2 {elt tg iter tg1 iter1 : Expr} {ifs ifs1 : List Expr} {scope : Scope} {own : List (Str × Nat)} {vs1 : List Nat} {pos : Pos} {mi mi1 : M (List D)} {g g1 : MG} {S S1 : List Nat} {t t1 : M Bool} {e : M D} (hc : X.calm = true) (hN : X.N.Nodup) (hi : RI X W tg iter mi) (ok : BlkOk X.N X.env.scope scope own) (hS : ∀ i ∈ S, i ∈ own.map (·.2)) (hS1 : ∀ i ∈ S1, i ∈ vs1) (hv : ∀ i ∈ vs1, i ∈ own.map (·.2))
    (hg : ∀ (s : Shared) (H : Hp) (C : Addr) (cl : List (Str × Addr)) (fp : List Addr), RG (X.blk s H scope (compEnvC scope cl C X.env) fp) tg S g) (ht : ∀ (s : Shared) (H : Hp) (C : Addr) (cl : List (Str × Addr)) (fp : List Addr), RTs (X.blk s H scope (compEnvC scope cl C X.env) fp) W0 ifs t)
    (hi1 : ∀ (s : Shared) (H : Hp) (C : Addr) (cl : List (Str × Addr)) (fp : List Addr), RI (X.blk s H scope (compEnvC scope cl C X.env) fp) W0 tg1 iter1 mi1)
    (hg1 : ∀ (s : Shared) (H : Hp) (C : Addr) (cl : List (Str × Addr)) (fp : List Addr), RG (X.blk s H scope (compEnvC scope cl C X.env) fp) tg1 S1 g1) (ht1 : ∀ (s : Shared) (H : Hp) (C : Addr) (cl : List (Str × Addr)) (fp : List Addr), RTs (X.blk s H scope (compEnvC scope cl C X.env) fp) W0 ifs1 t1)
    (he : ∀ (s : Shared) (H : Hp) (C : Addr) (cl : List (Str × Addr)) (fp : List Addr), RE (X.blk s H scope (compEnvC scope cl C X.env) fp) W0 elt e) (hs : ∀ x, foldedSetIterable iter X.env x = pure x := by intro _; rfl) (hs1 : ∀ env x, foldedSetIterable iter1 env x = pure x := by intro _ _; rfl) :
    RE X W (.ListComp elt [⟨tg, iter, ifs, 0⟩, ⟨tg1, iter1, ifs1, 0⟩] scope pos) (mLc2 (own.map (·.2)) mi g t mi1 g1 t1 e vs1) := by
  refine pe_imp (pe_lc2 (g := tG X.K X.mg S g) (tt := tT X.K X.mg W0 t) (wi1 := tI X.K X.mg W0 mi1) (g1 := tG X.K X.mg S1 g1) (tt1 := tT X.K X.mg W0 t1) (te := tE X.K X.mg W0 e) (vs1 := vs1) hc hN hi ok hv hg ht hi1 hg1 ht1 he hs hs1) fun σ H Q h => ?_
  exact lc2_of hS hS1 h
end
end PD
namespace PD
open PySem PySem.Spec PyProof.Rows L2
variable [LamTab]
def isLc (h : EH) (x : D) : Bool := match x with
  | .ref n => (match h[n]? with
    | some (.lst _) => true
    | _ => false)
  | _ => false
def apD (h : EH) (x y : D) : Option EH := match x with
  | .ref n => (match h[n]? with
    | some (.lst ds) => if ds.length < sizeLine then some (h.set n (.lst (ds ++ [y]))) else none
    | _ => none)
  | _ => none
def mAppend (o e : M D) : M D := fun ε h => bR (o ε h) fun x h1 => if isLc h1 x = true then bR (e ε h1) fun y h2 => (apD h2 x y).map fun h3 => (.ok .non, h3) else none
section
variable {X : Cx} {W : WX}
def dMax2 (_ : EH) (ds : List D) : Option D := match ds with
  | [.int i, .int j] => some (.int (if j > i then j else i))
  | _ => none
def dMin2 (_ : EH) (ds : List D) : Option D := match ds with
  | [.int i, .int j] => some (.int (if j < i then j else i))
  | _ => none
theorem cs_two {K : PySem.W.Frag} {mg : Str → Option Value} {g : Int → Int → Int} {f : EH → List D → Option D} (hf : ∀ h ds d, f h ds = some d → ∃ i j, ds = [.int i, .int j] ∧ d = .int (g i j)) : CallS K mg (fun xs H Q => ∃ i j, xs = [V.int i, V.int j] ∧ Q (.int (g i j)) H) f := by
  intro c eh xs ds d Q hK hm sr rx e go
  obtain ⟨i, j, rfl, rfl⟩ := hf _ _ _ e
  cases rx with
  | cons r1 t =>
    cases t with
    | cons r2 t =>
      cases t
      cases r1
      cases r2
      exact ⟨i, j, rfl, go c _ (.refl c) sr (.int _)⟩
theorem dMin2_f (h : EH) (ds : List D) (d : D) (e : dMin2 h ds = some d) : ∃ i j, ds = [.int i, .int j] ∧ d = .int (if j < i then j else i) := by
  unfold dMin2 at e
  split at e
  · cases e; exact ⟨_, _, rfl, rfl⟩
  · cases e
theorem re_min2 {a b : Expr} {ma : M (List D)} {p pos : Pos} (hc : X.calm = true) (hm : X.mg "min" = none) (ha : RA X W [a, b] ma) (hg : Gl X "min" := by rfl) (hs : starEach [a, b] X.env = (false, eval a X.env) :: starEach [b] X.env := by rfl) (hpl : (backTo pos (starEach [b] X.env)).any (·.1) = false := by rfl) :
    RE X W (.Call (.Name "min" p) [a, b] [] pos) (mCall dMin2 ma) := re_callB (call_min2 hc) (cs_two dMin2_f) hm ha (hg := hg) (he := hs) (hpl := hpl)
end
def mApp2 (a b : M (List D)) : M (List D) := fun ε h => bR (a ε h) fun xs h1 => bR (b ε h1) fun ys h2 => some (.ok (xs ++ ys), h2)
end PD
namespace PD
open PySem PySem.Spec PyProof.Rows L2
variable [LamTab]
open PySem.Froz (SD sObj TxOk addTx tailTx)
/-- the set at a: the payload D, the texts l, each once; it can be walked -/
structure TxSet (P : Program) (w : World) (h : Heap) (a : Addr) (D : SD) (l : List Str) : Prop where
  ob : h.get? a = some (sObj "set" D)
  ok : TxOk P w D l
  nd : l.Nodup
  ris : Ris D.2.2.place.toList
  led : w.params.followText "set-order" = true ∨ D.2.2.led = true
theorem tailTx_ris {ep : Nat} {es : Array (Int × Value)} {t : SetTable} {d : Bool} (h : Ris t.place.toList) : Ris (tailTx ep es t d).2.2.place.toList := by
  unfold tailTx
  split
  · exact relayAll_ris t es _
  · exact h
theorem tailTx_led {ep : Nat} {es : Array (Int × Value)} {t : SetTable} {d : Bool} : (tailTx ep es t d).2.2.led = t.led := by
  unfold tailTx
  split
  · exact relayAll_led t es _
  · rfl
theorem addTx_ris {z : Int} {v : Value} {D : SD} (h : Ris D.2.2.place.toList) : Ris (addTx z v D).2.2.place.toList := by
  unfold addTx
  refine tailTx_ris ?_
  split <;> exact layNew_ris D.2.2 D.1 z v h
theorem addTx_led {z : Int} {v : Value} {D : SD} : (addTx z v D).2.2.led = D.2.2.led := by
  unfold addTx
  rw [tailTx_led]
  split <;> exact layNew_led D.2.2 D.1 z v
def addT (l : List Str) (k : Str) : List Str := if k ∈ l then l else k :: l
theorem addT_mem {l : List Str} {k x : Str} : x ∈ addT l k ↔ x ∈ l ∨ x = k := by
  unfold addT
  split
  · rename_i hk
    exact ⟨.inl, fun h => h.elim id fun e => e ▸ hk⟩
  · rw [List.mem_cons]
    exact Or.comm
theorem addT_len {l : List Str} {k : Str} : (addT l k).length ≤ l.length + 1 := by
  unfold addT
  split
  · omega
  · simp
theorem fold_mem {x : Str} : ∀ (xs l : List Str), x ∈ xs.foldl addT l ↔ x ∈ l ∨ x ∈ xs
  | [], l => by simp
  | y :: ys, l => by
    rw [List.foldl_cons, fold_mem ys, addT_mem, List.mem_cons]
    exact or_assoc
theorem fold_len : ∀ (xs l : List Str), (xs.foldl addT l).length ≤ l.length + xs.length
  | [], l => by simp
  | y :: ys, l => by
    have h1 := fold_len ys (addT l y)
    have h2 := addT_len (l := l) (k := y)
    rw [List.foldl_cons, List.length_cons]
    omega
section
variable {P : Program} {w : World} {A : Around} {E : Value → Shared → Prop} {s : Shared}
theorem add_dup {a : Addr} {D : SD} {l : List Str} {k : Str} {u : Tok} {Q : Bool → Shared → Prop} (S : TxSet P w s.heap a D l) (hk : k ∈ l) (hb : l.length < scanBound) (h : Q false s) : wpAny (model P w) A (setAddHashed a (.str k u) (hashStr w k)) Q E s := by
  obtain ⟨es, ep, t⟩ := D
  obtain ⟨j, hj⟩ : ∃ j, List.findIdx? (fun e => (strKind P w).is k e.2) es.toList = some j := by
    obtain ⟨e, he, q⟩ := (S.ok.mem k).mp hk
    cases r : List.findIdx? (fun e => (strKind P w).is k e.2) es.toList with
    | some j => exact ⟨j, rfl⟩
    | none => have := List.findIdx?_eq_none_iff.mp r e he; rw [q] at this; cases this
  have hz : es.size < scanBound := Nat.lt_of_le_of_lt (Nat.le_of_eq S.ok.sz) hb
  have el : ElemsOf (strKind P w) es.toList := S.ok.el
  have hf : t.fits es.size = true := S.ok.fit
  have hd : (sObj "set" (es, ep, t)).data = .set es ep t := rfl
  unfold setAddHashed
  unfold setAddHashedIn
  refine wpAny_holding (wpAny_bind (wpAny_setState_of S.ob hd hf ?_))
  dsimp only
  rw [byScan_of rfl hz el]
  simp only [↓reduceIte]
  unfold setAddByScan
  refine wpAny_bind (wpAny_bind (wpAny_rule (wpAny_bind (wpAny_setScan_of (knd := strKind P w) (k := k) (PySem.Froz.is_str k u) S.ob hd hf el ?_))))
  rw [hj]
  exact wpAny_pure (wpAny_pure h)
/-- one text put in -/
theorem add_txt {a : Addr} {D : SD} {l : List Str} {k : Str} {u : Tok} {Q : Bool → Shared → Prop} (S : TxSet P w s.heap a D l) (hb : l.length + 1 < scanBound)
    (h : ∀ b h' D', (∀ c, c ≠ a → h'.get? c = s.heap.get? c) → TxSet P w h' a D' (addT l k) → Q b { s with heap := h' }) : wpAny (model P w) A (setAddHashed a (.str k u) (hashStr w k)) Q E s := by
  by_cases hk : k ∈ l
  · refine add_dup S hk (by omega) (h false s.heap D (fun _ _ => rfl) ?_)
    unfold addT
    rw [if_pos hk]
    exact S
  · refine PySem.Froz.add_x S.ob S.ok hk hb (h true _ (addTx (hashStr w k) (.str k u) D) (fun c hc => Heap.get?_update_ne _ _ _ _ hc) ?_)
    unfold addT
    rw [if_neg hk]
    exact ⟨PySem.Froz.get_upd _ S.ob rfl, PySem.Froz.add_ok u S.ok, List.nodup_cons.mpr ⟨hk, S.nd⟩, addTx_ris S.ris, S.led.imp id fun z => addTx_led.trans z⟩
theorem TxSet.move {h h' : Heap} {a : Addr} {D : SD} {l : List Str} (S : TxSet P w h a D l) (k : ∀ o, h.get? a = some o → h'.get? a = some o) : TxSet P w h' a D l := ⟨k _ S.ob, S.ok, S.nd, S.ris, S.led⟩
/-- the object of a new set -/
abbrev newS (w : World) : Obj := { cls := .type "set", dict := none, data := .set #[] 0 (.fresh 0 0 (!w.params.followText "set-order")) }
theorem newS_ok {h : Heap} {a : Addr} (e : h.get? a = some (newS w)) : TxSet P w h a (#[], 0, .fresh 0 0 (!w.params.followText "set-order")) [] := by
  refine ⟨e, PySem.Froz.TxOk.nil rfl, List.nodup_nil, List.Pairwise.nil, ?_⟩
  show _ ∨ (!w.params.followText "set-order") = true
  cases w.params.followText "set-order" <;> simp
end
end PD
namespace PD
open PySem PySem.Spec PyProof.Rows L2
variable [LamTab]
def txv : Value → Str
  | .str x _ => x
  | _ => Str.empty
def ltTv (v u : Value) : Bool := decide ((txv v).cps.toList < (txv u).cps.toList)
theorem swo_txt : SrtO.Swo ltTv := by
  refine ⟨fun x y h => ?_, fun x y z h1 h2 => ?_⟩
  · have a := of_decide_eq_true (p := (txv x).cps.toList < (txv y).cps.toList) h
    exact decide_eq_false (p := (txv y).cps.toList < (txv x).cps.toList) (List.lt_asymm a)
  · have a := of_decide_eq_false (p := (txv y).cps.toList < (txv x).cps.toList) h1
    have b := of_decide_eq_false (p := (txv z).cps.toList < (txv y).cps.toList) h2
    exact decide_eq_false (p := (txv z).cps.toList < (txv x).cps.toList) (List.not_lt.mpr (List.le_trans (List.not_lt.mp a) (List.not_lt.mp b)))
theorem strs_v : ∀ {vs : List Value}, (∀ v ∈ vs, ∃ x t, v = Value.str x t) → StrsAre vs (vs.map txv)
  | [], _ => .nil
  | v :: vs, h => by
    obtain ⟨x, t, rfl⟩ := h v List.mem_cons_self
    exact .cons x t (strs_v fun u hu => h u (List.mem_cons_of_mem _ hu))
theorem vals_strs : ∀ {vs : List Value}, (∀ v ∈ vs, ∃ x t, v = Value.str x t) → Vals ((vs.map txv).map V.str) vs
  | [], _ => .nil
  | v :: vs, h => by
    obtain ⟨x, t, rfl⟩ := h v List.mem_cons_self
    exact .cons ⟨t, rfl⟩ (vals_strs fun u hu => h u (List.mem_cons_of_mem _ hu))
/-- of the texts l: ys, each once, rising -/
structure Rising (ys : List Str) (l : List Str) : Prop where
  up : ys.Pairwise fun x y => ¬ y.cps.toList < x.cps.toList
  mem : ∀ x, x ∈ ys ↔ x ∈ l
  nd : ys.Nodup
section
variable {P : Program} {w : World} {A : Around} {E : Value → Shared → Prop} {s : Shared}
theorem cmp_txt {vs : List Value} (hs : ∀ v ∈ vs, ∃ x t, v = Value.str x t) : SrtO.Cmp P w A s oneType' (fun p => p.1 ∈ vs) (SrtO.lt2 ltTv) := by
  intro p q h1 h2
  obtain ⟨x, t, e⟩ := hs _ h1
  obtain ⟨y, u, e'⟩ := hs _ h2
  show wpAny (model P w) A (keyLt' oneType' p.1 q.1) (fun r z => z = s ∧ r = ltTv p.1 q.1) (fun _ _ => False) s
  rw [e, e']
  exact PySem.W.kas_lt_str ⟨rfl, rfl⟩
theorem txt_sortable {a : Addr} {vs : List Value} (hs : ∀ v ∈ vs, ∃ x t, v = Value.str x t) (h2 : 2 ≤ vs.length) : SrtO.SortableO P w A s a vs ltTv := by
  intro h' _
  refine ⟨oneType', fun Q E hq => ?_, cmp_txt hs⟩
  match vs, strs_v hs, h2 with
  | v1 :: v2 :: rest, hS, _ =>
    rw [keyKind_strs hS]
    exact wpAny_pure hq
  | [], _, h => exact absurd h (by decide)
  | [v], _, h => exact absurd h (by simp)
theorem perm_of_mem {α : Type} [DecidableEq α] : ∀ (l T : List α), l.Nodup → (∀ x ∈ l, x ∈ T) → l.length = T.length → l.Perm T
  | [], T, _, _, h => by
    cases T with
    | nil => exact .nil
    | cons _ _ => cases h
  | x :: l, T, nd, hm, h => by
    obtain ⟨n1, n2⟩ := List.nodup_cons.mp nd
    have hx := hm x List.mem_cons_self
    have e := List.length_erase_of_mem hx
    have p := perm_of_mem l (T.erase x) n2 (fun y hy => (List.mem_erase_of_ne fun z => n1 (by rw [← z]; exact hy)).mpr (hm y (List.mem_cons_of_mem _ hy))) (by
      rw [e]; rw [List.length_cons] at h; omega)
    exact (p.cons x).trans (List.perm_cons_erase hx).symm
theorem TxSet.vals {h : Heap} {a : Addr} {D : PySem.Froz.SD} {l : List Str} (S : TxSet P w h a D l) : (∀ v ∈ D.1.toList.map (·.2), ∃ x t, v = Value.str x t) ∧ ((D.1.toList.map (·.2)).map txv).Perm l := by
  have sh : ∀ e ∈ D.1.toList, ∃ x t, e.2 = Value.str x t := fun e he => by
    obtain ⟨⟨k, q, _⟩, _⟩ := S.ok.el e he
    obtain ⟨t, z⟩ := Value.isStrOf_shape q
    exact ⟨k, t, z⟩
  refine ⟨fun v hv => ?_, (perm_of_mem l _ S.nd (fun x hx => ?_) ?_).symm⟩
  · obtain ⟨e, he, rfl⟩ := List.mem_map.mp hv
    exact sh e he
  · obtain ⟨e, he, q⟩ := (S.ok.mem x).mp hx
    obtain ⟨t, z⟩ := Value.isStrOf_shape q
    refine List.mem_map.mpr ⟨e.2, List.mem_map.mpr ⟨e, he, rfl⟩, by rw [z]; rfl⟩
  · rw [List.length_map, List.length_map]
    exact S.ok.sz.symm.trans Array.length_toList.symm
theorem sorted_txts {a : Addr} {D : PySem.Froz.SD} {l : List Str} {Q : Value → Shared → Prop} (S : TxSet P w s.heap a D l) (hh : A.handled = none) (hb : l.length < scanBound)
    (go : ∀ s' p (out : List Value) (c : Nat), (∀ b o, s.heap.get? b = some o → s'.heap.get? b = some o) → s'.gens = s.gens → s'.os = s.os → s.heap.objs.size ≤ p → s'.heap.get? p = some (seqObj "list" out.toArray c) → (∀ v ∈ out, ∃ x t, v = Value.str x t) → Rising (out.map txv) l → Q (.ref p) s') :
    wpAny (model P w) A (call (.builtin "sorted") [.ref a]) Q E s := by
  obtain ⟨sv, pl⟩ := S.vals
  have hz : D.1.size < scanBound := Nat.lt_of_le_of_lt (Nat.le_of_eq S.ok.sz) hb
  refine Calls.call_function_entry kind_sorted plain_sorted entry_sorted (args_sorted1 _) ?_
  unfold Builtin.«sorted»
  refine wpAny_bind (m := checkCount "sorted" 1 1 _) (wpAny_pure (wpAny_bind ?_))
  refine collect_set (A := A.in1) (es := D.1) (ep := D.2.1) (t := D.2.2) hh ⟨_, S.ob, rfl, rfl⟩ S.ok.fit hz S.ris S.led fun s1 vs k1 z1 g1 o1 pm => ?_
  have vv : ∀ v ∈ vs, ∃ x t, v = Value.str x t := fun v hv => sv v (pm.mem_iff.mp hv)
  have hlen : vs.length ≤ sizeLine := by
    rw [pm.length_eq, List.length_map, Array.length_toList]
    exact fits_of_scanBound hz
  refine wpAny_bind (wpAny_newList ?_ hlen)
  have at_ : (s1.heap.push (seqObj "list" vs.toArray 0)).get? s1.heap.objs.size = some (seqObj "list" vs.toArray 0) := Heap.get?_push_size _ rfl
  refine wpAny_bind (wpAny_holding (wpAny_call_entry slot_list_sort ⟨_, at_, rfl⟩ entry_list_sort ?_ (args_list_sort _)))
  refine SrtO.list_sort_ord swo_txt at_ hlen (fun h2 => txt_sortable vv h2) fun out h1 h2 => ⟨_, rfl, ?_⟩
  obtain ⟨c, hc⟩ := sortedHeap_at (vs := vs) (out := out.toArray) at_
  have po := h2.perm
  have ov : ∀ v ∈ out, ∃ x t, v = Value.str x t := fun v hv => vv v (po.mem_iff.mp hv)
  have pk : (out.map txv).Perm l := ((po.trans pm).map txv).trans pl
  refine wpAny_pure ⟨_, rfl, go _ s1.heap.objs.size out c (fun b u e => ?_) g1 o1 z1 hc ov ⟨?_, fun x => pk.mem_iff, pk.nodup_iff.mpr S.nd⟩⟩
  · have q := k1 b u e
    have lt := Heap.lt_size q
    show (sortedHeap (s1.heap.push (seqObj "list" vs.toArray 0)) s1.heap.objs.size vs out.toArray).get? b = some u
    rw [sortedHeap_old (Nat.ne_of_lt lt) (by rw [size_push']; exact Nat.lt_succ_of_lt lt)]
    exact Heap.get?_push_of_some _ q
  · exact List.pairwise_map.mpr (h1.imp fun {x y} h => of_decide_eq_false (p := (txv y).cps.toList < (txv x).cps.toList) h)
end
def insU (x : List Nat) : List (List Nat) → List (List Nat)
  | [] => [x]
  | y :: r => if x < y then x :: y :: r else if y < x then y :: insU x r else y :: r
def srtU (l : List (List Nat)) : List (List Nat) := l.foldr insU []
theorem lt3 (x y : List Nat) : x < y ∨ x = y ∨ y < x := by
  by_cases h : x < y
  · exact .inl h
  · rcases List.le_iff_lt_or_eq.mp (List.not_lt.mp h) with h | h
    · exact .inr (.inr h)
    · exact .inr (.inl h.symm)
theorem insU_mem {x z : List Nat} : ∀ {l : List (List Nat)}, z ∈ insU x l ↔ z = x ∨ z ∈ l
  | [] => by simp [insU]
  | y :: r => by
    unfold insU
    split
    · simp
    · split
      · rw [List.mem_cons, insU_mem (l := r), List.mem_cons]
        constructor
        · rintro (h | h | h)
          · exact .inr (.inl h)
          · exact .inl h
          · exact .inr (.inr h)
        · rintro (h | h | h)
          · exact .inr (.inl h)
          · exact .inl h
          · exact .inr (.inr h)
      · rename_i h1 h2
        have e : x = y := (lt3 x y).elim (fun h => absurd h h1) fun h => h.elim id fun h => absurd h h2
        subst e
        simp
theorem insU_up {x : List Nat} : ∀ {l : List (List Nat)}, l.Pairwise (· < ·) → (insU x l).Pairwise (· < ·)
  | [], _ => List.pairwise_singleton _ _
  | y :: r, h => by
    obtain ⟨h1, h2⟩ := List.pairwise_cons.mp h
    unfold insU
    split
    · rename_i hx
      refine List.pairwise_cons.mpr ⟨fun z hz => ?_, h⟩
      rcases List.mem_cons.mp hz with e | hz
      · rw [e]; exact hx
      · exact List.lt_trans hx (h1 z hz)
    · split
      · rename_i hx
        refine List.pairwise_cons.mpr ⟨fun z hz => ?_, insU_up h2⟩
        rcases insU_mem.mp hz with e | hz
        · rw [e]; exact hx
        · exact h1 z hz
      · exact h
theorem srtU_mem {z : List Nat} : ∀ {l : List (List Nat)}, z ∈ srtU l ↔ z ∈ l
  | [] => by simp [srtU]
  | y :: r => by
    show z ∈ insU y (srtU r) ↔ _
    rw [insU_mem, srtU_mem (l := r), List.mem_cons]
theorem srtU_up : ∀ {l : List (List Nat)}, (srtU l).Pairwise (· < ·)
  | [] => List.Pairwise.nil
  | y :: r => insU_up (srtU_up (l := r))
theorem up_unique : ∀ {a b : List (List Nat)}, a.Pairwise (· < ·) → b.Pairwise (· < ·) → (∀ x, x ∈ a ↔ x ∈ b) → a = b
  | [], [], _, _, _ => rfl
  | [], y :: b, _, _, h => absurd ((h y).mpr List.mem_cons_self) (by simp)
  | x :: a, [], _, _, h => absurd ((h x).mp List.mem_cons_self) (by simp)
  | x :: a, y :: b, ha, hb, h => by
    obtain ⟨a1, a2⟩ := List.pairwise_cons.mp ha
    obtain ⟨b1, b2⟩ := List.pairwise_cons.mp hb
    have e : x = y := by
      rcases List.mem_cons.mp ((h x).mp List.mem_cons_self) with e | e
      · exact e
      · rcases List.mem_cons.mp ((h y).mpr List.mem_cons_self) with e2 | e2
        · exact e2.symm
        · exact absurd (b1 x e) (List.lt_asymm (a1 y e2))
    subst e
    rw [up_unique a2 b2 fun z => ⟨fun hz => ?_, fun hz => ?_⟩]
    · rcases List.mem_cons.mp ((h z).mp (List.mem_cons_of_mem _ hz)) with e | e
      · exact absurd (e ▸ a1 z hz) (List.lt_irrefl _)
      · exact e
    · rcases List.mem_cons.mp ((h z).mpr (List.mem_cons_of_mem _ hz)) with e | e
      · exact absurd (e ▸ b1 z hz) (List.lt_irrefl _)
      · exact e
theorem toS_cps (z : List Nat) : (toS z).cps.toList = z := by simp [toS]
theorem cps_toS (x : Str) : toS x.cps.toList = x := by
  obtain ⟨c⟩ := x
  simp [toS]
theorem rising_eq {ys : List Str} {zs : List (List Nat)} (r : Rising ys (zs.map toS)) : ys = (srtU zs).map toS := by
  have e : ys.map (·.cps.toList) = srtU zs := by
    refine up_unique (List.pairwise_map.mpr ?_) srtU_up fun x => ?_
    · refine (r.up.and r.nd).imp fun {x y} h => ?_
      rcases List.le_iff_lt_or_eq.mp (List.not_lt.mp h.1) with q | q
      · exact q
      · exact absurd (by rw [← cps_toS x, ← cps_toS y, q]) h.2
    · rw [srtU_mem, List.mem_map]
      constructor
      · rintro ⟨y, hy, rfl⟩
        obtain ⟨z, hz, q⟩ := List.mem_map.mp ((r.mem y).mp hy)
        rw [← q, toS_cps]; exact hz
      · intro hx
        exact ⟨toS x, (r.mem _).mpr (List.mem_map.mpr ⟨x, hx, rfl⟩), toS_cps x⟩
  rw [← e, List.map_map]
  have : (toS ∘ fun x : Str => x.cps.toList) = id := funext cps_toS
  rw [this, List.map_id]
/-- the number of unlike ones -/
theorem nodup_len {l : List Str} {zs : List (List Nat)} (nd : l.Nodup) (hm : ∀ x, x ∈ l ↔ x ∈ zs.map toS) : l.length = (srtU zs).length := by
  have p : l.Perm ((srtU zs).map toS) := by
    refine (List.perm_ext_iff_of_nodup nd ?_).mpr fun x => ?_
    · refine List.pairwise_map.mpr ((srtU_up (l := zs)).imp fun {x y} h e => ?_)
      have : (toS x).cps.toList = (toS y).cps.toList := congrArg (·.cps.toList) e
      rw [toS_cps, toS_cps] at this
      rw [this] at h
      exact List.lt_irrefl _ h
    · rw [hm, List.mem_map, List.mem_map]
      exact ⟨fun ⟨z, h1, h2⟩ => ⟨z, srtU_mem.mpr h1, h2⟩, fun ⟨z, h1, h2⟩ => ⟨z, srtU_mem.mp h1, h2⟩⟩
  rw [p.length_eq, List.length_map]
theorem reps_txs (c : RC) : ∀ ws : List (List Nat), Reps c (ws.map .str) ((ws.map toS).map V.str)
  | [] => .nil
  | z :: ws => .cons (.str z) (reps_txs c ws)
def txD (h : EH) (d : D) : Option (List (List Nat)) := match asS h d with
  | some xs => (match asTs xs with
    | some zs => if zs.length + 1 < scanBound then some zs else none
    | none => none)
  | none => none
def mSortT (a : M D) : M D := fun ε h => bR (a ε h) fun x h1 => rt ((txD h1 x).map fun zs => .lst ((srtU zs).map .str)) h1
def mLenT (a : M D) : M D := fun ε h => bR (a ε h) fun x h1 => rt ((txD h1 x).map fun zs => .int (srtU zs).length) h1
end PD
namespace PD
open PySem PySem.Spec PyProof.Rows L2
variable [LamTab]
theorem en_new {v : Value} {o : Obj} {B : Heap → Prop} (b : Begins v o B) : Meets (Builtin.«enumerate.__new__» ⟨[.type "enumerate", v], []⟩) (fun _ R s => B s.heap ∧
    R (.ok (.ret (.ref (s.heap.push o).objs.size))) { s with heap := (s.heap.push o).push { cls := .type "enumerate", data := .fields #[.none, .bool false, .ref s.heap.objs.size, rawInt 0, .none, .none] } }) :=
  .of_wp fun P w A R s q => by
    obtain ⟨hp, g, d, tk, os⟩ := s
    obtain ⟨q0, q⟩ := q
    have hsub := sub_enumerate
    have go : ∀ {A' : Around} {E : Value → Shared → Prop} {Q : Value → Shared → Prop}, Q (.ref hp.objs.size) ⟨hp.push o, g, d, tk, os⟩ → wpAny (model P w) A' (pyIter v) Q E ⟨hp, g, d, tk, os⟩ := fun z => b.iter P w _ _ ⟨hp, g, d, tk, os⟩ _ q0 z
    wp_walk using go
    refine wpAny_stack_any fun st => wpAny_pure ?_
    split
    · rename_i c _ _ _ _ _
      cases (c == Value.type "enumerate") <;> (wp_walk using go; exact ⟨_, rfl, q⟩)
    · wp_walk using go
      exact ⟨_, rfl, q⟩
/-- enumerate(v) begins -/
theorem en_call {P : Program} {w : World} {A : Around} {E : Value → Shared → Prop} {s : Shared} {v : Value} {o : Obj} {B : Heap → Prop} {Q : Value → Shared → Prop} (b : Begins v o B) (q0 : B s.heap)
    (go : ∀ h', IsEnum h' (s.heap.objs.size + 1) s.heap.objs.size 0 .none → h'.get? s.heap.objs.size = some o → (∀ b o, s.heap.get? b = some o → h'.get? b = some o) → Q (.ref (s.heap.objs.size + 1)) { s with heap := h' }) :
    wpAny (model P w) A (call (.type "enumerate") [v]) Q E s := by
  refine callType_new F.called_enumerate (by decide) (F.typeCall_enumerate_1 _) (F.newCall_enumerate_1 _) (fun obj => F.args_object_init_2 obj _) F.entry_enumerate_new (en_new b) ⟨q0, ?_⟩
  have z : (s.heap.push o).objs.size = s.heap.objs.size + 1 := Heap.size_push ..
  show _ ∧ _
  rw [z]
  have e : ((s.heap.push o).push { cls := .type "enumerate", data := .fields #[.none, .bool false, .ref s.heap.objs.size, rawInt 0, .none, .none] }).get? (s.heap.objs.size + 1) = some { cls := .type "enumerate", data := .fields #[.none, .bool false, .ref s.heap.objs.size, rawInt 0, .none, .none] } := by
    rw [← z]
    exact Heap.get?_push_size (s.heap.push o) rfl
  exact ⟨⟨_, e, rfl⟩, go _ e (Heap.get?_push_of_some _ (Heap.get?_push_size _ b.free)) fun b o x => Heap.get?_push_of_some _ (Heap.get?_push_of_some _ x)⟩
def Itu (K : PySem.W.Frag) (a : Addr) : It :=
  ⟨fun i H => ∃ (xs : List V) (x : V), SqT K H a xs ∧ xs[i]? = some x, fun i H v H' => ∃ T x, v = .ref T ∧ H T = none ∧ H' = upd H T (.tup [.int (i : Nat), x]) ∧ ∀ xs, SqT K H a xs → xs[i]? = some x, fun i H => ∃ xs : List V, SqT K H a xs ∧ i = xs.length⟩
theorem walk_enT {K : PySem.W.Frag} {a : Addr} {xs : List V} : Walk (Itu K a) xs.length (fun H => SqT K H a xs) (YPair (fun i => some (.int (i : Nat))) (fun i => xs[i]?)) := by
  refine ⟨fun i _ hi q => ⟨xs, xs[i], q, by simp [hi]⟩, fun _ q => ⟨xs, q, rfl⟩, fun i H v H' _ q y => ?_⟩
  obtain ⟨T, x, h1, h2, h3, h4⟩ := y
  exact ⟨T, .int (i : Nat), x, h1, h2, h3, rfl, h4 xs q⟩
theorem turn_enT {P : Program} {w : World} {K : PySem.W.Frag} {elts : List Expr} {kk : Nat} {tpos : Pos} (a e it : Addr) :
    Turn P w K (.Tuple elts kk tpos) (Itu K a) [e, it] e (fun i h => (∃ old, IsEnum h e it (0 + ((i : Nat) : Int)) old) ∧ h.IsTupleIter it a i ∧ e ≠ it ∧ a ≠ e ∧ a ≠ it) where
  mem := List.mem_cons_self
  obj := fun i h st b hb => by
    obtain ⟨⟨old, he⟩, ⟨o, ho, hc, hd⟩, _⟩ := st
    rcases List.mem_cons.mp hb with z | z
    · rw [z]; exact ⟨_, he, fun v q => nomatch q⟩
    · rw [List.mem_singleton.mp z]; exact ⟨o, ho, fun v q => by rw [hd] at q; cases q⟩
  keep := fun i h h' st k => by
    obtain ⟨⟨old, he⟩, hi, ne⟩ := st
    exact ⟨⟨old, k e List.mem_cons_self _ he⟩, hi.at fun o q => k it (List.mem_cons_of_mem _ List.mem_cons_self) o q, ne⟩
  item := by
    intro X hP hw hK hc i pins s σ H E I hf st hg
    subst hP hw hK
    obtain ⟨⟨old, he⟩, hit, n1, n2, n3⟩ := st
    obtain ⟨xs, x, hq, hx⟩ := hg
    obtain ⟨its, rv, pl, hz⟩ := I.tuple hq
    obtain ⟨u, hu, ru⟩ := rv.get hx
    have hi : i < its.toArray.size := by
      rw [List.size_toArray, ← rv.length]
      exact (List.getElem?_eq_some_iff.mp hx).1
    have D := Draws.tuple (prog := X.prog) (w := X.w) (A := X.A.in1) (I.ok.hd hc) it a n3 its.toArray
    have N := GoesN.enumFrom (elts := elts) (x1 := kk) (pos := tpos) 0 D e n1 (fun z => (List.mem_cons.mp z).elim n1 fun z => n2 (List.mem_singleton.mp z).symm) List.mem_cons_self
    have lt : ∀ b ∈ [e, it], b < s.heap.objs.size := fun b hb => by
      rcases List.mem_cons.mp hb with z | z
      · rw [z]; exact Heap.lt_size he
      · rw [List.mem_singleton.mp z]; obtain ⟨_, q, _⟩ := hit; exact Heap.lt_size q
    refine N.goes i s (fun v s2 => ∃ x H', Inv X pins σ H' s2 ∧ RelV x v ∧ (Itu X.K a).yld i H x H' ∧ ((∃ old, IsEnum s2.heap e it (0 + ((i + 1 : Nat) : Int)) old) ∧ s2.heap.IsTupleIter it a (i + 1) ∧ e ≠ it ∧ a ≠ e ∧ a ≠ it) ∧ ∀ b ∈ [e, it], H' b = none) E hi ⟨⟨old, he⟩, hit, pl⟩ fun v h' tk y st' keep _ => ?_
    obtain ⟨T, t, z, rfl, hn, hzz, hT⟩ := y
    have ez : z = u := by
      rw [show its.toArray[i]? = some u by simpa using hu] at hzz
      exact (Option.some.inj hzz).symm
    subst ez
    have new : ObjOk X.prog X.w (upd H T (.tup [.int (i : Nat), x])) h' T (.tup [.int (i : Nat), x]) := by
      refine ⟨by show 2 ≤ sizeLine; decide, [.int (0 + (i : Int)) t, z], .cons ⟨_, by rw [Int.zero_add]⟩ (.cons ru .nil), hT⟩
    have I1 : Inv X pins σ (upd H T (.tup [.int (i : Nat), x])) { s with heap := h', toks := tk } := I.turnedNew (ch := [e, it]) keep hf hn new
    refine ⟨.ref T, _, I1, rfl, ⟨T, x, rfl, I.hok.fresh hn, rfl, fun ys hy => by rw [I.tuple_inj hy hq]; exact hx⟩, ⟨st'.1, st'.2.1, n1, n2, n3⟩, fun b hb => ?_⟩
    rw [upd_ne (Nat.ne_of_lt (Nat.lt_of_lt_of_le (lt b hb) hn))]
    exact (hf b hb).1
  done := by
    intro X hP hw hK hc i pins s σ H E I hf st hg
    subst hP hw hK
    obtain ⟨⟨old, he⟩, hit, n1, n2, n3⟩ := st
    obtain ⟨xs, hq, hx⟩ := hg
    obtain ⟨its, rv, pl, hz⟩ := I.tuple hq
    have hi : i = its.toArray.size := by rw [List.size_toArray, ← rv.length]; exact hx
    subst hi
    have D := Draws.tuple (prog := X.prog) (w := X.w) (A := X.A.in1) (I.ok.hd hc) it a n3 its.toArray
    have N := GoesN.enumFrom (elts := elts) (x1 := kk) (pos := tpos) 0 D e n1 (fun z => (List.mem_cons.mp z).elim n1 fun z => n2 (List.mem_singleton.mp z).symm) List.mem_cons_self
    refine N.stops s (fun s2 => Inv X pins σ H s2) E ⟨⟨old, he⟩, hit, pl⟩ fun h' tk keep _ => ?_
    exact I.turnedL keep hf
  self := fun A i s Q E st h => by
    obtain ⟨⟨_, he⟩, _⟩ := st
    exact wpAny_pyIter_enum he h
def iEn (K : PySem.W.Frag) (ta : TA) : TI := fun σ H R => ta σ H fun vs H1 => ∃ a xs, vs = [.ref a] ∧ ((SqL K H1 a xs ∧ R (Ite K a) H1) ∨ (SqT K H1 a xs ∧ R (Itu K a) H1))
theorem pi_en {X : Cx} {e : Expr} {ta : TA} {p pos tpos : Pos} {elts : List Expr} {kk : Nat} (hg : Gl X "enumerate") (hm : X.mg "enumerate" = none) (ha : PA X [e] ta) (hs : starEach [e] X.env = [(false, eval e X.env)] := by rfl) :
    PI X (.Tuple elts kk tpos) (.Call (.Name "enumerate" p) [e] [] pos) (iEn X.K ta) := by
  refine ⟨fun pins s σ H R I h => Call_ (ld_blt I hg hm boot_enumerate (PyProof.Rows.callWith_type1 (thn (ha.run pos pins s σ H _ I h) fun us s1 ⟨vs, H1, I1, r1, q1⟩ => ?_) hs rfl))⟩
  obtain ⟨a, xs, ex, q1⟩ := q1
  subst ex
  cases r1 with
  | cons r rr =>
    cases rr
    cases r
    have fresh : ∀ b ∈ [s1.heap.objs.size + 1, s1.heap.objs.size], FpOk X pins H1 b := fun b hb => by
      have hle : s1.heap.objs.size ≤ b := by
        rcases List.mem_cons.mp hb with z | z
        · rw [z]; exact Nat.le_succ _
        · rw [List.mem_singleton.mp z]; exact Nat.le_refl _
      exact I1.fpOk hle (I1.hok.fresh hle)
    rcases q1 with ⟨hq, q⟩ | ⟨hq, q⟩
    · obtain ⟨its, rv, p', hz⟩ := I1.list hq
      refine call_enumerate_list p'.isList fun h' he hit hsz hk => wpAny_pyIter_enum he ?_
      exact ⟨s1.heap.objs.size + 1, _, _, _, H1, rfl, I1.kept (t' := s1.toks) hk, turn_enum a (s1.heap.objs.size + 1) s1.heap.objs.size, ⟨⟨.none, he⟩, hit, Nat.succ_ne_self _⟩, fresh, q⟩
    · obtain ⟨its, rv, pl, hz⟩ := I1.tuple hq
      refine en_call (begins_tuple a its.toArray) pl fun h' he hit hk => wpAny_pyIter_enum he ?_
      have la : a < s1.heap.objs.size := pl.lt
      exact ⟨s1.heap.objs.size + 1, _, _, _, H1, rfl, I1.kept (t' := s1.toks) hk, turn_enT a (s1.heap.objs.size + 1) s1.heap.objs.size, ⟨⟨.none, he⟩, ⟨_, hit, rfl, rfl⟩, Nat.succ_ne_self _, Nat.ne_of_lt (Nat.lt_succ_of_lt la), Nat.ne_of_lt la⟩, fresh, q⟩
def miEn (a : M (List D)) : M (List D) := fun ε h => bR (a ε h) fun xs h1 => match xs with
  | [x] => (match x with
    | .lst as => some (.ok (enumD as), h1)
    | .tup as => some (.ok (enumD as), h1)
    | .scr as => some (.ok (enumD as), h1)
    | _ => none)
  | _ => none
theorem ri_en {X : Cx} {W : WX} {e : Expr} {ma : M (List D)} {p pos tpos : Pos} {elts : List Expr} {kk : Nat} (hm : X.mg "enumerate" = none) (ha : RA X W [e] ma) (hg : Gl X "enumerate" := by rfl) (hs : starEach [e] X.env = [(false, eval e X.env)] := by rfl) : RI X W (.Tuple elts kk tpos) (.Call (.Name "enumerate" p) [e] [] pos) (miEn ma) := by
  refine pi_imp (pi_en hg hm ha hs) fun σ H R h => ?_
  obtain ⟨c, ε, h, r, h', hK, hm, rfl, sr, er, e, px, go⟩ := h
  unfold iEn
  refine tX.bind hK hm sr er e px fun ds h1 c1 vs e1 l1 s1 r1 => ?_
  have nth : ∀ {as : List D} {xs : List V}, Reps c1 as xs → ∀ (i : Nat) (x y : V) (c' : RC), c1.LeW c' → some (V.int (i : Nat)) = some x → xs[i]? = some y → ∃ d e, (enumD as)[i]? = some (.tup [d, e]) ∧ Rep c' d x ∧ Rep c' e y := fun {as xs} k3 i x y c' l e1 e2 => by
    cases e1
    obtain ⟨d, h1, r1⟩ := k3.getV e2
    refine ⟨.int (i : Nat), d, ?_, .int _, r1.leW l⟩
    unfold enumD
    rw [List.getElem?_map, List.getElem?_zipIdx, h1]
    simp
  match ds, r1, e1 with
  | [d1], .cons q1 .nil, e1 =>
    cases q1 with
    | @lst a as xs k1 k2 k3 =>
      cases e1
      refine ⟨a, xs, rfl, .inl ⟨.inl (.inl k1), go _ rfl c1 _ l1 s1 (walkR_pair (G := fun H => SqL X.K H a xs) (f := fun i => some (V.int (i : Nat))) (g := fun i => xs[i]?) ?_ (fun c' l => .inl (.inl (l.lstH k1 k2).1)) (nth k3))⟩⟩
      have en : (enumD as).length = xs.length := by simp [enumD, k3.length]
      rw [en]
      exact walk_enum
    | @scr a as xs k1 k3 =>
      cases e1
      obtain ⟨a', xs', ea, g1, g2, g3⟩ := lsD_ok (.scr k1 k3) (show lsD (.scr as) = some as from rfl)
      cases ea
      have hK1 : c1.K = X.K := l1.K.trans hK
      refine ⟨a, xs', rfl, .inl ⟨by rw [← hK1]; exact g1, go _ rfl c1 _ l1 s1 (walkR_pair (G := fun H => SqL X.K H a xs') (f := fun i => some (V.int (i : Nat))) (g := fun i => xs'[i]?) ?_ (fun c' l => by have := g3 c' l; rw [l.K, hK1] at this; exact this) (nth g2))⟩⟩
      have en : (enumD as).length = xs'.length := by simp [enumD, g2.length]
      rw [en]
      exact walk_enum
    | @tup a as xs k1 k3 =>
      cases e1
      rw [l1.K.trans hK] at k1
      refine ⟨a, xs, rfl, .inr ⟨k1, go _ rfl c1 _ l1 s1 (walkR_pair (G := fun H => SqT X.K H a xs) (f := fun i => some (V.int (i : Nat))) (g := fun i => xs[i]?) ?_ (fun c' l => ?_) (nth k3))⟩⟩
      · have en : (enumD as).length = xs.length := by simp [enumD, k3.length]
        rw [en]
        exact walk_enT
      · rcases k1 with k1 | k1
        · exact .inl (l.tup _ _ k1)
        · exact .inr k1
    | _ => cases e1
  | [], _, e1 => cases e1
  | _ :: _ :: _, _, e1 => cases e1
/-- o.f, a property: its getter F, which raises nothing -/
structure PrpP (P : Program) (w : World) (K : PySem.W.Frag) (mg : Str → Option Value) (base : Heap) (C f : Str) (k : Nat) (F : PF) : Prop where
  ex : ∃ (Ca p g : Addr) (fd : FuncData) (ps : List Str), mg C = some (.ref Ca) ∧ Cls K Ca ∧ PropOf K Ca f p g ∧ Binds K fd ps [] ∧ FnOk P w K mg base (L2.CX P w) k g fd ps (SpP K mg 1 F)
def mPrp (C : Str) (F : PF) (o : M D) : M D := fun ε h => bR (o ε h) fun x h1 => match insD h1 x with
  | some (C', _) => if C' = C ∧ noRef.go [x] = true then (match F [x] with
    | some (.ok d) => some (.ok d, h1)
    | _ => none) else none
  | none => none
theorem re_prp {X : Cx} {W : WX} {C f : Str} {F : PF} {k j : Nat} {o : Expr} {mo : M D} {pos : Pos} (G : PrpP X.prog X.w X.K X.mg X.base C f k F) (hr : Room j X.A) (ho : RE X W o mo) (hk : k + 1 ≤ j := by decide) (hab : attributeBase o f X.env (eval o X.env) = eval o X.env := by rfl) :
    RE X W (.Attribute o f pos) (mPrp C F mo) := by
  obtain ⟨Ca, p, g, fd, ps, h1, h2, h3, h4, h5⟩ := G.ex
  refine pe_imp (pe_prop (E := fun _ _ _ => False) (dvs := []) ho h2 h3 h5 (hr.mono hk) h4 .nil ?_ hab) fun σ H Q h => ?_
  · intro pins σ H s e s' I c
    obtain ⟨a, B, H', cls, d, _, _, _, _, _, _, _, q⟩ := c
    exact False.elim q
  · obtain ⟨c, ε, h, r, h', hK, hm, rfl, sr, er, e, px, go⟩ := h
    unfold tProp
    refine tX.bind hK hm sr er e px fun x e1 c1 v e2 l1 s1 r1 => ?_
    cases q : insD e1 x with
    | none => rw [q] at e2; cases e2
    | some z =>
      obtain ⟨C', fs⟩ := z
      rw [q] at e2
      dsimp only at e2
      by_cases hc : C' = C ∧ noRef.go [x] = true
      · rw [if_pos hc] at e2
        obtain ⟨a, Cb, dx, vs, rfl, k1, k2, k3⟩ := insD_ok s1 r1 q
        obtain ⟨rfl, hn⟩ := hc
        rw [l1.mg.e', hm.mge, h1] at k1
        cases k1
        cases q2 : F [x] with
        | none => rw [q2] at e2; cases e2
        | some r2 =>
          rw [q2] at e2
          cases r2 with
          | ex y => cases e2
          | ok d =>
            cases e2
            exact ⟨a, dx, vs, rfl, k2, spP_of (l1.K.trans hK) (l1.mg.trans hm) s1 (.cons r1 .nil) rfl hn q2 (fun d' ed c' v l s rd => (by cases ed; exact go _ rfl c' v (l1.trans l) s rd)) fun y ey => nomatch ey⟩
      · rw [if_neg hc] at e2; cases e2
def mCGet (kvs : List (List Nat × D)) (a b : M D) : M D := fun ε h => bR (a ε h) fun y h1 => match y with
  | .str k => bR (b ε h1) fun z h2 => some (.ok ((lkS k kvs).getD z), h2)
  | _ => none
end PD
namespace PD
open PySem PySem.Spec PyProof.Rows L2
variable [LamTab]
theorem propB_ok {K : PySem.W.Frag} {x f : Str} (h : propB K x f = true) : PropOf K (He.ga K x) f (He.ma K (He.ga K x) f) (gtr x f K) := by
  obtain ⟨h1, h⟩ := ba2 h
  obtain ⟨h2, h⟩ := ba2 h
  obtain ⟨h3, h⟩ := ba2 h
  refine ⟨of_decide_eq_true h1, of_decide_eq_true h2, of_decide_eq_true h3, ?_⟩
  unfold gtr He5.wf
  split at h
  · rename_i g r e
    exact ⟨r, by rw [e]⟩
  · cases h
section
variable {n : Nat} {fa : List He.Fa} {fn : List He.DefD} {gs : List (Str × D)} {ds : List DicD} {fx : List FactB} {xd : List He5.DefA} {w : World} {K : PySem.W.Frag}
theorem SaysG3.two (c : SaysG3 fa fn gs ds fx xd w K) : SaysG2 fa fn gs ds w K := congrArg (fun z : AlG3 => z.1) c
theorem SaysG3.fact (c : SaysG3 fa fn gs ds fx xd w K) {f : FactB} (h : f ∈ fx) : f K = true :=
  List.all_eq_true.mp (ba2 (congrArg (fun z : AlG3 => z.2.1) c : ((fx.all (fun f => f K)) && xd.all (fun d => d.ok K)) = true)).1 f h
theorem SaysG3.defA (c : SaysG3 fa fn gs ds fx xd w K) {d : He5.DefA} (h : d ∈ xd) : ∃ fd, FunD K d.name d.qual d.params d.body d.scope (d.dvs K) (d.kws K) (d.at_ K) fd := by
  have c1 := List.all_eq_true.mp (ba2 (congrArg (fun z : AlG3 => z.2.1) c : ((fx.all (fun f => f K)) && xd.all (fun d => d.ok K)) = true)).2 d h
  have c2 : (xd.map fun d => He5.fnA K (d.at_ K)) = xd.map He5.DefA.val := congrArg (fun z : AlG3 => z.2.2) c
  exact He5.DefA.funD (List.map_inj_left.mp c2 d h) c1
end
def miA (a : M D) : M (List D) := fun ε h => match miL a ε h with
  | some z => some z
  | none => miT a ε h
theorem ri_any {X : Cx} {W : WX} {tg e : Expr} {m : M D} (he : RE X W e m) : RI X W tg e (miA m) := by
  refine ⟨fun pins s σ H R I h => ?_⟩
  obtain ⟨c, ε, h, r, h', hK, hm, rfl, sr, er, e, px, go⟩ := h
  unfold miA at e
  cases q : miL m ε h with
  | some z =>
    rw [q] at e
    cases e
    exact (ri_list he).run pins s σ _ R I ⟨c, ε, h, r, h', hK, hm, rfl, sr, er, q, px, go⟩
  | none =>
    rw [q] at e
    exact (ri_tup he).run pins s σ _ R I ⟨c, ε, h, r, h', hK, hm, rfl, sr, er, e, px, go⟩
end PD
namespace PD
open PySem PySem.Spec PyProof.Rows L2
variable [LamTab]
def msPar3 (i j l : Nat) (m : M (List D)) : MS := fun ε h => bS (m ε h) ε fun ds h1 => match ds with
  | [d, e, f] => some (.nx (((ε.set i (some d)).set j (some e)).set l (some f)), h1)
  | _ => none
end PD
namespace PX
open PySem PySem.Spec PyProof.Rows L2 PySem.Calls
section
variable {X : Cx} {pins : List (Addr × Obj)} {σ : L2.St} {H : Hp} {s : Shared} {a C u : Addr} {E : Value → Shared → Prop}
/-- ValueError.__init__ bound to the object, called -/
theorem mw_init {us : List Value} {Q : Value → Shared → Prop} (T : OexC X.K C) (I : Inv X pins σ H s) (e : H a = some (exo a C none)) (hu : s.heap.get? u = some (PySem.W.kxs_mw "ValueError.__init__" a)) (hl : us.length ≤ sizeLine) (h : ∀ s', Inv X pins σ H s' → Q .none s') :
    wpAny (model X.prog X.w) X.A (call (.ref u) us) Q E s := by
  obtain ⟨nm, q, N, bs, bm, sn, sub, ab, col, dd, k0, k1, k2, k3, k5, hC, hbm⟩ := T.cls
  obtain ⟨t1, ho⟩ := exo_at I.hok e
  obtain ⟨hp, g, d, t, os⟩ := s
  have KC := I.kIn _ _ hC
  refine wpAny_call (codeAny_of_tree ?_)
  show wpAny _ X.A.in1 (callAny (.ref u) ⟨us, []⟩) _ _ _
  simp only [callAny]
  refine wpAny_bind (wpAny_load hu ?_)
  simp only [PySem.W.kxs_mw, show (Value.type "method-wrapper" == Value.type "method" || Value.type "method-wrapper" == Value.type "builtin_function_or_method" || Value.type "method-wrapper" == Value.type "method-wrapper") = true by decide, if_true]
  refine PySem.W.KFB.if_so (by decide) ?_
  refine wpAny_bind (PySem.W.check_bound_init F.excBase_ValueError.toExcCallFacts KC ho rfl ?_)
  refine wpAny_bind (wpAny_pure (wpAny_pure ?_))
  refine ⟨plainId_quiet F.excBase_ValueError.init.plain _, codeAny_builtin F.excBase_ValueError.initEntry ?_⟩
  refine PySem.W.exc_init_tree (cls := .ref C) (t0 := t1) (dv := none) (c2 := .none) (c3 := .none) (b4 := .bool false) ho hl fun h' k hx _ => ?_
  have J := I.write (t' := t) (x := a) (e := a) (o := exo a C none) (by rw [e]; exact True.intro) (.inl rfl) k ⟨_, hx⟩ (exo_ok hx)
  have eu : upd H a (exo a C none) = H := by
    funext b
    by_cases hb : b = a
    · rw [hb, upd_same, e]
    · rw [upd_ne hb]
  rw [eu] at J
  exact h _ J
end
/-- a class whose __init__ says super().__init__(code); self.code = code -/
def supBody (b : List Stmt) : Prop := ∃ p0 p1 p2 p3 p4 p5 p6 p7 p8 p9, (∀ env : Env, ∃ pl : Sem Bool, eval (.Call (.Attribute (.Call (.Name "super" p0) [] [] p1) "__init__" p2) [.Name "code" p3] [] p4) env = (do
      let ov ← attributeBase (.Call (.Name "super" p0) [] [] p1) "__init__" env (eval (.Call (.Name "super" p0) [] [] p1) env)
      standAt p2.atName
      let (f, first) ← holding [ov] (getMethod ov "__init__" pl)
      callWith p4 f first (backTo p4 (starEach [.Name "code" p3] env)) [])) ∧ b = [.Expr (.Call (.Attribute (.Call (.Name "super" p0) [] [] p1) "__init__" p2) [.Name "code" p3] [] p4) p5, .Assign [.Attribute (.Name "self" p6) "code" p7] (.Name "code" p8) p9]
structure SupI (P : Program) (K : PySem.W.Frag) (T f : Addr) (fd : FuncData) : Prop where
  ex : ∃ (qual : Str) (params : Arguments) (ar : Arg) (body : List Stmt) (scope : Scope) (oc : Value) (od : Option Addr) (dV kV doc pm : Value) (an : Option Addr) (cda cc : Addr) (ct : Value) (osl : Array (Option Value)),
    fd = PySem.W.ksFn "__init__" qual params body scope dV kV doc pm an (.ref cda) ct cc ∧ supBody body ∧ K.lookup f = some ⟨oc, od, .func fd, osl⟩ ∧ PySem.W.codeIn K (.ref cda) qual = true ∧ (params.posonlyargs ++ params.args).head? = some ar ∧ ar.arg = "self" ∧
    (∃ (oc2 : Value) (od2 : Option Addr) (vs : Array Value) (sl2 : Array (Option Value)) (file : Str) (tf : Tok), K.lookup cda = some ⟨oc2, od2, .fields vs, sl2⟩ ∧ vs[2]? = some (.str file tf) ∧ ((P.main.file : Str) == file) = true) ∧
    (∃ (oc3 : Value) (od3 : Option Addr) (sl3 : Array (Option Value)), K.lookup cc = some ⟨oc3, od3, .cell (some (.ref T)), sl3⟩) ∧
    (∀ x ∈ scope.names, x.2 ≠ .cell) ∧ (∀ x ∈ scope.names, x.2 = .free → x.1 = "__class__") ∧ scope.names.lookup ("super" : Str) = some .globalImplicit ∧ scope.names.lookup ("__class__" : Str) = some .free ∧ scope.names.lookup ("self" : Str) = some .local ∧ scope.names.lookup ("code" : Str) = some .local ∧
    scope.kind = .function ∧ scope.isCoroutine = false ∧ scope.isGenerator = false
  cls : ∃ cd, PySem.W.clsIn K T = some cd
  sup : PySem.W.nsIn K mainGlobals "super" = some none
  top : (P.main.scope.names.lookup ("super" : Str)).isSome = false
  opq : PySem.W.nsIn K cStatics "thirdparty.any" = some none
/-- the class C of the object lies over T -/
structure OverT (K : PySem.W.Frag) (T C : Addr) : Prop where
  oex : OexC K C
  sup : PySem.W.ks_superIn K C T "__init__" = some (some (.builtin "ValueError.__init__"))
  mro : PySem.W.mroIn K C (.ref T) = some true
  sub : PySem.W.subIn K (.ref C) (.type "ValueError") = some true
  no : PySem.W.findIn K (.ref C) "code" = some none
def spT (K : PySem.W.Frag) (T : Addr) : Sp := fun vs H Q _ => ∃ (a C : Addr) (y : V), vs = [.ref a, y] ∧ OverT K T C ∧ H a = some (exo a C none) ∧ ∀ dx, H dx = none → dx ≠ a → Q .non (upd (upd H dx (exd dx [("code", y)])) a (exo a C (some dx)))
def supCx (CX : CXT) (P : Program) (w : World) (K : PySem.W.Frag) (mg : Str → Option Value) (base : Heap) (qual : Str) (scope : Scope) (f cc : Addr) (cd : Value) (A : Around) (outer : List Env) (s : Shared) (H : Hp) (E : XK) : Cx where
  prog := P
  w := w
  K := K
  mg := mg
  base := base
  A := A.deeper (PySem.W.ksEnv qual scope s.heap.objs.size f cd cc)
  N := ["self", "code"]
  s_0 := s
  H_0 := H
  env := PySem.W.ksEnv qual scope s.heap.objs.size f cd cc
  outer := outer
  stack := PySem.W.ksEnv qual scope s.heap.objs.size f cd cc :: outer
  ex := []
  fn := fun _ => false
  calm := true
  pn := []
  xe := fun e s' => wpAny (model P w) (A.deeper (PySem.W.ksEnv qual scope s.heap.objs.size f cd cc)) (leaving (PySem.W.ksEnv qual scope s.heap.objs.size f cd cc) e) (fun _ s'' => CX outer H s E e s'') (fun e' s'' => CX outer H s E e' s'') s'
section
variable {P : Program} {w : World} {K : PySem.W.Frag} {mg : Str → Option Value} {base : Heap} {CX : CXT} {k : Nat} {T f : Addr} {fd : FuncData}
theorem sup_start {qual : Str} {scope : Scope} {cc : Addr} {cd u0 u1 : Value} {v0 v1 : V} {A : Around} {outer : List Env} {s : Shared} {H : Hp} {E : XK} {h₁ : Heap} {tk : Nat} (hd : A.handled = none) (e0 : Env0 P w K mg base A outer s H)
    (hcell : ∃ (oc3 : Value) (od3 : Option Addr) (sl3 : Array (Option Value)), K.lookup cc = some ⟨oc3, od3, .cell (some (.ref T)), sl3⟩) (hc : ∀ x ∈ scope.names, x.2 ≠ .cell) (hf : ∀ x ∈ scope.names, x.2 = .free → x.1 = "__class__") (hks : scope.names.lookup ("self" : Str) = some .local) (hkc : scope.names.lookup ("code" : Str) = some .local) (hkind : scope.kind = .function)
    (r0 : RelV v0 u0) (r1 : RelV v1 u1) (hns : h₁.Ns s.heap.objs.size (fun x => [(("self" : Str), u0), (("code" : Str), u1)].reverse.lookup x)) (hk : ∀ b o, s.heap.get? b = some o → h₁.get? b = some o) :
    Inv (supCx CX P w K mg base qual scope f cc cd A outer s H E) [] [some v0, some v1] H { s with heap := h₁, toks := tk } := by
  obtain ⟨oc3, od3, sl3, hcell⟩ := hcell
  have noA : ∀ b : Addr, b ∉ (supCx CX P w K mg base qual scope f cc cd A outer s H E).ex := fun b z => absurd (show b ∈ ([] : List Addr) from z) (by simp)
  have cells : ∀ {y : Str} {c : Addr}, (supCx CX P w K mg base qual scope f cc cd A outer s H E).env.cells.lookup y = some c → y = "__class__" ∧ c = cc := fun {y c} e => by
    have e' : ([(("__class__" : Str), cc)] : List (Str × Addr)).lookup y = some c := e
    rw [List.lookup_cons] at e'
    cases q : y == ("__class__" : Str) with
    | true => rw [q] at e'; cases e'; exact ⟨beq_iff_eq.mp q, rfl⟩
    | false => rw [q] at e'; cases e'
  have kc := e0.mod.kin _ _ hcell
  refine ⟨⟨e0.mod, hkind, rfl, rfl, Nat.le_refl _, fun y z c h1 h2 => (cells h1).1.trans (cells h2).1.symm, fun y hy => ?_, fun y c z _ => ?_, fun _ => hd, Around.frames_deeper e0.frames, .inr ⟨rfl, rfl⟩, fun b z => absurd z (noA b), e0.bs, e0.bsz, fun b _ _ => noA b, fun b z => absurd z (noA b), e0.funs, e0.frf⟩,
    rfl, e0.bare, Un.kept hk, ⟨_, hns, fun i y v h1 h2 h3 => ?_⟩, fun y c h => ?_, e0.hok.fresh (Nat.le_refl _), fun y c h => ?_, fun p hp => absurd (show p ∈ ([] : List (Addr × Obj)) from hp) (by simp), e0.hok.kept hk, rfl⟩
  · have hy : scope.names.lookup y = some .cell ∨ scope.names.lookup y = some .free := hy
    rcases hy with hy | hy
    · exact absurd rfl (hc _ (PySem.mem_of_lookup hy))
    · have e := hf _ (PySem.mem_of_lookup hy) rfl
      have e' : y = "__class__" := e
      subst e'
      exact ⟨cc, rfl⟩
  · have z : false = true := z
    cases z
  · match i, h1, h2 with
    | 0, h1, h2 =>
      cases h1
      cases h2
      exact ⟨u0, r0, .inl ⟨hks, rfl⟩⟩
    | 1, h1, h2 =>
      cases h1
      cases h2
      exact ⟨u1, r1, .inl ⟨hkc, rfl⟩⟩
    | n + 2, h1, h2 => simp at h2
  · rw [(cells h).2]
    exact ⟨_, _, hk _ _ (e0.bs _ _ kc).1, rfl⟩
  · rw [(cells h).2]
    exact (e0.bs _ _ kc).2
/-- its promise -/
theorem sup_init (S : SupI P K T f fd) : FnOk P w K mg base CX (k + 1) f fd ["self", "code"] (spT K T) := by
  refine ⟨fun vs H Q E h => ?_, fun A outer s H args us vs Q E hr e0 hb r hsp => ?_⟩
  · obtain ⟨a, C, y, rfl, _⟩ := h
    rfl
  obtain ⟨a, C, y, rfl, O, ea, go⟩ := hsp
  obtain ⟨qual, params, ar, body, scope, oc, od, dV, kV, doc, pm, an, cda, cc, ct, osl, rfl, ⟨p0, p1, p2, p3, p4, p5, p6, p7, p8, p9, hev, rfl⟩, lk, hcd, hp, har, ⟨oc2, od2, cvs, sl2, file, tf, hcda, hvs, hfile⟩, hcl, hnc, hnf, hsup, hcls, hself, hcode, hkind, hco, hgen⟩ := S.ex
  obtain ⟨u0, u1, rfl, r0, r1⟩ := r.two
  obtain rfl : u0 = Value.ref a := r0
  have KX : K.In s.heap := e0.mod.kin.keeps fun b o e => (e0.bs b o e).1
  have lim : s.heap.NoLimit := e0.mod.nolimit.keeps fun b o e => (e0.bs b o e).1
  refine PySem.ks_codeAny_call_defAt (fd := PySem.W.ksFn "__init__" qual params _ scope dV kV doc pm an (.ref cda) ct cc) (binds := [("self", .ref a), ("code", u1)]) hr.depth (KX _ _ lk) rfl lim (PySem.W.codeRec_of KX hcd) rfl hb hnc ?_ (fun h₁ hns hk => ?_) hco hgen hkind
  · intro x hx
    rcases List.mem_cons.mp hx with e | hx
    · rw [e]; exact hself
    · rw [List.mem_singleton.mp hx]; exact hcode
  have I := sup_start (CX := CX) (f := f) (qual := qual) (cd := .ref cda) (E := E) (tk := s.toks + 2) hr.hd e0 hcl hnc hnf hself hcode hkind (v0 := .ref a) (v1 := y) rfl r1 hns hk
  obtain ⟨nm, q, N, bs, bm, sn, sub, ab, col, dd, k0, k1, k2, k3, k5, hC, hbm⟩ := O.oex.cls
  obtain ⟨cdT, hT⟩ := S.cls
  let s1 : Shared := { s with heap := h₁, toks := s.toks + 2 }
  have I : Inv (supCx CX P w K mg base qual scope f cc (.ref cda) A outer s H E) [] [some (.ref a), some y] H s1 := I
  have KX1 : K.In h₁ := I.kIn
  obtain ⟨oD, hD1, hD2⟩ : ∃ oD, h₁.get? T = some oD ∧ oD.data = .cls cdT := by
    unfold PySem.W.clsIn at hT
    split at hT
    · rename_i c d cd' sl ho
      cases hT
      exact ⟨_, KX1 _ _ ho, rfl⟩
    · cases hT
  obtain ⟨t1, hx⟩ := exo_at I.hok ea
  have hxC : a ≠ C := fun z => by
    have e1 := KX1 _ _ hC
    rw [← z, hx] at e1
    cases e1
  have hsub : PySem.W.Looks (model P w) h₁ (isSubtype (.ref C) (.ref T)) true := PySem.W.looks_mroIn KX1 O.mro
  let env : Env := PySem.W.ksEnv qual scope s.heap.objs.size f (.ref cda) cc
  have hnsE : h₁.Ns env.locals (fun x => [(("self" : Str), Value.ref a), (("code" : Str), u1)].reverse.lookup x) := hns
  refine PySem.ks_wpAt_execs_cons (PySem.ks_wpAt_Expr_any (PySem.ks_wpAt_MethodCall (env := env) ?_ (hev env).choose_spec) (by show interactive env = false; unfold interactive; rw [show env.scope.kind = _ from hkind] <;> rfl) (by rfl))
  refine PySem.ks_wpAt_super_base (env := env) hsup hcls rfl rfl (KX1 _ _ lk) rfl hp rfl (KX1 _ _ hcda) rfl hvs hfile S.top ?_
  obtain ⟨mb, b1, b2⟩ := e0.mod.blt
  refine PySem.W.ks_loadName_global hkind hsup (loadGlobal_builtin (env := env) (e0.mod.glob.keeps I.bk) (PySem.W.mg_none_of e0.mod.kin e0.mod.glob S.sup) (b1.keeps I.bk) ((b2 "super" (by decide)).trans (by decide +kernel)) ⟨rfl, ?_⟩)
  obtain ⟨oc3, od3, sl3, hcc⟩ := hcl
  refine wpAny_loadName_free hkind hcls rfl ⟨_, KX1 _ _ hcc, rfl⟩ ?_
  rw [har]
  refine wpAny_loadName_local hkind hself hnsE rfl ?_
  refine PySem.ks_wpAny_isType_cls hD1 hD2 ⟨rfl, ?_⟩
  refine PySem.ks_wpAny_call_super hD1 hD2 hx rfl (fun c e => by cases e) hsub (fun h' e k => ?_)
  -- the method
  have I2 : Inv (supCx CX P w K mg base qual scope f cc (.ref cda) A outer s H E) [] [some (.ref a), some y] H { s with heap := h', toks := s.toks + 2 } := I.kept k
  have hcdC : ∃ cd, PySem.W.clsIn K C = some cd := by
    have z := O.sup
    unfold PySem.W.ks_superIn at z
    cases q : PySem.W.clsIn K C with
    | none => rw [q] at z; cases z
    | some cd => exact ⟨cd, rfl⟩
  obtain ⟨cdC, hcdC⟩ := hcdC
  have hal : PySem.W.alongIn K "__init__" ((cdC.mro.dropWhile (· != .ref T)).drop 1) = some (some (.builtin "ValueError.__init__")) := by
    have z := O.sup
    unfold PySem.W.ks_superIn at z
    rw [hcdC] at z
    exact z
  have hmro : PySem.W.Looks (model P w) h' (mroOf (.ref C)) cdC.mro := fun A Q E s k q => wpAny_bind ((PySem.W.looks_clsIn I2.kIn hcdC) A _ E s k (wpAny_pure q))
  have LTy : PySem.W.Looks (model P w) h' (typeOf (.ref a)) (.ref C) := fun A Q E s k2 q => wpAny_typeOf_ref (k2 _ _ (k _ _ hx)) q
  have hI : PySem.W.Looks (model P w) h' (isInstance (.ref a) (.type "ValueError")) true := LTy.andThen (PySem.W.looks_subIn I2.kIn O.sub)
  refine PySem.W.kxs_getMethod PySem.W.kxs_ValueError (by exact e) (PySem.W.looks_opaque I2.kIn S.opq) hmro rfl I2.kIn hal hI hxC (by decide) ?_
  have kp : ∀ b o, h'.get? b = some o → (h'.push (PySem.W.kxs_mw "ValueError.__init__" a)).get? b = some o := fun b o e => Heap.get?_push_of_some _ e
  have I3 : Inv (supCx CX P w K mg base qual scope f cc (.ref cda) A outer s H E) [] [some (.ref a), some y] H { s with heap := h'.push (PySem.W.kxs_mw "ValueError.__init__" a), toks := s.toks + 2 + 1 } := I2.kept kp
  have hu : (h'.push (PySem.W.kxs_mw "ValueError.__init__" a)).get? h'.objs.size = some (PySem.W.kxs_mw "ValueError.__init__" a) := Heap.get?_push_size _ rfl
  refine PySem.W.kxs_callWith (i := "ValueError.__init__") (x := a) rfl (evalArgs_plain ?_)
  obtain ⟨m3, hm3⟩ : ∃ m, (h'.push (PySem.W.kxs_mw "ValueError.__init__" a)).Ns env.locals m ∧ m "code" = some u1 := by
    obtain ⟨o, es, ep, ho, r⟩ := hnsE
    exact ⟨_, ⟨o, es, ep, kp _ _ (k _ _ ho), r⟩, rfl⟩
  show wpAny _ _ (spliced ((false, eval (.Name "code" p3) env) :: backTo p4 (starEach [] env))) _ _ _
  refine PySem.Calls.spliced_cons (ESX.ldL (env := env) hm3.1 hm3.2 (PySem.Calls.spliced_nil ⟨hu, ?_⟩) hkind hcode)
  refine mw_init (X := supCx CX P w K mg base qual scope f cc (.ref cda) A outer s H E) (us := [u1]) O.oex I3 ea hu (by show 1 ≤ sizeLine; rw [sizeLine_eq]; omega) fun s4 I4 => ?_
  refine wpAt_of_wpAny ?_
  have hps : PSs (supCx CX P w K mg base qual scope f cc (.ref cda) A outer s H E) [.Assign [.Attribute (.Name "self" p6) "code" p7] (.Name "code" p8) p9] _ := pss_one (ps_ost (o := .Name "self" p6) (e := .Name "code" p8) (pe_var (i := 0) rfl (.inl hself)) (pe_var (i := 1) rfl (.inl hcode)))
  refine wpAny_mono (hps.run [] s4 [some (.ref a), some y] H { nx := fun _ H' => Q .non H', rt := Q } I4 ?_) (fun fl s' hs => ?_) fun e s' hs => hs
  · exact ⟨y, rfl, .ref a, rfl, a, C, rfl, O.oex, O.no, .inl ⟨ea, go⟩⟩
  · have fin : ∀ {σ' : L2.St} {H' : Hp} {v : V} {u : Value}, Inv (supCx CX P w K mg base qual scope f cc (.ref cda) A outer s H E) [] σ' H' s' → RelV v u → Q v H' → CE outer P w H s Q u s' :=
      fun {σ' H' v u} J rv q => ⟨v, H', J.os, J.bare, J.base, J.hok, rv, q⟩
    cases fl with
    | ret u =>
      obtain ⟨v, σ', H', J, rv, q⟩ := hs
      exact fin J rv q
    | next =>
      obtain ⟨σ', H', J, q⟩ := hs
      exact fin (v := V.non) (u := Value.none) J rfl q
    | brk =>
      obtain ⟨_, _, _, q⟩ := hs
      exact False.elim q
    | cont =>
      obtain ⟨_, _, _, q⟩ := hs
      exact False.elim q
end
end PX
namespace PX
open PySem PySem.Spec PyProof.Rows L2 PySem.Calls
structure ClsFn (K : PySem.W.Frag) (T : Addr) (m : Str) (f : Addr) : Prop where
  rd : PySem.W.readsIn K T (.type "type") = true
  ga : PySem.W.specialIn K (.ref T) "__getattribute__" = some (some (.builtin "type.__getattribute__"))
  at_ : PySem.W.findCls K (.ref T) (.type "type") m = some (.val (.ref f))
  ty : PySem.W.typeIn K (.ref f) = some (.type "function")
  kp : PySem.W.keepIn K (.ref f) = true
theorem clsfn_get {K : PySem.W.Frag} {T f : Addr} {m : Str} {prog : Program} {w : World} {A : Around} {E : Value → Shared → Prop} {s : Shared} {pl : Sem Bool} {Q : Value × List Value → Shared → Prop} (c : ClsFn K T m f) (X : K.In s.heap) (h : Q (.ref f, []) { s with toks := s.toks + 1 }) :
    wpAny (model prog w) A (getMethod (.ref T) m pl) Q E s := by
  exact PySem.W.method_cls X c.ga (PySem.W.cls_value X c.rd c.at_ rfl h)
section
variable {X : Cx} {CX : CXT} {k : Nat} {f T : Addr} {fd : FuncData} {ps : List Str} {sp : Sp} {E : XK} {x m : Str} {p pos apos : Pos} {e : Expr} {es : List Expr} {t : TA}
theorem pe_clsfn {pl : Sem Bool} (hg : Gl X x) (hm : X.mg x = some (.ref T)) (c : ClsFn X.K T m f) (F : FnOk X.prog X.w X.K X.mg X.base CX k f fd ps sp) (hr : Room k X.A) (hb : Binds X.K fd ps []) (hx : Passes CX X E) (ha : PA X (e :: es) t)
    (ht : eval (.Call (.Attribute (.Name x p) m apos) (e :: es) [] pos) X.env = (do
      let ov ← eval (.Name x p) X.env
      standAt apos.atName
      let (f, first) ← holding [ov] (getMethod ov m pl)
      callWith pos f first (backTo pos (starEach (e :: es) X.env)) (backToKw pos (keywordEach [] X.env))) := by rfl)
    (hdb : (x == ("__debug__" : Str)) = false := by decide) (hst : starEach (e :: es) X.env = (false, eval e X.env) :: starEach es X.env := by rfl) (hpl : (backTo pos (starEach es X.env)).any (·.1) = false := by rfl) :
    PE X (.Call (.Attribute (.Name x p) m apos) (e :: es) [] pos) (tCall sp [] E t) := by
  refine ⟨fun pins s σ H Q I h => ?_⟩
  refine PySem.W.methodCall_KW (pl := pl) (ld_glob I hg hm ?_ hdb) ht
  refine clsfn_get c I.kIn ?_
  have I1 := I.tok (s.toks + 1)
  refine PySem.W.callWith_K (first := []) (h₀ := X.base) I.ok.mod.kin c.kp (thn (ha.run pos pins _ σ H _ I1 h) fun us s1 ⟨vs, H1, I2, r, q⟩ => ⟨I2.kIn, ?_⟩) hst hpl
  exact run_fn F hr hb .nil hx I2 r q
end
theorem heap_two {H : Hp} {a dx : Addr} {o u u' : HO} (ne : dx ≠ a) : upd (upd (upd H dx u) a o) dx u' = upd (upd H dx u') a o := by
  funext b
  by_cases h1 : b = dx
  · subst h1
    rw [upd_same, upd_ne ne, upd_same]
  · rw [upd_ne h1]
    by_cases h2 : b = a
    · subst h2
      rw [upd_same, upd_same]
    · rw [upd_ne h2, upd_ne h2, upd_ne h1, upd_ne h1]
def spX0 (K : PySem.W.Frag) (T : Addr) (code : Str) : Sp := fun vs H Q _ => ∃ (a C : Addr), vs = [.ref a] ∧ OverT K T C ∧ H a = some (exo a C none) ∧ ∀ dx, H dx = none → dx ≠ a → Q .non (upd (upd H dx (exd dx [("code", .str code)])) a (exo a C (some dx)))
def spX1 (K : PySem.W.Frag) (T : Addr) (f code : Str) : Sp := fun vs H Q _ => ∃ (a C : Addr) (y : V), vs = [.ref a, y] ∧ OverT K T C ∧ PySem.W.findIn K (.ref C) f = some none ∧ H a = some (exo a C none) ∧ ∀ dx, H dx = none → dx ≠ a → Q .non (upd (upd H dx (exd dx [(f, y), ("code", .str code)])) a (exo a C (some dx)))
section
variable {P : Program} {w : World} {K : PySem.W.Frag} {mg : Str → Option Value} {base : Heap} {CX : CXT} {k : Nat} {T fT : Addr} {fdT : FuncData} {X : Cx}
/-- what one has of T's own __init__ -/
structure TopI (P : Program) (w : World) (K : PySem.W.Frag) (mgl : Str → Option Value) (base : Heap) (CX : CXT) (x : Str) (T : Addr) : Prop where
  ex : ∃ (fT : Addr) (fdT : FuncData), mgl x = some (.ref T) ∧ ClsFn K T "__init__" fT ∧ FnOk P w K mgl base CX 1 fT fdT ["self", "code"] (spT K T) ∧ Binds K fdT ["self", "code"] []
theorem cx_never {P : Program} {w : World} {outer : List Env} {H : Hp} {s s' : Shared} {e : Value} (h : L2.CX P w outer H s (fun _ _ _ => False) e s') : False := by
  obtain ⟨_, _, _, _, _, _, _, _, _, _, _, _, z⟩ := h
  exact z
/-- x.__init__(self, code) of the text -/
def callT (x code : Str) (j : Nat) (e : Expr) : Prop := ∃ p1 p2 p3 p4 p5, (∀ env : Env, ∃ pl : Sem Bool, eval (.Call (.Attribute (.Name x p1) "__init__" p2) [.Name "self" p3, .Constant (.str code) j p4] [] p5) env = (do
      let ov ← eval (.Name x p1) env
      standAt p2.atName
      let (f, first) ← holding [ov] (getMethod ov "__init__" pl)
      callWith p5 f first (backTo p5 (starEach [.Name "self" p3, .Constant (.str code) j p4] env)) (backToKw p5 (keywordEach [] env)))) ∧ e = .Call (.Attribute (.Name x p1) "__init__" p2) [.Name "self" p3, .Constant (.str code) j p4] [] p5
theorem pe_callT {x code : Str} {j : Nat} {e : Expr} {T : Addr} (h : callT x code j e) (G : TopI X.prog X.w X.K X.mg X.base (L2.CX X.prog X.w) x T) (hr : Room k X.A) (hk : 1 ≤ k) (hg : Gl X x) (hN : X.N[0]? = some ("self" : Str)) (hs : X.env.scope.names.lookup ("self" : Str) = some .local) (hdb : (x == ("__debug__" : Str)) = false) :
    PE X e (tCall (spT X.K T) [] (fun _ _ _ => False) (tCons (tVar 0) (tCons (tC (.str code)) tNil))) := by
  obtain ⟨p1, p2, p3, p4, p5, ht, rfl⟩ := h
  obtain ⟨fT, fdT, hm, c, F, hb⟩ := G.ex
  exact pe_clsfn hg hm c F (hr.mono hk) hb (fun pins σ H s e s' I c => (cx_never c).elim) (pa_cons (pe_var (i := 0) hN (.inl hs)) (pa_cons pe_str pa_nil)) (ht X.env).choose_spec hdb
def xBody0 (x code : Str) (b : List Stmt) : Prop := ∃ j e p, callT x code j e ∧ b = [.Expr e p]
def xBody1 (x code f prm : Str) (b : List Stmt) : Prop := ∃ j e p p7 p8 p9 p10, callT x code j e ∧ b = [.Expr e p, .Assign [.Attribute (.Name "self" p7) f p8] (.Name prm p9) p10]
theorem exc_init0 {x code : Str} {qual : Str} {params : Arguments} {body : List Stmt} {scope : Scope} {f T : Addr} {fd : FuncData} (F : FunD K "__init__" qual params body scope [] [] f fd) (S : FnScope ["self"] ["self"] scope) (hb : xBody0 x code body) (hg : scope.names.lookup x = some .globalImplicit) (hdb : (x == ("__debug__" : Str)) = false)
    (hs : scope.names.lookup ("self" : Str) = some .local) (G : TopI P w K mg base (L2.CX P w) x T) : FnOk P w K mg base (L2.CX P w) 2 f fd ["self"] (spX0 K T code) := by
  refine F.ok S (fun vs H Q E h => ?_) (fun cdv A outer s H vs Q E hr h => ?_)
  · obtain ⟨a, C, rfl, _⟩ := h
    rfl
  · obtain ⟨a, C, rfl, O, ea, go⟩ := h
    obtain ⟨j, e, p, hc, rfl⟩ := hb
    have hcall := pe_callT (X := cxOf (L2.CX P w) P w K mg base ["self"] qual scope f cdv A outer s H E) hc G hr (by decide) hg rfl hs hdb
    obtain ⟨p1, p2, p3, p4, p5, ht, rfl⟩ := hc
    refine ⟨_, pss_one (ps_expr hcall), ?_⟩
    exact ⟨.ref a, rfl, a, C, .str code, rfl, O, ea, go⟩
theorem exc_init1 {x code fl prm : Str} {qual : Str} {params : Arguments} {body : List Stmt} {scope : Scope} {f T : Addr} {fd : FuncData} (F : FunD K "__init__" qual params body scope [] [] f fd) (S : FnScope ["self", prm] ["self", prm] scope) (hb : xBody1 x code fl prm body) (hg : scope.names.lookup x = some .globalImplicit) (hdb : (x == ("__debug__" : Str)) = false)
    (hs : scope.names.lookup ("self" : Str) = some .local) (hp : scope.names.lookup prm = some .local) (hpd : (prm == ("__debug__" : Str)) = false) (hpc : (prm == ("__classdict__" : Str)) = false) (G : TopI P w K mg base (L2.CX P w) x T) : FnOk P w K mg base (L2.CX P w) 2 f fd ["self", prm] (spX1 K T fl code) := by
  refine F.ok S (fun vs H Q E h => ?_) (fun cdv A outer s H vs Q E hr h => ?_)
  · obtain ⟨a, C, y, rfl, _⟩ := h
    rfl
  · obtain ⟨a, C, y, rfl, O, hfl, ea, go⟩ := h
    obtain ⟨j, e, p, p7, p8, p9, p10, hc, rfl⟩ := hb
    have hcall := pe_callT (X := cxOf (L2.CX P w) P w K mg base ["self", prm] qual scope f cdv A outer s H E) hc G hr (by decide) hg rfl hs hdb
    obtain ⟨p1, p2, p3, p4, p5, ht, rfl⟩ := hc
    refine ⟨_, pss_cons (ps_expr hcall) (pss_one (ps_ost (pe_var (i := 0) rfl (.inl hs)) (pe_var (i := 1) rfl (.inl hp) hpd hpc))), ?_⟩
    refine ⟨.ref a, rfl, a, C, .str code, rfl, O, ea, fun dx n ne => ?_⟩
    refine ⟨y, rfl, .ref a, rfl, a, C, rfl, O.oex, hfl, .inr ⟨dx, [("code", .str code)], upd_same, (upd_ne ne).trans upd_same, by simp, ?_⟩⟩
    rw [heap_two ne]
    exact go dx n ne
end
end PX
namespace PX
open PySem PySem.Spec PyProof.Rows L2 PySem.Calls
section
variable {X : Cx}
theorem pmk_oex0 {CX : CXT} {x : Str} {p pos : Pos} {C fI : Addr} {k : Nat} {fd : FuncData} {ps : List Str} {sp : Sp} (T : OexC X.K C) (iC : PySem.W.findIn X.K (.ref C) "__init__" = some (some (.ref fI))) (tI : PySem.W.typeIn X.K (.ref fI) = some (.type "function"))
    (F1 : FnOk X.prog X.w X.K X.mg X.base CX k fI fd ps sp) (hr : Room (k + 1) X.A) (hb : Binds X.K fd ps []) (hx : Passes CX X (fun _ _ _ => False)) (hg : Gl X x) (hm : X.mg x = some (.ref C)) (hdb : (x == ("__debug__" : Str)) = false := by decide) :
    PMk X (.Call (.Name x p) [] [] pos) (tMkO C sp [] tNil) := by
  intro pins s σ H Q I h
  obtain ⟨nm, q, N, bs, bm, sn, sub, ab, col, dd, k0, k1, k2, k3, k5, hC, hbm⟩ := T.cls
  refine wpAny_Call_Name_kw (ld_glob I hg hm ?_ hdb)
  refine PySem.W.callWith_K0 I.kIn T.kC ?_
  obtain ⟨hz, q1⟩ := h
  obtain ⟨hp, g, dr, tk, os⟩ := s
  have hsz : hp.objs.size ≤ hp.objs.size + 1 := Nat.le_succ _
  have hn : H (hp.objs.size + 1) = none := I.hok.fresh hsz
  have hq := q1 (hp.objs.size + 1) hn
  have kk : ∀ b o, hp.get? b = some o → ((hp.push (PySem.W.kdv_tup [])).push (PySem.HandSPX.excO C hp.objs.size)).get? b = some o := fun b o e => Heap.get?_push_of_some _ (Heap.get?_push_of_some _ e)
  have hget : ((hp.push (PySem.W.kdv_tup [])).push (PySem.HandSPX.excO C hp.objs.size)).get? (hp.objs.size + 1) = some (PySem.HandSPX.excO C hp.objs.size) := by heap_get
  have I2 : Inv X pins σ (upd H (hp.objs.size + 1) (exo (hp.objs.size + 1) C none)) ⟨(hp.push (PySem.W.kdv_tup [])).push (PySem.HandSPX.excO C hp.objs.size), g, dr, tk, os⟩ :=
    I.laid (t' := tk) (a := hp.objs.size + 1) (o := exo (hp.objs.size + 1) C none) (h' := (hp.push (PySem.W.kdv_tup [])).push (PySem.HandSPX.excO C hp.objs.size)) kk hsz (exo_ok hget)
  have r2 : Vals [V.ref (hp.objs.size + 1)] [Value.ref (hp.objs.size + 1)] := .cons rfl .nil
  have hl : ([Value.ref (hp.objs.size + 1)] ++ []).length = ps.length := by
    exact F1.len _ _ _ _ hq
  refine wpAny_call (PySem.HandSPX.call_own F.excBase_ValueError (fun Y => PySem.HandSPX.refsVE_contains Y bm hbm) (I.kIn _ _ hC) (PySem.W.looks_findIn I.kIn iC) (fun self => PySem.W.bind_fn I.kIn self tI) (by show 0 ≤ sizeLine; omega)
    (codeAny_mono (F1.run _ X.stack _ _ ⟨[Value.ref (hp.objs.size + 1)], []⟩ ([Value.ref (hp.objs.size + 1)] ++ []) _ _ (fun _ _ _ => False) (hr.make C [] []) (I2.env0.make C [] []) (hb _ [Value.ref (hp.objs.size + 1)] I2.kIn hl) r2 hq) fun r s' hq' => ?_))
  cases r with
  | error er => exact hx pins σ _ _ er s' I2 hq'
  | ok fl =>
    cases fl with
    | ret u =>
      obtain ⟨v, H2, os2, bare2, un2, hok2, rv, ev, d, fs, ea, ed, hd1, q2⟩ := hq'
      subst ev
      obtain ⟨h2, g2, d2, t2, os'⟩ := s'
      exact ⟨rv, mk_end (raises_own T.exC T.tyC) I hsz kk un2 hok2 os2 bare2 ea ed hd1 q2⟩
    | next => exact False.elim hq'
    | brk => exact False.elim hq'
    | cont => exact False.elim hq'
end
end PX
namespace PD
open PySem PySem.Spec PyProof.Rows L2 PX
variable [LamTab]
/-- C's __init__ stores these fields: n = 0: the code alone -/
structure ExcC (P : Program) (w : World) (K : PySem.W.Frag) (mg : Str → Option Value) (base : Heap) (C : Str) (fl : Option Str) (code : Str) : Prop where
  ex : ∃ (Ca fI T : Addr) (fd : FuncData) (prm : Str), mg C = some (.ref Ca) ∧ OverT K T Ca ∧ PySem.W.findIn K (.ref Ca) "__init__" = some (some (.ref fI)) ∧ PySem.W.typeIn K (.ref fI) = some (.type "function") ∧
    (match fl with
    | none => FnOk P w K mg base (L2.CX P w) 2 fI fd ["self"] (spX0 K T code) ∧ Binds K fd ["self"] []
    | some f => PySem.W.findIn K (.ref Ca) f = some none ∧ FnOk P w K mg base (L2.CX P w) 2 fI fd ["self", prm] (spX1 K T f code) ∧ Binds K fd ["self", prm] [])
def excFs (fl : Option Str) (code : List Nat) (ds : List D) : Option (List (Str × D)) := match fl, ds with
  | none, [] => some [("code", .str code)]
  | some f, [d] => some [(f, d), ("code", .str code)]
  | _, _ => none
def msRaise (C : Str) (fl : Option Str) (code : List Nat) (a : M (List D)) : MS := fun ε h => bS (a ε h) ε fun ds h1 => match excFs fl code ds with
  | some fs => some (.ex ⟨C, fs⟩ ε, h1)
  | none => none
theorem del_upd {H : Hp} {a d : Addr} {o0 o u o' : HO} (ha : H a = none) (ne : d ≠ a) : upd (del (upd (upd (upd H a o0) d u) a o) a) d o' = upd H d o' := by
  funext b
  by_cases h1 : b = d
  · subst h1
    rw [upd_same, upd_same]
  · rw [upd_ne h1, upd_ne h1]
    by_cases h2 : b = a
    · subst h2
      rw [del_same, ha]
    · rw [del_ne h2, upd_ne h2, upd_ne h1, upd_ne h2]
section
variable {X : Cx} {W : WX}
theorem raise_end {C : Str} {Ca : Addr} {fs : List (Str × D)} {vs : List (Str × V)} {c : RC} {h : EH} {ε : Ev} {σ : L2.St} {D : Ends} {a dx : Addr} {o0 o u : HO} (sr : SR c h) (er : EnvR c ε σ) (hm : c.mg C = some (.ref Ca)) (rf : RepF c fs vs) (fin : Fin W D c (.ex ⟨C, fs⟩ ε) h) (ha : c.H a = none) (hd : c.H dx = none) (ne : dx ≠ a) :
    W (.ref Ca) (some dx) σ (upd (del (upd (upd (upd c.H a o0) dx u) a o) a) dx (.xd vs)) := by
  rw [del_upd ha ne]
  obtain ⟨l, s, f⟩ := sr.new (o := .xd vs) hd
  exact fin (c.put dx (.xd vs)) σ (.ref Ca) (some dx) l s (er.le l) ⟨Ca, dx, vs, rfl, hm, rfl, upd_same, f, rf.le l⟩
theorem raise_heap {H : Hp} {a dx : Addr} {o : HO} {C : Addr} {fs : List (Str × V)} (n : upd H a (exo a C none) dx = none) (ne : dx ≠ a) : (upd (upd (upd H a (exo a C none)) dx (exd dx fs)) a o) a = some o ∧ (upd (upd (upd H a (exo a C none)) dx (exd dx fs)) a o) dx = some (exd dx fs) ∧ H dx = none :=
  ⟨upd_same, (upd_ne ne).trans upd_same, by rw [upd_ne ne] at n; exact n⟩
theorem rs_raise0 {C code : Str} {cs : List Nat} {p pos pos' : Pos} {j : Nat} (G : ExcC X.prog X.w X.K X.mg X.base C none code) (hcs : code.cps.toList = cs) (hr : Room j X.A) (hk : 3 ≤ j) (hc : X.calm = true) (tk : Takes X W) (hg : Gl X C) (hdb : (C == ("__debug__" : Str)) = false) :
    RSt X W (.Raise (some (.Call (.Name C p) [] [] pos)) none pos') (msRaise C none cs mNil) := by
  obtain ⟨Ca, fI, T, fd, prm, hm, O, iC, tI, hF⟩ := G.ex
  subst hcs
  obtain ⟨F1, hb⟩ := hF
  refine ps_imp (ps_raise hc tk (pmk_oex0 O.oex iC tI F1 (hr.mono hk) hb (fun pins σ H s e s' I c => (cx_never c).elim) hg hm hdb)) fun D σ H h => ?_
  obtain ⟨c, ε, h, r, h', hK, hmg, rfl, sr, er, e, fin⟩ := h
  cases e
  refine ⟨by simp, fun a ha => ?_⟩
  refine ⟨a, Ca, rfl, by rw [← hK] at O; rw [← hK]; exact O, upd_same, fun dx n ne => ?_⟩
  obtain ⟨k1, k2, k3⟩ := raise_heap (o := exo a Ca (some dx)) (fs := [("code", .str code)]) n ne
  exact ⟨rfl, dx, _, k1, k2, k3, raise_end sr er (by rw [hmg.mge]; exact hm) (.cons (by simpa using Rep.str code.cps.toList) .nil) fin ha k3 ne⟩
theorem rs_raise1 {C code f : Str} {cs : List Nat} {e : Expr} {ma : M (List D)} {p pos pos' : Pos} {j : Nat} (G : ExcC X.prog X.w X.K X.mg X.base C (some f) code) (hcs : code.cps.toList = cs) (hr : Room j X.A) (hk : 3 ≤ j) (hc : X.calm = true) (tk : Takes X W) (ha : RA X W [e] ma) (hg : Gl X C) (hdb : (C == ("__debug__" : Str)) = false)
    (he : starEach [e] X.env = (false, eval e X.env) :: starEach [] X.env := by rfl) (hpl : (backTo pos (starEach [] X.env)).any (·.1) = false := by rfl) :
    RSt X W (.Raise (some (.Call (.Name C p) [e] [] pos)) none pos') (msRaise C (some f) cs ma) := by
  obtain ⟨Ca, fI, T, fd, prm, hm, O, iC, tI, hF⟩ := G.ex
  subst hcs
  obtain ⟨hno, F1, hb⟩ := hF
  refine ps_imp (ps_raise hc tk (pmk_oex (ds := []) (dvs := []) O.oex iC tI F1 (hr.mono hk) hb .nil (fun pins σ H s e s' I c => (cx_never c).elim) hg hm ha hdb he hpl)) fun D σ H h => ?_
  obtain ⟨c, ε, h, r, h', hK, hmg, rfl, sr, er, e, fin⟩ := h
  unfold tMkO
  refine tX.stm hK hmg sr er e fin fun ds h1 c1 vs e1 l1 s1 r1 => ?_
  match ds, vs, r1, e1 with
  | [d], [v], .cons rd .nil, e1 =>
    cases e1
    refine ⟨by simp, fun a ha => ?_⟩
    refine ⟨a, Ca, v, rfl, O, hno, upd_same, fun dx n ne => ?_⟩
    obtain ⟨k1, k2, k3⟩ := raise_heap (o := exo a Ca (some dx)) (fs := [(f, v), ("code", .str code)]) n ne
    exact ⟨rfl, dx, _, k1, k2, k3, raise_end s1 (er.le l1) (by rw [l1.mg.e', hmg.mge]; exact hm) (.cons rd (.cons (by simpa using Rep.str code.cps.toList) .nil)) (fin.le l1) ha k3 ne⟩
  | [], _, _, e1 => cases e1
  | _ :: _ :: _, _, _, e1 => cases e1
end
end PD
namespace PX
open PySem PySem.Spec PyProof.Rows L2 PySem.Calls
end PX
namespace PX
open PySem PySem.Spec PyProof.Rows L2 PySem.Calls PD
variable [LamTab]
def hide (z : Addr → Option Obj) (H : Hp) : Hp := fun b => if (z b).isSome then none else H b
theorem hide_out {z : Addr → Option Obj} {H : Hp} {b : Addr} (h : z b = none) : hide z H b = H b := by
  unfold hide
  rw [h]
  rfl
theorem cel_ne {b : Addr} {o : Obj} : (∀ xs, celHO b o ≠ .tup xs) ∧ (∀ x u, celHO b o ≠ .frz x u) ∧ (∀ ps, celHO b o ≠ .tbl ps) ∧ ∀ x, celHO b o ≠ .own x :=
  ⟨fun _ z => (by unfold celHO at z; cases z), fun _ _ z => (by unfold celHO at z; cases z), celHO_tbl, fun _ z => (by unfold celHO at z; cases z)⟩
/-- z's objects are tracked in H -/
def InH (z : Addr → Option Obj) (H : Hp) : Prop := ∀ b o, z b = some o → H b = some (celHO b o)
end PX
namespace PD
open PySem PySem.Spec PyProof.Rows L2 PX
variable [LamTab]
def noFn : D → Bool
  | .fn _ _ => false
  | .tup ds => go ds
  | .lst ds => go ds
  | .scr ds => go ds
  | .obj _ fs => gf fs
  | .exc _ fs => gf fs
  | .dic _ kvs => gp kvs
  | _ => true
where
  go : List D → Bool
  | [] => true
  | d :: ds => noFn d && go ds
  gf : List (Str × D) → Bool
  | [] => true
  | (_, d) :: ds => noFn d && gf ds
  gp : List (List Key × D) → Bool
  | [] => true
  | (_, d) :: ds => noFn d && gp ds
def noFnC : Cell → Bool
  | .lst ds => noFn.go ds
  | .dic _ kvs => noFn.gp kvs
  | .obj _ fs => noFn.gf fs
abbrev RC.hide (c : RC) (z : Addr → Option Obj) : RC := { c with H := PX.hide z c.H }
/-- z's objects are captured cells, in c -/
structure Zs (c : RC) (z : Addr → Option Obj) : Prop where
  inH : InH z c.H
  fr : ∀ b o, z b = some o → c.fr b
  exc : ∀ a Ca dx, c.H a = some (excHO a Ca dx) → z a = none
  code : ∀ a q, c.H a = some (LamX.CodeO a q) → z a = none
theorem Zs.out {c : RC} {z : Addr → Option Obj} (h : Zs c z) {a : Addr} {u : HO} (e : c.H a = some u) (n : ∀ b o, u ≠ celHO b o) : PX.hide z c.H a = some u := by
  cases y : z a with
  | none => rw [hide_out y]; exact e
  | some o => rw [h.inH a o y] at e; exact (n a o (Option.some.inj e).symm).elim
theorem Zs.rd {c : RC} {z : Addr → Option Obj} (h : Zs c z) {a : Addr} {xs : List V} (e : Rd c.H a (.tup xs)) : Rd (PX.hide z c.H) a (.tup xs) := by
  rcases e with e | ⟨o, e⟩
  · exact .inl (h.out e fun b o q => cel_ne.1 _ q.symm)
  · exact .inr ⟨o, h.out e fun b o q => cel_ne.2.1 _ _ q.symm⟩
mutual
theorem Rep.hide {c : RC} {z : Addr → Option Obj} (hz : Zs c z) : ∀ {d : D} {v : V}, Rep c d v → noFn d = true → Rep (c.hide z) d v
  | _, _, .non, _ => .non
  | _, _, .bl b, _ => .bl b
  | _, _, .int i, _ => .int i
  | _, _, .str cs, _ => .str cs
  | .tup ds, _, .tup h r, e => .tup (h.imp hz.rd id) (Reps.hide hz r (by rw [noFn] at e; exact e))
  | .lst ds, _, .lst h f r, e => .lst (hz.out h fun b o q => by unfold celHO at q; cases q) f (Reps.hide hz r (by rw [noFn] at e; exact e))
  | .scr ds, _, .scr h r, e => .scr (h.imp (fun ⟨o, h⟩ => ⟨o, hz.out h fun b o q => cel_ne.2.1 _ _ q.symm⟩) id) (Reps.hide hz r (by rw [noFn] at e; exact e))
  | .obj C fs, _, .obj m h f r, e => .obj m (hz.out h fun b o q => by unfold celHO at q; cases q) f (RepF.hide hz r (by rw [noFn] at e; exact e))
  | .dic t kvs, _, .dic h i f r, e => .dic (hz.out h fun b o q => by
      subst q
      rcases i with ⟨_, _, q, _⟩ | ⟨_, q⟩ <;> (unfold celHO at q; cases q)) i f (RepP.hide hz r (by rw [noFn] at e; exact e))
  | .fn i ds, _, .fn _ _ _ _ _ _, e => by cases e
  | .exc C fs, _, .exc m h f h2 f2 r, e => .exc m ((hide_out (hz.exc _ _ _ h)).trans h) f (hz.out h2 fun b o q => by unfold celHO at q; cases q) f2 (RepF.hide hz r (by rw [noFn] at e; exact e))
  | _, _, .ref h, _ => .ref h
theorem Reps.hide {c : RC} {z : Addr → Option Obj} (hz : Zs c z) : ∀ {ds : List D} {vs : List V}, Reps c ds vs → noFn.go ds = true → Reps (c.hide z) ds vs
  | _, _, .nil, _ => .nil
  | _, _, .cons h t, e => by
    rw [noFn.go, Bool.and_eq_true] at e
    exact .cons (Rep.hide hz h e.1) (Reps.hide hz t e.2)
theorem RepP.hide {c : RC} {z : Addr → Option Obj} (hz : Zs c z) : ∀ {ds : List (List Key × D)} {vs : List (List Key × V)}, RepP c ds vs → noFn.gp ds = true → RepP (c.hide z) ds vs
  | _, _, .nil, _ => .nil
  | _, _, .cons h t, e => by
    rw [noFn.gp, Bool.and_eq_true] at e
    exact .cons (Rep.hide hz h e.1) (RepP.hide hz t e.2)
theorem RepF.hide {c : RC} {z : Addr → Option Obj} (hz : Zs c z) : ∀ {ds : List (Str × D)} {vs : List (Str × V)}, RepF c ds vs → noFn.gf ds = true → RepF (c.hide z) ds vs
  | _, _, .nil, _ => .nil
  | _, _, .cons h t, e => by
    rw [noFn.gf, Bool.and_eq_true] at e
    exact .cons (Rep.hide hz h e.1) (RepF.hide hz t e.2)
end
theorem Zs.tabs {c : RC} {z : Addr → Option Obj} (hz : Zs c z) (t : c.tabs) : (c.hide z).tabs := fun p hp => codeO_ext (t p hp) (by
  obtain ⟨ps, k1, _⟩ := t p hp
  exact (hz.out k1 fun b o q => cel_ne.2.2.1 _ q.symm).trans k1.symm) fun a e => (hide_out (hz.code a _ e)).trans e
theorem MgE.hide {c : RC} {z : Addr → Option Obj} {mg : Str → Option Value} (hz : Zs c z) (m : MgE c mg) : MgE (c.hide z) mg := ⟨m.e, fun t => hz.tabs (m.t t)⟩
theorem SR.hide {c : RC} {h : EH} {z : Addr → Option Obj} (hz : Zs c z) (s : SR c h) (hc : h.all noFnC = true) : SR (c.hide z) h := by
  refine ⟨s.len, s.nd, fun n a k e1 e2 => ?_, s.nb, fun a b => ?_⟩
  · have r := s.cells n a k e1 e2
    have hk : noFnC k = true := List.all_eq_true.mp hc k (List.mem_of_getElem? e2)
    have y : z a = none := by
      cases y : z a with
      | none => rfl
      | some o => exact ((hz.fr a o y).2 (List.mem_of_getElem? e1)).elim
    cases k with
    | lst ds => obtain ⟨xs, h1, h2⟩ := r; exact ⟨xs, (hide_out y).trans h1, h2.hide hz hk⟩
    | dic t kvs => obtain ⟨o, zs, h1, h3, h2⟩ := r; exact ⟨o, zs, (hide_out y).trans h1, h3, h2.hide hz hk⟩
    | obj C fs => obtain ⟨Ca, dx, vs, h0, h1, h2⟩ := r; exact ⟨Ca, dx, vs, h0, (hide_out y).trans h1, h2.hide hz hk⟩
  · obtain ⟨o, e⟩ := s.bt a b
    have y : z a = none := by
      cases y : z a with
      | none => rfl
      | some o => exact ((hz.fr a o y).1 b).elim
    exact ⟨o, (hide_out y).trans e⟩
/-- what is asked of its text -/
structure LamOk (l : LamD) : Prop where
  kind : l.scope.kind = .function
  co : l.scope.isCoroutine = false
  gen : l.scope.isGenerator = false
  cell : ∀ y ∈ l.scope.names, y.2 ≠ .cell
  free : ∀ y ∈ l.scope.names, y.2 = .free → y.1 ∈ l.caps
  caps : ∀ y ∈ l.caps, l.scope.names.lookup y = some .free
  bind : l.df = false → ∀ (cl : List (Str × Addr)) (doc pm cv ctv : Value), bindArgs (PySem.W.kdv_fn "<lambda>" l.qual l.params (.expr l.body) l.scope cl .none doc pm cv ctv) ⟨[], []⟩ = pure []
  bindD : l.df = true → ∃ pn, l.scope.names.lookup pn = some .local ∧ ∀ (cl : List (Str × Addr)) (dV doc pm cv ctv : Value), ∃ k : Option (Array Value) → Sem (List (Str × Value)),
    bindArgs (PySem.W.kdv_fn "<lambda>" l.qual l.params (.expr l.body) l.scope cl dV doc pm cv ctv) ⟨[], []⟩ = (seqItems? dV >>= k) ∧ ∀ t : Tok, k (some #[.int 0 t]) = pure [(pn, .int 0 t)]
def lamCx (P : Program) (w : World) (K : PySem.W.Frag) (mg : Str → Option Value) (base : Heap) (l : LamD) (cl : List (Str × Addr)) (f c' : Addr) (A : Around) (outer : List Env) (s : Shared) (H : Hp) (E : XK) : Cx where
  prog := P
  w := w
  K := K
  mg := mg
  base := base
  A := A.deeper (PySem.W.envX l.qual l.scope s.heap.objs.size f (.ref c') cl)
  N := l.caps
  s_0 := s
  H_0 := H
  env := PySem.W.envX l.qual l.scope s.heap.objs.size f (.ref c') cl
  outer := outer
  stack := PySem.W.envX l.qual l.scope s.heap.objs.size f (.ref c') cl :: outer
  ex := []
  fn := fun _ => false
  calm := true
  pn := []
  xe := fun e s' => wpAny (model P w) (A.deeper (PySem.W.envX l.qual l.scope s.heap.objs.size f (.ref c') cl)) (leaving (PySem.W.envX l.qual l.scope s.heap.objs.size f (.ref c') cl) e) (fun _ s'' => L2.CX P w outer H s E e s'') (fun e' s'' => L2.CX P w outer H s E e' s'') s'
/-- what a lambda gives: its body over no cells -/
def endL (x : O D) : Option (R D) := match x with
  | some (.ok d, h) => (frz h d).map .ok
  | some (.ex e, _) => if noRef.gf e.fs = true then some (.ex e) else none
  | none => none
def runL (m : M D) : PF := fun ds => endL (m (ds.map some) [])
/-- the lambda i is right: called it gives LF i -/
structure LamS (P : Program) (w : World) (K : PySem.W.Frag) (mg : Str → Option Value) (base : Heap) (k i : Nat) (F : PF) : Prop where
  ok : LamOk (LamTab.lam i)
  run : ∃ m, F = runL m ∧ ∀ (cl : List (Str × Addr)) (f c' : Addr) (A : Around) (outer : List Env) (s : Shared) (H : Hp) (E : XK), Room k (A.deeper (PySem.W.envX (LamTab.lam i).qual (LamTab.lam i).scope s.heap.objs.size f (.ref c') cl)) →
    RE (lamCx P w K mg base (LamTab.lam i) cl f c' A outer s H E) (fun cls d _ H' => E cls d H') (LamTab.lam i).body m
end PD
namespace PD
open PySem PySem.Spec PyProof.Rows L2 PX
end PD
namespace PD
open PySem PySem.Spec PyProof.Rows L2 PX LamX
variable [LamTab]
/-- the lambda i of this frame stands at f -/
def LamAt (X : Cx) (H : Hp) (i : Nat) (f : Addr) : Prop := ∃ (dV : Value) (c' : Addr), H f = some (lamHO (LamTab.lam i) (cloFrom X.env.cells (LamTab.lam i).scope.names []) dV c' f) ∧ H c' = some (CodeO c' (LamTab.lam i).qual) ∧
  (((LamTab.lam i).df = false ∧ dV = .none) ∨ ((LamTab.lam i).df = true ∧ ∃ (dt : Addr) (t : Tok), dV = .ref dt ∧ H dt = some (celHO dt (PySem.W.kdv_tup [.int 0 t]))))
theorem LamAt.ext {X : Cx} {H H' : Hp} {i : Nat} {f : Addr} (e : ExtN H H') (h : LamAt X H i f) : LamAt X H' i f := by
  obtain ⟨dV, c', h1, h2, h3⟩ := h
  refine ⟨dV, c', e _ _ h1 lamHO_tbl, e _ _ h2 codeO_ne, ?_⟩
  rcases h3 with h3 | ⟨q, dt, t, e1, e2⟩
  · exact .inl h3
  · exact .inr ⟨q, dt, t, e1, e _ _ e2 celHO_tbl⟩
/-- its text, its def's tables -/
structure LamW (X : Cx) (i : Nat) (c P : Addr) : Prop where
  TB : TabB X.base X.mg c P
  code : X.env.code = .ref c
  qual : X.env.qual ++ "<lambda>" = (LamTab.lam i).qual
  mem : (P, (LamTab.lam i).qual) ∈ LamTab.T
  uniq : ∀ p ∈ LamTab.T, p.1 = P → p.2 = (LamTab.lam i).qual
  free : ∀ y ∈ (LamTab.lam i).scope.names, y.2 = .free → ∃ c, X.env.cells.lookup y.1 = some c
  ck : ClOk (LamTab.lam i).caps (cloFrom X.env.cells (LamTab.lam i).scope.names [])
  df : ((LamTab.lam i).df = false ∧ (LamTab.lam i).params.defaults = [] ∧ (LamTab.lam i).params.kw_defaults = []) ∨ ((LamTab.lam i).df = true ∧ (∃ k p, (LamTab.lam i).params.defaults = [.Constant (.int 0) k p]) ∧ (LamTab.lam i).params.kw_defaults = [])
/-- what the making of it leaves -/
structure Made (H H1 : Hp) : Prop where
  ext : ExtN H H1
  tabs : Tabs LamTab.T H → Tabs LamTab.T H1
  dom : ∀ b o, H b = some o → ∃ o', H1 b = some o'
theorem Made.refl (H : Hp) : Made H H := ⟨ExtN.refl H, fun h => h, fun b o e => ⟨o, e⟩⟩
theorem Made.trans {H H1 H2 : Hp} (a : Made H H1) (b : Made H1 H2) : Made H H2 := ⟨a.ext.trans b.ext, fun h => b.tabs (a.tabs h), fun p o e => let ⟨o', q⟩ := a.dom p o e; b.dom p o' q⟩
theorem Made.of {H H1 : Hp} (e : ∀ b o, H b = some o → H1 b = some o) : Made H H1 := ⟨ExtN.of e, fun t => t.ext e, fun b o q => ⟨o, e b o q⟩⟩
end PD
namespace PD
open PySem PySem.Spec PyProof.Rows L2 PX LamX
variable [LamTab]
/-- data without lambdas, without exceptions -/
def plain : D → Bool
  | .fn _ _ => false
  | .exc _ _ => false
  | .tup ds => go ds
  | .lst ds => go ds
  | .scr ds => go ds
  | .obj _ fs => gf fs
  | .dic _ kvs => gp kvs
  | _ => true
where
  go : List D → Bool
  | [] => true
  | d :: ds => plain d && go ds
  gf : List (Str × D) → Bool
  | [] => true
  | (_, d) :: ds => plain d && gf ds
  gp : List (List Key × D) → Bool
  | [] => true
  | (_, d) :: ds => plain d && gp ds
end PD
namespace PD
open PySem PySem.Spec PyProof.Rows L2 PX LamX
variable [LamTab]
def capsE (ε : Ev) : List Nat → Option (List D)
  | [] => some []
  | k :: ks => match ε.getD k none, capsE ε ks with
    | some d, some ds => some (d :: ds)
    | _, _ => none
/-- the names that the lambda i captures: X's variables at ks -/
structure CapN (X : Cx) (i : Nat) (ks : List Nat) : Prop where
  names : ks.map (fun k => X.N[k]?) = (LamTab.lam i).caps.map some
  kind : ∀ y ∈ (LamTab.lam i).caps, X.env.scope.names.lookup y = some .cell ∨ X.env.scope.names.lookup y = some .free
  free : ∀ y ∈ (LamTab.lam i).caps, (LamTab.lam i).scope.names.lookup y = some .free
def OneR (X : Cx) (H : Hp) (ε : Ev) (p : Nat × List Nat) (d : D) (v : V) : Prop := ∃ ds f, d = .fn p.1 ds ∧ capsE ε p.2 = some ds ∧ v = .ref f ∧ LamAt X H p.1 f ∧ CapN X p.1 p.2
inductive OnesR (X : Cx) (H : Hp) (ε : Ev) : List (Nat × List Nat) → List D → List V → Prop
  | nil : OnesR X H ε [] [] []
  | cons {p : Nat × List Nat} {ps : List (Nat × List Nat)} {d : D} {ds : List D} {v : V} {vs : List V} : OneR X H ε p d v → OnesR X H ε ps ds vs → OnesR X H ε (p :: ps) (d :: ds) (v :: vs)
theorem OneR.ext {X : Cx} {H H1 : Hp} {ε : Ev} {p : Nat × List Nat} {d : D} {v : V} (e : ExtN H H1) (h : OneR X H ε p d v) : OneR X H1 ε p d v := by
  obtain ⟨ds, f, h1, h2, h3, h4, h5⟩ := h
  exact ⟨ds, f, h1, h2, h3, h4.ext e, h5⟩
theorem OnesR.ext {X : Cx} {H H1 : Hp} {ε : Ev} (e : ExtN H H1) : ∀ {ps : List (Nat × List Nat)} {ds : List D} {vs : List V}, OnesR X H ε ps ds vs → OnesR X H1 ε ps ds vs
  | _, _, _, .nil => .nil
  | _, _, _, .cons h t => .cons (h.ext e) (t.ext e)
end PD
namespace PD
open PySem PySem.Spec PyProof.Rows L2 PX LamX
variable [LamTab]
inductive LamsX (X : Cx) : List Expr → List (Nat × List Nat) → Prop
  | nil : LamsX X [] []
  | cons {i : Nat} {ks : List Nat} {c P : Addr} {pos : Pos} {es : List Expr} {ps : List (Nat × List Nat)} : LamW X i c P → CapN X i ks → LamsX X es ps → LamsX X (.Lambda (LamTab.lam i).params (LamTab.lam i).body (LamTab.lam i).scope pos :: es) ((i, ks) :: ps)
inductive LamAts (X : Cx) (H : Hp) : List (Nat × List Nat) → List V → Prop
  | nil : LamAts X H [] []
  | cons {p : Nat × List Nat} {ps : List (Nat × List Nat)} {f : Addr} {vs : List V} : LamAt X H p.1 f → LamAts X H ps vs → LamAts X H (p :: ps) (.ref f :: vs)
theorem LamAts.ext {X : Cx} {H H1 : Hp} (e : ExtN H H1) : ∀ {ps : List (Nat × List Nat)} {vs : List V}, LamAts X H ps vs → LamAts X H1 ps vs
  | _, _, .nil => .nil
  | _, _, .cons h t => .cons (h.ext e) (t.ext e)
theorem LamsX.names {X : Cx} : ∀ {es : List Expr} {ps : List (Nat × List Nat)}, LamsX X es ps → ∀ p ∈ ps, CapN X p.1 p.2
  | _, _, .nil, _, h => by cases h
  | _, _, .cons W N t, p, h => by
    rcases List.mem_cons.mp h with h | h
    · rw [h]; exact N
    · exact t.names p h
theorem LamAts.length {X : Cx} {H : Hp} : ∀ {ps : List (Nat × List Nat)} {vs : List V}, LamAts X H ps vs → vs.length = ps.length
  | _, _, .nil => rfl
  | _, _, .cons _ t => by rw [List.length_cons, List.length_cons, t.length]
end PD
namespace PD
open PySem PySem.Spec PyProof.Rows L2 PX LamX
variable [LamTab]
abbrev LA := RC → L2.St → Prop
/-- x (at ix) holds the list of the lambdas -/
def LAt (X : Cx) (ix : Nat) (ps : List (Nat × List Nat)) : LA := fun c σ => ∃ (a : Addr) (vs : List V), σ[ix]? = some (some (.ref a)) ∧ c.H a = some (.lst vs) ∧ c.fr a ∧ LamAts X c.H ps vs
def tXc (Φ : LA) {α β : Type} (Rl : RC → α → β → Prop) (K : PySem.W.Frag) (mg : Str → Option Value) (W : WX) (m : M α) : L2.St → Hp → (β → Hp → Prop) → Prop := fun σ H Q =>
  ∃ (c : RC) (ε : Ev) (h : EH) (r : R α) (h' : EH), c.K = K ∧ MgE c mg ∧ c.H = H ∧ SR c h ∧ EnvR c ε σ ∧ m ε h = some (r, h') ∧ Px W c σ r h' ∧
    (∀ a, r = .ok a → ∀ c' b, c.Le c' → SR c' h' → Rl c' a b → Q b c'.H) ∧ Φ c σ
theorem tXc.bind {Φ : LA} {α β γ : Type} {Rl : RC → α → β → Prop} {K : PySem.W.Frag} {mg : Str → Option Value} {W : WX} {m : M α} {k : α → EH → O γ} {c : RC} {ε : Ev} {h h' : EH} {r : R γ} {σ : L2.St} {Q : β → Hp → Prop}
    (hK : c.K = K) (hm : MgE c mg) (sr : SR c h) (er : EnvR c ε σ) (e : bR (m ε h) k = some (r, h')) (px : Px W c σ r h') (la : Φ c σ)
    (go : ∀ a h1 c1 b, k a h1 = some (r, h') → c.Le c1 → SR c1 h1 → Rl c1 a b → Q b c1.H) : tXc Φ Rl K mg W m σ c.H Q := by
  cases q : m ε h with
  | none => rw [q] at e; cases e
  | some z =>
    obtain ⟨r1, h1⟩ := z
    cases r1 with
    | ok a =>
      rw [q] at e
      exact ⟨c, ε, h, .ok a, h1, hK, hm, rfl, sr, er, q, Px.ok, fun a' ea c1 b l s rb => by cases ea; exact go a h1 c1 b e l s rb, la⟩
    | ex x =>
      rw [q] at e
      cases e
      exact ⟨c, ε, h, .ex x, _, hK, hm, rfl, sr, er, q, fun y ey => px y (by cases ey; rfl), fun a' ea => (nomatch ea), la⟩
end PD
namespace PD
open PySem PySem.Spec PyProof.Rows L2 PX
end PD
namespace PD
open PySem PySem.Spec PyProof.Rows L2 PX
theorem oexB_ok {K : PySem.W.Frag} {C : Addr} (h : oexB K C = true) : OexC K C := by
  unfold oexB at h
  obtain ⟨h1, h⟩ := Bool.and_eq_true_iff.mp h
  obtain ⟨h2, h⟩ := Bool.and_eq_true_iff.mp h
  obtain ⟨h3, h⟩ := Bool.and_eq_true_iff.mp h
  obtain ⟨h4, h5⟩ := Bool.and_eq_true_iff.mp h
  refine ⟨?_, of_decide_eq_true h2, of_decide_eq_true h3, of_decide_eq_true h4, h5⟩
  cases q : K.lookup C with
  | none => rw [q] at h1; cases h1
  | some o =>
    obtain ⟨oc, od, dt, sl⟩ := o
    rw [q] at h1
    cases oc with
    | type t =>
      cases dt with
      | cls cd =>
        obtain ⟨g1, g⟩ := Bool.and_eq_true_iff.mp h1
        have g1 := of_decide_eq_true g1
        subst g1
        obtain ⟨nm, bs, mro, ns, qn, hdct, sn, sub, ab, col, hdel⟩ := cd
        obtain ⟨sl⟩ := sl
        match mro, sl, g with
        | .ref C' :: bm, [k0, k1, k2, k3, some (.builtin n), k5], g =>
          obtain ⟨a1, a⟩ := Bool.and_eq_true_iff.mp g
          obtain ⟨a2, a⟩ := Bool.and_eq_true_iff.mp a
          obtain ⟨a3, a⟩ := Bool.and_eq_true_iff.mp a
          obtain ⟨a4, a5⟩ := Bool.and_eq_true_iff.mp a
          have a1 := of_decide_eq_true a1
          have a2 := of_decide_eq_true a2
          have a3 : (!hdel) = true := a3
          have a4 : hdct = true := a4
          subst a1 a2 a4
          have a3 : hdel = false := by simpa using a3
          subst a3
          exact ⟨nm, qn, ns, bs, bm, sn, sub, ab, col, od, k0, k1, k2, k3, k5, rfl, a5⟩
      | _ => cases h1
    | _ => cases h1
theorem overB_ok {K : PySem.W.Frag} {T C : Addr} (h : overB K T C = true) : OverT K T C := by
  unfold overB at h
  obtain ⟨h1, h⟩ := Bool.and_eq_true_iff.mp h
  obtain ⟨h2, h⟩ := Bool.and_eq_true_iff.mp h
  obtain ⟨h3, h⟩ := Bool.and_eq_true_iff.mp h
  obtain ⟨h4, h5⟩ := Bool.and_eq_true_iff.mp h
  exact ⟨oexB_ok h1, of_decide_eq_true h2, of_decide_eq_true h3, of_decide_eq_true h4, of_decide_eq_true h5⟩
theorem clsfnB_ok {K : PySem.W.Frag} {T : Addr} (h : clsvB K T = true) : ClsFn K T "__init__" (He.ma K T "__init__") := by
  unfold clsvB at h
  obtain ⟨h1, h⟩ := Bool.and_eq_true_iff.mp h
  obtain ⟨h2, h⟩ := Bool.and_eq_true_iff.mp h
  obtain ⟨h3, h⟩ := Bool.and_eq_true_iff.mp h
  obtain ⟨h4, h5⟩ := Bool.and_eq_true_iff.mp h
  refine ⟨h1, of_decide_eq_true h2, ?_, of_decide_eq_true h4, h5⟩
  split at h3
  · rename_i f e
    rw [e, of_decide_eq_true h3]
  · cases h3
/-- the text of an __init__ that says super() -/
structure SupT (P : Program) (d : SupD) : Prop where
  body : supBody d.body
  self : ∃ ar, (d.params.posonlyargs ++ d.params.args).head? = some ar ∧ ar.arg = "self"
  cell : ∀ x ∈ d.scope.names, x.2 ≠ .cell
  free : ∀ x ∈ d.scope.names, x.2 = .free → x.1 = "__class__"
  l1 : d.scope.names.lookup ("super" : Str) = some .globalImplicit
  l2 : d.scope.names.lookup ("__class__" : Str) = some .free
  l3 : d.scope.names.lookup ("self" : Str) = some .local
  l4 : d.scope.names.lookup ("code" : Str) = some .local
  kind : d.scope.kind = .function
  co : d.scope.isCoroutine = false
  gen : d.scope.isGenerator = false
  top : (P.main.scope.names.lookup ("super" : Str)).isSome = false
  bind : ∀ (doc pm : Value) (an : Option Addr) (cdv ct : Value) (cc : Addr) (us : List Value), us.length = 2 → bindArgs (PySem.W.ksFn "__init__" d.qual d.params d.body d.scope .none .none doc pm an cdv ct cc) ⟨us, []⟩ = pure ((["self", "code"] : List Str).zip us)
theorem sup_of {P : Program} {K : PySem.W.Frag} {d : SupD} (h : supB K P.main.file d = true) (e : fnC K (d.at_ K) = d.val) (T : SupT P d) : ∃ fd, SupI P K (He.ga K d.C) (d.at_ K) fd ∧ Binds K fd ["self", "code"] [] := by
  unfold supB at h
  obtain ⟨h1, h⟩ := Bool.and_eq_true_iff.mp h
  obtain ⟨h2, h⟩ := Bool.and_eq_true_iff.mp h
  obtain ⟨h3, h4⟩ := Bool.and_eq_true_iff.mp h
  unfold fnC at e
  cases q : K.lookup (d.at_ K) with
  | none => rw [q] at h1; cases h1
  | some o =>
    obtain ⟨oc, od, dt, osl⟩ := o
    rw [q] at h1 e
    cases dt with
    | func fd =>
      obtain ⟨n1, n2, n3, n4, n5, n6, n7, n8, n9, n10, n11, n12, n13, n14, n15⟩ := fd
      have e2 : ((some (n1, n2, n3, n4, n5, n6, n7.map (·.1), n15) : FnC) = (some (("__init__" : Str), d.qual, d.params, .stmts d.body, d.scope, mainGlobals, [("__class__" : Str)], builtinsNs) : FnC)) := e
      simp only [Option.some.injEq, Prod.mk.injEq] at e2
      obtain ⟨e2a, e2b, e2c, e2d, e2e, e2f, e2g, e2h⟩ := e2
      subst e2a e2b e2c e2d e2e e2f e2h
      obtain ⟨g1, g⟩ := Bool.and_eq_true_iff.mp h1
      obtain ⟨g2, g3⟩ := Bool.and_eq_true_iff.mp g
      match n7, e2g, g2 with
      | [(y, cc)], e2g, g2 =>
        have ey : y = "__class__" := by simpa using e2g
        subst ey
        have g2 : (match K.lookup cc with
          | some ⟨_, _, .cell (some (.ref T)), _⟩ => decide (T = He.ga K d.C)
          | _ => false) = true := g2
        obtain ⟨oc3, od3, sl3, hcc⟩ : ∃ oc3 od3 sl3, K.lookup cc = some ⟨oc3, od3, .cell (some (.ref (He.ga K d.C))), sl3⟩ := by
          cases qc : K.lookup cc with
          | none => rw [qc] at g2; cases g2
          | some o =>
            obtain ⟨a1, a2, a3, a4⟩ := o
            rw [qc] at g2
            cases a3 with
            | cell v =>
              cases v with
              | none => cases g2
              | some v =>
                cases v with
                | ref T' =>
                  have g2 : decide (T' = He.ga K d.C) = true := g2
                  rw [of_decide_eq_true g2]
                  exact ⟨_, _, _, rfl⟩
                | _ => cases g2
            | _ => cases g2
        have hnn : n8 = .none ∧ n9 = .none := by
          clear e h1 g g1 g2 q
          cases n8 <;> first | (cases n9 <;> first | exact ⟨rfl, rfl⟩ | cases g3) | cases g3
        obtain ⟨rfl, rfl⟩ := hnn
        cases n13 with
        | ref cda =>
          have g1 : (PySem.W.codeIn K (.ref cda) d.qual && (match K.lookup cda with
            | some ⟨_, _, .fields vs, _⟩ => (match (vs[2]? : Option Value) with
              | some (.str file _) => P.main.file == file
              | _ => false)
            | _ => false)) = true := g1
          obtain ⟨b1, b2⟩ := Bool.and_eq_true_iff.mp g1
          obtain ⟨ar, ha1, ha2⟩ := T.self
          obtain ⟨oc2, od2, vs2, sl2, file, tf, hcda, hvs, hfile⟩ : ∃ oc2 od2 vs2 sl2 file tf, K.lookup cda = some ⟨oc2, od2, .fields vs2, sl2⟩ ∧ (vs2[2]? : Option Value) = some (.str file tf) ∧ ((P.main.file : Str) == file) = true := by
            cases qc : K.lookup cda with
            | none => rw [qc] at b2; cases b2
            | some o =>
              obtain ⟨a1, a2, a3, a4⟩ := o
              rw [qc] at b2
              cases a3 with
              | fields vs =>
                have b2 : (match (vs[2]? : Option Value) with
                  | some (.str file _) => P.main.file == file
                  | _ => false) = true := b2
                split at b2
                · rename_i file tf e
                  exact ⟨_, _, vs, _, file, tf, rfl, e, b2⟩
                · cases b2
              | _ => cases b2
          obtain ⟨cd, hcd⟩ := Option.isSome_iff_exists.mp h2
          exact ⟨_, ⟨⟨d.qual, d.params, ar, d.body, d.scope, oc, od, .none, .none, n10, n11, n12, cda, cc, n14, osl, rfl, T.body, q, b1, ha1, ha2, ⟨oc2, od2, vs2, sl2, file, tf, hcda, hvs, hfile⟩, ⟨oc3, od3, sl3, hcc⟩, T.cell, T.free, T.l1, T.l2, T.l3, T.l4, T.kind, T.co, T.gen⟩, ⟨cd, hcd⟩, of_decide_eq_true h3, T.top, of_decide_eq_true h4⟩, Binds.all fun us hl => T.bind n10 n11 n12 (.ref cda) n14 cc us hl⟩
        | _ => cases g1
    | _ => cases h1
section
variable {P : Program} {w : World} {K : PySem.W.Frag} {mg : Str → Option Value} {base : Heap}
theorem topI_of {d : SupD} (hm : mg d.C = some (.ref (He.ga K d.C))) (h : supB K P.main.file d = true) (e : fnC K (d.at_ K) = d.val) (T : SupT P d) (c : clsvB K (He.ga K d.C) = true) : TopI P w K mg base (L2.CX P w) d.C (He.ga K d.C) := by
  obtain ⟨fd, S, b⟩ := sup_of h e T
  exact ⟨_, fd, hm, clsfnB_ok c, sup_init S, b⟩
theorem excC_of0 [LamTab] {C x code qual : Str} {params : Arguments} {body : List Stmt} {scope : Scope} {fd : FuncData} (hm : mg C = some (.ref (He.ga K C))) (ov : overB K (He.ga K x) (He.ga K C) = true) (ib : initB K (He.ga K C) = true) (G : TopI P w K mg base (L2.CX P w) x (He.ga K x))
    (Fd : FunD K "__init__" qual params body scope [] [] (He.ma K (He.ga K C) "__init__") fd) (S : FnScope ["self"] ["self"] scope) (hb : xBody0 x code body) (bi : Binds K fd ["self"] []) (hg : scope.names.lookup x = some .globalImplicit := by rfl) (hdb : (x == ("__debug__" : Str)) = false := by decide)
    (hs : scope.names.lookup ("self" : Str) = some .local := by rfl) : ExcC P w K mg base C none code := by
  obtain ⟨i1, i2⟩ := Bool.and_eq_true_iff.mp ib
  exact ⟨_, _, _, fd, "", hm, overB_ok ov, of_decide_eq_true i1, of_decide_eq_true i2, exc_init0 Fd S hb hg hdb hs G, bi⟩
theorem excC_of1 [LamTab] {C x code f prm qual : Str} {params : Arguments} {body : List Stmt} {scope : Scope} {fd : FuncData} (hm : mg C = some (.ref (He.ga K C))) (ov : overB K (He.ga K x) (He.ga K C) = true) (ib : initB K (He.ga K C) = true) (nb : noB K (He.ga K C) f = true) (G : TopI P w K mg base (L2.CX P w) x (He.ga K x))
    (Fd : FunD K "__init__" qual params body scope [] [] (He.ma K (He.ga K C) "__init__") fd) (S : FnScope ["self", prm] ["self", prm] scope) (hb : xBody1 x code f prm body) (bi : Binds K fd ["self", prm] []) (hg : scope.names.lookup x = some .globalImplicit := by rfl) (hdb : (x == ("__debug__" : Str)) = false := by decide)
    (hs : scope.names.lookup ("self" : Str) = some .local := by rfl) (hp : scope.names.lookup prm = some .local := by rfl) (hpd : (prm == ("__debug__" : Str)) = false := by decide) (hpc : (prm == ("__classdict__" : Str)) = false := by decide) : ExcC P w K mg base C (some f) code := by
  obtain ⟨i1, i2⟩ := Bool.and_eq_true_iff.mp ib
  exact ⟨_, _, _, fd, prm, hm, overB_ok ov, of_decide_eq_true i1, of_decide_eq_true i2, of_decide_eq_true nb, exc_init1 Fd S hb hg hdb hs hp hpd hpc G, bi⟩
end
end PD
namespace PD
open PySem PySem.Spec PyProof.Rows L2 PX LamX
theorem walk_pdT {l : PySem.W.OpenLaw} {n k : Nat} {q : Program} {loose : List Str} {XP : (Str → Option Value) → Heap → Prop} {YP : World → Heap → Prop} {d : DefRec} {x : Str} {Fl : IF} {lams : Nat → LamD}
    (hn : l.most = some n) (hn2 : n ≤ sizeLine) (hdf : d.params.defaults = []) (hr : Room k callerA)
    (F : ∀ (w : World) (mg : Str → Option Value) (fa : Addr) (h : Heap), YP w h → h.Ns mainGlobals mg → mg d.name = some (.ref fa) →
      ∃ (K : PySem.W.Frag) (fd : FuncData) (cs : List (Addr × Addr)) (T : List (Addr × Str)), K.In h ∧ (∀ p ∈ cs, h.get? p.2 = some { cls := .none, data := .fields #[] }) ∧ (∀ p ∈ cs, K.lookup p.2 = none) ∧ (∀ p ∈ cs, PySem.W.CodeHd h p.1 p.2) ∧ (∀ p ∈ T, ∃ c, (c, p.1) ∈ cs) ∧
        (∀ (s : Shared) (u : Value), BindsTo s fd ⟨[u], []⟩ [(x, u)]) ∧ ∀ base : Heap, K.In base → base.Ns mainGlobals mg → (∀ p ∈ cs, TabB base mg p.1 p.2) → FnOk l.prog w K mg base (L2.CX l.prog w) k fa fd [x] (@SpI ⟨lams, T⟩ K mg 1 Fl))
    (math : ∀ ns : List Int, ns.length ≤ n → (∀ z ∈ ns, Builtin.Int.intBits z ≤ 1048576) → (∃ h', Fl [.scr (ns.map .int)] [] = some (.ok (.bl true), h')) ∧ ∃ h', Fl [.lst (ns.map .int)] [] = some (.ok (.bl true), h')) :
    PySem.W.WalkO q loose XP YP l.row.toRowW d [] (fun f vs => PySem.call f vs) := by
  refine Att.attach_callB hn hdf fun w s₀ s₁ mg mb fa o pm cd doc a vs ns G Y ho hd hcd hmg hobj hints hlen hbits hg => ?_
  obtain ⟨K, fd, cs, T, KX, hT, nT, C, hTc, hb, hF⟩ := F w mg fa _ Y G.T.g hmg
  refine law_callTs KX G.T.g G.T.b G.T.builtins G.T.nolimit hg hT nT C G.T.bmain hobj hints (Nat.le_trans hlen hn2) hr hF hb (fun H hH hS => ?_) fun H e s' hz => ?_
  · letI : LamTab := ⟨lams, T⟩
    obtain ⟨⟨h1, e1⟩, h2, e2⟩ := math ns hlen hbits
    have tb : MgE (⟨K, mg, fun _ => False, [], H⟩ : RC) mg := ⟨rfl, fun _ p hp => by
      obtain ⟨c, hc⟩ := hTc p hp
      exact TabS.nil (hH _ hc)⟩
    have fin : ∀ (r : R D) (h' : EH) , r = .ok (.bl true) → (∀ d, r = .ok d → ∀ (c' : RC) v, Rep c' d v → v = .bl true) := fun r h' er d ed c' v rv => by
      rw [er] at ed
      cases ed
      cases rv
      rfl
    rcases hS with (hS | ⟨o, hS⟩) | hS
    · exact ⟨⟨K, mg, fun _ => False, [], H⟩, [], [.lst (ns.map .int)], .ok (.bl true), h2, rfl, tb, rfl, SR.nil rfl (fun _ z => z.elim), .cons (.lst hS ⟨fun z => z, List.not_mem_nil⟩ (reps_ints ns)) .nil, rfl, e2, fun d ed c' v l s r => fin _ h2 rfl d ed c' v r, fun e ee => nomatch ee⟩
    · exact ⟨⟨K, mg, fun _ => False, [], H⟩, [], [.scr (ns.map .int)], .ok (.bl true), h1, rfl, tb, rfl, SR.nil rfl (fun _ z => z.elim), .cons (.scr (.inl ⟨o, hS⟩) (reps_ints ns)) .nil, rfl, e1, fun d ed c' v l s r => fin _ h1 rfl d ed c' v r, fun e ee => nomatch ee⟩
    · exact ⟨⟨K, mg, fun _ => False, [], H⟩, [], [.scr (ns.map .int)], .ok (.bl true), h1, rfl, tb, rfl, SR.nil rfl (fun _ z => z.elim), .cons (.scr (.inr hS) (reps_ints ns)) .nil, rfl, e1, fun d ed c' v l s r => fin _ h1 rfl d ed c' v r, fun e ee => nomatch ee⟩
  · obtain ⟨_, _, _, _, _, _, _, _, _, _, _, _, z⟩ := hz
    exact z
end PD
namespace PD
open PySem PySem.Spec PyProof.Rows L2 PX
variable [LamTab]
structure IsoC (K : PySem.W.Frag) (mg : Str → Option Value) (C : Str) : Prop where
  ex : ∃ Ca, mg C = some (.ref Ca) ∧ Cls K Ca ∧ PySem.W.findIn K (.ref Ca) "__class__" = some (some (.builtin "object.__class__")) ∧ PySem.W.specialIn K (.builtin "object.__class__") "__get__" = some (some (.builtin "getset_descriptor.__get__")) ∧
    PySem.W.takesIn K (.builtin "object.__class__") = some true ∧ PySem.W.mroIn K Ca (.type "object") = some true
theorem isoC_of {K : PySem.W.Frag} {mg : Str → Option Value} {C : Str} (hm : mg C = some (.ref (He.ga K C))) (hc : Cls K (He.ga K C)) (h : isoB K C = true) : IsoC K mg C := by
  obtain ⟨h1, h⟩ := Bool.and_eq_true_iff.mp h
  obtain ⟨h2, h⟩ := Bool.and_eq_true_iff.mp h
  obtain ⟨h3, h4⟩ := Bool.and_eq_true_iff.mp h
  exact ⟨_, hm, hc, of_decide_eq_true h1, of_decide_eq_true h2, of_decide_eq_true h3, of_decide_eq_true h4⟩
def mIsO (C : Str) (a : M D) : M D := fun ε h => bR (a ε h) fun d h1 => match insD h1 d with
  | some (C', _) => if C' = C then some (.ok (.bl true), h1) else none
  | none => none
section
variable {X : Cx} {W : WX}
theorem re_isO {C : Str} {e : Expr} {p p2 pos : Pos} {m : M D} (G : IsoC X.K X.mg C) (hm : X.mg "isinstance" = none) (he : RE X W e m) (hg : Gl X "isinstance" := by rfl) (hgx : Gl X C := by rfl) (hdx : (C == ("__debug__" : Str)) = false := by decide)
    (hs1 : starEach [e, .Name C p2] X.env = (false, eval e X.env) :: starEach [.Name C p2] X.env := by rfl) (hs2 : starEach [.Name C p2] X.env = (false, eval (.Name C p2) X.env) :: starEach [] X.env := by rfl)
    (hpl : (backTo pos (starEach [.Name C p2] X.env)).any (·.1) = false := by rfl) : RE X W (.Call (.Name "isinstance" p) [e, .Name C p2] [] pos) (mIsO C m) := by
  obtain ⟨Ca, h1, h2, h3, h4, h5, h6⟩ := G.ex
  refine pe_imp (pe_callB (x := "isinstance") call_isi hg hm (by decide +kernel) (pa_cons he (pa_cons (pe_glob (v := .ref Ca) (u := .ref Ca) hgx h1 rfl hdx) pa_nil hs2) hs1) (by decide) (by decide) hs1 hpl) fun σ H Q h => ?_
  obtain ⟨c, ε, h, r, h', hK, hm, rfl, sr, er, e, px, go⟩ := h
  unfold tCB tCons tC tNil
  refine tX.bind hK hm sr er e px fun d h1' c1 v e1 l1 s1 r1 => ?_
  cases q : insD h1' d with
  | none => rw [q] at e1; cases e1
  | some z =>
    obtain ⟨C', fs⟩ := z
    rw [q] at e1
    have e1 : (if C' = C then some (R.ok (D.bl true), h1') else none) = some (r, h') := e1
    by_cases hc : C' = C
    · rw [if_pos hc] at e1
      cases e1
      subst hc
      obtain ⟨a, Ca', dx, vs, rfl, m1, m2, m3⟩ := insD_ok s1 r1 q
      rw [l1.mg.e', hm.mge, h1] at m1
      cases m1
      have hK1 : c1.K = X.K := l1.K.trans hK
      refine ⟨.ref a, .ref Ca, .ref Ca, .ref Ca, true, rfl, .own Ca, .base (.ins m2 h2 h3 h4 h5 h6), ?_, go _ rfl c1 _ l1 s1 (.bl true)⟩
      show PySem.W.kitOne X.K (.ref Ca) (.ref Ca) = some true
      unfold PySem.W.kitOne
      simp
    · rw [if_neg hc] at e1; cases e1
end
def eqOF (C : Str) (F : PF) (neg : Bool) (h : EH) (x y : D) : Option D := match insD h x, insD h y with
  | some (C1, _), some (C2, _) => if (decide (C1 = C) && decide (C2 = C) && noRef.go [x, y]) = true then (match F [x, y] with
    | some (.ok (.bl r)) => some (.bl (neg != r))
    | _ => none) else none
  | _, _ => none
def rEqO (K : PySem.W.Frag) (mg : Str → Option Value) (Ca : Addr) (F : PF) (neg : Bool) : R2 := fun x y H Q => ∃ a b dx dy fs gs, x = .ref a ∧ y = .ref b ∧ H a = some (.ins Ca dx fs) ∧ H b = some (.ins Ca dy gs) ∧
  SpP K mg 2 F [x, y] H (fun v H' => ∃ r, v = .bl r ∧ Q (.bl (neg != r)) H') fun _ _ _ => False
section
variable {X : Cx} {W : WX}
theorem eqO_run {f : Addr} {fd : FuncData} {ps : List Str} {k : Nat} {F : PF} {neg : Bool} {A : Around} {pins : List (Addr × Obj)} {s : Shared} {σ : L2.St} {H : Hp} {a b : Addr} {Q : VK} {E : Value → Shared → Prop} {Q2 : Value → Shared → Prop} (Fo : FnOk X.prog X.w X.K X.mg X.base (L2.CX X.prog X.w) k f fd ps (SpP X.K X.mg 2 F)) (hb : Binds X.K fd ps []) (hl : ps.length = 2) (hr : Room k A) (hfr : A.frames = X.A.frames) (I : Inv X pins σ H s)
    (sp : SpP X.K X.mg 2 F [.ref a, .ref b] H (fun v H' => ∃ r, v = .bl r ∧ Q (.bl (neg != r)) H') fun _ _ _ => False)
    (fin : ∀ (r : Bool) H' s', Inv X pins σ H' s' → Q (.bl (neg != r)) H' → Q2 (.bool r) s') : wpAny (model X.prog X.w) A (call (.ref f) [.ref a, .ref b]) Q2 E s := by
  have e0 : Env0 X.prog X.w X.K X.mg X.base A X.stack s H := by
    have e := I.env0
    exact ⟨by rw [hfr]; exact e.frames, e.mod, e.bs, e.bsz, e.funs, e.frf, e.hok, e.bare⟩
  refine wpAny_call (codeAny_mono (Fo.run A X.stack s H ⟨[.ref a, .ref b], []⟩ [.ref a, .ref b] [.ref a, .ref b] _ _ hr e0 (by
    have := hb s [.ref a, .ref b] I.kIn (by rw [hl]; rfl)
    simpa using this) (.cons rfl (.cons rfl .nil)) sp) fun r s' hq => ?_)
  cases r with
  | error e => exact (cx_never hq).elim
  | ok fl =>
    cases fl with
    | ret w =>
      obtain ⟨z, H', I', rz, r, ez, q⟩ := I.after hq
      subst ez
      obtain rfl : w = Value.bool r := rz
      exact fin r H' s' I' q
    | next => exact False.elim hq
    | brk => exact False.elim hq
    | cont => exact False.elim hq
theorem op_eqO {Ca f : Addr} {fd : FuncData} {ps : List Str} {k : Nat} {F : PF} (Fo : FnOk X.prog X.w X.K X.mg X.base (L2.CX X.prog X.w) k f fd ps (SpP X.K X.mg 2 F)) (hb : Binds X.K fd ps []) (hl : ps.length = 2) (Me : Meth X.K Ca "__eq__" f) (hr : Room k X.A) : OpR X (compareOp .Eq) (rEqO X.K X.mg Ca F false) := by
  intro pins s σ H x y v u Q I rx ry hq
  obtain ⟨a, b, dx, dy, fs, gs, rfl, rfl, ha, hb', sp⟩ := hq
  obtain rfl : v = Value.ref a := rx
  obtain rfl : u = Value.ref b := ry
  show wpAny (model X.prog X.w) X.A (richCompare .Eq (.ref a) (.ref b)) (EP X pins σ Q) X.xe s
  obtain ⟨mA, J, _⟩ := ins_get I.hok ha
  obtain ⟨mB, J', _⟩ := ins_get I.hok hb'
  obtain ⟨od, J, _⟩ := J.look
  obtain ⟨od', J', _⟩ := J'.look
  obtain ⟨m, hF⟩ := I.fr
  refine PySem.W.cmp_K (op := .Eq) (tb := .ref Ca) hr.units0 hF I.ok.mod.kin J J'.type (by simp [PySem.W.notFirst]) Me.at_ Me.fn ?_
  exact eqO_run (neg := false) (Q := Q) Fo hb hl hr rfl I sp fun r H' s' I' q => ⟨.bl r, H', I', rfl, by simpa using q⟩
theorem eqO_ops {C : Str} {Ca : Addr} {F : PF} {neg : Bool} (hCa : X.mg C = some (.ref Ca)) : OpS X.K X.mg (rEqO X.K X.mg Ca F neg) (eqOF C F neg) := by
  intro c h x y dx dy d Q hK hm sr rx ry e go
  unfold eqOF at e
  cases q1 : insD h dx with
  | none => rw [q1] at e; cases e
  | some z1 =>
    obtain ⟨C1, fs1⟩ := z1
    cases q2 : insD h dy with
    | none => rw [q1, q2] at e; cases e
    | some z2 =>
      obtain ⟨C2, fs2⟩ := z2
      rw [q1, q2] at e
      have e2 : (if (decide (C1 = C) && decide (C2 = C) && noRef.go [dx, dy]) = true then (match F [dx, dy] with
        | some (.ok (.bl r)) => some (.bl (neg != r))
        | _ => none) else none) = some d := e
      clear e
      by_cases hc : (decide (C1 = C) && decide (C2 = C) && noRef.go [dx, dy]) = true
      · rw [if_pos hc] at e2
        rw [Bool.and_eq_true, Bool.and_eq_true, decide_eq_true_eq, decide_eq_true_eq] at hc
        obtain ⟨⟨rfl, rfl⟩, nr⟩ := hc
        obtain ⟨a, Ca1, dx1, vs1, rfl, m1, m2, _⟩ := insD_ok sr rx q1
        obtain ⟨b, Ca2, dx2, vs2, rfl, m3, m4, _⟩ := insD_ok sr ry q2
        rw [hm.mge, hCa] at m1 m3
        cases m1
        cases m3
        cases q : F [dx, dy] with
        | none => rw [q] at e2; cases e2
        | some r =>
          rw [q] at e2
          cases r with
          | ex x => cases e2
          | ok dd =>
            cases dd with
            | bl r =>
              cases e2
              refine ⟨a, b, dx1, dx2, vs1, vs2, rfl, rfl, m2, m4, spP_of hK hm sr (.cons rx (.cons ry .nil)) rfl nr q (fun d' ed c' v l s rd => ?_) fun x ex => nomatch ex⟩
              cases ed
              cases rd
              exact ⟨r, rfl, go c' _ l s (.bl _)⟩
            | _ => cases e2
      · rw [if_neg hc] at e2; cases e2
theorem rt_eqO {C : Str} {a b : Expr} {ma mb : M D} {pos : Pos} {k j : Nat} {F : PF} (G : MetP X.prog X.w X.K X.mg X.base C "__eq__" k 2 F) (hr : Room j X.A) (ha : RE X W a ma) (hb : RE X W b mb) (hk : k ≤ j := by decide) (hmk : behindInMarks .Eq b = false := by rfl) :
    RT X W (.Compare a [.Eq] [b] pos) (mTst (mBin (eqOF C F false) ma mb)) := by
  obtain ⟨Ca, f, fd, ps, h1, h2, h3, h4, h5, h6⟩ := G.ex
  exact rt_cmp (op_eqO h6 h4 h5 h3 (hr.mono hk)) (eqO_ops h1) ha hb hmk
end
end PD
namespace PD
open PySem PySem.Spec PyProof.Rows L2 PX
end PD
namespace PD
open PySem PySem.Spec PyProof.Rows L2 PX LamX
variable [LamTab]
section
variable {P : Program} {w : World} {K : PySem.W.Frag} {mg : Str → Option Value} {base : Heap}
theorem LamS.mono {i j k : Nat} {F : PF} (h : LamS P w K mg base j i F) (l : j ≤ k) : LamS P w K mg base k i F := by
  obtain ⟨m, e, r⟩ := h.run
  exact ⟨h.ok, m, e, fun cl f c' A outer s H E hr => r cl f c' A outer s H E (hr.mono l)⟩
end
end PD
namespace PD
open PySem PySem.Spec PyProof.Rows L2 PX LamX
variable [LamTab]
theorem SR.extN {c : RC} {h : EH} (s : SR c h) {b : Addr} {φ : Heap → Prop} (e : c.H b = some (.ext φ)) : b ∉ c.ρ := fun z => by
  obtain ⟨n, hn, eq⟩ := List.mem_iff_getElem.mp z
  have h1 : c.ρ[n]? = some b := by rw [List.getElem?_eq_getElem hn, eq]
  have hn' : n < h.length := by rw [← s.len]; exact hn
  have r := s.cells n b _ h1 (List.getElem?_eq_getElem hn')
  cases q : h[n] with
  | lst ds => rw [q] at r; obtain ⟨xs, e2, _⟩ := r; rw [e] at e2; cases e2
  | dic t kvs =>
    rw [q] at r
    obtain ⟨o, zs, e2, i, _⟩ := r
    rw [e] at e2
    cases e2
    rcases i with ⟨_, _, z, _⟩ | ⟨_, z⟩ <;> cases z
  | obj C fs => rw [q] at r; obtain ⟨_, _, _, _, e2, _⟩ := r; rw [e] at e2; cases e2
theorem LamAt.extE {X : Cx} {H H' : Hp} {i : Nat} {f : Addr} (e : ∀ b φ, H b = some (.ext φ) → H' b = some (.ext φ)) (h : LamAt X H i f) : LamAt X H' i f := by
  obtain ⟨dV, c', h1, h2, h3⟩ := h
  refine ⟨dV, c', e _ _ h1, e _ _ h2, ?_⟩
  rcases h3 with h3 | ⟨q, dt, t, e1, e2⟩
  · exact .inl h3
  · exact .inr ⟨q, dt, t, e1, e _ _ e2⟩
theorem LamAts.extE {X : Cx} {H H1 : Hp} (e : ∀ b φ, H b = some (.ext φ) → H1 b = some (.ext φ)) : ∀ {ps : List (Nat × List Nat)} {vs : List V}, LamAts X H ps vs → LamAts X H1 ps vs
  | _, _, .nil => .nil
  | _, _, .cons h t => .cons (h.extE e) (t.extE e)
theorem LAt.le {X : Cx} {ix : Nat} {ps : List (Nat × List Nat)} {c c' : RC} {σ : L2.St} {h : EH} (la : LAt X ix ps c σ) (s : SR c h) (l : c.Le c') {j : Nat} (hj : j ≠ ix) (v : Option V) : LAt X ix ps c' (σ.set j v) := by
  obtain ⟨a, vs, h1, h2, h3, h4⟩ := la
  refine ⟨a, vs, ?_, (l.lstH h2 h3).1, (l.lstH h2 h3).2, h4.extE fun b φ e => (l.keep b _ e (fun _ z => by cases z) (s.extN e)).1⟩
  rw [List.getElem?_set_ne hj]
  exact h1
end PD
namespace PD
open PySem PySem.Spec PyProof.Rows L2 PX LamX
variable [LamTab]
def cellO (h : EH) (o : Option (List D)) : O D := match o with
  | some ds => some (.ok (.ref h.length), h ++ [.lst ds])
  | none => none
/-- list(x) as a cell -/
def lstO (h : EH) (xs : List D) : Option (List D) := match xs with
  | [d] => asS h d
  | _ => none
def mListC (a : M (List D)) : M D := fun ε h => bR (a ε h) fun xs h1 => cellO h1 (lstO h1 xs)
end PD
namespace L2
open PySem PySem.Spec PyProof.Rows
end L2
namespace PD
open PySem PySem.Spec PyProof.Rows L2 PX LamX
end PD
namespace PD
open PySem PySem.Spec PyProof.Rows L2 PX LamX
end PD
namespace PD
open PySem PySem.Spec PyProof.Rows L2 PX LamX
end PD
namespace PX
open PySem PySem.Spec PyProof.Rows L2 PySem.Calls PD
variable [LamTab]
def lock (z : Addr → Option Obj) (H : Hp) : Hp := fun b => match z b, H b with
  | some o, some (.lst xs) => some (.frz o (.lst xs))
  | _, u => u
/-- z's objects are lists of H -/
def InL (z : Addr → Option Obj) (H : Hp) : Prop := ∀ b o, z b = some o → ∃ xs, H b = some (.lst xs)
section
variable {z : Addr → Option Obj} {H : Hp} {b : Addr}
theorem lock_out (h : z b = none) : lock z H b = H b := by
  unfold lock; rw [h]
theorem inl_out (hz : InL z H) {u : HO} (h : H b = some u) (n : ∀ xs, u ≠ .lst xs) : z b = none := by
  cases y : z b with
  | none => rfl
  | some o =>
    obtain ⟨xs, e⟩ := hz b o y
    rw [h] at e
    exact (n xs (Option.some.inj e)).elim
end
end PX
namespace PD
open PySem PySem.Spec PyProof.Rows L2 PX LamX
variable [LamTab]
abbrev lockC (c : RC) (z : Addr → Option Obj) : RC := { c with H := PX.lock z c.H, ρ := [], B := fun a => c.B a ∨ a ∈ c.ρ }
/-- z has just the cells of lists -/
structure LkZ (c : RC) (z : Addr → Option Obj) : Prop where
  in_ : ∀ b o, z b = some o → b ∈ c.ρ ∧ ∃ xs, c.H b = some (.lst xs)
  all : ∀ b xs, b ∈ c.ρ → c.H b = some (.lst xs) → ∃ o, z b = some o
section
variable {c c' : RC} {h : EH} {z : Addr → Option Obj}
theorem LkZ.inL (k : LkZ c z) : PX.InL z c.H := fun b o y => (k.in_ b o y).2
theorem LkZ.out (k : LkZ c z) {a : Addr} (h : a ∉ c.ρ) : z a = none := by
  cases y : z a with
  | none => rfl
  | some o => exact absurd (k.in_ a o y).1 h
theorem lock_some {H : Hp} {a : Addr} {o : HO} (e : H a = some o) : ∃ o', PX.lock z H a = some o' := by
  cases y : z a with
  | none => exact ⟨o, (lock_out y).trans e⟩
  | some ob =>
    unfold PX.lock
    rw [y, e]
    cases o <;> exact ⟨_, rfl⟩
theorem LkZ.leW (k : LkZ c z) : (c.bare fun a => c.B a ∨ a ∈ c.ρ).LeW (lockC c z) := by
  refine ⟨rfl, rfl, fun a h => .inl h, fun n a h => by simp at h, fun a o e => lock_some e, fun a o e nt nb nr => ⟨?_, nr⟩, fun a xs e => ?_, fun a o u e => ?_⟩
  · exact (lock_out (k.out fun q => nb (.inr q))).trans e
  · rcases e with e | ⟨o, e⟩
    · exact .inl ((lock_out (inl_out k.inL e fun _ q => by cases q)).trans e)
    · exact .inr ⟨o, (lock_out (inl_out k.inL e fun _ q => by cases q)).trans e⟩
  · exact (lock_out (inl_out k.inL e fun _ q => by cases q)).trans e
theorem LkZ.tabs (k : LkZ c z) (t : c.tabs) : RC.tabs (lockC c z) := fun q hq => codeO_ext (t q hq) (by
    obtain ⟨ps, k1, _⟩ := t q hq
    exact lock_out (inl_out k.inL k1 fun _ z => by cases z)) fun a e => (lock_out (inl_out k.inL e fun _ z => by cases z)).trans e
end
end PD
namespace PX
open PySem PySem.Spec PyProof.Rows L2 PySem.Calls PD
end PX
namespace PD
open PySem PySem.Spec PyProof.Rows L2 PX LamX
end PD
namespace PD
open PySem PySem.Spec PyProof.Rows L2 PX LamX
end PD
namespace PD
open PySem PySem.Spec PyProof.Rows L2 PX LamX
end PD
namespace PD
open PySem PySem.Spec PyProof.Rows L2 PX LamX
end PD
namespace PD
open PySem PySem.Spec PyProof.Rows L2 PX LamX
end PD
namespace PD
open PySem PySem.Spec PyProof.Rows L2 PX LamX
end PD
namespace PD
open PySem PySem.Spec PyProof.Rows L2 PX LamX
end PD
namespace PD
open PySem PySem.Spec PyProof.Rows L2 PX LamX
end PD
namespace PX
open PySem PySem.Spec PyProof.Rows L2 PySem.Calls
end PX
namespace PD
open PySem PySem.Spec PyProof.Rows L2 PX LamX
end PD
namespace PX
open PySem PySem.Spec PyProof.Rows L2 PySem.Calls
end PX
namespace PD
open PySem PySem.Spec PyProof.Rows L2 PX LamX
end PD
namespace PX
open PySem PySem.Spec PyProof.Rows L2 PySem.Calls
/-- what super().__init__ gets: the parameter, or a constant -/
inductive SArg
  | par
  | con (c : Str)
def SArg.N : SArg → List Str
  | .par => ["self", "code"]
  | .con _ => ["self"]
def SArg.is : SArg → List V → Addr → V → Prop
  | .par, vs, a, y => vs = [.ref a, y]
  | .con c, vs, a, y => vs = [.ref a] ∧ y = .str c
def SArg.ex : SArg → Expr → Prop
  | .par, e => ∃ p, e = .Name "code" p
  | .con c, e => ∃ j p, e = .Constant (.str c) j p
def SArg.te : SArg → TE
  | .par => tVar 1
  | .con c => tC (.str c)
end PX
namespace PX
open PySem PySem.Spec PyProof.Rows L2 PySem.Calls
theorem SArg.val {g : SArg} {vs : List V} {a : Addr} {y : V} {H : Hp} {Q : VK} (h : g.is vs a y) (q : Q y H) : g.te (vs.map some) H Q := by
  cases g with
  | par =>
    have h : vs = [.ref a, y] := h
    subst h
    exact ⟨y, rfl, q⟩
  | con c =>
    obtain ⟨rfl, rfl⟩ := h
    exact q
theorem SArg.len {g : SArg} {vs : List V} {a : Addr} {y : V} (h : g.is vs a y) : vs.length = g.N.length := by
  cases g with
  | par =>
    have h : vs = [.ref a, y] := h
    subst h; rfl
  | con c =>
    obtain ⟨rfl, _⟩ := h
    rfl
theorem SArg.self {g : SArg} {vs : List V} {us : List Value} {a : Addr} {y : V} (h : g.is vs a y) (r : Vals vs us) : (g.N.zip us).reverse.lookup ("self" : Str) = some (.ref a) ∧ ∀ (i : Nat) (x : Str) (v : V), g.N[i]? = some x → (vs.map some)[i]? = some (some v) → ∃ u, RelV v u ∧ (g.N.zip us).reverse.lookup x = some u := by
  cases g with
  | par =>
    have h : vs = [.ref a, y] := h
    subst h
    obtain ⟨u0, u1, rfl, r0, r1⟩ := r.two
    cases (show u0 = Value.ref a from r0)
    refine ⟨rfl, fun i x v h1 h2 => ?_⟩
    rcases i with _ | _ | n
    · cases h1; cases h2; exact ⟨_, r0, rfl⟩
    · cases h1; cases h2; exact ⟨_, r1, rfl⟩
    · simp at h2
  | con c =>
    obtain ⟨rfl, _⟩ := h
    match us, r with
    | [u0], .cons r0 .nil =>
      cases (show u0 = Value.ref a from r0)
      refine ⟨rfl, fun i x v h1 h2 => ?_⟩
      rcases i with _ | n
      · cases h1; cases h2; exact ⟨_, r0, rfl⟩
      · simp at h2
end PX
namespace PX
open PySem PySem.Spec PyProof.Rows L2 PySem.Calls
end PX
namespace PD
open PySem PySem.Spec PyProof.Rows L2 PX
end PD
namespace PX
open PySem PySem.Spec PyProof.Rows L2 PySem.Calls
end PX
namespace PD
open PySem PySem.Spec PyProof.Rows L2 PX LamX
end PD
namespace PX
open PySem PySem.Spec PyProof.Rows L2 PySem.Calls
/-- the operators that are served -/
inductive OpK | add | sub
def OpK.nm : OpK → String
  | .add => "add"
  | .sub => "sub"
end PX
namespace PD
open PySem PySem.Spec PyProof.Rows L2 PX LamX
end PD
namespace PX
open PySem PyProof.Rows TS
def hd0 (h : Heap) (v : Value) : Int := (intsOf h v).headD 0
structure TupsH (h : Heap) (vs : List Value) : Prop where
  ok : ∀ v ∈ vs, ∃ m ns, TupInts h v (m :: ns)
  un : ∀ u ∈ vs, ∀ v ∈ vs, hd0 h u = hd0 h v → u = v
theorem hd0_eq {h : Heap} {v : Value} {m : Int} {ns : List Int} (x : TupInts h v (m :: ns)) : hd0 h v = m := by
  unfold hd0; rw [x.ints]; rfl
theorem hd0_keep {h h' : Heap} {v : Value} {m : Int} {ns : List Int} (x : TupInts h v (m :: ns)) (k : ∀ b o, h.get? b = some o → o.cls = .type "tuple" → h'.get? b = some o) : hd0 h' v = hd0 h v := (hd0_eq (x.keeps k)).trans (hd0_eq x).symm
theorem TupsH.keeps {h h' : Heap} {vs : List Value} (x : TupsH h vs) (k : ∀ b o, h.get? b = some o → o.cls = .type "tuple" → h'.get? b = some o) : TupsH h' vs :=
  ⟨fun v hv => let ⟨m, ns, t⟩ := x.ok v hv; ⟨m, ns, t.keeps k⟩, fun u hu v hv e => by
    obtain ⟨m, ns, t⟩ := x.ok u hu
    obtain ⟨m', ns', t'⟩ := x.ok v hv
    exact x.un u hu v hv (by rw [← hd0_keep t k, ← hd0_keep t' k]; exact e)⟩
end PX
namespace PX
open PySem PySem.Spec PyProof.Rows L2 PD
end PX
namespace PD
open PySem PySem.Spec PyProof.Rows L2 PX LamX
end PD
namespace PD
open PySem PySem.Spec PyProof.Rows L2 PX LamX
end PD
namespace L2
open PySem PySem.Spec PyProof.Rows
/-- what a turn at depth k does: the store, the tests, then inner, then the loop again -/
def TurnEq (node : Expr) (k : Nat) (it acc : Value) (env : Env) (t : Expr) (p : Pos) (ifs : List Expr) (inner : Sem Fin → Sem Fin) : Prop :=
  compTurn node k it acc env = (do
    standAt p
    match ← pyNext it with
    | none => pure (.done .next)
    | some v => do
      letOwnedTupleGo t it v
      assign t env v
      let ok ← forIn ifs true (fun c r => if r = true then do let ok ← isTrue c env (eval c env); pure (ForInStep.yield ok) else pure (ForInStep.yield r))
      if ok = true then inner (again (.compLoop node k it acc env)) else again (.compLoop node k it acc env))
/-- the next for -/
def innerFor (node : Expr) (k : Nat) (acc : Value) (env : Env) (iter : Expr) : Sem Fin → Sem Fin := fun rest => do
  let x ← eval iter env
  standAt iter.pos
  let x ← foldedSetIterable iter env x
  let _ ← runOwn (.compStart node k (← holding [x] (pyIter x)) acc env) env
  rest
def innerAdd (elt : Expr) (acc : Value) (env : Env) : Sem Fin → Sem Fin := fun rest => do
  (do let v ← eval elt env; standAt elt.pos; let _ ← call (.builtin "set.add") [acc, v])
  rest
section
variable {elt t0 i0 t1 i1 t2 i2 : Expr} {f0 f1 f2 : List Expr} {scope : Scope} {pos : Pos} {it acc : Value} {env : Env}
theorem sc2_0 : TurnEq (.SetComp elt [⟨t0, i0, f0, 0⟩, ⟨t1, i1, f1, 0⟩] scope pos) 0 it acc env t0 i0.pos f0 (innerFor (.SetComp elt [⟨t0, i0, f0, 0⟩, ⟨t1, i1, f1, 0⟩] scope pos) 1 acc env i1) := by rfl
theorem sc2_1 : TurnEq (.SetComp elt [⟨t0, i0, f0, 0⟩, ⟨t1, i1, f1, 0⟩] scope pos) 1 it acc env t1 i1.pos f1 (innerAdd elt acc env) := by rfl
end
/-- the code of a node's start and of its turns -/
structure NodeIs (prog : Program) (w : World) (A : Around) (node : Expr) : Prop where
  u : ∀ k it acc env, A.under (.compLoop node k it acc env) = A
  u0 : ∀ k it acc env, A.under (.compStart node k it acc env) = A
  d : ∀ k it acc env, (model prog w).den (.compLoop node k it acc env) = (compTurn node k it acc env).onRaise (fun x => do noteFrame x env; theTreesLotGoes x)
  d0 : ∀ k it acc env, (model prog w).den (.compStart node k it acc env) = (compStart node k it acc env).onRaise (fun x => do noteFrame x env; standAt theWindowsPlace)
theorem node_sc {prog : Program} {w : World} {A : Around} {elt : Expr} {gs : List Comprehension} {scope : Scope} {pos : Pos} : NodeIs prog w A (.SetComp elt gs scope pos) := ⟨fun _ _ _ _ => rfl, fun _ _ _ _ => rfl, fun _ _ _ _ => rfl, fun _ _ _ _ => rfl⟩
section
variable {prog : Program} {w : World} {A : Around} {R : Result → Shared → Prop} {s : Shared} {node t : Expr} {k : Nat} {p : Pos} {ifs : List Expr} {inner : Sem Fin → Sem Fin} {it acc : Value} {env : Env}
/-- a start at any depth -/
theorem compStartN (N : NodeIs prog w A node) {g : Comprehension} (hg : (clausesOf node)[k]? = some g) (ha : g.is_async = 0) (h0 : codeAny (model prog w) A (.compLoop node k it acc env) R s)
    (h : wpAny (model prog w) A (pyIter it) (fun it' s' => codeAny (model prog w) A (.compLoop node k it' acc env) R s') (notedBy (model prog w) A env fun x s' => R (.error x) s') s) :
    codeAny (model prog w) A (.compStart node k it acc env) R s := by
  refine codeAny_of_tree ?_
  rw [N.u0, N.d0]
  refine wpAny_notedAt ?_
  unfold compStart
  rw [hg]
  have e : (some g).elim false (fun x => x.is_async != 0) = false := by
    show (g.is_async != 0) = false
    rw [ha]; rfl
  rw [if_neg (by rw [e]; exact Bool.false_ne_true)]
  show wpAny _ _ (ask >>= _) _ _ s
  refine wpAny_bind (wpAny_askSetting (wpAny_ite ?_))
  split
  · first
      | exact wpAny_bind (wpAny_pure (wpAny_pure (And.intro rfl h0)))
      | exact wpAny_pure (And.intro rfl h0)
  · first
      | exact wpAny_bind (wpAny_rule (wpAny_bind (wpAny_standAt (wpAny_bind (wpAny_mono h (fun it' s' h' => wpAny_pure (And.intro rfl h')) fun _ _ x => x)))))
      | (refine wpAny_bind (wpAny_rule ?_); show wpAny _ _ (standAt g.iter.pos >>= _) _ _ s; exact wpAny_bind (wpAny_standAt (wpAny_bind (wpAny_mono h (fun it' s' h' => wpAny_pure (And.intro rfl h')) fun _ _ x => x))))
/-- a loop at any depth -/
theorem compLoopN (N : NodeIs prog w A node) (T : TurnEq node k it acc env t p ifs inner) (I : Nat → Shared → Prop)
    (turn : ∀ n s, I n s →
      wpAny (model prog w) A (pyNext it) (fun r s₁ => match r with
      | none => R (.ok .next) s₁
      | some v => wpAny (model prog w) A (letOwnedTupleGo t it v) (fun _ s₁' => wpAny (model prog w) A (assign t env v) (fun _ s₂ =>
          wpAny (model prog w) A (forIn ifs true fun c r => if r = true then do let ok ← isTrue c env (eval c env); pure (ForInStep.yield ok) else pure (ForInStep.yield r)) (fun ok s₃ =>
            if ok = true then ∀ (rest : Sem Fin) (Qr : Fin → Shared → Prop) (Er : Value → Shared → Prop), (∀ s', (∃ m, m < n ∧ I m s') → wpAny (model prog w) A rest Qr Er s') → wpAny (model prog w) A (inner rest) Qr Er s₃
            else ∃ m, m < n ∧ I m s₃) (fun _ _ => False) s₂) (fun _ _ => False) s₁') (fun _ _ => False) s₁) (fun _ _ => False) s)
    (n : Nat) (h : I n s) :
    codeAny (model prog w) A (.compLoop node k it acc env) R s := by
  refine codeAny_loop rfl I (fun n s hI => ?_) n h
  rw [N.u, N.d]
  refine wpAny_noted ?_
  rw [T]
  refine wpAny_bind (wpAny_standAt (wpAny_bind (wpAny_mono (turn n s hI) (fun r s₁ h₁ => ?_) fun _ _ h' => h'.elim)))
  cases r with
  | none => exact wpAny_pure h₁
  | some v =>
    refine wpAny_bind (wpAny_mono h₁ (fun _ s₁' h₁' => ?_) fun _ _ h' => h'.elim)
    refine wpAny_bind (wpAny_mono h₁' (fun _ s₂ h₂ => wpAny_bind (wpAny_mono h₂ (fun ok s₃ h₃ => ?_) fun _ _ h' => h'.elim)) fun _ _ h' => h'.elim)
    cases ok with
    | false => exact wpAny_pure ⟨rfl, h₃⟩
    | true => exact h₃ _ _ _ fun s' h' => wpAny_pure ⟨rfl, h'⟩
end
end L2
namespace L2
open PySem PySem.Spec PyProof.Rows
/-- what stands within a for: from slots and heap to a heap where Nx -/
abbrev BodyT := L2.St → Hp → (Hp → Prop) → Prop
def tForB (wi : TI) (g : TG) (tt : TT) (vs : List Nat) (body : BodyT) : BodyT := fun σ H Nx => wi σ H fun J H1 => ∃ W : Nat → Nat → Hp → Prop, (∃ m, W 0 m H1) ∧ ∀ i m H, W i m H →
  (J.stop i H ∧ Nx H) ∨ (J.go i H ∧ ∃ Nx1 : Hp → Prop, (∀ H', Nx1 H' → ∃ m', m' < m ∧ W (i + 1) m' H') ∧ ∀ x H', J.yld i H x H' → g x (wipe σ vs) H' fun σ2 H2 => wipe σ2 vs = wipe σ vs ∧ tt σ2 H2 fun b H3 => if b = true then body σ2 H3 Nx1 else Nx1 H3)
/-- inner, run in the block, goes from body to Nx -/
def RunsB (X : Cx) (inner : Sem Fin → Sem Fin) (vs : List Nat) (body : BodyT) : Prop :=
  ∀ (pins : List (Addr × Obj)) (s : Shared) (σ : L2.St) (H : Hp) (Nx : Hp → Prop), Inv X pins σ H s → body σ H Nx → ∀ (rest : Sem Fin) (Qr : Fin → Shared → Prop) (Er : Value → Shared → Prop),
    (∀ s' H', Inv X pins (wipe σ vs) H' s' → Nx H' → wpAny (model X.prog X.w) X.A rest Qr Er s') → wpAny (model X.prog X.w) X.A (inner rest) Qr Er s
section
variable {X : Cx} {s3 : Shared} {H3 : Hp} {scope : Scope} {ce : Env} {fp : List Addr} {node t : Expr} {k : Nat} {p : Pos} {ifs : List Expr} {inner : Sem Fin → Sem Fin} {acc : Value} {g : TG} {tt : TT} {vs vsIn : List Nat} {body : BodyT}
theorem wipe_in {σ σ2 : L2.St} (hw : wipe σ2 vs = wipe σ vs) (hv : ∀ i ∈ vsIn, i ∈ vs) : (wipe σ vs).length = (wipe σ2 vsIn).length ∧ ∀ (j : Nat) v, (wipe σ vs)[j]? = some (some v) → (wipe σ2 vsIn)[j]? = some (some v) := by
  refine ⟨by rw [← hw, wipe_length, wipe_length], fun j v e => ?_⟩
  rw [← hw] at e
  obtain ⟨e1, e2⟩ := wipe_some e
  rw [wipe_out fun z => e2 (hv j z)]
  exact e1
/-- the loop of one for in the block -/
theorem loopB (hc : X.calm = true) (N : NodeIs X.prog X.w X.A node) {it : Addr} (T : TurnEq node k (.ref it) acc ce t p ifs inner) (hv : ∀ i ∈ vsIn, i ∈ vs)
    (pg : PG (X.blk s3 H3 scope ce fp) t g) (pt : PTs (X.blk s3 H3 scope ce fp) ifs tt) (pb : RunsB (X.blk s3 H3 scope ce fp) inner vsIn body)
    {J : It} {fp1 : List Addr} {tn1 : Nat → Heap → Prop} {K : PySem.W.Frag} (hK : X.K = K) (T1 : Turn X.prog X.w K t J fp1 it tn1) {pins : List (Addr × Obj)} {σ : L2.St} {H : Hp} {s : Shared} (I : Inv (X.blk s3 H3 scope ce fp) pins (wipe σ vs) H s) (st : tn1 0 s.heap)
    (f1 : ∀ {H'}, (∀ b ∈ fp1, H' b = none) → ∀ b ∈ fp1, FpOk (X.blk s3 H3 scope ce fp) pins H' b) (n1 : ∀ b ∈ fp1, H b = none) {Nx : Hp → Prop} {W : Nat → Nat → Hp → Prop} {m : Nat} (w0 : W 0 m H)
    (turn : ∀ i m H, W i m H → (J.stop i H ∧ Nx H) ∨ (J.go i H ∧ ∃ Nx1 : Hp → Prop, (∀ H', Nx1 H' → ∃ m', m' < m ∧ W (i + 1) m' H') ∧ ∀ x H', J.yld i H x H' → g x (wipe σ vs) H' fun σ2 H2 => wipe σ2 vs = wipe σ vs ∧ tt σ2 H2 fun b H3 => if b = true then body σ2 H3 Nx1 else Nx1 H3)) :
    codeAny (model X.prog X.w) X.A (.compLoop node k (.ref it) acc ce) (fun r s' => match r with
      | .ok f => f = .next ∧ ∃ H', Inv (X.blk s3 H3 scope ce fp) pins (wipe σ vs) H' s' ∧ Nx H'
      | .error _ => False) s := by
  subst hK
  refine compLoopN N T (fun n s' => ∃ i H', Inv (X.blk s3 H3 scope ce fp) pins (wipe σ vs) H' s' ∧ tn1 i s'.heap ∧ (∀ b ∈ fp1, H' b = none) ∧ W i n H') ?_ m ⟨0, H, I, st, n1, w0⟩
  rintro n s5 ⟨i, H5, I5, st5, n5, w5⟩
  rcases turn i n H5 w5 with ⟨stop, qq⟩ | ⟨go, Nx1, hNx, step⟩
  · have td := T1.done (X.blk s3 H3 scope ce fp) rfl rfl rfl hc i pins s5 _ H5 (fun _ _ => False) I5 (f1 n5) st5 stop
    refine thnF td fun r s6 ⟨hr, I6⟩ => ?_
    subst hr
    exact ⟨rfl, H5, I6, qq⟩
  · have ti := T1.item (X.blk s3 H3 scope ce fp) rfl rfl rfl hc i pins s5 _ H5 (fun _ _ => False) I5 (f1 n5) st5 go
    refine thnF ti fun r s6 ⟨u, hr, h6⟩ => ?_
    subst hr
    refine thnF h6 fun _ s7 ⟨x, H7, I7, r7, y7, st7, n7⟩ => ?_
    have I7' := I7.pinned (f1 n7) (T1.obj _ _ st7)
    refine thnF (pg.run _ s7 _ H7 x u _ I7' r7 (step x H7 y7)) fun _ s8 ⟨σ8, H8, I8, hw8, q8⟩ => ?_
    refine thnF (pt.run _ s8 σ8 H8 _ I8 q8) fun b s9 ⟨H9, I9, q9⟩ => ?_
    have fin : ∀ {σ9 : L2.St} {s' : Shared} {H' : Hp}, Inv (X.blk s3 H3 scope ce fp) (pins ++ pinsAt fp1 s7.heap) σ9 H' s' → (wipe σ vs).length = σ9.length ∧ (∀ (j : Nat) v, (wipe σ vs)[j]? = some (some v) → σ9[j]? = some (some v)) → Nx1 H' →
        ∃ m, m < n ∧ ∃ i H', Inv (X.blk s3 H3 scope ce fp) pins (wipe σ vs) H' s' ∧ tn1 i s'.heap ∧ (∀ b ∈ fp1, H' b = none) ∧ W i m H' := fun {σ9 s' H'} I' hl nx => by
      obtain ⟨m', hm, w'⟩ := hNx H' nx
      have pin' : ∀ b ∈ fp1, ∀ o, s7.heap.get? b = some o → s'.heap.get? b = some o ∧ H' b = none := fun b hb o e =>
        let z := I'.pin (b, o) (List.mem_append_right _ (List.mem_append_right _ (mem_pinsAt hb e)))
        ⟨z.1, z.2.1⟩
      refine ⟨m', hm, i + 1, H', (I'.unpinned (pins := pins)).weak hl.1 hl.2, T1.keep _ _ _ st7 fun b hb o e => (pin' b hb o e).1, fun b hb => ?_, w'⟩
      obtain ⟨o, e, _⟩ := T1.obj _ _ st7 b hb
      exact (pin' b hb o e).2
    cases b with
    | false =>
      simp only [Bool.false_eq_true, if_false] at q9 ⊢
      exact fin I9 (wipe_in (vsIn := []) hw8 (fun _ z => by cases z)) q9
    | true =>
      simp only [if_true] at q9 ⊢
      intro rest Qr Er hr
      exact pb _ s9 σ8 H9 Nx1 I9 q9 rest Qr Er fun s' H' I' nx => hr s' (fin I' (wipe_in hw8 hv) nx)
/-- a for within a for -/
theorem runs_for {iter : Expr} {wi : TI} {g' : Comprehension} (hc : X.calm = true) (N : NodeIs X.prog X.w X.A node) (hg : (clausesOf node)[k]? = some g') (ha : g'.is_async = 0) (T : ∀ it, TurnEq node k (.ref it) acc ce t p ifs inner) (hv : ∀ i ∈ vsIn, i ∈ vs) (hs : ∀ x, foldedSetIterable iter ce x = pure x)
    (pi : PI (X.blk s3 H3 scope ce fp) t iter wi) (hce : (X.blk s3 H3 scope ce fp).env = ce) (pg : PG (X.blk s3 H3 scope ce fp) t g) (pt : PTs (X.blk s3 H3 scope ce fp) ifs tt) (pb : RunsB (X.blk s3 H3 scope ce fp) inner vsIn body) :
    RunsB (X.blk s3 H3 scope ce fp) (innerFor node k acc ce iter) vs (tForB wi g tt vs body) := by
  intro pins s σ H Nx I hb rest Qr Er hr
  unfold innerFor
  have r1 := pi.run pins s σ H _ I hb
  rw [hce] at r1
  refine wpAny_bind (thnF r1 fun xv s10 hx => ?_)
  refine wpAny_bind (wpAny_standAt (wpAny_bind (wpAny_of_eq (hs xv) (wpAny_bind (wpAny_holding (thnF hx fun itv s11 h11 => ?_))))))
  obtain ⟨it1, fp1, tn1, J1, H11, e1, I11, T1, st11, f11, W1, ⟨m1, w1⟩, turn1⟩ := h11
  subst e1
  have loop1 := loopB (X := X) (s3 := s3) (H3 := H3) (scope := scope) (ce := ce) (fp := fp) hc N (T it1) hv pg pt pb rfl T1 (I11.weak (wipe_length _ _) (fun j v e => (wipe_some e).1)) st11 (fun hn b hb => ⟨hn b hb, (f11 b hb).2⟩) (fun b hb => (f11 b hb).1) w1 turn1
  refine wpAny_bind (wpAny_runOwn ?_)
  show codeAny (model X.prog X.w) (X.A.mark none) _ _ _
  rw [Around.mark_none]
  refine codeAny_mono (compStartN N hg ha loop1 (T1.self X.A 0 _ _ _ st11 loop1)) fun r s' hr' => ?_
  cases r with
  | error e => exact hr'.elim
  | ok f =>
    obtain ⟨ef, H', I', nx⟩ := hr'
    subst ef
    first
      | exact hr s' H' I' nx
      | exact wpAny_bind (wpAny_pure (hr s' H' I' nx))
end
end L2
namespace L2
open PySem PySem.Spec PyProof.Rows
def tLcN (o0 : Addr → HO) (wi : TI) (g : TG) (tt : TT) (vs : List Nat) (body : Addr → BodyT) : TE := fun σ H Q => wi σ H fun J H1 => ∀ D, H1 D = none → ∃ W : Nat → Nat → Hp → Prop, (∃ m, W 0 m (upd H1 D (o0 D))) ∧ ∀ i m H, W i m H →
  (J.stop i H ∧ Q (.ref D) H) ∨ (J.go i H ∧ ∃ Nx : Hp → Prop, (∀ H', Nx H' → ∃ m', m' < m ∧ W (i + 1) m' H') ∧ ∀ x H', J.yld i H x H' → g x (wipe σ vs) H' fun σ2 H2 => wipe σ2 vs = wipe σ vs ∧ tt σ2 H2 fun b H3 => if b = true then body D σ2 H3 Nx else Nx H3)
section
variable {X : Cx}
theorem lcN_core {pins : List (Addr × Obj)} {s : Shared} {σ : L2.St} {H : Hp} {Q : VK} {node tg iter : Expr} {ifs : List Expr} {gs : List Comprehension} {scope : Scope} {own : List (Str × Nat)} {vsIn : List Nat} {pos' : Pos} {wi : TI} {g : TG} {tt : TT} {body : Addr → BodyT} {inner : Env → Addr → Sem Fin → Sem Fin} {use : Option (Value → Sem Unit)} {Qf : Value → Shared → Prop} {newAcc : Sem Value} {o0 : Addr → HO} {ob0 : Obj}
    (hc : X.calm = true) (hN : X.N.Nodup) (hcl : clausesOf node = ⟨tg, iter, ifs, 0⟩ :: gs) (Nd : NodeIs X.prog X.w X.A node) (Te : ∀ it D env, TurnEq node 0 (.ref it) (.ref D) env tg iter.pos ifs (inner env D)) (I : Inv X pins σ H s) (hi : PI X tg iter wi) (ok : BlkOk X.N X.env.scope scope own) (hv : ∀ i ∈ vsIn, i ∈ own.map (·.2))
    (hnew : ∀ {s : Shared} {Q : Value → Shared → Prop}, Q (.ref s.heap.objs.size) { s with heap := s.heap.push ob0 } → wpAny (model X.prog X.w) X.A newAcc Q X.xe s) (hob : ∀ (H : Hp) (h : Heap), ObjOk X.prog X.w H (h.push ob0) h.objs.size (o0 h.objs.size))
    (hg : ∀ (s : Shared) (H : Hp) (C : Addr) (cl : List (Str × Addr)) (fp : List Addr), PG (X.blk s H scope (compEnvC scope cl C X.env) fp) tg g) (ht : ∀ (s : Shared) (H : Hp) (C : Addr) (cl : List (Str × Addr)) (fp : List Addr), PTs (X.blk s H scope (compEnvC scope cl C X.env) fp) ifs tt)
    (hb : ∀ (s : Shared) (H : Hp) (C : Addr) (cl : List (Str × Addr)) (fp : List Addr) (D : Addr), RunsB (X.blk s H scope (compEnvC scope cl C X.env) fp) (inner (compEnvC scope cl C X.env) D) vsIn (body D)) (hs : ∀ x, foldedSetIterable iter X.env x = pure x)
    (h : tLcN o0 wi g tt (own.map (·.2)) body σ H Q)
    (hRR : ∀ D C s' m H', Inv X pins σ H' s' → Q (.ref D) H' → s'.heap.Ns C m → FpOk X pins H' C → compPost (model X.prog X.w) X.A X.xe use Qf (.ref D) C (.ok .next) s') :
    wpAny (model X.prog X.w) X.A (comprehension node scope X.env pos' newAcc false (eval iter X.env) use) Qf X.xe s := by
  have hfree : ∀ y ∈ scope.names, y.2 = .free → ∃ c, X.env.cells.lookup y.1 = some c := fun y hy e => by
    rcases ok.free y hy e with k | k
    · exact I.ok.has _ (.inl k)
    · exact I.ok.has _ (.inr k)
  refine wpAny_comprehension_free (use := use) hcl hs (closure_ok hfree) ok.kind (fun y hy e => by rw [ok.uniq y hy, e])
    (thn (hi.run pins s σ H _ I h) fun xv s1 hx => thn hx fun itv s2 h2 => ?_)
  obtain ⟨it, fp, tn, J, H2, e, I2, T, st2, f2, q⟩ := h2
  subst e
  refine hnew (newEnv_comp ?_)
  generalize hD : s2.heap.objs.size = D
  have hDn : H2 D = none := I2.hok.fresh (Nat.le_of_eq hD)
  obtain ⟨W, ⟨m0, w0⟩, turn⟩ := q D hDn
  generalize hs3 : ({ s2 with heap := s2.heap.push ob0 } : Shared) = s3
  have I3 : Inv X pins σ (upd H2 D (o0 D)) s3 := by
    rw [← hs3]
    refine I2.laid (t' := s2.toks) (fun b o e => Heap.get?_push_of_some _ e) (Nat.le_of_eq hD) ?_
    rw [← hD]
    exact hob _ _
  have h3 : s3.heap = s2.heap.push ob0 := by rw [← hs3]
  have sz : ∀ b ∈ fp, b < s2.heap.objs.size := fun b hb => by
    obtain ⟨o, e, _⟩ := T.obj _ _ st2 b hb
    exact Heap.lt_size e
  have f3 : ∀ b ∈ fp, FpOk X pins (upd H2 D (o0 D)) b ∧ b < s3.heap.objs.size := fun b hb => by
    have hlt := sz b hb
    refine ⟨⟨?_, (f2 b hb).2⟩, by rw [h3, Heap.size_push]; exact Nat.lt_succ_of_lt hlt⟩
    rw [upd_ne (by rw [← hD]; exact Nat.ne_of_lt hlt)]
    exact (f2 b hb).1
  have st3 : tn 0 s3.heap := T.keep _ _ _ st2 fun b _ o e => by rw [h3]; exact Heap.get?_push_of_some _ e
  have I4 := block_start I3 ok hN f3
  have pg := hg s3 (upd H2 D (o0 D)) s3.heap.objs.size (cellsFrom (s3.heap.objs.size + 1) scope.names (cloFrom X.env.cells scope.names [])) fp
  have pt := ht s3 (upd H2 D (o0 D)) s3.heap.objs.size (cellsFrom (s3.heap.objs.size + 1) scope.names (cloFrom X.env.cells scope.names [])) fp
  have pb := hb s3 (upd H2 D (o0 D)) s3.heap.objs.size (cellsFrom (s3.heap.objs.size + 1) scope.names (cloFrom X.env.cells scope.names [])) fp D
  show codeAny _ _ (.compStart node 0 (.ref it) (.ref D) (compEnvC scope (cellsFrom (s3.heap.objs.size + 1) scope.names (cloFrom X.env.cells scope.names [])) s3.heap.objs.size X.env)) (compPost (model X.prog X.w) X.A X.xe use Qf (.ref D) s3.heap.objs.size) { s3 with heap := pushCells (s3.heap.push { cls := .type "dict", data := .dict #[] }) scope.names }
  have nfp : ∀ b ∈ fp, (upd H2 D (o0 D)) b = none := fun b hb => (f3 b hb).1.1
  generalize hce : compEnvC scope (cellsFrom (s3.heap.objs.size + 1) scope.names (cloFrom X.env.cells scope.names [])) s3.heap.objs.size X.env = ce at I4 pg pt pb ⊢
  have cL : ce.locals = s3.heap.objs.size := by subst hce; rfl
  generalize hH3 : upd H2 D (o0 D) = H3 at I3 I4 pg pt pb w0 nfp f3
  generalize hs4 : ({ s3 with heap := pushCells (s3.heap.push { cls := .type "dict", data := .dict #[] }) scope.names } : Shared) = s4 at I4 ⊢
  have st4 : tn 0 s4.heap := T.keep _ _ _ st3 fun b _ o e => by rw [← hs4]; exact pushCells_keeps _ _ _ _ (Heap.get?_push_of_some _ e)
  have stat : ∀ {H' : Hp}, (∀ b ∈ fp, H' b = none) → ∀ b ∈ fp, FpOk (X.blk s3 H3 scope ce fp) [] H' b := fun {H'} hn b hb =>
    ⟨hn b hb, (I4.ok.exf b hb).1, I4.ok.exfs b hb, .inl hb, fun x c e => (I4.ok.exf b hb).2 x c e, fun p hp => absurd (show p ∈ ([] : List (Addr × Obj)) ++ [] from hp) (by simp)⟩
  have loop0 := loopB (X := X) (s3 := s3) (H3 := H3) (scope := scope) (ce := ce) (fp := fp) hc Nd (Te it D ce) hv pg pt pb rfl T I4 st4 stat nfp w0 turn
  have loop : codeAny (model X.prog X.w) X.A (.compLoop node 0 (.ref it) (.ref D) ce) (compPost (model X.prog X.w) X.A X.xe use Qf (.ref D) s3.heap.objs.size) s4 := by
    refine codeAny_mono loop0 fun r s6 hr => ?_
    cases r with
    | error e => exact hr.elim
    | ok f =>
      obtain ⟨ef, H5, I6, qq⟩ := hr
      subst ef
      have I7 : Inv X pins σ H5 s6 := I3.call' (ch := fp) I6.os I6.base I6.hok I6.bare fun b hb => ⟨(f3 b hb).1.2.2.2.1, (f3 b hb).1.2.1, (f3 b hb).1.2.2.2.2.1, (f3 b hb).1.2.2.2.2.2⟩
      have nC : H5 s3.heap.objs.size = none := by
        have z : H5 ce.locals = none := I6.free
        rw [cL] at z
        exact z
      obtain ⟨m, hn, _⟩ := I6.loc
      have hn : s6.heap.Ns ce.locals m := hn
      rw [cL] at hn
      exact hRR D s3.heap.objs.size s6 m H5 I7 qq hn (I3.fpOk (Nat.le_refl _) nC)
  exact compStartN Nd (by rw [hcl]; rfl) rfl loop (T.self X.A 0 _ _ _ st4 loop)
end
end L2
namespace PD
open PySem PySem.Spec PyProof.Rows L2
variable [LamTab]
abbrev MB := Ev → EH → Option (List D × EH)
def lpB (g : MG) (t : M Bool) (b : MB) (ε : Ev) : List D → EH → Option (List D × EH)
  | [], h => some ([], h)
  | d :: ds, h => match g d ε h with
    | none => none
    | some (ε1, h1) => match t ε1 h1 with
      | some (.ok true, h2) => (match b ε1 h2 with
        | some (ys, h3) => (match lpB g t b ε ds h3 with
          | some (zs, h4) => some (ys ++ zs, h4)
          | none => none)
        | none => none)
      | some (.ok false, h2) => lpB g t b ε ds h2
      | _ => none
def mbFor (mi : M (List D)) (g : MG) (t : M Bool) (vs : List Nat) (b : MB) : MB := fun ε h => match mi ε h with
  | some (.ok ds, h1) => lpB g t b (wipeE ε vs) ds h1
  | _ => none
/-- what stands within does what the mirror says, the list at p growing -/
def BodyR (K : PySem.W.Frag) (mg : Str → Option Value) (O : List V → HO) (Z : Nat) (p : Addr) (body : BodyT) (mb : MB) : Prop :=
  ∀ (c1 c2 : RC) (h2 hE : EH) (σ : L2.St) (ε : Ev) (acc ys : List D) (xs : List V) (Nx : Hp → Prop), c2.K = K → MgE c2 mg → Over c1 c2 p → SR c2 h2 → c2.H p = some (O xs) → Reps c2 acc xs → EnvR c2 ε σ → mb ε h2 = some (ys, hE) → (acc ++ ys).length ≤ Z →
    (∀ c3 xs3, c3.K = K → MgE c3 mg → Over c1 c3 p → SR c3 hE → c3.H p = some (O xs3) → Reps c3 (acc ++ ys) xs3 → c2.LeW c3 → (∀ ε' σ', EnvR c2 ε' σ' → EnvR c3 ε' σ') → Nx c3.H) → body σ c2.H Nx
theorem lp_of {K : PySem.W.Frag} {mg : Str → Option Value} {O : List V → HO} {Z : Nat} {p : Addr} {g : MG} {S vs : List Nat} {t : M Bool} {body : BodyT} {mb : MB} {σ : L2.St} {ε : Ev} {c1 cb c2 : RC} {J : It} {ds acc ys : List D} {xs : List V} {h2 hE : EH} {Nx : Hp → Prop} (hO : ∀ xs ps, O xs ≠ .tbl ps) (hS : ∀ i ∈ S, i ∈ vs) (hB : BodyR K mg O Z p body mb)
    (rJ : WalkR cb ds J) (hK2 : c2.K = K) (hm2 : MgE c2 mg) (l2 : cb.LeW c2) (o : Over c1 c2 p) (s : SR c2 h2) (hxs : c2.H p = some (O xs)) (racc : Reps c2 acc xs) (en : EnvR c2 (wipeE ε vs) (wipe σ vs)) (e2 : lpB g t mb (wipeE ε vs) ds h2 = some (ys, hE)) (hz : (acc ++ ys).length ≤ Z)
    (fin : ∀ c3 xs3, c3.K = K → MgE c3 mg → Over c1 c3 p → SR c3 hE → c3.H p = some (O xs3) → Reps c3 (acc ++ ys) xs3 → c2.LeW c3 → (∀ ε' σ', EnvR c2 ε' σ' → EnvR c3 ε' σ') → Nx c3.H) :
    ∃ W : Nat → Nat → Hp → Prop, (∃ m, W 0 m c2.H) ∧ ∀ i m H, W i m H →
      (J.stop i H ∧ Nx H) ∨ (J.go i H ∧ ∃ Nx1 : Hp → Prop, (∀ H', Nx1 H' → ∃ m', m' < m ∧ W (i + 1) m' H') ∧ ∀ x H', J.yld i H x H' → tG K mg S g x (wipe σ vs) H' fun σ2 H2 => wipe σ2 vs = wipe σ vs ∧ tT K mg W0 t σ2 H2 fun b H3 => if b = true then body σ2 H3 Nx1 else Nx1 H3) := by
  obtain ⟨G, Y, hw, hG, hY⟩ := rJ
  let Pv : Nat → Hp → Prop := fun i H => ∃ c3 h3 acc3 xs3 rest, c3.K = K ∧ MgE c3 mg ∧ c2.LeW c3 ∧ Over c1 c3 p ∧ c3.H = H ∧ SR c3 h3 ∧ H p = some (O xs3) ∧ Reps c3 acc3 xs3 ∧ (∀ ε' σ', EnvR c2 ε' σ' → EnvR c3 ε' σ') ∧ lpB g t mb (wipeE ε vs) (ds.drop i) h3 = some (rest, hE) ∧ acc3 ++ rest = acc ++ ys
  refine ⟨fun i m H => m = ds.length - i ∧ i ≤ ds.length ∧ Pv i H, ⟨ds.length, by simp, Nat.zero_le _, c2, h2, acc, xs, ys, hK2, hm2, RC.Le.toW (.refl c2), o, rfl, s, hxs, racc, fun _ _ e => e, e2, rfl⟩, ?_⟩
  rintro i m H ⟨rfl, hi, c3, h3, acc3, xs3, rest, hK3, hm3, lw3, o3, rfl, s3, hxs3, racc3, eu3, e3, ea3⟩
  by_cases hlt : i < ds.length
  · refine .inr ⟨hw.goes i _ hlt (hG c3 (l2.trans lw3)), Pv (i + 1), fun H' p' => ⟨ds.length - (i + 1), by omega, rfl, hlt, p'⟩, fun x H' y => ?_⟩
    obtain ⟨c4, rfl, l4, s4, d, hd, rd⟩ := hY i x c3 h3 H' (l2.trans lw3) s3 (hw.yields i _ x H' hlt (hG c3 (l2.trans lw3)) y)
    have hdr : ds.drop i = d :: ds.drop (i + 1) := by
      rw [List.drop_eq_getElem_cons hlt]
      have : ds[i] = d := by
        have := List.getElem?_eq_getElem hlt
        rw [this] at hd
        exact Option.some.inj hd
      rw [this]
    rw [hdr] at e3
    unfold lpB at e3
    have o4 := o3.step l4
    have p4 := (l4.keep p _ hxs3 (hO _) fun z => s3.nb p z o3.Bp).1
    have hK4 : c4.K = K := l4.K.trans hK3
    have hm4 : MgE c4 mg := l4.mg.trans hm3
    cases q2 : g d (wipeE ε vs) h3 with
    | none => rw [q2] at e3; cases e3
    | some z =>
      obtain ⟨ε5, h5⟩ := z
      rw [q2] at e3
      dsimp only at e3
      refine ⟨c4, d, wipeE ε vs, h3, ε5, h5, hK4, hm4, rfl, s4, rd, (eu3 _ _ en).le l4, q2, fun c5 σ5 l5 s5 en5 sv => ⟨wipe_save sv hS, ?_⟩⟩
      have o5 := o4.step l5
      have p5 := (l5.keep p _ p4 (hO _) fun z => s4.nb p z o4.Bp).1
      have hK5 : c5.K = K := l5.K.trans hK4
      have hm5 : MgE c5 mg := l5.mg.trans hm4
      cases q3 : t ε5 h5 with
      | none => rw [q3] at e3; cases e3
      | some z =>
        obtain ⟨rb, h6⟩ := z
        rw [q3] at e3
        cases rb with
        | ex x5 => cases e3
        | ok b =>
          refine ⟨c5, ε5, h5, .ok b, h6, hK5, hm5, rfl, s5, en5, q3, Px.ok, fun b' eb c6 b'' l6 s6 rb => ?_⟩
          cases eb
          subst rb
          have o6 := o5.step l6
          have p6 := (l6.keep p _ p5 (hO _) fun z => s5.nb p z o5.Bp).1
          have racc6 := ((racc3.le l4).le l5).le l6
          have hK6 : c6.K = K := l6.K.trans hK5
          have hm6 : MgE c6 mg := l6.mg.trans hm5
          have lw6 : c2.LeW c6 := lw3.trans ((l4.trans l5).trans l6).toW
          have eu6 : ∀ ε' σ', EnvR c2 ε' σ' → EnvR c6 ε' σ' := fun ε' σ' e => (((eu3 _ _ e).le l4).le l5).le l6
          cases b with
          | false =>
            rw [if_neg Bool.false_ne_true]
            exact ⟨c6, h6, acc3, xs3, rest, hK6, hm6, lw6, o6, rfl, s6, p6, racc6, eu6, e3, ea3⟩
          | true =>
            rw [if_pos rfl]
            dsimp only at e3
            cases q4 : mb ε5 h6 with
            | none => rw [q4] at e3; cases e3
            | some z =>
              obtain ⟨y1, h7⟩ := z
              rw [q4] at e3
              dsimp only at e3
              cases q5 : lpB g t mb (wipeE ε vs) (ds.drop (i + 1)) h7 with
              | none => rw [q5] at e3; cases e3
              | some z =>
                obtain ⟨zs, h8⟩ := z
                rw [q5] at e3
                cases e3
                refine hB c1 c6 h6 h7 σ5 ε5 acc3 y1 xs3 _ hK6 hm6 o6 s6 p6 racc6 (en5.le l6) q4 ?_ fun c7 xs7 hK7 hm7 o7 s7 p7 racc7 lw7 eu7 => ?_
                · have := congrArg List.length ea3
                  simp only [List.length_append] at this hz ⊢
                  omega
                · exact ⟨c7, h7, acc3 ++ y1, xs7, zs, hK7, hm7, lw6.trans lw7, o7, rfl, s7, p7, racc7, fun _ _ e => eu7 _ _ (eu6 _ _ e), q5, by rw [List.append_assoc]; exact ea3⟩
  · have ei : i = ds.length := by omega
    subst ei
    refine .inl ⟨hw.stops _ (hG c3 (l2.trans lw3)), ?_⟩
    rw [List.drop_length] at e3
    cases e3
    rw [List.append_nil] at ea3
    subst ea3
    exact fin c3 xs3 hK3 hm3 o3 s3 hxs3 racc3 lw3 eu3
theorem bodyR_for {K : PySem.W.Frag} {mg : Str → Option Value} {O : List V → HO} {Z : Nat} {p : Addr} {mi : M (List D)} {g : MG} {S vs : List Nat} {t : M Bool} {body : BodyT} {mb : MB} (hO : ∀ xs ps, O xs ≠ .tbl ps) (hS : ∀ i ∈ S, i ∈ vs) (hB : BodyR K mg O Z p body mb) :
    BodyR K mg O Z p (tForB (tI K mg W0 mi) (tG K mg S g) (tT K mg W0 t) vs body) (mbFor mi g t vs mb) := by
  intro c1 c2 h2 hE σ ε acc ys xs Nx hK hm o s hxs racc en e2 hz next
  unfold mbFor at e2
  cases q4 : mi ε h2 with
  | none => rw [q4] at e2; cases e2
  | some z =>
    obtain ⟨ry, h6⟩ := z
    rw [q4] at e2
    cases ry with
    | ex x6 => cases e2
    | ok ds =>
      dsimp only at e2
      refine ⟨c2, ε, h2, .ok ds, h6, hK, hm, rfl, s, en, q4, Px.ok, fun y' ey c6 J l6 s6 rJ => ?_⟩
      cases ey
      have p6 := (l6.keep p _ hxs (hO _) fun z => s.nb p z o.Bp).1
      exact lp_of hO hS hB rJ (l6.K.trans hK) (l6.mg.trans hm) (RC.Le.toW (.refl c6)) (o.step l6) s6 p6 (racc.le l6) (wipe_envR vs (en.le l6)) e2 hz fun c3 xs3 hK3 hm3 o3 s3 p3 r3 lw3 eu3 => next c3 xs3 hK3 hm3 o3 s3 p3 r3 (l6.toW.trans lw3) fun _ _ e => eu3 _ _ (e.le l6)
end PD
namespace PD
open PySem PySem.Spec PyProof.Rows L2
variable [LamTab]
/-- the set of texts at a, as a tracked thing -/
def SetTO (P : Program) (w : World) (a : Addr) (l : List Str) : HO := .ext fun h => ∃ D, TxSet P w h a D l
section
variable {P : Program} {w : World} {A : Around} {E : Value → Shared → Prop} {s : Shared} {a : Addr} {l : List Str}
theorem setTO_new {H : Hp} {h : Heap} {D : PySem.Froz.SD} (S : TxSet P w h a D l) : ObjOk P w H h a (SetTO P w a l) :=
  ⟨⟨D, S⟩, ⟨_, S.ob⟩, fun h1 h2 p k => let ⟨D, S⟩ := p; ⟨D, S.move fun o q => k o q⟩⟩
/-- found.add(k) -/
theorem txs_add {D : PySem.Froz.SD} {k : Str} {u : Tok} {Q : Value → Shared → Prop} (S : TxSet P w s.heap a D l) (hb : l.length + 1 < scanBound)
    (hQ : ∀ h' D', (∀ c, c ≠ a → h'.get? c = s.heap.get? c) → TxSet P w h' a D' (addT l k) → Q .none { s with heap := h', toks := s.toks + 1 }) : wpAny (model P w) A (call (.builtin "set.add") [.ref a, .str k u]) Q E s := by
  have hT : s.TypeIs (.ref a) "set" := ⟨_, S.ob, rfl⟩
  refine wpAny_call_entry F.slot_set_add hT F.entry_set_add ?_ (F.args_set_add_2 _ _)
  unfold Builtin.«set.add» Builtin.Frozenset.oneOther
  simp only [List.isEmpty_nil, bind_assoc]
  unfold Builtin.Frozenset.addrOf setAdd
  refine wpAny_bind (wpAny_pure ?_)
  try dsimp only
  refine wpAny_bind (wpAny_pure ?_)
  try dsimp only
  refine wpAny_bind ?_
  refine wpAny_holding ?_
  refine wpAny_bind ((strKind P w).pyHash (k := k) (strKind_is _ _ _ _) ?_)
  refine add_txt (s := { s with toks := s.toks + 1 }) S hb fun b h' D' keep S2 => ?_
  show wpAny _ _ (ret Value.none) _ _ _
  exact wpAny_pure ⟨_, rfl, hQ h' D' keep S2⟩
end
section
variable {X : Cx}
theorem setTO_get {pins : List (Addr × Obj)} {σ : L2.St} {H : Hp} {s : Shared} {a : Addr} {l : List Str} (I : Inv X pins σ H s) (ha : H a = some (SetTO X.prog X.w a l)) : ∃ D, TxSet X.prog X.w s.heap a D l := (I.hok a _ ha).1
theorem addT_ok {pins : List (Addr × Obj)} {σ : L2.St} {H : Hp} {s : Shared} {E : Value → Shared → Prop} {D : Addr} {l : List Str} {k : Str} {u : Tok} {Q : Value → Shared → Prop} (I : Inv X pins σ H s) (hD : H D = some (SetTO X.prog X.w D l)) (room : l.length + 1 < scanBound)
    (h : ∀ s', Inv X pins σ (upd H D (SetTO X.prog X.w D (addT l k))) s' → Q .none s') : wpAny (model X.prog X.w) X.A (call (.builtin "set.add") [.ref D, .str k u]) Q E s := by
  obtain ⟨B, S⟩ := setTO_get I hD
  refine txs_add S room fun h' D' keep S2 => ?_
  exact h _ (I.write (e := D) (t' := s.toks + 1) (by rw [hD]; trivial) (.inl rfl) (fun b u hb hu => (keep b hb).trans hu) ⟨_, S2.ob⟩ (setTO_new S2))
/-- the end: one more in the set -/
def tAdd (P : Program) (w : World) (te : TE) (D : Addr) : BodyT := fun σ H Nx => te σ H fun y H4 => ∃ (x : Str) (l : List Str), y = .str x ∧ H4 D = some (SetTO P w D l) ∧ l.length + 1 < scanBound ∧ Nx (upd H4 D (SetTO P w D (addT l x)))
variable {s3 : Shared} {H3 : Hp} {scope : Scope} {ce : Env} {fp : List Addr}
theorem runs_add {elt : Expr} {te : TE} {D : Addr} (hce : (X.blk s3 H3 scope ce fp).env = ce) (pe : PE (X.blk s3 H3 scope ce fp) elt te) : RunsB (X.blk s3 H3 scope ce fp) (innerAdd elt (.ref D) ce) [] (tAdd X.prog X.w te D) := by
  intro pins s σ H Nx I hb rest Qr Er hr
  unfold innerAdd
  have r1 := pe.run pins s σ H _ I hb
  rw [hce] at r1
  refine wpAny_bind (wpAny_bind (thnF r1 fun z s17 ⟨yv, H17, I17, r17, x, l, ey, hD17, hz17, nx⟩ => wpAny_bind (wpAny_standAt (wpAny_bind ?_))))
  subst ey
  obtain ⟨u, rfl⟩ := r17
  exact addT_ok (X := X.blk s3 H3 scope ce fp) I17 hD17 hz17 fun s18 I18 => wpAny_pure (hr s18 _ I18 nx)
/-- the set itself -/
theorem pe_scN {elt tg iter : Expr} {ifs : List Expr} {gs : List Comprehension} {own : List (Str × Nat)} {vsIn : List Nat} {pos : Pos} {wi : TI} {g : TG} {tt : TT} {body : Addr → BodyT} {inner : Env → Addr → Sem PySem.Fin → Sem PySem.Fin}
    (hc : X.calm = true) (hN : X.N.Nodup) (Te : ∀ it D env, TurnEq (.SetComp elt (⟨tg, iter, ifs, 0⟩ :: gs) scope pos) 0 (.ref it) (.ref D) env tg iter.pos ifs (inner env D)) (hi : PI X tg iter wi) (ok : BlkOk X.N X.env.scope scope own) (hv : ∀ i ∈ vsIn, i ∈ own.map (·.2))
    (hg : ∀ (s : Shared) (H : Hp) (C : Addr) (cl : List (Str × Addr)) (fp : List Addr), PG (X.blk s H scope (compEnvC scope cl C X.env) fp) tg g) (ht : ∀ (s : Shared) (H : Hp) (C : Addr) (cl : List (Str × Addr)) (fp : List Addr), PTs (X.blk s H scope (compEnvC scope cl C X.env) fp) ifs tt)
    (hb : ∀ (s : Shared) (H : Hp) (C : Addr) (cl : List (Str × Addr)) (fp : List Addr) (D : Addr), RunsB (X.blk s H scope (compEnvC scope cl C X.env) fp) (inner (compEnvC scope cl C X.env) D) vsIn (body D)) (hs : ∀ x, foldedSetIterable iter X.env x = pure x := by intro _; rfl) :
    PE X (.SetComp elt (⟨tg, iter, ifs, 0⟩ :: gs) scope pos) (tLcN (fun D => SetTO X.prog X.w D []) wi g tt (own.map (·.2)) body) := by
  refine ⟨fun pins s σ H Q I h => ?_⟩
  rw [PpSet.eval_SetComp]
  refine lcN_core (o0 := fun D => SetTO X.prog X.w D []) (ob0 := newS X.w) hc hN rfl node_sc Te I hi ok hv (fun {s Q} h => PpSet.newSet_ok h) (fun H h => setTO_new (newS_ok (Heap.get?_push_size _ rfl))) hg ht hb hs h fun D C s' m H' I' q hn f => ⟨m, hn, fun h'' sb => ?_⟩
  obtain ⟨f0, f1, f2, f3, f4, f5⟩ := f
  exact ⟨.ref D, H', I'.turned (t' := s'.toks) (fun b o hb e => (sb.2 b hb).trans e) f0 f1 f3 f4 f5, rfl, q⟩
end
end PD
namespace PD
open PySem PySem.Spec PyProof.Rows L2
variable [LamTab]
def strsV : List V → List Str
  | [] => []
  | .str x :: r => x :: strsV r
  | _ :: r => strsV r
theorem strsV_app : ∀ (xs : List V) (x : Str), strsV (xs ++ [.str x]) = strsV xs ++ [x]
  | [], x => rfl
  | v :: r, x => by
    have ih := strsV_app r x
    cases v <;> first
      | (show _ :: strsV (r ++ [.str x]) = _; rw [ih]; rfl)
      | exact ih
theorem strsV_len : ∀ xs : List V, (strsV xs).length ≤ xs.length
  | [] => Nat.le_refl _
  | v :: r => by
    have ih := strsV_len r
    cases v <;> first
      | exact Nat.succ_le_succ ih
      | exact Nat.le_succ_of_le ih
theorem strsV_map : ∀ xs : List Str, strsV (xs.map V.str) = xs
  | [] => rfl
  | x :: r => congrArg (x :: ·) (strsV_map r)
def mbS (e : M D) : MB := fun ε h => match e ε h with
  | some (.ok (.str z), h1) => some ([.str z], h1)
  | _ => none
theorem lew_putBG {c : RC} {h : EH} {p : Addr} {o o' : HO} (s : SR c h) (hB : c.B p) (hp : c.H p = some o) (g1 : ∀ xs, o ≠ .tup xs) (g2 : ∀ a b, o ≠ .frz a b) : c.LeW (c.put p o') := by
  refine ⟨rfl, rfl, fun _ z => .inl z, fun _ _ z => z, fun a o e => ?_, fun a o e _ nb n => ⟨(upd_ne (show a ≠ p from fun z => nb (z ▸ hB))).trans e, n⟩, fun a zs e => ?_, fun a w u e => ?_⟩
  · by_cases z : a = p
    · exact ⟨_, by rw [z]; exact upd_same⟩
    · exact ⟨o, (upd_ne z).trans e⟩
  · have ne : a ≠ p := fun z => by
      subst z
      rcases e with e | ⟨u, e⟩ <;> rw [hp] at e
      · exact g1 _ (Option.some.inj e)
      · exact g2 _ _ (Option.some.inj e)
    rcases e with e | ⟨u, e⟩
    · exact .inl ((upd_ne ne).trans e)
    · exact .inr ⟨u, (upd_ne ne).trans e⟩
  · exact (upd_ne (show a ≠ p from fun z => by rw [z, hp] at e; exact g2 _ _ (Option.some.inj e))).trans e
theorem setTO_code {P : Program} {w : World} {a : Addr} {l : List Str} {q : Str} : SetTO P w a l ≠ LamX.CodeO a q := fun z => by
  have z := HO.ext.inj z
  let oc : Obj := { cls := .none, data := .fields #[.none, .str q 0] }
  have hg : (⟨Array.replicate (a + 1) oc, {}⟩ : Heap).get? a = some oc := by
    unfold Heap.get?
    have e : (Array.replicate (a + 1) oc)[a]? = some oc := by
      rw [Array.getElem?_replicate, if_pos (Nat.lt_succ_self a)]
    show (match (Array.replicate (a + 1) oc)[a]? with
      | some ⟨_, _, .freed, _⟩ => none
      | o => o) = _
    rw [e]
  have c := congrFun z (⟨Array.replicate (a + 1) oc, {}⟩ : Heap)
  have c2 : ∃ (oc' : Obj) (vs : Array Value) (t : Tok), (⟨Array.replicate (a + 1) oc, {}⟩ : Heap).get? a = some oc' ∧ oc'.data = .fields vs ∧ vs[1]? = some (.str q t) := ⟨oc, _, 0, hg, rfl, rfl⟩
  obtain ⟨D, S⟩ := (iff_of_eq c).mpr c2
  have e := S.ob
  rw [hg] at e
  have := congrArg Obj.data (Option.some.inj e)
  cases this
theorem noTab_setTO {H : Hp} {P : Program} {w : World} {a : Addr} {l : List Str} (h : H a = some (SetTO P w a l)) : NoTab H a := ⟨fun ps z => (by rw [h] at z; cases Option.some.inj z), fun q z => (by rw [h] at z; exact setTO_code (Option.some.inj z))⟩
theorem foldT_len : ∀ (xs l : List Str), (xs.foldl addT l).length ≤ l.length + xs.length := fun xs l => by
  have := fold_len xs l
  omega
theorem bodyR_add {P : Program} {w : World} {K : PySem.W.Frag} {mg : Str → Option Value} {p : Addr} {el : M D} : BodyR K mg (fun xs => SetTO P w p ((strsV xs).foldl addT [])) (scanBound - 1) p (tAdd P w (tE K mg W0 el) p) (mbS el) := by
  intro c1 c2 h2 hE σ ε acc ys xs Nx hK hm o s hxs racc en e2 hz next
  unfold mbS at e2
  cases q4 : el ε h2 with
  | none => rw [q4] at e2; cases e2
  | some z =>
    obtain ⟨ry, h6⟩ := z
    rw [q4] at e2
    cases ry with
    | ex x6 => cases e2
    | ok y0 =>
      obtain ⟨z0, rfl⟩ : ∃ z0, y0 = .str z0 := by cases y0 <;> first | exact ⟨_, rfl⟩ | cases e2
      cases e2
      refine ⟨c2, ε, h2, .ok (.str z0), _, hK, hm, rfl, s, en, q4, Px.ok, fun y' ey c6 yv l6 s6 ry => ?_⟩
      cases ey
      have ry0 := ry
      cases ry
      have o6 := o.step l6
      have p6 := (l6.keep p _ hxs (fun _ z => by cases z) fun z => s.nb p z o.Bp).1
      have hlen : ((strsV xs).foldl addT []).length + 1 < scanBound := by
        have a1 := foldT_len (strsV xs) []
        have a2 := strsV_len xs
        have a3 := racc.length
        simp only [List.length_append, List.length_cons, List.length_nil] at hz a1
        have : 2 < scanBound := by decide
        omega
      refine ⟨_, _, rfl, p6, hlen, ?_⟩
      have g1 : ∀ zs, SetTO P w p ((strsV xs).foldl addT []) ≠ .tup zs := fun _ z => by cases z
      have g2 : ∀ a b, SetTO P w p ((strsV xs).foldl addT []) ≠ .frz a b := fun _ _ z => by cases z
      have g3 : NoTab c6.H p := noTab_setTO p6
      have eo : SetTO P w p (addT ((strsV xs).foldl addT []) (toS z0)) = SetTO P w p ((strsV (xs ++ [.str (toS z0)])).foldl addT []) := by
        rw [strsV_app, List.foldl_append]; rfl
      obtain ⟨o7, s7⟩ := o6.putBG (b' := SetTO P w p (addT ((strsV xs).foldl addT []) (toS z0))) s6 p6 g1 g2 g3
      exact next (c6.put p (SetTO P w p (addT ((strsV xs).foldl addT []) (toS z0)))) (xs ++ [.str (toS z0)]) (l6.K.trans hK) (MgE.put g3 (l6.mg.trans hm)) o7 s7 (by show upd c6.H p _ p = some (SetTO P w p ((strsV (xs ++ [.str (toS z0)])).foldl addT [])); rw [← eo]; exact upd_same) (((racc.le l6).append (.cons ry0 .nil)).putBG o6.Bp p6 g1 g2) (l6.toW.trans (lew_putBG s6 o6.Bp p6 g1 g2)) (fun _ _ en' => (en'.le l6).putBG o6.Bp p6 g1 g2)
theorem asTs_len : ∀ {ds : List D} {zs : List (List Nat)}, asTs ds = some zs → ds.length = zs.length := fun {ds zs} e => by
  induction ds generalizing zs with
  | nil => cases e; rfl
  | cons d ds ih =>
    cases d <;> first
      | (have e2 : (asTs ds).map (_ :: ·) = some zs := e
         obtain ⟨w, h1, h2⟩ := Option.map_eq_some_iff.mp e2
         subst h2
         exact congrArg (· + 1) (ih h1))
      | exact nomatch e
/-- what sorted is to have -/
def tSrt (P : Program) (w : World) (Q : VK) : VK := fun v H1 => ∃ D zs, v = .ref D ∧ H1 D = some (SetTO P w D (((zs : List (List Nat)).map toS).foldl addT [])) ∧ zs.length + 1 < scanBound ∧ ∀ p, H1 p = none → Q (.ref p) (upd H1 p (.lst (((srtU zs).map toS).map V.str)))
end PD
namespace PD
open PySem PySem.Spec PyProof.Rows L2 PX
variable [LamTab]
section
variable {X : Cx} {W : WX}
theorem eqG_run {f : Addr} {fd : FuncData} {ps : List Str} {k : Nat} {F : PF} {A : Around} {pins : List (Addr × Obj)} {s : Shared} {σ : L2.St} {H : Hp} {a : Addr} {y : V} {u : Value} {Q : VK} {E : Value → Shared → Prop} {Q2 : Value → Shared → Prop} (Fo : FnOk X.prog X.w X.K X.mg X.base (L2.CX X.prog X.w) k f fd ps (SpP X.K X.mg 2 F)) (hb : Binds X.K fd ps []) (hl : ps.length = 2) (hr : Room k A) (hfr : A.frames = X.A.frames) (I : Inv X pins σ H s) (ry : RelV y u)
    (sp : SpP X.K X.mg 2 F [.ref a, y] H (fun v H' => ∃ r, v = .bl r ∧ Q (.bl r) H') fun _ _ _ => False)
    (fin : ∀ (r : Bool) H' s', Inv X pins σ H' s' → Q (.bl r) H' → Q2 (.bool r) s') : wpAny (model X.prog X.w) A (call (.ref f) [.ref a, u]) Q2 E s := by
  have e0 : Env0 X.prog X.w X.K X.mg X.base A X.stack s H := by
    have e := I.env0
    exact ⟨by rw [hfr]; exact e.frames, e.mod, e.bs, e.bsz, e.funs, e.frf, e.hok, e.bare⟩
  refine wpAny_call (codeAny_mono (Fo.run A X.stack s H ⟨[.ref a, u], []⟩ [.ref a, u] [.ref a, y] _ _ hr e0 (by
    have := hb s [.ref a, u] I.kIn (by rw [hl]; rfl)
    simpa using this) (.cons rfl (.cons ry .nil)) sp) fun r s' hq => ?_)
  cases r with
  | error e => exact (cx_never hq).elim
  | ok fl =>
    cases fl with
    | ret w =>
      obtain ⟨z, H', I', rz, r, ez, q⟩ := I.after hq
      subst ez
      obtain rfl : w = Value.bool r := rz
      exact fin r H' s' I' q
    | next => exact False.elim hq
    | brk => exact False.elim hq
    | cont => exact False.elim hq
end
end PD
namespace L2
open PySem PySem.Spec PyProof.Rows
end L2
namespace PD
open PySem PySem.Spec PyProof.Rows L2 PX LamX
end PD
namespace PD
open PySem PySem.Spec PyProof.Rows L2 PX
variable [LamTab]
def dInO (C : Str) (F : PF) (h : EH) (x y : D) : Option D := match insD h y with
  | some (C1, _) => if (decide (C1 = C) && noRef.go [y, x]) = true then (match F [y, x] with
    | some (.ok (.bl r)) => some (.bl r)
    | _ => none) else none
  | none => none
def rInO (K : PySem.W.Frag) (mg : Str → Option Value) (Ca : Addr) (F : PF) : R2 := fun x y H Q => ∃ (a dx : Addr) (fs : List (Str × V)), y = .ref a ∧ H a = some (.ins Ca dx fs) ∧ SpP K mg 2 F [y, x] H (fun v H' => ∃ r, v = .bl r ∧ Q (.bl r) H') fun _ _ _ => False
section
variable {X : Cx} {W : WX}
theorem op_inO {Ca f : Addr} {fd : FuncData} {ps : List Str} {k : Nat} {F : PF} (Fo : FnOk X.prog X.w X.K X.mg X.base (L2.CX X.prog X.w) k f fd ps (SpP X.K X.mg 2 F)) (hb : Binds X.K fd ps []) (hl : ps.length = 2) (Me : Meth X.K Ca "__contains__" f) (hr : Room k X.A) : OpR X (compareOp .In) (rInO X.K X.mg Ca F) := by
  intro pins s σ H x y v u Q I rx ry hq
  obtain ⟨a, dx, fs, rfl, ha, sp⟩ := hq
  obtain rfl : u = Value.ref a := ry
  obtain ⟨mA, J, _⟩ := ins_get I.hok ha
  obtain ⟨od, J, _⟩ := J.look
  obtain ⟨m, hF⟩ := I.fr
  refine PySem.W.in_K hF I.ok.mod.kin J Me.at_ Me.fn ?_
  refine eqG_run (Q := Q) Fo hb hl hr rfl I rx sp fun r H' s' I' q => ?_
  exact wpAny_pure ⟨.bl r, H', I', rfl, q⟩
theorem inO_ops {C : Str} {Ca : Addr} {F : PF} (hCa : X.mg C = some (.ref Ca)) : OpS X.K X.mg (rInO X.K X.mg Ca F) (dInO C F) := by
  intro c h x y dx dy d Q hK hm sr rx ry e go
  unfold dInO at e
  cases q2 : insD h dy with
  | none => rw [q2] at e; cases e
  | some z2 =>
    obtain ⟨C1, fs1⟩ := z2
    rw [q2] at e
    have e2 : (if (decide (C1 = C) && noRef.go [dy, dx]) = true then (match F [dy, dx] with
      | some (.ok (.bl r)) => some (D.bl r)
      | _ => none) else none) = some d := e
    clear e
    by_cases hc : (decide (C1 = C) && noRef.go [dy, dx]) = true
    · rw [if_pos hc] at e2
      rw [Bool.and_eq_true, decide_eq_true_eq] at hc
      obtain ⟨rfl, nr⟩ := hc
      obtain ⟨a, Ca1, dx1, vs1, rfl, m1, m2, _⟩ := insD_ok sr ry q2
      rw [hm.mge, hCa] at m1
      cases m1
      cases q : F [dy, dx] with
      | none => rw [q] at e2; cases e2
      | some r =>
        rw [q] at e2
        cases r with
        | ex x => cases e2
        | ok dd =>
          cases dd with
          | bl r =>
            cases e2
            refine ⟨a, dx1, vs1, rfl, m2, spP_of hK hm sr (.cons ry (.cons rx .nil)) rfl nr q (fun d' ed c' v l s rd => ?_) fun x ex => nomatch ex⟩
            cases ed
            cases rd
            exact ⟨r, rfl, go c' _ l s (.bl _)⟩
          | _ => cases e2
    · rw [if_neg hc] at e2; cases e2
theorem re_inO {C : Str} {a b : Expr} {ma mb : M D} {pos : Pos} {k j : Nat} {F : PF} (G : MetP X.prog X.w X.K X.mg X.base C "__contains__" k 2 F) (hr : Room j X.A) (ha : RE X W a ma) (hb : RE X W b mb) (hk : k ≤ j := by decide) (hmk : behindInMarks .In b = false := by rfl) :
    RE X W (.Compare a [.In] [b] pos) (mBin (dInO C F) ma mb) := by
  obtain ⟨Ca, f, fd, ps, h1, h2, h3, h4, h5, h6⟩ := G.ex
  exact re_cmp (op_inO h6 h4 h5 h3 (hr.mono hk)) (inO_ops h1) ha hb hmk
end
end PD
namespace PD
open PySem PySem.Spec PyProof.Rows L2 PX
end PD
namespace L2
open PySem PySem.Spec PyProof.Rows GenW
end L2
namespace L2
open PySem PySem.Spec PyProof.Rows GenW
/-- between two turns the consumer puts v behind the list at S and writes its block at C -/
structure SleptC (S C : Addr) (v : Value) (s s' : Shared) : Prop where
  os : s'.os = s.os
  bare : AllBare s'.gens
  keep : ∀ b o, b ≠ S → b ≠ C → s.heap.get? b = some o → s'.heap.get? b = some o
  own : ∀ acc c, s.heap.get? S = some (lstObj acc c) → ∃ c', s'.heap.get? S = some (lstObj (acc.push v) c')
  blk : ∃ o, s'.heap.get? C = some o ∧ ∀ u, o.data ≠ .cell u
def GIC (X : Cx) (S C : Addr) (oC : Obj) (ys : List V) (σ : St) (H : Hp) (s : Shared) : Prop :=
  ∃ (acc : Array Value) (c : Nat), Vals ys acc.toList ∧ Inv X [(S, lstObj acc c), (C, oC)] σ H s
section
variable {X : Cx} {S C : Addr} {oC : Obj} {ys : List V} {σ : St} {H : Hp} {s s' : Shared}
theorem GIC.at (h : GIC X S C oC ys σ H s) : H S = none ∧ H C = none ∧ s.heap.get? C = some oC ∧ ∃ (acc : Array Value) (c : Nat), Vals ys acc.toList ∧ s.heap.get? S = some (lstObj acc c) := by
  obtain ⟨acc, c, r, I⟩ := h
  obtain ⟨h1, h2, _⟩ := I.pin (S, lstObj acc c) (List.mem_append_right _ List.mem_cons_self)
  obtain ⟨h3, h4, _⟩ := I.pin (C, oC) (List.mem_append_right _ (List.mem_cons_of_mem _ List.mem_cons_self))
  exact ⟨h2, h4, h3, acc, c, r, h1⟩
end
end L2
namespace L2
open PySem PySem.Spec PyProof.Rows GenW
end L2
namespace L2
open PySem PySem.Spec PyProof.Rows GenW
theorem SleptC.push {S C : Addr} {v : Value} {s : Shared} {acc : Array Value} {c : Nat} {G : Array GenState} {oC : Obj} (hne : S ≠ C) (hS : s.heap.get? S = some (lstObj acc c)) (hG : AllBare G) (hC : s.heap.get? C = some oC) (hd : ∀ u, oC.data ≠ .cell u) :
    SleptC S C v s { s with gens := G, heap := s.heap.update S (Obj.mapSeq (·.push v)) } where
  os := rfl
  bare := hG
  keep := fun b o hb _ e => (Heap.get?_update_other _ _ (Ne.symm hb)).trans e
  own := fun acc' c' e => by
    rw [hS] at e
    cases e
    exact ⟨_, Heap.get?_update_self _ hS rfl⟩
  blk := ⟨oC, (Heap.get?_update_other _ _ hne).trans hC, hd⟩
end L2
namespace PD
open PySem PySem.Spec PyProof.Rows L2 PX LamX
end PD
namespace L2
open PySem PySem.Spec PyProof.Rows PD
end L2
namespace PD
open PySem PySem.Spec PyProof.Rows L2
end PD
namespace PD
open PySem PySem.Spec PyProof.Rows L2 PX LamX
end PD
namespace L2
open PySem PySem.Spec PyProof.Rows
end L2
namespace PD
open PySem PySem.Spec PyProof.Rows L2
end PD
namespace PD
open PySem PySem.Spec PyProof.Rows L2
end PD
namespace PD
open PySem PySem.Spec PyProof.Rows L2
end PD
namespace PD
open PySem PySem.Spec PyProof.Rows L2 PX LamX
end PD
namespace PD
open PySem PySem.Spec PyProof.Rows L2
end PD
namespace PD
open PySem PySem.Spec PyProof.Rows L2
def dcL (g : MG) (t : M Bool) (mk mv : M D) (ε : Ev) : List D → List (List Key × D) → EH → Option (List (List Key × D) × EH)
  | [], kvs, h => some (kvs, h)
  | d :: ds, kvs, h => match g d ε h with
    | none => none
    | some (ε1, h1) => match t ε1 h1 with
      | some (.ok true, h2) => (match mk ε1 h2 with
        | some (.ok y, h3) => (match mv ε1 h3 with
          | some (.ok z, h4) => (match keyD y with
            | some k => if kvs.length < 16777216 then dcL g t mk mv ε ds (putKD [k] z kvs) h4 else none
            | none => none)
          | _ => none)
        | _ => none)
      | some (.ok false, h2) => dcL g t mk mv ε ds kvs h2
      | _ => none
/-- the value; the cell -/
def mDc (vs : List Nat) (mi : M (List D)) (g : MG) (t : M Bool) (mk mv : M D) : M D := fun ε h => bR (mi ε h) fun ds h1 => (dcL g t mk mv (wipeE ε vs) ds [] h1).map fun z => (.ok (.dic false z.1), z.2)
def mDcC (vs : List Nat) (mi : M (List D)) (g : MG) (t : M Bool) (mk mv : M D) : M D := fun ε h => bR (mi ε h) fun ds h1 => (dcL g t mk mv (wipeE ε vs) ds [] h1).map fun z => (.ok (.ref z.2.length), z.2 ++ [.dic false z.1])
variable [LamTab]
theorem dc_of {K : PySem.W.Frag} {mg : Str → Option Value} {p : Addr} {g : MG} {S vs : List Nat} {t : M Bool} {mk mv : M D} {σ : L2.St} {ε : Ev} {c1 cb c2 : RC} {J : It} {ds : List D} {kvs all : List (List Key × D)} {ys : List (Key × V)} {h2 hE : EH} {Nx : Hp → Prop} (hS : ∀ i ∈ S, i ∈ vs)
    (rJ : WalkR cb ds J) (hK2 : c2.K = K) (hm2 : MgE c2 mg) (l2 : cb.LeW c2) (o : Over c1 c2 p) (s : SR c2 h2) (hxs : c2.H p = some (.dK ys)) (racc : RepP c2 kvs (ys.map fun q => ([q.1], q.2))) (en : EnvR c2 (wipeE ε vs) (wipe σ vs)) (e2 : dcL g t mk mv (wipeE ε vs) ds kvs h2 = some (all, hE))
    (fin : ∀ c3 ys3, c3.K = K → MgE c3 mg → Over c1 c3 p → SR c3 hE → c3.H p = some (.dK ys3) → RepP c3 all (ys3.map fun q => ([q.1], q.2)) → Nx c3.H) :
    ∃ W : Nat → Nat → Hp → Prop, (∃ m, W 0 m c2.H) ∧ ∀ i m H, W i m H →
      (J.stop i H ∧ Nx H) ∨ (J.go i H ∧ ∃ Nx1 : Hp → Prop, (∀ H', Nx1 H' → ∃ m', m' < m ∧ W (i + 1) m' H') ∧ ∀ x H', J.yld i H x H' → tG K mg S g x (wipe σ vs) H' fun σ2 H2 => wipe σ2 vs = wipe σ vs ∧ tT K mg W0 t σ2 H2 fun b H3 =>
        if b = true then tE K mg W0 mk σ2 H3 fun y H4 => tE K mg W0 mv σ2 H4 fun z H5 => ∃ kvs k, y = kV k ∧ H5 p = some (.dK kvs) ∧ kvs.length < sizeLine ∧ Nx1 (upd H5 p (.dK (putK kvs k z))) else Nx1 H3) := by
  obtain ⟨G, Y, hw, hG, hY⟩ := rJ
  let Pv : Nat → Hp → Prop := fun i H => ∃ c3 h3 kvs3 ys3, c3.K = K ∧ MgE c3 mg ∧ c2.LeW c3 ∧ Over c1 c3 p ∧ c3.H = H ∧ SR c3 h3 ∧ H p = some (.dK ys3) ∧ RepP c3 kvs3 (ys3.map fun q => ([q.1], q.2)) ∧ (∀ ε' σ', EnvR c2 ε' σ' → EnvR c3 ε' σ') ∧ dcL g t mk mv (wipeE ε vs) (ds.drop i) kvs3 h3 = some (all, hE)
  refine ⟨fun i m H => m = ds.length - i ∧ i ≤ ds.length ∧ Pv i H, ⟨ds.length, by simp, Nat.zero_le _, c2, h2, kvs, ys, hK2, hm2, RC.Le.toW (.refl c2), o, rfl, s, hxs, racc, fun _ _ e => e, e2⟩, ?_⟩
  rintro i m H ⟨rfl, hi, c3, h3, kvs3, ys3, hK3, hm3, lw3, o3, rfl, s3, hxs3, racc3, eu3, e3⟩
  by_cases hlt : i < ds.length
  · refine .inr ⟨hw.goes i _ hlt (hG c3 (l2.trans lw3)), Pv (i + 1), fun H' p' => ⟨ds.length - (i + 1), by omega, rfl, hlt, p'⟩, fun x H' y => ?_⟩
    obtain ⟨c4, rfl, l4, s4, d, hd, rd⟩ := hY i x c3 h3 H' (l2.trans lw3) s3 (hw.yields i _ x H' hlt (hG c3 (l2.trans lw3)) y)
    have hdr : ds.drop i = d :: ds.drop (i + 1) := by
      rw [List.drop_eq_getElem_cons hlt]
      have : ds[i] = d := by
        have := List.getElem?_eq_getElem hlt
        rw [this] at hd
        exact Option.some.inj hd
      rw [this]
    rw [hdr] at e3
    unfold dcL at e3
    have nt : ∀ ps, HO.dK ys3 ≠ .tbl ps := fun _ z => by cases z
    have o4 := o3.step l4
    have p4 := (l4.keep p _ hxs3 nt fun z => s3.nb p z o3.Bp).1
    have hK4 : c4.K = K := l4.K.trans hK3
    have hm4 : MgE c4 mg := l4.mg.trans hm3
    cases q2 : g d (wipeE ε vs) h3 with
    | none => rw [q2] at e3; cases e3
    | some z =>
      obtain ⟨ε5, h5⟩ := z
      rw [q2] at e3
      dsimp only at e3
      refine ⟨c4, d, wipeE ε vs, h3, ε5, h5, hK4, hm4, rfl, s4, rd, (eu3 _ _ en).le l4, q2, fun c5 σ5 l5 s5 en5 sv => ⟨wipe_save sv hS, ?_⟩⟩
      have o5 := o4.step l5
      have p5 := (l5.keep p _ p4 nt fun z => s4.nb p z o4.Bp).1
      have hK5 : c5.K = K := l5.K.trans hK4
      have hm5 : MgE c5 mg := l5.mg.trans hm4
      cases q3 : t ε5 h5 with
      | none => rw [q3] at e3; cases e3
      | some z =>
        obtain ⟨rb, h6⟩ := z
        rw [q3] at e3
        cases rb with
        | ex x5 => cases e3
        | ok b =>
          refine ⟨c5, ε5, h5, .ok b, h6, hK5, hm5, rfl, s5, en5, q3, Px.ok, fun b' eb c6 b'' l6 s6 rb => ?_⟩
          cases eb
          subst rb
          have o6 := o5.step l6
          have p6 := (l6.keep p _ p5 nt fun z => s5.nb p z o5.Bp).1
          have racc6 := ((racc3.le l4).le l5).le l6
          have hK6 : c6.K = K := l6.K.trans hK5
          have hm6 : MgE c6 mg := l6.mg.trans hm5
          have L6 := (l4.trans l5).trans l6
          have eu6 : ∀ ε' σ', EnvR c2 ε' σ' → EnvR c6 ε' σ' := fun ε' σ' e => (eu3 _ _ e).le L6
          cases b with
          | false =>
            rw [if_neg Bool.false_ne_true]
            exact ⟨c6, h6, kvs3, ys3, hK6, hm6, lw3.trans L6.toW, o6, rfl, s6, p6, racc6, eu6, e3⟩
          | true =>
            rw [if_pos rfl]
            dsimp only at e3
            cases q4 : mk ε5 h6 with
            | none => rw [q4] at e3; cases e3
            | some z =>
              obtain ⟨ry, h7⟩ := z
              rw [q4] at e3
              cases ry with
              | ex x6 => cases e3
              | ok y0 =>
                refine ⟨c6, ε5, h6, .ok y0, h7, hK6, hm6, rfl, s6, en5.le l6, q4, Px.ok, fun y' ey c7 yv l7 s7 ry => ?_⟩
                cases ey
                dsimp only at e3
                cases q5 : mv ε5 h7 with
                | none => rw [q5] at e3; cases e3
                | some z =>
                  obtain ⟨rz, h8⟩ := z
                  rw [q5] at e3
                  cases rz with
                  | ex x7 => cases e3
                  | ok z0 =>
                    refine ⟨c7, ε5, h7, .ok z0, h8, l7.K.trans hK6, l7.mg.trans hm6, rfl, s7, (en5.le l6).le l7, q5, Px.ok, fun z' ez c8 zv l8 s8 rz => ?_⟩
                    cases ez
                    dsimp only at e3
                    cases q6 : keyD y0 with
                    | none => rw [q6] at e3; cases e3
                    | some k =>
                      rw [q6] at e3
                      dsimp only at e3
                      by_cases hl : kvs3.length < 16777216
                      · rw [if_pos hl] at e3
                        have hk := keyD_ok ry q6
                        have o8 := (o6.step l7).step l8
                        have p7 := (l7.keep p _ p6 nt fun z => s6.nb p z o6.Bp).1
                        have p8 := (l8.keep p _ p7 nt fun z => s7.nb p z (o6.step l7).Bp).1
                        have racc8 := (racc6.le l7).le l8
                        have len : ys3.length < sizeLine := by
                          have := racc8.len
                          rw [List.length_map] at this
                          rw [← this]
                          exact hl
                        refine ⟨ys3, k, hk, p8, len, ?_⟩
                        have g1 : ∀ xs, HO.dK ys3 ≠ .tup xs := fun _ z => by cases z
                        have g2 : ∀ a b, HO.dK ys3 ≠ .frz a b := fun _ _ z => by cases z
                        obtain ⟨o9, s9⟩ := o8.putBG (b' := .dK (putK ys3 k zv)) s8 p8 g1 g2
                        have r9 : RepP (c8.put p (.dK (putK ys3 k zv))) (putKD [k] z0 kvs3) ((putK ys3 k zv).map fun q => ([q.1], q.2)) := by
                          rw [← putK_one]
                          exact putK_rep (rz.putBG o8.Bp p8 g1 g2) (racc8.putBG o8.Bp p8 g1 g2)
                        have L8 := (L6.trans l7).trans l8
                        have lw8 : c2.LeW (c8.put p (.dK (putK ys3 k zv))) := by
                          exact (lw3.trans L8.toW).trans (lew_putBG s8 o8.Bp p8 g1 g2)
                        exact ⟨c8.put p (.dK (putK ys3 k zv)), h8, _, _, l8.K.trans (l7.K.trans hK6), MgE.put (noTab_of p8 (fun _ z => by cases z) (fun _ z => by cases z)) (l8.mg.trans (l7.mg.trans hm6)), lw8, o9, rfl, s9, upd_same, r9, fun ε' σ' e => (((eu6 _ _ e).le l7).le l8).putBG o8.Bp p8 g1 g2, e3⟩
                      · rw [if_neg hl] at e3; cases e3
  · have ei : i = ds.length := by omega
    subst ei
    refine .inl ⟨hw.stops _ (hG c3 (l2.trans lw3)), ?_⟩
    rw [List.drop_length] at e3
    cases e3
    exact fin c3 ys3 hK3 hm3 o3 s3 hxs3 racc3
section
variable {X : Cx} {W : WX} {kx vx tg iter : Expr} {ifs : List Expr} {scope : Scope} {own : List (Str × Nat)} {pos : Pos} {mi : M (List D)} {g : MG} {S : List Nat} {t : M Bool} {mk mv : M D}
theorem re_dc (hc : X.calm = true) (hN : X.N.Nodup) (hi : RI X W tg iter mi) (ok : BlkOk X.N X.env.scope scope own) (hS : ∀ i ∈ S, i ∈ own.map (·.2))
    (hg : ∀ (s : Shared) (H : Hp) (C : Addr) (cl : List (Str × Addr)) (fp : List Addr), RG (X.blk s H scope (compEnvC scope cl C X.env) fp) tg S g) (ht : ∀ (s : Shared) (H : Hp) (C : Addr) (cl : List (Str × Addr)) (fp : List Addr), RTs (X.blk s H scope (compEnvC scope cl C X.env) fp) W0 ifs t)
    (hk : ∀ (s : Shared) (H : Hp) (C : Addr) (cl : List (Str × Addr)) (fp : List Addr), RE (X.blk s H scope (compEnvC scope cl C X.env) fp) W0 kx mk)
    (he : ∀ (s : Shared) (H : Hp) (C : Addr) (cl : List (Str × Addr)) (fp : List Addr), RE (X.blk s H scope (compEnvC scope cl C X.env) fp) W0 vx mv) (hs : ∀ x, foldedSetIterable iter X.env x = pure x := by intro _; rfl) :
    RE X W (.DictComp kx vx [⟨tg, iter, ifs, 0⟩] scope pos) (mDc (own.map (·.2)) mi g t mk mv) := by
  refine pe_imp (pe_dc (g := tG X.K X.mg S g) (tt := tT X.K X.mg W0 t) (tk := tE X.K X.mg W0 mk) (tv := tE X.K X.mg W0 mv) hc hN hi ok hg ht hk he hs) fun σ H Q h => ?_
  obtain ⟨c, ε, h, r, h', hK, hm, rfl, sr, er, e, px, go⟩ := h
  unfold tDc
  refine tX.bind hK hm sr er e px fun ds h1 c1 J e1 l1 s1 r1 => ?_
  intro p hp
  have hK1 := l1.K.trans hK
  have hm1 := l1.mg.trans hm
  cases q : dcL g t mk mv (wipeE ε (own.map (·.2))) ds [] h1 with
  | none => rw [q] at e1; cases e1
  | some z =>
    obtain ⟨all, hE⟩ := z
    rw [q] at e1
    cases e1
    obtain ⟨o2, s2⟩ := Over.startG (o := .dK []) s1 hp
    refine dc_of (c2 := { c1 with B := fun a => c1.B a ∨ a = p, H := upd c1.H p (.dK []) }) (kvs := []) (ys := []) hS r1 (o2.le.K.trans hK1) (o2.le.mg.trans hm1) o2.le.toW o2 s2 upd_same .nil (EnvR.moreG hp (wipe_envR _ (er.le l1))) q fun c3 ys3 hK3 hm3 o3 s3 p3 racc => ?_
    refine go _ rfl (c3.av c1.B) _ (l1.trans o3.back) (o3.sr s3) (.dic p3 (.inl ⟨rfl, _, rfl, rfl⟩) ⟨fun z => ?_, fun z => s3.nb p z o3.Bp⟩ (racc.fewer o3.le.B))
    obtain ⟨u, eu⟩ := o3.bt p z
    rw [o3.new] at eu; cases eu
end
end PD
namespace PD
open PySem PySem.Spec PyProof.Rows L2
end PD
namespace PD
open PySem PySem.Spec PyProof.Rows L2
def prD (d : D) : Option (Key × D) := match d with
  | .tup [k, v] => (keyD k).map fun q => (q, v)
  | _ => none
def prsD : List D → Option (List (Key × D))
  | [] => some []
  | d :: ds => match prD d, prsD ds with
    | some p, some ps => some (p :: ps)
    | _, _ => none
def mergeP (kvs : List (List Key × D)) (more : List (Key × D)) : List (List Key × D) := more.foldl (fun acc kv => putKD [kv.1] kv.2 acc) kvs
def dDictP (h : EH) (ds : List D) : Option D := match ds with
  | [.lst xs] => (prsD xs).map fun ps => .dic false (mergeP [] ps)
  | _ => none
variable [LamTab]
section
variable {X : Cx} {W : WX}
theorem put_dic {c : RC} {h : EH} (s : SR c h) {Q : VK} {kvs : List (List Key × D)} {ys : List (Key × V)} (go : ∀ c' v, c.Le c' → SR c' h → Rep c' (.dic false kvs) v → Q v c'.H) (r : RepP c kvs (ys.map fun q => ([q.1], q.2))) : ∀ p, c.H p = none → Q (.ref p) (upd c.H p (.dK ys)) :=
  put_ok s go fun _ _ l f => .dic upd_same (.inl ⟨rfl, ys, rfl, rfl⟩) f (r.le l)
/-- pairs as they are -/
inductive PrR (c : RC) : List (Key × D) → List (Key × V) → Prop
  | nil : PrR c [] []
  | cons {k : Key} {d : D} {v : V} {ps : List (Key × D)} {qs : List (Key × V)} : Rep c d v → PrR c ps qs → PrR c ((k, d) :: ps) ((k, v) :: qs)
theorem mergeP_rep {c : RC} : ∀ {ps : List (Key × D)} {qs : List (Key × V)} {kvs : List (List Key × D)} {ys : List (Key × V)}, PrR c ps qs → RepP c kvs (ys.map fun q => ([q.1], q.2)) → RepP c (mergeP kvs ps) ((mergeK ys qs).map fun q => ([q.1], q.2))
  | _, _, _, _, .nil, r => r
  | _, _, kvs, ys, .cons (k := k) (d := d) (v := v) (ps := ps) (qs := qs) h t, r => by
    show RepP c (mergeP (putKD [k] d kvs) ps) ((mergeK (putK ys k v) qs).map fun q => ([q.1], q.2))
    refine mergeP_rep t ?_
    rw [← putK_one]
    exact putK_rep h r
theorem prD_ok {d : D} {p : Key × D} (e : prD d = some p) : ∃ k w, d = .tup [k, w] ∧ keyD k = some p.1 ∧ w = p.2 := by
  unfold prD at e
  split at e
  · rename_i k v
    cases q : keyD k with
    | none => rw [q] at e; exact absurd e (by simp)
    | some z =>
      rw [q] at e
      have e' := Option.some.inj e
      subst e'
      exact ⟨k, v, rfl, q, rfl⟩
  · exact absurd e (by simp)
theorem rep_tup {c : RC} {ds : List D} {v : V} (r : Rep c (.tup ds) v) : ∃ a us, v = .ref a ∧ SqT c.K c.H a us ∧ Reps c ds us := by
  cases r with
  | tup k1 k2 => exact ⟨_, _, rfl, k1, k2⟩
theorem reps_two {c : RC} {d e : D} {vs : List V} (r : Reps c [d, e] vs) : ∃ a b, vs = [a, b] ∧ Rep c d a ∧ Rep c e b := by
  cases r with
  | cons h t =>
    cases t with
    | cons h2 t2 =>
      cases t2
      exact ⟨_, _, rfl, h, h2⟩
theorem prs_ok {c : RC} : ∀ {ds : List D} {xs : List V} {ps : List (Key × D)}, Reps c ds xs → prsD ds = some ps → ∃ (as : List Addr) (qs : List (Key × V)), xs = as.map V.ref ∧ Paired (fun p kv => SqT c.K c.H p [kV kv.1, kv.2]) as qs ∧ PrR c ps qs
  | _, _, _, .nil, e => by cases e; exact ⟨[], [], rfl, .nil, .nil⟩
  | d :: ds, _, ps, .cons r t, e => by
    unfold prsD at e
    cases q1 : prD d with
    | none => rw [q1] at e; cases e
    | some p =>
      cases q2 : prsD ds with
      | none => rw [q1, q2] at e; cases e
      | some ps' =>
        rw [q1, q2] at e
        cases e
        obtain ⟨as, qs, rfl, h1, h2⟩ := prs_ok t q2
        obtain ⟨k, w, rfl, h3, h4⟩ := prD_ok q1
        obtain ⟨kk, w'⟩ := p
        dsimp only at h3 h4
        subst h4
        obtain ⟨a, us, rfl, k1, k2⟩ := rep_tup r
        obtain ⟨v1, v2, rfl, ra, rb⟩ := reps_two k2
        have hk := keyD_ok ra h3
        subst hk
        exact ⟨a :: as, (kk, v2) :: qs, rfl, .cons k1 h1, .cons rb h2⟩
theorem cs_dictP {K : PySem.W.Frag} {mg : Str → Option Value} : CallS K mg (fun xs H Q => ∃ (a : Addr) (ps : List Addr) (kvs : List (Key × V)), xs = [.ref a] ∧ SqL K H a (ps.map V.ref) ∧ Paired (fun p kv => SqT K H p [kV kv.1, kv.2]) ps kvs ∧
    ∀ p, H p = none → Q (.ref p) (upd H p (.dK (mergeK [] kvs)))) dDictP := by
  intro c eh xs ds d Q hK hm sr rx e go
  subst hK
  match ds, rx, e with
  | [.lst zs], .cons (.lst (a := a) k1 k2 k3) .nil, e =>
    unfold dDictP at e
    cases q : prsD zs with
    | none => simp only [q] at e; cases e
    | some ps =>
      simp only [q] at e
      cases e
      obtain ⟨as, qs, rfl, h1, h2⟩ := prs_ok k3 q
      exact ⟨a, as, qs, rfl, SqL.of k1, h1, put_dic sr go (mergeP_rep h2 .nil)⟩
theorem re_dictP {e : Expr} {m : M (List D)} {p pos : Pos} (hc : X.calm = true) (hm : X.mg "dict" = none) (ha : RA X W [e] m) (hg : Gl X "dict" := by rfl) (he : starEach [e] X.env = (false, eval e X.env) :: starEach [] X.env := by rfl) : RE X W (.Call (.Name "dict" p) [e] [] pos) (mCall dDictP m) :=
  pe_imp (pe_callTy (call_dictP hc) hg hm (by decide +kernel) ha (by decide) (by decide) he (by rfl)) fun _ _ _ h => tcb_of cs_dictP h
end
end PD
namespace PD
open PySem PySem.Spec PyProof.Rows L2
end PD
namespace PX
open PySem PySem.Spec PyProof.Rows L2 PySem.Calls
end PX
namespace PD
open PySem PySem.Spec PyProof.Rows L2 PX
end PD
namespace PD
open PySem PySem.Spec PyProof.Rows L2
end PD
namespace PD
open PySem PySem.Spec PyProof.Rows L2
end PD
namespace PD
open PySem PySem.Spec PyProof.Rows L2
end PD
namespace PD
open PySem PySem.Spec PyProof.Rows L2
end PD
namespace ZL
open PySem
open PySem.Sem (wp)
open PySem.W (kdx_alive)
/-- an iterator of a list or of a tuple, at place k -/
def SqIt (h : Heap) (it l : Addr) (k : Nat) (xs : Array Value) : Prop := (h.IsListIter it l k ∧ h.IsList l xs) ∨ (h.IsTupleIter it l k ∧ h.IsTuple l xs)
theorem SqIt.lt {h : Heap} {it l : Addr} {k : Nat} {xs : Array Value} (z : SqIt h it l k xs) : it < h.objs.size ∧ l < h.objs.size := by
  rcases z with ⟨⟨_, a, _⟩, ⟨_, b, _⟩⟩ | ⟨⟨_, a, _⟩, ⟨_, b, _⟩⟩
  · exact ⟨Heap.lt_size a, Heap.lt_size b⟩
  · exact ⟨Heap.lt_size a, Heap.lt_size b⟩
section
variable {prog : Program} {w : World} {A : Around} {E : Value → Shared → Prop} {s : Shared}
/-- the zip at a turn: nothing given out yet, or its first tuple T is out -/
def ZSt (h : Heap) (z TI TO S : Addr) : Prop := (IsZip h z TI TO .none ∧ ∃ a b, IsPair h TO a b) ∨ ∃ T f oT, IsZipHeld h z TI TO T f ∧ h.get? T = some oT ∧ T ≠ S ∧ T ≠ z
theorem ZSt.keep {h h' : Heap} {z TI TO S : Addr} (q : ZSt h z TI TO S) (k : ∀ b o, b ≠ S → h.get? b = some o → h'.get? b = some o) (hz : z ≠ S) (hTO : TO ≠ S) : ZSt h' z TI TO S := by
  rcases q with ⟨a, x, y, b⟩ | ⟨T, f, o, a, b, c, d⟩
  · exact .inl ⟨k z _ hz a, x, y, k TO _ hTO b⟩
  · exact .inr ⟨T, f, o, k z _ hz a, k T _ c b, c, d⟩
end
section
variable {prog : Program} {w : World} {A : Around} {E : Value → Shared → Prop} {s : Shared}
/-- a list or a tuple -/
def Sq (h : Heap) (l : Addr) (xs : Array Value) : Prop := h.IsList l xs ∨ h.IsTuple l xs
theorem Sq.lt {h : Heap} {l : Addr} {xs : Array Value} (q : Sq h l xs) : l < h.objs.size := by
  rcases q with ⟨_, a, _⟩ | ⟨_, a, _⟩ <;> exact Heap.lt_size a
end
end ZL
namespace PD
open PySem PySem.Spec PyProof.Rows L2
end PD
namespace PX
open PySem PySem.Spec PyProof.Rows L2 PySem.Calls
end PX
namespace PD
open PySem PySem.Spec PyProof.Rows L2 PX
end PD
namespace PySem
end PySem
namespace L2
open PySem PySem.Spec PyProof.Rows
end L2
namespace PD
open PySem PySem.Spec PyProof.Rows L2
variable [LamTab]
theorem ExR.fewer {c : RC} {B : Addr → Prop} (hB : ∀ a, B a → c.B a) {x : Ex} {cls : Value} {dx : Option Addr} (r : ExR c x cls dx) : ExR (c.av B) x cls dx := by
  obtain ⟨Ca, d, vs, h1, h2, h3, h4, h5, h6⟩ := r
  exact ⟨Ca, d, vs, h1, h2, h3, h4, ⟨fun z => h5.1 (hB _ z), h5.2⟩, h6.fewer hB⟩
end PD
namespace PD
open PySem PySem.Spec PyProof.Rows L2
end PD
namespace L2
open PySem PySem.Spec PyProof.Rows
end L2
namespace PD
open PySem PySem.Spec PyProof.Rows L2
end PD
namespace PD
open PySem PySem.Spec PyProof.Rows L2 PX LamX
end PD
namespace L2
open PySem PySem.Spec PyProof.Rows GenW
end L2
namespace PD
open PySem PySem.Spec PyProof.Rows L2 PX LamX
variable [LamTab]
section
variable {X : Cx} {W : WX}
def d0 (D : GEnds) (ys : List V) : Ends := { nx := fun _ _ => False, rt := D.rt ys, bk := D.bk ys, ct := D.ct ys }
end
end PD
namespace PD
open PySem PySem.Spec PyProof.Rows L2 PX LamX
variable [LamTab]
def asDicT (h : EH) (d : D) : Option (List (List Key × D)) := match d with
  | .dic true kvs => some kvs
  | .ref n => (match h[n]? with
    | some (.dic true kvs) => some kvs
    | _ => none)
  | _ => none
theorem asDicT_ok {c : RC} {h : EH} {d : D} {v : V} {kvs : List (List Key × D)} (s : SR c h) (r : Rep c d v) (e : asDicT h d = some kvs) : ∃ (a : Addr) (ys : List (List Key × V)), v = .ref a ∧ c.H a = some (.dT ys) ∧ RepP c kvs ys := by
  have fin : ∀ {a : Addr} {o : HO} {zs : List (List Key × V)}, v = .ref a → c.H a = some o → isDic true o zs → RepP c kvs zs → ∃ (a : Addr) (ys : List (List Key × V)), v = .ref a ∧ c.H a = some (.dT ys) ∧ RepP c kvs ys := fun {a o zs} h1 h2 h3 h4 => by
    rcases h3 with ⟨z, _⟩ | ⟨_, rfl⟩
    · cases z
    · exact ⟨a, _, h1, h2, h4⟩
  cases r with
  | @dic a t o kvs' zs k1 k2 k3 k4 =>
    cases t with
    | true => cases e; exact fin rfl k1 k2 k4
    | false => cases e
  | @ref n a hn =>
    unfold asDicT at e
    dsimp only at e
    cases q : h[n]? with
    | none => rw [q] at e; cases e
    | some k =>
      rw [q] at e
      cases k with
      | dic t kvs' =>
        cases t with
        | false => cases e
        | true =>
          cases e
          obtain ⟨o, zs, h1, h3, h2⟩ := s.cells n a _ hn q
          exact fin rfl h1 h3 h2
      | _ => cases e
  | _ => cases e
/-- the key of what was evaluated -/
def keysZ (ds : List D) : Option (List Key) := if ds.length ≤ 1000 then keysD ds else none
theorem keysZ_ok {ds : List D} {k : List Key} (e : keysZ ds = some k) : ds.length ≤ 1000 ∧ keysD ds = some k := by
  unfold keysZ at e
  split at e
  · exact ⟨by assumption, e⟩
  · cases e
def tGet (h : EH) (x : D) (ks : List Key) : Option (Option D) := (asDicT h x).map (lkK ks)
/-- the key, evaluated -/
def mKz (k : M (List D)) : M (List Key) := fun ε h => bR (k ε h) fun ds h1 => rt (keysZ ds) h1
def mDixT (a : M D) (k : M (List D)) : M D := fun ε h => bR (a ε h) fun x h1 => bR (mKz k ε h1) fun ks h2 => rt ((tGet h2 x ks).bind id) h2
def mDinT (neg : Bool) (k : M (List D)) (b : M D) : M D := fun ε h => bR (mKz k ε h) fun ks h1 => bR (b ε h1) fun x h2 => rt ((tGet h2 x ks).map fun r => .bl (neg != r.isSome)) h2
def mDGet2T (a : M D) (k : M (List D)) (e : M D) : M D := fun ε h => bR (a ε h) fun x h1 => match asDicT h1 x with
  | some _ => bR (mKz k ε h1) fun ks h2 => bR (e ε h2) fun z h3 => rt ((tGet h3 x ks).map fun r => r.getD z) h3
  | none => none
def mDnewT : M D := fun _ h => some (.ok (.ref h.length), h ++ [.dic true []])
def putDcT (h : EH) (x : D) (ks : List Key) (d : D) : Option EH := match x with
  | .ref n => (match h[n]? with
    | some (.dic true kvs) => if kvs.length < 16777216 then some (h.set n (.dic true (putKD ks d kvs))) else none
    | _ => none)
  | _ => none
def msDPutT (o : M D) (k : M (List D)) (v : M D) : MS := fun ε h => bS (v ε h) ε fun z h1 => bS (o ε h1) ε fun x h2 => bS (mKz k ε h2) ε fun ks h3 => (putDcT h3 x ks z).map fun h4 => (.nx ε, h4)
theorem tget_ok {c : RC} {h : EH} {x : D} {ks : List Key} {v : V} {p : Addr} {r : Option D} (s : SR c h) (rx : Rep c x v) (hp : c.H p = some (.tup (ks.map kV))) (e : tGet h x ks = some r) :
    ∃ a o, v = .ref a ∧ IsD c.H a ∧ DGet c.H a (.ref p) o ∧ (∀ d, r = some d → ∃ w, o = some w ∧ Rep c d w) ∧ (r = none → o = none) := by
  unfold tGet at e
  cases q1 : asDicT h x with
  | none => rw [q1] at e; cases e
  | some kvs =>
    rw [q1] at e
    cases e
    obtain ⟨a, ys, rfl, h1, h2⟩ := asDicT_ok s rx q1
    refine ⟨a, valV ys ks, rfl, .inr ⟨ys, .inl h1⟩, .t h1 hp, fun d e => ?_, fun e => ?_⟩
    · obtain ⟨w, e1, e2⟩ := lookP h2 e
      exact ⟨w, e1, e2⟩
    · exact lookPN h2 e
section
variable {X : Cx} {W : WX} {a b : Expr} {es : List Expr} {ma mb : M D} {mk : M (List D)} {pos p2 : Pos} {k x1 : Nat}
theorem nt_tup {xs : List V} : ∀ ps, HO.tup xs ≠ .tbl ps := fun _ z => by cases z
/-- the key's tuple is new -/
theorem tkey_of {c : RC} {ε : Ev} {σ : L2.St} {h : EH} {β : Type} {f : List Key → EH → O β} {r' : R β} {h' : EH} {R : V → Hp → Prop} {K : PySem.W.Frag} {mg : Str → Option Value} (hK : c.K = K) (hm : MgE c mg) (sr : SR c h) (er : EnvR c ε σ) (e : bR (mKz mk ε h) f = some (r', h')) (px : Px W c σ r' h')
    (go : ∀ ks h1, f ks h1 = some (r', h') → ∀ c1 p, c.Le c1 → SR c1 h1 → EnvR c1 ε σ → c1.H p = some (.tup (ks.map kV)) → c1.fr p → R (.ref p) c1.H) : tTup (tA K mg W mk) σ c.H R := by
  have e' : bR (mk ε h) (fun ds h1 => bR (rt (keysZ ds) h1) f) = some (r', h') := by
    rw [← e]
    unfold mKz
    cases mk ε h with
    | none => rfl
    | some z => obtain ⟨r1, h1⟩ := z; cases r1 <;> rfl
  unfold tTup
  refine tX.bind hK hm sr er e' px fun ds h1 c1 ys e1 l1 s1 r1 => ?_
  cases q : keysZ ds with
  | none => rw [q] at e1; cases e1
  | some ks =>
    rw [q] at e1
    have hz := keysZ_ok q
    refine ⟨by rw [← r1.length]; unfold sizeLine; omega, fun p hp => ?_⟩
    obtain ⟨l2, s2, f2⟩ := s1.new (o := .tup ys) hp
    have hk := keysD_ok r1 hz.2
    exact go ks h1 e1 _ p (l1.trans l2) s2 ((er.le l1).le l2) (by rw [← hk]; exact upd_same) f2
theorem re_dixT (hr : Room k X.A) (ha : RE X W a ma) (hb : RA X W es mk) (hs : NoSl (.Tuple es x1 p2) := by exact fun _ _ => rfl) : RE X W (.Subscript a (.Tuple es x1 p2) pos) (mDixT ma mk) := by
  refine pe_imp (pe_dget (by have := hr.units; omega) ha (pe_tup hb) hs) fun σ H Q h => ?_
  obtain ⟨c, ε, h, r', h', hK, hm, rfl, sr, er, e, px, go⟩ := h
  unfold tDGet
  refine tX.bind hK hm sr er e px fun dx h1 c1 x e1 l1 s1 r1 => ?_
  refine tkey_of (l1.K.trans hK) (l1.mg.trans hm) s1 (er.le l1) e1 (px.le l1) fun ks h2 e2 c2 p l2 s2 _ hp _ => ?_
  cases q : tGet h2 dx ks with
  | none => rw [q] at e2; cases e2
  | some r =>
    rw [q] at e2
    cases r with
    | none => cases e2
    | some d =>
      cases e2
      obtain ⟨a, o, rfl, _, g1, g2, _⟩ := tget_ok s2 (r1.le l2) hp q
      obtain ⟨w, rfl, rw'⟩ := g2 d rfl
      exact ⟨a, w, rfl, g1, go d rfl _ w (l1.trans l2) s2 rw'⟩
theorem din_t {neg : Bool} {σ : L2.St} {H : Hp} {Q : VK} (h : tE X.K X.mg W (mDinT neg mk mb) σ H Q) : tTup (tA X.K X.mg W mk) σ H fun y H1 => tE X.K X.mg W mb σ H1 fun x H2 => ∃ a o, x = .ref a ∧ DGet H2 a y o ∧ Q (.bl (neg != o.isSome)) H2 := by
  obtain ⟨c, ε, h, r', h', hK, hm, rfl, sr, er, e, px, go⟩ := h
  refine tkey_of hK hm sr er e px fun ks h1 e1 c1 p l1 s1 er1 hp f1 => ?_
  refine tX.bind (l1.K.trans hK) (l1.mg.trans hm) s1 er1 e1 (px.le l1) fun dx h2 c2 x e2 l2 s2 r2 => ?_
  cases q : tGet h2 dx ks with
  | none => rw [q] at e2; cases e2
  | some r =>
    rw [q] at e2
    cases e2
    obtain ⟨a, o, rfl, _, g1, g2, g3⟩ := tget_ok s2 r2 (l2.keep p _ hp nt_tup f1.2).1 q
    have eo : o.isSome = r.isSome := by
      cases r with
      | none => rw [g3 rfl]; rfl
      | some d => obtain ⟨w, e, _⟩ := g2 d rfl; rw [e]; rfl
    refine ⟨a, o, rfl, g1, ?_⟩
    rw [eo]
    exact go _ rfl c2 _ (l1.trans l2) s2 (.bl _)
theorem din_t0 {σ : L2.St} {H : Hp} {Q : VK} (h : tE X.K X.mg W (mDinT false mk mb) σ H Q) : tDIn (tTup (tA X.K X.mg W mk)) (tE X.K X.mg W mb) σ H Q := by
  have z := din_t h
  simp only [Bool.false_bne] at z
  exact z
theorem rt_dinT (hr : Room k X.A) (ha : RA X W es mk) (hb : RE X W b mb) (hmk : behindInMarks .In b = false := by first | exact nobehind _ (by decide) (by decide) | rfl) : RT X W (.Compare (.Tuple es x1 p2) [.In] [b] pos) (mTst (mDinT false mk mb)) :=
  pt_imp (pt_cmp (pc_din (by have := hr.units; omega) (pe_tup ha) hb) hmk) fun _ _ _ h => din_t0 (tB_of h)
theorem re_dget2T {o f : Expr} {mo mf : M D} {apos cpos : Pos} (hr : Room k X.A) (ho : RE X W o mo) (he : RA X W es mk) (hf : RE X W f mf) (m : M2 X o "get" apos (.Tuple es x1 p2) f cpos := by exact ⟨rfl, rfl, rfl, rfl⟩) : RE X W (.Call (.Attribute o "get" apos) [.Tuple es x1 p2, f] [] cpos) (mDGet2T mo mk mf) := by
  refine pe_imp (pe_dget2 (by have := hr.units; omega) ho (pe_tup he) hf m) fun σ H Q h => ?_
  obtain ⟨c, ε, h, r', h', hK, hm, rfl, sr, er, e, px, go⟩ := h
  unfold tDGet2
  refine tX.bind hK hm sr er e px fun dx h1 c1 x e1 l1 s1 r1 => ?_
  cases q0 : asDicT h1 dx with
  | none => rw [q0] at e1; cases e1
  | some kvs =>
    rw [q0] at e1
    obtain ⟨a, ys, rfl, k1, k2⟩ := asDicT_ok s1 r1 q0
    refine ⟨a, rfl, .inr ⟨ys, .inl k1⟩, ?_⟩
    refine tkey_of (l1.K.trans hK) (l1.mg.trans hm) s1 (er.le l1) e1 (px.le l1) fun ks h2 e2 c2 p l2 s2 er2 hp f2 => ?_
    refine tX.bind (l2.K.trans (l1.K.trans hK)) (l2.mg.trans (l1.mg.trans hm)) s2 er2 e2 ((px.le l1).le l2) fun dz h3 c3 z e3 l3 s3 r3 => ?_
    cases q : tGet h3 dx ks with
    | none => rw [q] at e3; cases e3
    | some r =>
      rw [q] at e3
      cases e3
      obtain ⟨a', o, ea, _, g1, g2, g3⟩ := tget_ok s3 ((r1.le l2).le l3) (l3.keep p _ hp nt_tup f2.2).1 q
      cases ea
      refine ⟨o, g1, ?_⟩
      have L := (l1.trans l2).trans l3
      cases r with
      | none => rw [g3 rfl]; exact go _ rfl c3 _ L s3 r3
      | some d => obtain ⟨w, e, rw'⟩ := g2 d rfl; rw [e]; exact go _ rfl c3 _ L s3 rw'
theorem re_dnewT {pos : Pos} : RE X W (.Dict [] [] pos) mDnewT := by
  refine pe_imp pe_dnewT fun σ H Q h => ?_
  obtain ⟨c, ε, h, r', h', hK, hm, rfl, sr, er, e, px, go⟩ := h
  intro p hp
  cases e
  obtain ⟨l2, s2⟩ := sr.cellG (o := .dT []) (k := .dic true []) hp fun c' l e => ⟨_, [], e, .inr ⟨rfl, rfl⟩, .nil⟩
  refine go _ rfl _ _ l2 s2 (.ref ?_)
  show (c.ρ ++ [p])[h.length]? = some p
  rw [← sr.len, List.getElem?_append_right (Nat.le_refl _), Nat.sub_self]
  rfl
theorem tkey_stm {c : RC} {ε : Ev} {σ : L2.St} {h : EH} {f : List Key → EH → Option (RS × EH)} {r : RS} {h' : EH} {R : V → Hp → Prop} {D : Ends} {K : PySem.W.Frag} {mg : Str → Option Value} (hK : c.K = K) (hm : MgE c mg) (sr : SR c h) (er : EnvR c ε σ) (e : bS (mKz mk ε h) ε f = some (r, h')) (fin : Fin W D c r h')
    (go : ∀ ks h1, f ks h1 = some (r, h') → ∀ c1 p, c.Le c1 → SR c1 h1 → c1.H p = some (.tup (ks.map kV)) → c1.fr p → R (.ref p) c1.H) : tTup (tA K mg W mk) σ c.H R := by
  have e' : bS (mk ε h) ε (fun ds h1 => bS (rt (keysZ ds) h1) ε f) = some (r, h') := by
    rw [← e]
    unfold mKz
    cases mk ε h with
    | none => rfl
    | some z => obtain ⟨r1, h1⟩ := z; cases r1 <;> rfl
  unfold tTup
  refine tX.stm hK hm sr er e' fin fun ds h1 c1 ys e1 l1 s1 r1 => ?_
  cases q : keysZ ds with
  | none => rw [q] at e1; cases e1
  | some ks =>
    rw [q] at e1
    have hz := keysZ_ok q
    refine ⟨by rw [← r1.length]; unfold sizeLine; omega, fun p hp => ?_⟩
    obtain ⟨l2, s2, f2⟩ := s1.new (o := .tup ys) hp
    have hk := keysD_ok r1 hz.2
    exact go ks h1 e1 _ p (l1.trans l2) s2 (by rw [← hk]; exact upd_same) f2
theorem rs_dputT {o value : Expr} {mo mv : M D} {pos pos' : Pos} (hr : Room k X.A) (ho : RE X W o mo) (hi : RA X W es mk) (hv : RE X W value mv) (hs : swapsWith value (some (.Subscript o (.Tuple es x1 p2) pos')) pos.line X.env = pure false := by rfl) :
    RSt X W (.Assign [.Subscript o (.Tuple es x1 p2) pos'] value pos) (msDPutT mo mk mv) := by
  refine ps_imp (ps_dput (by have := hr.units; omega) ho (pe_tup hi) hv hs) fun D σ H h => ?_
  obtain ⟨c, ε, h, r, h', hK, hm, rfl, sr, er, e, fin⟩ := h
  unfold sDPut
  refine tX.stm hK hm sr er e fin fun z h1 c1 v e1 l1 s1 r1 => ?_
  refine tX.stm (l1.K.trans hK) (l1.mg.trans hm) s1 (er.le l1) e1 (fin.le l1) fun x h2 c2 u e2 l2 s2 r2 => ?_
  refine tkey_stm (l2.K.trans (l1.K.trans hK)) (l2.mg.trans (l1.mg.trans hm)) s2 ((er.le l1).le l2) e2 ((fin.le l1).le l2) fun ks h3 e3 c3 p l3 s3 hp f3 => ?_
  cases q : putDcT h3 x ks z with
  | none => rw [q] at e3; cases e3
  | some h4 =>
    rw [q] at e3
    cases e3
    have r2' := r2.le l3
    cases r2' with
    | @ref n a hn =>
      unfold putDcT at q
      dsimp only at q
      cases qc : h3[n]? with
      | none => rw [qc] at q; cases q
      | some cl =>
        rw [qc] at q
        cases cl with
        | dic t kvs =>
          cases t with
          | false => cases q
          | true =>
            dsimp only at q
            by_cases hl : kvs.length < 16777216
            · rw [if_pos hl] at q
              cases q
              obtain ⟨ob, zs, k1, k3, k2⟩ := s3.cells n a _ hn qc
              rcases k3 with ⟨ee, _⟩ | ⟨_, rfl⟩
              · cases ee
              · have rv : Rep c3 z v := (r1.le l2).le l3
                obtain ⟨l4, s4⟩ := s3.write (o := .dT (putK zs ks v)) (k := .dic true (putKD ks z kvs)) hn (fun xs e => by rcases e with e | ⟨_, e⟩ <;> rw [k1] at e <;> cases e) (fun o u e => by rw [k1] at e; cases e)
                  fun c' l' eh => ⟨_, _, eh, .inr ⟨rfl, rfl⟩, putK_rep (rv.le l') (k2.le l')⟩
                have len : zs.length < sizeLine := by
                  rw [← k2.len]
                  exact hl
                exact ⟨a, _, rfl, .t k1 hp len, fin _ σ (((l1.trans l2).trans l3).trans l4) s4 ((((er.le l1).le l2).le l3).le l4)⟩
            · rw [if_neg hl] at q; cases q
        | _ => cases q
    | _ => cases q
end
end PD
namespace L2
open PySem PySem.Spec PyProof.Rows
/-- the pairs of a locked dict with tuple keys, each a new tuple -/
def ItiT (d : Addr) (o : Obj) (kvs : List (List Key × V)) : It :=
  ⟨fun i H => H d = some (.frz o (.dT kvs)) ∧ i < kvs.length, fun i H x H' => ∃ T k v q, kvs[i]? = some (k, v) ∧ x = .ref T ∧ H T = none ∧ H q = some (.tup (k.map kV)) ∧ H' = upd H T (.tup [.ref q, v]), fun i H => H d = some (.frz o (.dT kvs)) ∧ kvs.length ≤ i⟩
section
variable {X : Cx} {pins : List (Addr × Obj)} {σ : St} {H : Hp} {s : Shared} {d : Addr} {o : Obj}
theorem Inv.frzTV {kvs : List (List Key × V)} (I : Inv X pins σ H s) (h : H d = some (.frz o (.dT kvs))) :
    (d == sysModules) = false ∧ s.heap.get? d = some o ∧ o.ExactDict ∧ ∃ (es : Array DictEntry) (ep : Nat), o.data = .dict es ep ∧ es.size = kvs.length ∧
      ∀ (i : Nat) (hi : i < es.size) (k : List Key) (v : V), kvs[i]? = some (k, v) → ∃ q : Addr, es[i].key = .ref q ∧ H q = some (.tup (k.map kV)) ∧ RelV v es[i].val := by
  obtain ⟨hd, z, hs, xs, pr, o', es, ep, ho, hx, hdt, he, _⟩ := I.hok d _ h
  rw [hd] at ho
  cases ho
  refine ⟨hs, hd, hx, es, ep, hdt, ?_, fun i hi k v e => ?_⟩
  · have l1 : es.size = xs.length := size_of_entries he
    have l2 : kvs.length = xs.length := Paired.length pr
    omega
  · obtain ⟨b, hb, e1, e2, e3⟩ := paired_get pr e
    have q := entry_at he i
    rw [hb, Array.getElem?_eq_getElem hi, Option.map_some] at q
    have q' := Option.some.inj q
    exact ⟨b.2.1, by rw [q']; rfl, e2, by rw [q']; exact e3⟩
end
theorem turn_itemsT {P : Program} {w : World} {K : PySem.W.Frag} {d : Addr} {o : Obj} {es : Array DictEntry} {ep : Nat} {kvs : List (List Key × V)} {elts : List Expr} {kk : Nat} {tpos : Pos} (it : Addr) (hod : o.data = .dict es ep) :
    Turn P w K (.Tuple elts kk tpos) (ItiT d o kvs) [it] it (fun i h => ∃ ok ov, IsItemIter h it d i kvs.length ep ok ov) where
  mem := by simp
  obj := fun i h st b hb => by
    have e : b = it := by simpa using hb
    subst e
    obtain ⟨ok, ov, e⟩ := st
    exact ⟨_, e, fun v z => nomatch z⟩
  keep := fun i h h' st k => let ⟨ok, ov, e⟩ := st; ⟨ok, ov, k it (by simp) _ e⟩
  item := by
    intro X hP hw hK hc i pins s σ H E I hf st hg
    subst hP hw hK
    obtain ⟨hd, hi⟩ := hg
    obtain ⟨hs, hgd, hx, es', ep', hdt, hsz, ent⟩ := I.frzTV hd
    obtain ⟨rfl, rfl⟩ := dict_ep hod hdt
    obtain ⟨⟨k, v⟩, hkv⟩ : ∃ p, kvs[i]? = some p := ⟨kvs[i], List.getElem?_eq_getElem hi⟩
    have hi' : i < es'.size := by omega
    obtain ⟨q, hkey, hq, ru⟩ := ent i hi' k v hkv
    obtain ⟨ok, ov, he⟩ := st
    rw [← hsz] at he
    have hlt : it < s.heap.objs.size := Heap.lt_size he
    refine wpAny_pyNext_items_item_raw he ⟨_, hgd, hx, hdt⟩ hi' fun h' ho hT hz hk => ?_
    refine ⟨_, rfl, wpAny_letOwnedTupleGo_items (s := { s with heap := h' }) ho fun h'' he' sb => ?_⟩
    have hT2 : h''.get? s.heap.objs.size = some { cls := .type "tuple", data := .seq #[es'[i].key, es'[i].val] } := (sb.2 _ (Nat.ne_of_gt hlt)).trans hT
    have new : ObjOk X.prog X.w (upd H s.heap.objs.size (.tup [.ref q, v])) h'' s.heap.objs.size (.tup [.ref q, v]) :=
      ⟨by show 2 ≤ sizeLine; decide, [es'[i].key, es'[i].val], .cons hkey (.cons ru .nil), ⟨_, hT2, rfl, _, rfl⟩⟩
    have I1 : Inv X pins σ (upd H s.heap.objs.size (.tup [.ref q, v])) { s with heap := h'' } :=
      I.turnedNew (t' := s.toks) (ch := [it]) (fun b ob hb e => (sb.2 b (by simpa using hb)).trans (hk b ob (by simpa using hb) e)) hf (Nat.le_refl _) new
    refine ⟨.ref s.heap.objs.size, _, I1, rfl, ⟨_, k, v, q, hkv, rfl, I.hok.fresh (Nat.le_refl _), hq, rfl⟩, ⟨es'[i].key, es'[i].val, ?_⟩, fun b hb => ?_⟩
    · rw [← hsz]; exact he'
    · have e : b = it := by simpa using hb
      rw [e, upd_ne (Nat.ne_of_lt hlt)]
      exact (hf it (by simp)).1
  done := by
    intro X hP hw hK hc i pins s σ H E I hf st hg
    subst hP hw hK
    obtain ⟨hd, hi⟩ := hg
    obtain ⟨f0, f1, f2, f3, f4, f5⟩ := hf it (by simp)
    obtain ⟨hs, hgd, hx, es', ep', hdt, hsz, ent⟩ := I.frzTV hd
    obtain ⟨rfl, rfl⟩ := dict_ep hod hdt
    obtain ⟨ok, ov, he⟩ := st
    rw [← hsz] at he
    exact wpAny_pyNext_items_end_raw (I.ok.hd hc) he ⟨_, hgd, hx, hdt⟩ (by omega) fun h' eb => ⟨rfl, I.turned (t' := s.toks) (fun b ob hb e => eb b ob hb e) f0 f1 f3 f4 f5⟩
  self := fun A i s Q E st h => let ⟨_, _, e⟩ := st; PySem.W.kcp_self e h
/-- the dict is locked once it is there -/
def iItemsL (X : Cx) (td : TE) : TI := fun σ H R => td σ H fun x H1 => ∃ d, x = .ref d ∧
  ((∃ kvs, H1 d = some (.dT kvs) ∧ ∀ od, (∀ o' u', X.H_0 d ≠ some (.frz o' u')) → R (ItiT d od kvs) (upd H1 d (.frz od (.dT kvs)))) ∨ ∃ kvs, H1 d = some (.dK kvs) ∧ ∀ od, (∀ o' u', X.H_0 d ≠ some (.frz o' u')) → R (Iti d od kvs) (upd H1 d (.frz od (.dK kvs))))
theorem pi_itemsL {X : Cx} {e : Expr} {td : TE} {apos cpos : Pos} {elts : List Expr} {kk : Nat} {tpos : Pos} (he : PE X e td) (hbase : attributeBase e "items" X.env (eval e X.env) = eval e X.env := by rfl) (hline : (apos.endLine == cpos.line) = true := by rfl) :
    PI X (.Tuple elts kk tpos) (.Call (.Attribute e "items" apos) [] [] cpos) (iItemsL X td) := by
  refine ⟨fun pins s σ H R I h => ?_⟩
  refine wpAny_Call_method (T := "dict") (id := "dict.items") hbase rfl hline F.plainAttrs_dict F.slot_dict_items F.type_dict_items (thn (he.run pins s σ H _ I h) fun u s1 ⟨x, H1, I0, rx, d, ex, q⟩ => ?_)
  subst ex
  obtain rfl : u = Value.ref d := rx
  rcases q with ⟨kvs, hd0, q⟩ | ⟨kvs, hd0, q⟩
  · obtain ⟨o, I1⟩ := I0.lock hd0 trivial
    have q := q o (I0.nofrz hd0 trivial)
    have hd : (upd H1 d (.frz o (.dT kvs))) d = some (.frz o (.dT kvs)) := upd_same
    obtain ⟨hs, hgd, hx, es, ep, hdt, hsz, ent⟩ := I1.frzTV hd
    have hT : s1.TypeIs (.ref d) "dict" := ⟨o, hgd, hx.1⟩
    refine ⟨hT, fun a e => by cases e; exact ⟨o, hgd, hx.2.1⟩, ?_⟩
    have hr : s1.heap.DictRaw d es ep := ⟨o, hgd, hx, hdt⟩
    have I2 : Inv X pins σ (upd H1 d (.frz o (.dT kvs))) { s1 with heap := s1.heap.push { cls := .type "dict_items", data := .fields #[.ref d] } } := I1.kept (t' := s1.toks) fun b ob q => Heap.get?_push_of_some _ q
    have fin : wpAny (model X.prog X.w) X.A (pyIter (.ref s1.heap.objs.size)) (PIE X pins σ (.Tuple elts kk tpos) R) X.xe { s1 with heap := s1.heap.push { cls := .type "dict_items", data := .fields #[.ref d] } } := by
      refine wpAny_pyIter_items_raw (d := d) (es := es) (ep := ep) ⟨_, Heap.get?_push_size _ rfl, rfl, rfl⟩ (hr.at fun ob e => Heap.get?_push_of_some _ e) (pi_one (tk := s1.toks) I2 _ (turn_itemsT _ hdt) ⟨.none, .none, ?_⟩ q)
      rw [← hsz]
      exact Heap.get?_push_size _ rfl
    show wpAny _ _ (callWith cpos (.builtin "dict.items") [.ref d] [] []) _ X.xe s1
    exact method_meetsIn F.slot_dict_items F.entry_dict_items rfl (PySem.evalArgs_none ⟨rfl, hT, F.args_dict_items_1 _, _, meets_dict_items_raw d hs, ⟨es, ep, hr⟩, fin⟩)
  · obtain ⟨o, I1⟩ := I0.lock hd0 trivial
    have q := q o (I0.nofrz hd0 trivial)
    have hd : (upd H1 d (.frz o (.dK kvs))) d = some (.frz o (.dK kvs)) := upd_same
    obtain ⟨hs, hgd, hx, es, ep, vs, hdt, hsz, kv, hm⟩ := I1.frzK hd
    have hl : kvs.length = vs.length := Paired.length kv
    refine ⟨hm.dictOf.typeIs, hm.dictOf.mapOf.noDict, ?_⟩
    have I2 : Inv X pins σ (upd H1 d (.frz o (.dK kvs))) { s1 with heap := s1.heap.push { cls := .type "dict_items", data := .fields #[.ref d] } } := I1.kept (t' := s1.toks) fun b ob q => Heap.get?_push_of_some _ q
    have fin : wpAny (model X.prog X.w) X.A (pyIter (.ref s1.heap.objs.size)) (PIE X pins σ (.Tuple elts kk tpos) R) X.xe { s1 with heap := s1.heap.push { cls := .type "dict_items", data := .fields #[.ref d] } } := by
      refine wpAny_pyIter_items (d := d) (knd := mixKind X.prog X.w) ⟨_, Heap.get?_push_size _ rfl, rfl, rfl⟩ (hm.push _) (pi_one (tk := s1.toks) I2 _ (turn_items _ hdt) ⟨.none, .none, ?_⟩ q)
      rw [hl]
      exact Heap.get?_push_size _ rfl
    show wpAny _ _ (callWith cpos (.builtin "dict.items") [.ref d] [] []) _ X.xe s1
    exact method_meetsIn F.slot_dict_items F.entry_dict_items rfl (PySem.evalArgs_none ⟨rfl, hm.dictOf.typeIs, F.args_dict_items_1 _, _, meets_dict_items (mixKind X.prog X.w) d hs, ⟨vs, hm.dictOf⟩, fin⟩)
end L2
namespace PD
open PySem PySem.Spec PyProof.Rows L2 PX LamX
def atomD : D → Bool
  | .int _ => true
  | .str _ => true
  | .bl _ => true
  | .non => true
  | _ => false
def keyBack : Key → D
  | .inl i => .int i
  | .inr s => .str s.cps.toList
def itemsD (tt : Bool) (kvs : List (List Key × D)) : List D := kvs.map fun p => .tup [if tt = true then .tup (p.1.map keyBack) else (p.1.map keyBack).headD .non, p.2]
def dicOf : D → Option (Bool × List (List Key × D))
  | .dic tt kvs => some (tt, kvs)
  | _ => none
def hidA (ε : Ev) : Ev := ε.map fun o => match o with
  | some d => if atomD d = true then some d else none
  | none => none
def mLcIt (vs : List Nat) (mo : M D) (g : MG) (t : M Bool) (e : M D) : M D := fun ε h => bR (mo ε h) fun d h1 => match dicOf d with
  | some (tt, kvs) => if kvs.all (fun p => atomD p.2) = true then (match lcL g t e (itemsD tt kvs) (wipeE (hidA ε) vs) [] with
    | some (ys, []) => if ys.all atomD = true ∧ ys.length ≤ sizeLine then some (.ok (.lst ys), h1) else none
    | _ => none) else none
  | none => none
variable [LamTab]
theorem atom_rep {c c' : RC} {d : D} {v : V} (r : Rep c d v) (h : atomD d = true) : Rep c' d v := by
  cases r with
  | non => exact .non
  | bl b => exact .bl b
  | int i => exact .int i
  | str z => exact .str z
  | _ => cases h
theorem atoms_rep {c c' : RC} : ∀ {ds : List D} {vs : List V}, Reps c ds vs → ds.all atomD = true → Reps c' ds vs
  | _, _, .nil, _ => .nil
  | _, _, .cons r t, h => by
    rw [List.all_cons, Bool.and_eq_true] at h
    exact .cons (atom_rep r h.1) (atoms_rep t h.2)
theorem keyBack_rep {c : RC} (k : Key) : Rep c (keyBack k) (kV k) := by
  cases k with
  | inl i => exact .int i
  | inr s =>
    have e : kV (.inr s) = .str (toS s.cps.toList) := by
      show V.str s = _
      congr 1
    rw [e]
    exact .str _
theorem keysBack_rep {c : RC} : ∀ ks : List Key, Reps c (ks.map keyBack) (ks.map kV)
  | [] => .nil
  | k :: ks => .cons (keyBack_rep k) (keysBack_rep ks)
theorem hidA_env {c c' : RC} {ε : Ev} {σ : L2.St} (r : EnvR c ε σ) : EnvR c' (hidA ε) σ := by
  refine ⟨by unfold hidA; rw [List.length_map]; exact r.len, fun i d e => ?_⟩
  unfold hidA at e
  rw [List.getElem?_map] at e
  cases q : ε[i]? with
  | none => rw [q] at e; cases e
  | some o =>
    rw [q] at e
    cases o with
    | none => cases e
    | some d' =>
      have e : some (if atomD d' = true then some d' else none) = some (some d) := e
      by_cases h : atomD d' = true
      · rw [if_pos h] at e
        cases e
        obtain ⟨v, h1, h2⟩ := r.at_ i d q
        exact ⟨v, h1, atom_rep h2 h⟩
      · rw [if_neg h] at e; cases e
theorem getP {c : RC} : ∀ {kvs : List (List Key × D)} {zs : List (List Key × V)}, RepP c kvs zs → ∀ {i : Nat} {k : List Key} {v : V}, zs[i]? = some (k, v) → ∃ d, kvs[i]? = some (k, d) ∧ Rep c d v
  | _, _, .nil, i, k, v, e => by simp at e
  | _, _, .cons h t, 0, k, v, e => by
    simp only [List.getElem?_cons_zero, Option.some.injEq, Prod.mk.injEq] at e
    obtain ⟨rfl, rfl⟩ := e
    exact ⟨_, rfl, h⟩
  | _, _, .cons h t, i + 1, k, v, e => by
    rw [List.getElem?_cons_succ] at e ⊢
    exact getP t e
/-- a comprehension's loop, the walk given -/
theorem lcJ_of {K : PySem.W.Frag} {mg : Str → Option Value} {g : MG} {S vs : List Nat} {t : M Bool} {el : M D} {σ : L2.St} {ε : Ev} {c1 : RC} {J : It} {ds all : List D} {h1 hE : EH} {p : Addr} {Q : Hp → Prop} (hS : ∀ i ∈ S, i ∈ vs) (r1 : WalkR c1 ds J) (hK1 : c1.K = K) (hm1 : MgE c1 mg) (s1 : SR c1 h1) (er : EnvR c1 ε σ)
    (q : lcL g t el ds (wipeE ε vs) h1 = some (all, hE)) (hz : all.length ≤ sizeLine) (hp : c1.H p = none) (fin : ∀ c2 xs, Over c1 c2 p → SR c2 hE → c2.H p = some (.lst xs) → Reps c2 all xs → Q c2.H) :
    ∃ W : Nat → Nat → Hp → Prop, (∃ m, W 0 m (upd c1.H p (.lst []))) ∧ ∀ i m H, W i m H →
      (J.stop i H ∧ Q H) ∨ (J.go i H ∧ ∃ Nx : Hp → Prop, (∀ H', Nx H' → ∃ m', m' < m ∧ W (i + 1) m' H') ∧ ∀ x H', J.yld i H x H' → tG K mg S g x (wipe σ vs) H' fun σ2 H2 => wipe σ2 vs = wipe σ vs ∧ tT K mg W0 t σ2 H2 fun b H3 =>
        if b = true then tE K mg W0 el σ2 H3 fun y H4 => ∃ acc, H4 p = some (.lst acc) ∧ acc.length < sizeLine ∧ Nx (upd H4 p (.lst (acc ++ [y]))) else Nx H3) := by
  obtain ⟨G, Y, hw, hG, hY⟩ := r1
  obtain ⟨o2, s2⟩ := Over.start (xs := []) s1 hp
  refine lc_it hw (fun i H => ∃ c2 h2 acc xs rest, Over c1 c2 p ∧ c2.H = H ∧ SR c2 h2 ∧ H p = some (.lst xs) ∧ Reps c2 acc xs ∧ EnvR c2 (wipeE ε vs) (wipe σ vs) ∧ lcL g t el (ds.drop i) (wipeE ε vs) h2 = some (rest, hE) ∧ acc ++ rest = all) ?_ ?_ ?_ ?_
  · exact ⟨_, h1, [], [], all, o2, rfl, s2, upd_same, .nil, EnvR.more hp (wipe_envR vs er), q, rfl⟩
  · rintro i H hi ⟨c2, h2, acc, xs, rest, o, rfl, _⟩
    exact hG c2 o.le.toW
  · rintro i x H H' hi ⟨c2, h2, acc, xs, rest, o, rfl, s, hxs, racc, en, e2, ea⟩ y
    obtain ⟨c3, rfl, l3, s3, d, hd, rd⟩ := hY i x c2 h2 H' o.le.toW s y
    have hdr : ds.drop i = d :: ds.drop (i + 1) := by
      rw [List.drop_eq_getElem_cons hi]
      have : ds[i] = d := by
        have := List.getElem?_eq_getElem hi
        rw [this] at hd
        exact Option.some.inj hd
      rw [this]
    rw [hdr] at e2
    unfold lcL at e2
    have o3 := o.step l3
    have p3 := (l3.keep p _ hxs (fun _ z => by cases z) fun z => s.nb p z o.Bp).1
    have hK3 : c3.K = K := o3.le.K.trans hK1
    have hm3 : MgE c3 mg := o3.le.mg.trans hm1
    cases q2 : g d (wipeE ε vs) h2 with
    | none => rw [q2] at e2; cases e2
    | some z =>
      obtain ⟨ε3, h3⟩ := z
      rw [q2] at e2
      dsimp only at e2
      refine ⟨c3, d, wipeE ε vs, h2, ε3, h3, hK3, hm3, rfl, s3, rd, en.le l3, q2, fun c4 σ4 l4 s4 en4 sv => ⟨wipe_save sv hS, ?_⟩⟩
      have o4 := o3.step l4
      have p4 := (l4.keep p _ p3 (fun _ z => by cases z) fun z => s3.nb p z o3.Bp).1
      have hK4 : c4.K = K := o4.le.K.trans hK1
      have hm4 : MgE c4 mg := o4.le.mg.trans hm1
      cases q3 : t ε3 h3 with
      | none => rw [q3] at e2; cases e2
      | some z =>
        obtain ⟨rb, h5⟩ := z
        rw [q3] at e2
        cases rb with
        | ex x5 => cases e2
        | ok b =>
          refine ⟨c4, ε3, h3, .ok b, h5, hK4, hm4, rfl, s4, en4, q3, Px.ok, fun b' eb c5 b'' l5 s5 rb => ?_⟩
          cases eb
          subst rb
          have o5 := o4.step l5
          have p5 := (l5.keep p _ p4 (fun _ z => by cases z) fun z => s4.nb p z o4.Bp).1
          have en5 : EnvR c5 (wipeE ε vs) (wipe σ vs) := ((en.le l3).le l4).le l5
          have racc5 := ((racc.le l3).le l4).le l5
          cases b with
          | false =>
            rw [if_neg Bool.false_ne_true]
            exact ⟨c5, h5, acc, xs, rest, o5, rfl, s5, p5, racc5, en5, e2, ea⟩
          | true =>
            rw [if_pos rfl]
            dsimp only at e2
            cases q4 : el ε3 h5 with
            | none => rw [q4] at e2; cases e2
            | some z =>
              obtain ⟨ry, h6⟩ := z
              rw [q4] at e2
              cases ry with
              | ex x6 => cases e2
              | ok y0 =>
                dsimp only at e2
                refine ⟨c5, ε3, h5, .ok y0, h6, o5.le.K.trans hK1, o5.le.mg.trans hm1, rfl, s5, en4.le l5, q4, Px.ok, fun y' ey c6 yv l6 s6 ry => ?_⟩
                cases ey
                have o6 := o5.step l6
                have p6 := (l6.keep p _ p5 (fun _ z => by cases z) fun z => s5.nb p z o5.Bp).1
                cases q5 : lcL g t el (ds.drop (i + 1)) (wipeE ε vs) h6 with
                | none => rw [q5] at e2; cases e2
                | some z =>
                  obtain ⟨ys, h7⟩ := z
                  rw [q5] at e2
                  cases e2
                  have hlen : xs.length < sizeLine := by
                    rw [← racc.length]
                    have := congrArg List.length ea
                    simp only [List.length_append, List.length_cons] at this
                    omega
                  refine ⟨xs, p6, hlen, ?_⟩
                  obtain ⟨o7, s7⟩ := o6.putB (ys := xs ++ [yv]) s6 p6
                  exact ⟨_, h6, acc ++ [y0], xs ++ [yv], ys, o7, rfl, s7, upd_same, ((racc5.le l6).append (.cons ry .nil)).putB o6.Bp p6, (en5.le l6).putB o6.Bp p6, q5, by rw [List.append_assoc]; exact ea⟩
  · rintro H ⟨c2, h2, acc, xs, rest, o, rfl, s, hxs, racc, en, e2, ea⟩
    rw [List.drop_length] at e2
    cases e2
    rw [List.append_nil] at ea
    subst ea
    exact fin c2 xs o s hxs racc
/-- the inner part stands alone: nothing of the caller's can be written -/
theorem alone_ok {c1 cF' : RC} {h1 : EH} {a : Addr} {od : Obj} {o : HO} (s1 : SR c1 h1) (k1 : c1.H a = some o) (nT : ∀ ps, o ≠ .tbl ps) (nX : ∀ φ, o ≠ .ext φ) (nU : ∀ xs, o ≠ .tup xs) (nF : ∀ x y, o ≠ .frz x y) (hρ : a ∉ c1.ρ)
    (l : ({ c1 with B := fun b => c1.B b ∨ b ∈ c1.ρ, ρ := [], H := upd c1.H a (.frz od o) } : RC).Le cF') : c1.Le { c1 with H := upd cF'.H a o } ∧ SR { c1 with H := upd cF'.H a o } h1 := by
  have fa : cF'.H a = some (.frz od o) := l.frz a od o upd_same
  have keep : ∀ b u, c1.H b = some u → (∀ ps, u ≠ .tbl ps) → (upd cF'.H a o) b = some u := fun b u e nt => by
    by_cases hb : b = a
    · subst hb
      rw [k1] at e
      cases e
      exact upd_same
    · rw [upd_ne hb]
      exact (l.keep b u ((upd_ne hb).trans e) nt List.not_mem_nil).1
  have lF : c1.Le { c1 with H := upd cF'.H a o } := by
    refine ⟨rfl, ⟨rfl, fun t => ?_⟩, fun _ h => h, fun _ h => .inl h, fun b u e => ?_, fun _ _ h => h, fun b u e nt n => ⟨keep b u e nt, n⟩, fun b xs e => ?_, fun b x u e => ?_⟩
    · have t1 := tabs_upd (ρ := []) (B := fun b => c1.B b ∨ b ∈ c1.ρ) (o := .frz od o) (noTab_of k1 nT nX) t
      have t2 := l.mg.t t1
      exact tabs_upd (c := cF') (ρ := c1.ρ) (B := c1.B) (noTab_of fa (fun _ z => by cases z) (fun _ z => by cases z)) t2
    · by_cases hb : b = a
      · exact ⟨o, by rw [hb]; exact upd_same⟩
      · obtain ⟨u', e'⟩ := l.dom b u ((upd_ne hb).trans e)
        exact ⟨u', (upd_ne hb).trans e'⟩
    · have hb : b ≠ a := fun z => by
        subst z
        rcases e with e | ⟨w, e⟩
        · rw [k1] at e; exact nU _ (Option.some.inj e)
        · rw [k1] at e; exact nF _ _ (Option.some.inj e)
      rcases l.tup b xs (by
        rcases e with e | ⟨w, e⟩
        · exact .inl ((upd_ne hb).trans e)
        · exact .inr ⟨w, (upd_ne hb).trans e⟩) with e | ⟨w, e⟩
      · exact .inl ((upd_ne hb).trans e)
      · exact .inr ⟨w, (upd_ne hb).trans e⟩
    · have hb : b ≠ a := fun z => by
        subst z
        rw [k1] at e; exact nF _ _ (Option.some.inj e)
      exact (upd_ne hb).trans (l.frz b x u ((upd_ne hb).trans e))
  refine ⟨lF, s1.len, s1.nd, fun n b k e1 e2 => ?_, s1.nb, fun b hb => ?_⟩
  · have cr := s1.cells n b k e1 e2
    obtain ⟨u, eu⟩ := cr.ex
    refine cr.le lF ?_
    exact (keep b u eu fun ps z => by
      subst z
      exact cr.noTab.1 ps eu).trans eu.symm
  · obtain ⟨u, eu⟩ := s1.bt b hb
    exact lF.dom b u eu
section
variable {X : Cx} {W : WX} {g : MG} {S vs : List Nat} {t : M Bool} {el mo : M D}
/-- what is wanted at the end: the dict is free again -/
def Unl (X : Cx) (Q : VK) : VK := fun v H' => ∃ d od u, H' d = some (.frz od u) ∧ (∀ o' u', X.H_0 d ≠ some (.frz o' u')) ∧ Q v (upd H' d u)
theorem lcIt_of {σ : L2.St} {H : Hp} {Q : VK} (hS : ∀ i ∈ S, i ∈ vs) (h : tE X.K X.mg W (mLcIt vs mo g t el) σ H Q) :
    tLc (iItemsL X (tE X.K X.mg W mo)) (tG X.K X.mg S g) (tT X.K X.mg W0 t) (tE X.K X.mg W0 el) vs σ H (Unl X Q) := by
  obtain ⟨c, ε, h, r, h', hK, hm, rfl, sr, er, e, px, go⟩ := h
  unfold tLc iItemsL
  refine tX.bind hK hm sr er e px fun d h1 c1 v e1 l1 s1 r1 => ?_
  have hK1 := l1.K.trans hK
  have hm1 := l1.mg.trans hm
  cases r1 with
  | @dic a tt o kvs zs k1 k2 k3 k4 =>
    have e1 : (if kvs.all (fun p => atomD p.2) = true then (match lcL g t el (itemsD tt kvs) (wipeE (hidA ε) vs) [] with
      | some (ys, []) => if ys.all atomD = true ∧ ys.length ≤ sizeLine then some (R.ok (D.lst ys), h1) else none
      | _ => none) else none) = some (r, h') := e1
    by_cases hat : kvs.all (fun p => atomD p.2) = true
    · rw [if_pos hat] at e1
      cases q : lcL g t el (itemsD tt kvs) (wipeE (hidA ε) vs) [] with
      | none => rw [q] at e1; cases e1
      | some z =>
        obtain ⟨ys, hE⟩ := z
        rw [q] at e1
        cases hE with
        | cons x y => cases e1
        | nil =>
          dsimp only at e1
          by_cases hy : ys.all atomD = true ∧ ys.length ≤ sizeLine
          · rw [if_pos hy] at e1
            cases e1
            have nT := k2.tbl
            have nX : ∀ φ, o ≠ .ext φ := fun φ z => by
              subst z
              rcases k2 with ⟨_, _, z, _⟩ | ⟨_, z⟩ <;> cases z
            -- the part that is alike for both kinds
            have main : ∀ (od : Obj) (J : It), (∀ o' u', X.H_0 a ≠ some (.frz o' u')) → WalkR { c1 with B := fun b => c1.B b ∨ b ∈ c1.ρ, ρ := [], H := upd c1.H a (.frz od o) } (itemsD tt kvs) J → ∀ D, (upd c1.H a (.frz od o)) D = none →
                ∃ W : Nat → Nat → Hp → Prop, (∃ m, W 0 m (upd (upd c1.H a (.frz od o)) D (.lst []))) ∧ ∀ i m H, W i m H →
                  (J.stop i H ∧ Unl X Q (.ref D) H) ∨ (J.go i H ∧ ∃ Nx : Hp → Prop, (∀ H', Nx H' → ∃ m', m' < m ∧ W (i + 1) m' H') ∧ ∀ x H', J.yld i H x H' → tG X.K X.mg S g x (wipe σ vs) H' fun σ2 H2 => wipe σ2 vs = wipe σ vs ∧ tT X.K X.mg W0 t σ2 H2 fun b H3 =>
                    if b = true then tE X.K X.mg W0 el σ2 H3 fun y H4 => ∃ acc, H4 D = some (.lst acc) ∧ acc.length < sizeLine ∧ Nx (upd H4 D (.lst (acc ++ [y]))) else Nx H3) := fun od J nf wr D hD => by
              have hDa : D ≠ a := fun z => by
                rw [z, upd_same] at hD; cases hD
              have hD1 : c1.H D = none := by rw [upd_ne hDa] at hD; exact hD
              have sI : SR ({ c1 with B := fun b => c1.B b ∨ b ∈ c1.ρ, ρ := [], H := upd c1.H a (.frz od o) } : RC) [] := SR.nil rfl fun b hb => by
                by_cases z : b = a
                · exact ⟨_, by rw [z]; exact upd_same⟩
                · rcases hb with hb | hb
                  · obtain ⟨u, eu⟩ := s1.bt b hb
                    exact ⟨u, (upd_ne z).trans eu⟩
                  · obtain ⟨u, eu⟩ := s1.ex hb
                    exact ⟨u, (upd_ne z).trans eu⟩
              refine lcJ_of hS wr hK1 ⟨hm1.e, fun _ => tabs_upd (noTab_of k1 nT nX) (hm1.t trivial)⟩ sI (hidA_env (er.le l1)) q hy.2 hD fun c2 xs ov s2 hxs rr => ?_
              obtain ⟨lF, sF⟩ := alone_ok s1 k1 nT nX k2.tup k2.frz k3.2 ov.le
              refine ⟨a, od, o, ov.le.frz a od o upd_same, nf, ?_⟩
              refine go _ rfl { c1 with H := upd c2.H a o } (.ref D) (l1.trans lF) sF (.lst ((upd_ne hDa).trans hxs) ⟨fun z => ?_, fun z => ?_⟩ (atoms_rep rr hy.1))
              · obtain ⟨u, eu⟩ := s1.bt D z
                rw [hD1] at eu; cases eu
              · obtain ⟨u, eu⟩ := s1.ex z
                rw [hD1] at eu; cases eu
            rcases k2 with ⟨rfl, ys', rfl, rfl⟩ | ⟨rfl, rfl⟩
            · refine ⟨a, rfl, .inr ⟨ys', k1, fun od nf => main od _ nf ?_⟩⟩
              refine ⟨fun H => H a = some (.frz od (.dK ys')), fun i H x H' => ∃ T k v, ys'[i]? = some (k, v) ∧ x = .ref T ∧ H T = none ∧ H' = upd H T (.tup [kV k, v]), ⟨fun i H hi hg => ⟨hg, ?_⟩, fun H hg => ⟨hg, ?_⟩, fun i H x H' hi hg y => y⟩, fun c' l => l.frz a od _ upd_same, fun i x c' h H' lw s y => ?_⟩
              · unfold itemsD at hi
                rw [List.length_map, k4.len, List.length_map] at hi
                exact hi
              · unfold itemsD
                rw [List.length_map, k4.len, List.length_map]
                exact Nat.le_refl _
              · obtain ⟨T, k, v, hz, rfl, hT, rfl⟩ := y
                obtain ⟨d, hd, rd⟩ := getP k4 (i := i) (k := [k]) (v := v) (by rw [List.getElem?_map, hz]; rfl)
                obtain ⟨l2, s2, f2⟩ := s.new (o := .tup [kV k, v]) hT
                have ha : atomD d = true := List.all_eq_true.mp hat _ (List.mem_of_getElem? hd)
                refine ⟨_, rfl, l2, s2, .tup [keyBack k, d], ?_, .tup (.inl (.inl upd_same)) (.cons (keyBack_rep k) (.cons (atom_rep rd ha) .nil))⟩
                unfold itemsD
                rw [List.getElem?_map, hd]
                rfl
            · refine ⟨a, rfl, .inl ⟨zs, k1, fun od nf => main od _ nf ?_⟩⟩
              refine ⟨fun H => H a = some (.frz od (.dT zs)), fun i H x H' => ∃ T k v q, zs[i]? = some (k, v) ∧ x = .ref T ∧ H T = none ∧ H q = some (.tup (k.map kV)) ∧ H' = upd H T (.tup [.ref q, v]), ⟨fun i H hi hg => ⟨hg, ?_⟩, fun H hg => ⟨hg, ?_⟩, fun i H x H' hi hg y => y⟩, fun c' l => l.frz a od _ upd_same, fun i x c' h H' lw s y => ?_⟩
              · unfold itemsD at hi
                rw [List.length_map, k4.len] at hi
                exact hi
              · unfold itemsD
                rw [List.length_map, k4.len]
                exact Nat.le_refl _
              · obtain ⟨T, k, v, qa, hz, rfl, hT, hq, rfl⟩ := y
                obtain ⟨d, hd, rd⟩ := getP k4 hz
                obtain ⟨l2, s2, f2⟩ := s.new (o := .tup [.ref qa, v]) hT
                have ha : atomD d = true := List.all_eq_true.mp hat _ (List.mem_of_getElem? hd)
                have qne : qa ≠ T := fun z => by rw [z, hT] at hq; cases hq
                refine ⟨_, rfl, l2, s2, .tup [.tup (k.map keyBack), d], ?_, .tup (.inl (.inl upd_same)) (.cons (.tup (.inl (.inl ((upd_ne qne).trans hq))) (keysBack_rep k)) (.cons (atom_rep rd ha) .nil))⟩
                unfold itemsD
                rw [List.getElem?_map, hd]
                rfl
          · rw [if_neg hy] at e1; cases e1
    · rw [if_neg hat] at e1; cases e1
  | _ => cases e1
theorem re_lcItems {o elt : Expr} {elts : List Expr} {kk : Nat} {tpos apos cpos pos : Pos} {ifs : List Expr} {scope : Scope} {own : List (Str × Nat)} (hc : X.calm = true) (hN : X.N.Nodup) (ho : RE X W o mo) (ok : BlkOk X.N X.env.scope scope own) (hS : ∀ i ∈ S, i ∈ own.map (·.2))
    (hg : ∀ (s : Shared) (H : Hp) (C : Addr) (cl : List (Str × Addr)) (fp : List Addr), RG (X.blk s H scope (compEnvC scope cl C X.env) fp) (.Tuple elts kk tpos) S g) (ht : ∀ (s : Shared) (H : Hp) (C : Addr) (cl : List (Str × Addr)) (fp : List Addr), RTs (X.blk s H scope (compEnvC scope cl C X.env) fp) W0 ifs t)
    (he : ∀ (s : Shared) (H : Hp) (C : Addr) (cl : List (Str × Addr)) (fp : List Addr), RE (X.blk s H scope (compEnvC scope cl C X.env) fp) W0 elt el) (hbase : attributeBase o "items" X.env (eval o X.env) = eval o X.env := by rfl) (hline : (apos.endLine == cpos.line) = true := by rfl)
    (hs : ∀ x, foldedSetIterable (.Call (.Attribute o "items" apos) [] [] cpos) X.env x = pure x := by intro _; rfl) :
    RE X W (.ListComp elt [⟨.Tuple elts kk tpos, .Call (.Attribute o "items" apos) [] [] cpos, ifs, 0⟩] scope pos) (mLcIt (own.map (·.2)) mo g t el) := by
  have p := pe_lc (pos := pos) (g := tG X.K X.mg S g) (tt := tT X.K X.mg W0 t) (te := tE X.K X.mg W0 el) hc hN (pi_itemsL ho hbase hline) ok hg ht he hs
  refine ⟨fun pins s σ H Q I h => ?_⟩
  refine thn (p.run pins s σ H _ I (lcIt_of hS h)) fun v s1 ⟨x, H1, I1, rx, d, od, u, hd, nf, q⟩ => ?_
  exact ⟨x, _, I1.unlock hd nf, rx, q⟩
end
end PD
namespace L2
open PySem PySem.Spec PyProof.Rows
theorem node_dc {prog : Program} {w : World} {A : Around} {kx vx : Expr} {gs : List Comprehension} {scope : Scope} {pos : Pos} : NodeIs prog w A (.DictComp kx vx gs scope pos) := ⟨fun _ _ _ _ => rfl, fun _ _ _ _ => rfl, fun _ _ _ _ => rfl, fun _ _ _ _ => rfl⟩
def innerPut (kx vx : Expr) (D : Addr) (env : Env) : Sem Fin → Sem Fin := fun rest => do
  (do
    let kv ← eval kx env
    let vv ← holding [kv] (eval vx env)
    standAt { kx.pos with endLine := vx.pos.endLine, endCol := vx.pos.endCol }
    holding [kv, vv] (dictSet D kv vv))
  rest
theorem dc_turn {kx vx tg iter : Expr} {ifs : List Expr} {scope : Scope} {pos : Pos} {it : Value} {D : Addr} {env : Env} : TurnEq (.DictComp kx vx [⟨tg, iter, ifs, 0⟩] scope pos) 0 it (.ref D) env tg iter.pos ifs (innerPut kx vx D env) := by rfl
abbrev TKind (P : Program) (w : World) := tupleKind (mixKind P w)
/-- the dict at p, its keys' tuples anywhere -/
def DcO (P : Program) (w : World) (p : Addr) (xs : List (List Key × Addr × Value)) : HO := .ext fun h => (p == sysModules) = false ∧ xs.length ≤ sizeLine ∧ ∃ o es ep, h.get? p = some o ∧ o.ExactDict ∧ o.data = .dict es ep ∧ es.toList = xs.map (entryOfKey (TKind P w)) ∧ (xs.map (·.1)).Nodup
theorem dcO_ok {P : Program} {w : World} {H : Hp} {h : Heap} {p : Addr} {xs : List (List Key × Addr × Value)} (h1 : (p == sysModules) = false) (h2 : xs.length ≤ sizeLine) {o : Obj} {es : Array DictEntry} {ep : Nat} (h3 : h.get? p = some o) (h4 : o.ExactDict) (h5 : o.data = .dict es ep) (h6 : es.toList = xs.map (entryOfKey (TKind P w))) (h7 : (xs.map (·.1)).Nodup) :
    ObjOk P w H h p (DcO P w p xs) := ⟨⟨h1, h2, o, es, ep, h3, h4, h5, h6, h7⟩, ⟨o, h3⟩, fun g1 g2 ⟨a1, a2, o', es', ep', a3, a4⟩ k => ⟨a1, a2, o', es', ep', k o' a3, a4⟩⟩
theorem dcO_code {P : Program} {w : World} {a : Addr} {xs : List (List Key × Addr × Value)} {q : Str} : DcO P w a xs ≠ LamX.CodeO a q := fun z => by
  have z := HO.ext.inj z
  let oc : Obj := { cls := .none, data := .fields #[.none, .str q 0] }
  have hg : (⟨Array.replicate (a + 1) oc, {}⟩ : Heap).get? a = some oc := by
    unfold Heap.get?
    have e : (Array.replicate (a + 1) oc)[a]? = some oc := by
      rw [Array.getElem?_replicate, if_pos (Nat.lt_succ_self a)]
    show (match (Array.replicate (a + 1) oc)[a]? with
      | some ⟨_, _, .freed, _⟩ => none
      | o => o) = _
    rw [e]
  have c := congrFun z (⟨Array.replicate (a + 1) oc, {}⟩ : Heap)
  have c2 : ∃ (oc' : Obj) (vs : Array Value) (t : Tok), (⟨Array.replicate (a + 1) oc, {}⟩ : Heap).get? a = some oc' ∧ oc'.data = .fields vs ∧ vs[1]? = some (.str q t) := ⟨oc, _, 0, hg, rfl, rfl⟩
  obtain ⟨_, _, o, es, ep, h3, _, h5, _⟩ := (iff_of_eq c).mpr c2
  rw [hg] at h3
  cases h3
  cases h5
section
variable {X : Cx} {pins : List (Addr × Obj)} {σ : St} {H : Hp} {s : Shared}
theorem isKey_of {b : Addr} {k : List Key} (I : Inv X pins σ H s) (h : SqT X.K H b (k.map kV)) : (TKind X.prog X.w).is s.heap k b := by
  obtain ⟨its, r, ⟨o, h1, h2, n, h3⟩, _⟩ := I.tuple h
  exact ⟨o, its.toArray, n, h1, h2, h3, by simpa using items_are r⟩
theorem dcO_put {E : Value → Shared → Prop} {D b : Addr} {xs : List (List Key × Addr × Value)} {k : List Key} {r : Value} {Q : Unit → Shared → Prop} (hu : X.A.units < cLine) (I : Inv X pins σ H s) (hD : H D = some (DcO X.prog X.w D xs)) (hx : ∀ x ∈ xs, SqT X.K H x.2.1 (x.1.map kV)) (hb : SqT X.K H b (k.map kV)) (hz : xs.length < sizeLine)
    (h : ∀ s', Inv X pins σ (upd H D (DcO X.prog X.w D (storedH xs k b r))) s' → Q () s') : wpAny (model X.prog X.w) X.A (dictSet D (.ref b) r) Q E s := by
  obtain ⟨⟨h1, h2, o, es, ep, h3, h4, h5, h6, h7⟩, _⟩ := I.hok D _ hD
  have dd : s.heap.DictOfH (TKind X.prog X.w) D xs := ⟨o, es, ep, h3, h4, h5, h6, fun x m => isKey_of I (hx x m), h7⟩
  refine wpAny_dictSet_heap (hsz := h2) hu (isKey_of I hb) dd fun h' dd' hs => h _ ?_
  obtain ⟨o', es', ep', g3, g4, g5, g6, _, g7⟩ := dd'
  have hl : (storedH xs k b r).length ≤ sizeLine := by
    unfold storedH
    split
    · rw [List.length_map]; exact h2
    · rw [List.length_append]; exact hz
  exact d_write I (by rw [hD]; trivial) hs ⟨o', g3⟩ (dcO_ok h1 hl g3 g4 g5 g6 g7)
/-- list(d) -/
theorem call_list_dc (hc : X.calm = true) : CallR X (.type "list") (fun xs H Q => ∃ d ks, xs = [V.ref d] ∧ H d = some (DcO X.prog X.w d ks) ∧ ∀ p, H p = none → Q (.ref p) (upd H p (.lst (ks.map fun x => V.ref x.2.1)))) := by
  intro pins s σ H xs us Q I r h
  obtain ⟨d, ks, rfl, hd, q⟩ := h
  obtain ⟨u, rfl, rx⟩ := r.one
  cases rx
  obtain ⟨⟨hs, z, o, es, ep, ho, hx, hdt, he, hn⟩, _⟩ := I.hok d _ hd
  have l1 : es.size = ks.length := size_of_entries he
  refine PySem.W.kdl_call (kdl_raw hs hx hdt) (I.ok.hd hc) ho (by omega) fun h' tk acc' c' kp e it => ?_
  have ea : acc'.toList = (ks.map fun x => x.2.1).map Value.ref := by
    have hl : acc'.toList.length = ks.length := by rw [Array.length_toList, it.1]; exact l1
    apply List.ext_getElem?
    intro j
    rw [List.map_map, List.getElem?_map]
    cases hj : acc'.toList[j]? with
    | none =>
      have h1 := List.getElem?_eq_none_iff.mp hj
      rw [List.getElem?_eq_none (by omega)]
      rfl
    | some v =>
      obtain ⟨en, hen, hv⟩ := it.2 j v (by rw [← Array.getElem?_toList]; exact hj)
      have qe := entry_at he j
      rw [hen] at qe
      cases hb : ks[j]? with
      | none => rw [hb] at qe; cases qe
      | some b =>
        rw [hb] at qe
        have e2 := Option.some.inj qe
        rw [hv, e2]
        rfl
  have rv : Vals (ks.map fun x => V.ref x.2.1) acc'.toList := by
    rw [ea]
    have := vals_refs (ks.map fun x => x.2.1)
    rw [List.map_map] at this
    exact this
  have hz : (ks.map fun x => V.ref x.2.1).length ≤ sizeLine := by rw [List.length_map]; exact z
  refine ⟨.ref s.heap.objs.size, _, I.laid (t' := tk) (o := .lst (ks.map fun x => V.ref x.2.1)) kp (Nat.le_refl _) ?_, rfl, q _ (I.hok.fresh (Nat.le_refl _))⟩
  exact ⟨hz, acc'.toList, c', rv, by rw [Array.toArray_toList]; exact e⟩
/-- the turn's end: one more key -/
def tPutX (P : Program) (w : World) (K : PySem.W.Frag) (tk : TE) (D : Addr) : BodyT := fun σ H Nx => tk σ H fun y H4 => ∃ xs k b, y = .ref b ∧ SqT K H4 b (k.map kV) ∧ H4 D = some (DcO P w D xs) ∧ (∀ x ∈ xs, SqT K H4 x.2.1 (x.1.map kV)) ∧ xs.length < sizeLine ∧ Nx (upd H4 D (DcO P w D (storedH xs k b (.bool true))))
variable {s3 : Shared} {H3 : Hp} {scope : Scope} {ce : Env} {fp : List Addr}
theorem runs_putX {kx : Expr} {tk : TE} {D : Addr} {vp : Pos} (hu : X.A.units < cLine) (hce : (X.blk s3 H3 scope ce fp).env = ce) (pe : PE (X.blk s3 H3 scope ce fp) kx tk) : RunsB (X.blk s3 H3 scope ce fp) (innerPut kx (.Constant (.bool true) 0 vp) D ce) [] (tPutX X.prog X.w X.K tk D) := by
  intro pins s σ H Nx I hb rest Qr Er hr
  unfold innerPut
  have r1 := pe.run pins s σ H _ I hb
  rw [hce] at r1
  refine wpAny_bind (wpAny_bind (thnF r1 fun z s17 ⟨yv, H17, I17, r17, xs, k, b, ey, hbk, hD17, hx, hz, nx⟩ => ?_))
  subst ey
  cases (show z = Value.ref b from r17)
  refine wpAny_bind (wpAny_holding (Constant_bool ?_))
  refine wpAny_bind (wpAny_standAt (wpAny_holding ?_))
  exact dcO_put (X := X.blk s3 H3 scope ce fp) hu I17 hD17 hx hbk hz fun s18 I18 => hr s18 _ I18 nx
theorem lcN_coreB {pins : List (Addr × Obj)} {s : Shared} {σ : L2.St} {H : Hp} {Q : VK} {node tg iter : Expr} {ifs : List Expr} {gs : List Comprehension} {scope : Scope} {own : List (Str × Nat)} {vsIn : List Nat} {pos' : Pos} {wi : TI} {g : TG} {tt : TT} {body : Addr → BodyT} {inner : Env → Addr → Sem Fin → Sem Fin} {use : Option (Value → Sem Unit)} {Qf : Value → Shared → Prop} {newAcc : Sem Value} {o0 : Addr → HO} {ob0 : Obj}
    (hc : X.calm = true) (hN : X.N.Nodup) (hcl : clausesOf node = ⟨tg, iter, ifs, 0⟩ :: gs) (Nd : NodeIs X.prog X.w X.A node) (Te : ∀ it D env, TurnEq node 0 (.ref it) (.ref D) env tg iter.pos ifs (inner env D)) (I : Inv X pins σ H s) (hi : PI X tg iter wi) (ok : BlkOk X.N X.env.scope scope own) (hv : ∀ i ∈ vsIn, i ∈ own.map (·.2))
    (hnew : ∀ {s : Shared} {Q : Value → Shared → Prop}, Q (.ref s.heap.objs.size) { s with heap := s.heap.push ob0 } → wpAny (model X.prog X.w) X.A newAcc Q X.xe s) (hob : ∀ (H : Hp) (h : Heap), sysModules < h.objs.size → ObjOk X.prog X.w H (h.push ob0) h.objs.size (o0 h.objs.size))
    (hg : ∀ (s : Shared) (H : Hp) (C : Addr) (cl : List (Str × Addr)) (fp : List Addr), PG (X.blk s H scope (compEnvC scope cl C X.env) fp) tg g) (ht : ∀ (s : Shared) (H : Hp) (C : Addr) (cl : List (Str × Addr)) (fp : List Addr), PTs (X.blk s H scope (compEnvC scope cl C X.env) fp) ifs tt)
    (hb : ∀ (s : Shared) (H : Hp) (C : Addr) (cl : List (Str × Addr)) (fp : List Addr) (D : Addr), RunsB (X.blk s H scope (compEnvC scope cl C X.env) fp) (inner (compEnvC scope cl C X.env) D) vsIn (body D)) (hs : ∀ x, foldedSetIterable iter X.env x = pure x)
    (h : tLcN o0 wi g tt (own.map (·.2)) body σ H Q)
    (hRR : ∀ D C s' m H', Inv X pins σ H' s' → Q (.ref D) H' → s'.heap.Ns C m → FpOk X pins H' C → compPost (model X.prog X.w) X.A X.xe use Qf (.ref D) C (.ok .next) s') :
    wpAny (model X.prog X.w) X.A (comprehension node scope X.env pos' newAcc false (eval iter X.env) use) Qf X.xe s := by
  have hfree : ∀ y ∈ scope.names, y.2 = .free → ∃ c, X.env.cells.lookup y.1 = some c := fun y hy e => by
    rcases ok.free y hy e with k | k
    · exact I.ok.has _ (.inl k)
    · exact I.ok.has _ (.inr k)
  refine wpAny_comprehension_free (use := use) hcl hs (closure_ok hfree) ok.kind (fun y hy e => by rw [ok.uniq y hy, e])
    (thn (hi.run pins s σ H _ I h) fun xv s1 hx => thn hx fun itv s2 h2 => ?_)
  obtain ⟨it, fp, tn, J, H2, e, I2, T, st2, f2, q⟩ := h2
  subst e
  refine hnew (newEnv_comp ?_)
  generalize hD : s2.heap.objs.size = D
  have hDn : H2 D = none := I2.hok.fresh (Nat.le_of_eq hD)
  obtain ⟨W, ⟨m0, w0⟩, turn⟩ := q D hDn
  generalize hs3 : ({ s2 with heap := s2.heap.push ob0 } : Shared) = s3
  have I3 : Inv X pins σ (upd H2 D (o0 D)) s3 := by
    rw [← hs3]
    refine I2.laid (t' := s2.toks) (fun b o e => Heap.get?_push_of_some _ e) (Nat.le_of_eq hD) ?_
    rw [← hD]
    exact hob _ _ I2.big
  have h3 : s3.heap = s2.heap.push ob0 := by rw [← hs3]
  have sz : ∀ b ∈ fp, b < s2.heap.objs.size := fun b hb => by
    obtain ⟨o, e, _⟩ := T.obj _ _ st2 b hb
    exact Heap.lt_size e
  have f3 : ∀ b ∈ fp, FpOk X pins (upd H2 D (o0 D)) b ∧ b < s3.heap.objs.size := fun b hb => by
    have hlt := sz b hb
    refine ⟨⟨?_, (f2 b hb).2⟩, by rw [h3, Heap.size_push]; exact Nat.lt_succ_of_lt hlt⟩
    rw [upd_ne (by rw [← hD]; exact Nat.ne_of_lt hlt)]
    exact (f2 b hb).1
  have st3 : tn 0 s3.heap := T.keep _ _ _ st2 fun b _ o e => by rw [h3]; exact Heap.get?_push_of_some _ e
  have I4 := block_start I3 ok hN f3
  have pg := hg s3 (upd H2 D (o0 D)) s3.heap.objs.size (cellsFrom (s3.heap.objs.size + 1) scope.names (cloFrom X.env.cells scope.names [])) fp
  have pt := ht s3 (upd H2 D (o0 D)) s3.heap.objs.size (cellsFrom (s3.heap.objs.size + 1) scope.names (cloFrom X.env.cells scope.names [])) fp
  have pb := hb s3 (upd H2 D (o0 D)) s3.heap.objs.size (cellsFrom (s3.heap.objs.size + 1) scope.names (cloFrom X.env.cells scope.names [])) fp D
  show codeAny _ _ (.compStart node 0 (.ref it) (.ref D) (compEnvC scope (cellsFrom (s3.heap.objs.size + 1) scope.names (cloFrom X.env.cells scope.names [])) s3.heap.objs.size X.env)) (compPost (model X.prog X.w) X.A X.xe use Qf (.ref D) s3.heap.objs.size) { s3 with heap := pushCells (s3.heap.push { cls := .type "dict", data := .dict #[] }) scope.names }
  have nfp : ∀ b ∈ fp, (upd H2 D (o0 D)) b = none := fun b hb => (f3 b hb).1.1
  generalize hce : compEnvC scope (cellsFrom (s3.heap.objs.size + 1) scope.names (cloFrom X.env.cells scope.names [])) s3.heap.objs.size X.env = ce at I4 pg pt pb ⊢
  have cL : ce.locals = s3.heap.objs.size := by subst hce; rfl
  generalize hH3 : upd H2 D (o0 D) = H3 at I3 I4 pg pt pb w0 nfp f3
  generalize hs4 : ({ s3 with heap := pushCells (s3.heap.push { cls := .type "dict", data := .dict #[] }) scope.names } : Shared) = s4 at I4 ⊢
  have st4 : tn 0 s4.heap := T.keep _ _ _ st3 fun b _ o e => by rw [← hs4]; exact pushCells_keeps _ _ _ _ (Heap.get?_push_of_some _ e)
  have stat : ∀ {H' : Hp}, (∀ b ∈ fp, H' b = none) → ∀ b ∈ fp, FpOk (X.blk s3 H3 scope ce fp) [] H' b := fun {H'} hn b hb =>
    ⟨hn b hb, (I4.ok.exf b hb).1, I4.ok.exfs b hb, .inl hb, fun x c e => (I4.ok.exf b hb).2 x c e, fun p hp => absurd (show p ∈ ([] : List (Addr × Obj)) ++ [] from hp) (by simp)⟩
  have loop0 := loopB (X := X) (s3 := s3) (H3 := H3) (scope := scope) (ce := ce) (fp := fp) hc Nd (Te it D ce) hv pg pt pb rfl T I4 st4 stat nfp w0 turn
  have loop : codeAny (model X.prog X.w) X.A (.compLoop node 0 (.ref it) (.ref D) ce) (compPost (model X.prog X.w) X.A X.xe use Qf (.ref D) s3.heap.objs.size) s4 := by
    refine codeAny_mono loop0 fun r s6 hr => ?_
    cases r with
    | error e => exact hr.elim
    | ok f =>
      obtain ⟨ef, H5, I6, qq⟩ := hr
      subst ef
      have I7 : Inv X pins σ H5 s6 := I3.call' (ch := fp) I6.os I6.base I6.hok I6.bare fun b hb => ⟨(f3 b hb).1.2.2.2.1, (f3 b hb).1.2.1, (f3 b hb).1.2.2.2.2.1, (f3 b hb).1.2.2.2.2.2⟩
      have nC : H5 s3.heap.objs.size = none := by
        have z : H5 ce.locals = none := I6.free
        rw [cL] at z
        exact z
      obtain ⟨m, hn, _⟩ := I6.loc
      have hn : s6.heap.Ns ce.locals m := hn
      rw [cL] at hn
      exact hRR D s3.heap.objs.size s6 m H5 I7 qq hn (I3.fpOk (Nat.le_refl _) nC)
  exact compStartN Nd (by rw [hcl]; rfl) rfl loop (T.self X.A 0 _ _ _ st4 loop)
/-- {k: True for ..}, its keys tuples: D in the heap, its keys kept -/
theorem pe_dcT {kx tg iter : Expr} {ifs : List Expr} {own : List (Str × Nat)} {pos vp : Pos} {wi : TI} {g : TG} {tt : TT} {tk : TE}
    (hu : X.A.units < cLine) (hc : X.calm = true) (hN : X.N.Nodup) (hi : PI X tg iter wi) (ok : BlkOk X.N X.env.scope scope own)
    (hg : ∀ (s : Shared) (H : Hp) (C : Addr) (cl : List (Str × Addr)) (fp : List Addr), PG (X.blk s H scope (compEnvC scope cl C X.env) fp) tg g) (ht : ∀ (s : Shared) (H : Hp) (C : Addr) (cl : List (Str × Addr)) (fp : List Addr), PTs (X.blk s H scope (compEnvC scope cl C X.env) fp) ifs tt)
    (hk : ∀ (s : Shared) (H : Hp) (C : Addr) (cl : List (Str × Addr)) (fp : List Addr), PE (X.blk s H scope (compEnvC scope cl C X.env) fp) kx tk) (hs : ∀ x, foldedSetIterable iter X.env x = pure x := by intro _; rfl) :
    PE X (.DictComp kx (.Constant (.bool true) 0 vp) [⟨tg, iter, ifs, 0⟩] scope pos) (tLcN (fun D => DcO X.prog X.w D []) wi g tt (own.map (·.2)) (tPutX X.prog X.w X.K tk)) := by
  refine ⟨fun pins s σ H Q I h => ?_⟩
  rw [arm_eval_DictComp]
  show wpAny _ _ (comprehension (.DictComp kx (.Constant (.bool true) 0 vp) [⟨tg, iter, ifs, 0⟩] scope pos) scope X.env (firstIterPos [⟨tg, iter, ifs, 0⟩] pos) newDict false (eval iter X.env)) _ _ _
  refine lcN_coreB (o0 := fun D => DcO X.prog X.w D []) (ob0 := { cls := .type "dict", data := .dict #[] }) (vsIn := []) hc hN rfl node_dc (fun it D env => dc_turn) I hi ok (fun _ z => by cases z) (fun {s Q} h => wpAny_newObj_type h) (fun H h hb => dcO_ok (beq_eq_false_iff_ne.mpr (Ne.symm (Nat.ne_of_lt hb))) (Nat.zero_le _) (Heap.get?_push_size _ rfl) ⟨rfl, rfl, rfl⟩ rfl rfl List.nodup_nil) hg ht (fun s H C cl fp D => runs_putX hu rfl (hk s H C cl fp)) hs h fun D C s' m H' I' q hn f => ⟨m, hn, fun h'' sb => ?_⟩
  obtain ⟨f0, f1, f2, f3, f4, f5⟩ := f
  exact ⟨.ref D, H', I'.turned (t' := s'.toks) (fun b o hb e => (sb.2 b hb).trans e) f0 f1 f3 f4 f5, rfl, q⟩
end
end L2
namespace PD
open PySem PySem.Spec PyProof.Rows L2 LamX
def tupOf : D → Option (List Key)
  | .tup zs => keysZ zs
  | _ => none
def addKD (k : List Key) (d : D) (kvs : List (List Key × D)) : List (List Key × D) := if (kvs.find? fun q => decide (q.1 = k)).isSome then kvs else kvs ++ [(k, d)]
def dedL (g : MG) (t : M Bool) (mk : M D) (ε : Ev) : List D → List (List Key × D) → EH → Option (List (List Key × D) × EH)
  | [], kvs, h => some (kvs, h)
  | d :: ds, kvs, h => match g d ε h with
    | none => none
    | some (ε1, h1) => match t ε1 h1 with
      | some (.ok true, h2) => (match mk ε1 h2 with
        | some (.ok y, h3) => (match tupOf y with
            | some k => if kvs.length < 16777216 then dedL g t mk ε ds (addKD k y kvs) h3 else none
            | none => none)
        | _ => none)
      | some (.ok false, h2) => dedL g t mk ε ds kvs h2
      | _ => none
def mListDc (vs : List Nat) (mi : M (List D)) (g : MG) (t : M Bool) (mk : M D) : M D := fun ε h => bR (mi ε h) fun ds h1 => (dedL g t mk (wipeE ε vs) ds [] h1).map fun z => (.ok (.lst (z.1.map (·.2))), z.2)
variable [LamTab]
inductive RepX (c : RC) : List (List Key × D) → List (List Key × Addr × Value) → Prop
  | nil : RepX c [] []
  | cons {k : List Key} {d : D} {a : Addr} {v : Value} {ds : List (List Key × D)} {xs : List (List Key × Addr × Value)} : Rep c d (.ref a) → tupOf d = some k → RepX c ds xs → RepX c ((k, d) :: ds) ((k, a, v) :: xs)
theorem RepX.imp {c c' : RC} (f : ∀ {d : D} {v : V}, Rep c d v → Rep c' d v) {ds : List (List Key × D)} {xs : List (List Key × Addr × Value)} (r : RepX c ds xs) : RepX c' ds xs := by
  induction r with
  | nil => exact .nil
  | cons h1 h2 _ ih => exact .cons (f h1) h2 ih
theorem RepX.len {c : RC} {ds : List (List Key × D)} {xs : List (List Key × Addr × Value)} (r : RepX c ds xs) : ds.length = xs.length := by
  induction r with
  | nil => rfl
  | cons _ _ _ ih => rw [List.length_cons, List.length_cons, ih]
theorem tup_sqt {c : RC} {d : D} {a : Addr} {k : List Key} (r : Rep c d (.ref a)) (e : tupOf d = some k) : SqT c.K c.H a (k.map kV) := by
  cases r with
  | tup h1 h2 =>
    have z := keysZ_ok (show keysZ _ = some k from e)
    rw [← keysD_ok h2 z.2]
    exact h1
  | _ => cases e
theorem RepX.sqt {c : RC} {ds : List (List Key × D)} {xs : List (List Key × Addr × Value)} (r : RepX c ds xs) : ∀ x ∈ xs, SqT c.K c.H x.2.1 (x.1.map kV) := by
  induction r with
  | nil => intro _ z; cases z
  | cons h1 h2 _ ih =>
    intro x hx
    rcases List.mem_cons.mp hx with rfl | hx
    · exact tup_sqt h1 h2
    · exact ih x hx
theorem RepX.find {c : RC} {ds : List (List Key × D)} {xs : List (List Key × Addr × Value)} (r : RepX c ds xs) (k : List Key) : (atKey xs k).isSome = (ds.find? fun q => decide (q.1 = k)).isSome := by
  induction r with
  | nil => rfl
  | @cons k' _ _ _ _ _ _ _ _ ih =>
    unfold atKey at ih ⊢
    rw [List.find?_cons, List.find?_cons]
    by_cases z : k' = k
    · simp [z]
    · simp only [z, decide_false]
      exact ih
theorem RepX.app {c : RC} {ds : List (List Key × D)} {xs : List (List Key × Addr × Value)} (r : RepX c ds xs) {k : List Key} {d : D} {a : Addr} {v : Value} (h1 : Rep c d (.ref a)) (h2 : tupOf d = some k) : RepX c (ds ++ [(k, d)]) (xs ++ [(k, a, v)]) := by
  induction r with
  | nil => exact .cons h1 h2 .nil
  | cons g1 g2 _ ih => exact .cons g1 g2 ih
theorem RepX.putA {c : RC} {ds : List (List Key × D)} {xs : List (List Key × Addr × Value)} (r : RepX c ds xs) (k : List Key) (v : Value) : RepX c ds (xs.map (putAt k v)) := by
  induction r with
  | nil => exact .nil
  | @cons k' d a v' _ _ g1 g2 _ ih =>
    rw [List.map_cons]
    unfold putAt at ih ⊢
    dsimp only
    by_cases z : k' = k
    · rw [if_pos z]; exact .cons g1 g2 ih
    · rw [if_neg z]; exact .cons g1 g2 ih
theorem RepX.put {c : RC} {ds : List (List Key × D)} {xs : List (List Key × Addr × Value)} (r : RepX c ds xs) {k : List Key} {d : D} {a : Addr} {v : Value} (h1 : Rep c d (.ref a)) (h2 : tupOf d = some k) : RepX c (addKD k d ds) (storedH xs k a v) := by
  unfold addKD storedH
  rw [r.find]
  split
  · exact r.putA k v
  · exact r.app h1 h2
theorem RepX.vals {c : RC} {ds : List (List Key × D)} {xs : List (List Key × Addr × Value)} (r : RepX c ds xs) : Reps c (ds.map (·.2)) (xs.map fun x => V.ref x.2.1) := by
  induction r with
  | nil => exact .nil
  | cons h1 _ _ ih => exact .cons h1 ih
theorem ded_of {P : Program} {w : World} {K : PySem.W.Frag} {mg : Str → Option Value} {p : Addr} {g : MG} {S vs : List Nat} {t : M Bool} {mk : M D} {σ : L2.St} {ε : Ev} {c1 cb c2 : RC} {J : It} {ds : List D} {kvs all : List (List Key × D)} {ys : List (List Key × Addr × Value)} {h2 hE : EH} {Nx : Hp → Prop} (hS : ∀ i ∈ S, i ∈ vs)
    (rJ : WalkR cb ds J) (hK2 : c2.K = K) (hm2 : MgE c2 mg) (l2 : cb.LeW c2) (o : Over c1 c2 p) (s : SR c2 h2) (hxs : c2.H p = some (DcO P w p ys)) (racc : RepX c2 kvs ys) (en : EnvR c2 (wipeE ε vs) (wipe σ vs)) (e2 : dedL g t mk (wipeE ε vs) ds kvs h2 = some (all, hE))
    (fin : ∀ c3 ys3, c3.K = K → MgE c3 mg → Over c1 c3 p → SR c3 hE → c3.H p = some (DcO P w p ys3) → RepX c3 all ys3 → Nx c3.H) :
    ∃ W : Nat → Nat → Hp → Prop, (∃ m, W 0 m c2.H) ∧ ∀ i m H, W i m H →
      (J.stop i H ∧ Nx H) ∨ (J.go i H ∧ ∃ Nx1 : Hp → Prop, (∀ H', Nx1 H' → ∃ m', m' < m ∧ W (i + 1) m' H') ∧ ∀ x H', J.yld i H x H' → tG K mg S g x (wipe σ vs) H' fun σ2 H2 => wipe σ2 vs = wipe σ vs ∧ tT K mg W0 t σ2 H2 fun b H3 =>
        if b = true then tPutX P w K (tE K mg W0 mk) p σ2 H3 Nx1 else Nx1 H3) := by
  obtain ⟨G, Y, hw, hG, hY⟩ := rJ
  let Pv : Nat → Hp → Prop := fun i H => ∃ c3 h3 kvs3 ys3, c3.K = K ∧ MgE c3 mg ∧ c2.LeW c3 ∧ Over c1 c3 p ∧ c3.H = H ∧ SR c3 h3 ∧ H p = some (DcO P w p ys3) ∧ RepX c3 kvs3 ys3 ∧ (∀ ε' σ', EnvR c2 ε' σ' → EnvR c3 ε' σ') ∧ dedL g t mk (wipeE ε vs) (ds.drop i) kvs3 h3 = some (all, hE)
  refine ⟨fun i m H => m = ds.length - i ∧ i ≤ ds.length ∧ Pv i H, ⟨ds.length, by simp, Nat.zero_le _, c2, h2, kvs, ys, hK2, hm2, RC.Le.toW (.refl c2), o, rfl, s, hxs, racc, fun _ _ e => e, e2⟩, ?_⟩
  rintro i m H ⟨rfl, hi, c3, h3, kvs3, ys3, hK3, hm3, lw3, o3, rfl, s3, hxs3, racc3, eu3, e3⟩
  by_cases hlt : i < ds.length
  · refine .inr ⟨hw.goes i _ hlt (hG c3 (l2.trans lw3)), Pv (i + 1), fun H' p' => ⟨ds.length - (i + 1), by omega, rfl, hlt, p'⟩, fun x H' y => ?_⟩
    obtain ⟨c4, rfl, l4, s4, d, hd, rd⟩ := hY i x c3 h3 H' (l2.trans lw3) s3 (hw.yields i _ x H' hlt (hG c3 (l2.trans lw3)) y)
    have hdr : ds.drop i = d :: ds.drop (i + 1) := by
      rw [List.drop_eq_getElem_cons hlt]
      have : ds[i] = d := by
        have := List.getElem?_eq_getElem hlt
        rw [this] at hd
        exact Option.some.inj hd
      rw [this]
    rw [hdr] at e3
    unfold dedL at e3
    have nt : ∀ ps, DcO P w p ys3 ≠ .tbl ps := fun _ z => by cases z
    have o4 := o3.step l4
    have p4 := (l4.keep p _ hxs3 nt fun z => s3.nb p z o3.Bp).1
    have hK4 : c4.K = K := l4.K.trans hK3
    have hm4 : MgE c4 mg := l4.mg.trans hm3
    cases q2 : g d (wipeE ε vs) h3 with
    | none => rw [q2] at e3; cases e3
    | some z =>
      obtain ⟨ε5, h5⟩ := z
      rw [q2] at e3
      dsimp only at e3
      refine ⟨c4, d, wipeE ε vs, h3, ε5, h5, hK4, hm4, rfl, s4, rd, (eu3 _ _ en).le l4, q2, fun c5 σ5 l5 s5 en5 sv => ⟨wipe_save sv hS, ?_⟩⟩
      have o5 := o4.step l5
      have p5 := (l5.keep p _ p4 nt fun z => s4.nb p z o4.Bp).1
      have hK5 : c5.K = K := l5.K.trans hK4
      have hm5 : MgE c5 mg := l5.mg.trans hm4
      cases q3 : t ε5 h5 with
      | none => rw [q3] at e3; cases e3
      | some z =>
        obtain ⟨rb, h6⟩ := z
        rw [q3] at e3
        cases rb with
        | ex x5 => cases e3
        | ok b =>
          refine ⟨c5, ε5, h5, .ok b, h6, hK5, hm5, rfl, s5, en5, q3, Px.ok, fun b' eb c6 b'' l6 s6 rb => ?_⟩
          cases eb
          subst rb
          have o6 := o5.step l6
          have p6 := (l6.keep p _ p5 nt fun z => s5.nb p z o5.Bp).1
          have racc6 : RepX c6 kvs3 ys3 := racc3.imp fun r => ((r.le l4).le l5).le l6
          have hK6 : c6.K = K := l6.K.trans hK5
          have hm6 : MgE c6 mg := l6.mg.trans hm5
          have L6 := (l4.trans l5).trans l6
          have eu6 : ∀ ε' σ', EnvR c2 ε' σ' → EnvR c6 ε' σ' := fun ε' σ' e => (eu3 _ _ e).le L6
          cases b with
          | false =>
            rw [if_neg Bool.false_ne_true]
            exact ⟨c6, h6, kvs3, ys3, hK6, hm6, lw3.trans L6.toW, o6, rfl, s6, p6, racc6, eu6, e3⟩
          | true =>
            rw [if_pos rfl]
            dsimp only at e3
            cases q4 : mk ε5 h6 with
            | none => rw [q4] at e3; cases e3
            | some z =>
              obtain ⟨ry, h7⟩ := z
              rw [q4] at e3
              cases ry with
              | ex x6 => cases e3
              | ok y0 =>
                refine ⟨c6, ε5, h6, .ok y0, h7, hK6, hm6, rfl, s6, en5.le l6, q4, Px.ok, fun y' ey c7 yv l7 s7 ry => ?_⟩
                cases ey
                dsimp only at e3
                cases q6 : tupOf y0 with
                | none => rw [q6] at e3; cases e3
                | some k =>
                  rw [q6] at e3
                  dsimp only at e3
                  by_cases hl : kvs3.length < 16777216
                  · rw [if_pos hl] at e3
                    have o8 := o6.step l7
                    have p8 := (l7.keep p _ p6 nt fun z => s6.nb p z o6.Bp).1
                    have racc8 : RepX c7 kvs3 ys3 := racc6.imp fun r => r.le l7
                    have len : ys3.length < sizeLine := by
                      rw [← racc8.len]
                      exact hl
                    obtain ⟨b, rfl⟩ : ∃ b, yv = .ref b := by
                      cases ry with
                      | tup h1 h2 => exact ⟨_, rfl⟩
                      | _ => cases q6
                    have hKc : c7.K = K := l7.K.trans hK6
                    refine ⟨ys3, k, b, rfl, by rw [← hKc]; exact tup_sqt ry q6, p8, fun x hx => by rw [← hKc]; exact racc8.sqt x hx, len, ?_⟩
                    have g1 : ∀ xs, DcO P w p ys3 ≠ .tup xs := fun _ z => by cases z
                    have g2 : ∀ a b, DcO P w p ys3 ≠ .frz a b := fun _ _ z => by cases z
                    have nT : NoTab c7.H p := ⟨fun ps z => (by rw [p8] at z; exact nt ps (Option.some.inj z)), fun q z => (by rw [p8] at z; exact dcO_code (Option.some.inj z))⟩
                    obtain ⟨o9, s9⟩ := o8.putBG (b' := DcO P w p (storedH ys3 k b (.bool true))) s7 p8 g1 g2 nT
                    have r9 : RepX (c7.put p (DcO P w p (storedH ys3 k b (.bool true)))) (addKD k y0 kvs3) (storedH ys3 k b (.bool true)) :=
                      RepX.put (racc8.imp fun r => r.putBG o8.Bp p8 g1 g2) (ry.putBG o8.Bp p8 g1 g2) q6
                    have L7 := L6.trans l7
                    have lw8 : c2.LeW (c7.put p (DcO P w p (storedH ys3 k b (.bool true)))) := by
                      exact (lw3.trans L7.toW).trans (lew_putBG s7 o8.Bp p8 g1 g2)
                    exact ⟨c7.put p (DcO P w p (storedH ys3 k b (.bool true))), h7, _, _, l7.K.trans hK6, MgE.put nT (l7.mg.trans hm6), lw8, o9, rfl, s9, upd_same, r9, fun ε' σ' e => ((eu6 _ _ e).le l7).putBG o8.Bp p8 g1 g2, e3⟩
                  · rw [if_neg hl] at e3; cases e3
  · have ei : i = ds.length := by omega
    subst ei
    refine .inl ⟨hw.stops _ (hG c3 (l2.trans lw3)), ?_⟩
    rw [List.drop_length] at e3
    cases e3
    exact fin c3 ys3 hK3 hm3 o3 s3 hxs3 racc3
section
variable {X : Cx} {W : WX} {kx tg iter : Expr} {ifs : List Expr} {scope : Scope} {own : List (Str × Nat)} {pos p2 vp pL : Pos} {mi : M (List D)} {g : MG} {S : List Nat} {t : M Bool} {mk : M D} {k : Nat}
theorem re_listDc (hr : Room k X.A) (hmL : X.mg "list" = none) (hgL : Gl X "list" := by rfl) (hc : X.calm = true) (hN : X.N.Nodup) (hi : RI X W tg iter mi) (ok : BlkOk X.N X.env.scope scope own) (hS : ∀ i ∈ S, i ∈ own.map (·.2))
    (hg : ∀ (s : Shared) (H : Hp) (C : Addr) (cl : List (Str × Addr)) (fp : List Addr), RG (X.blk s H scope (compEnvC scope cl C X.env) fp) tg S g) (ht : ∀ (s : Shared) (H : Hp) (C : Addr) (cl : List (Str × Addr)) (fp : List Addr), RTs (X.blk s H scope (compEnvC scope cl C X.env) fp) W0 ifs t)
    (hk : ∀ (s : Shared) (H : Hp) (C : Addr) (cl : List (Str × Addr)) (fp : List Addr), RE (X.blk s H scope (compEnvC scope cl C X.env) fp) W0 kx mk)
    (hs : ∀ x, foldedSetIterable iter X.env x = pure x := by intro _; rfl) :
    RE X W (.Call (.Name "list" pL) [.DictComp kx (.Constant (.bool true) 0 vp) [⟨tg, iter, ifs, 0⟩] scope pos] [] p2) (mListDc (own.map (·.2)) mi g t mk) := by
  refine pe_imp (pe_callTy (call_list_dc hc) hgL hmL (by decide +kernel) (pa_cons (pe_dcT (g := tG X.K X.mg S g) (tt := tT X.K X.mg W0 t) (tk := tE X.K X.mg W0 mk) (by have := hr.units; omega) hc hN hi ok hg ht hk hs) pa_nil (by rfl)) (by decide) (by decide) (by rfl) (by rfl)) fun σ H Q h => ?_
  obtain ⟨c, ε, h, r, h', hK, hm, rfl, sr, er, e, px, go⟩ := h
  unfold tCB tCons tNil tLcN
  refine tX.bind hK hm sr er e px fun ds h1 c1 J e1 l1 s1 r1 => ?_
  intro p hp
  have hK1 := l1.K.trans hK
  have hm1 := l1.mg.trans hm
  cases q : dedL g t mk (wipeE ε (own.map (·.2))) ds [] h1 with
  | none => rw [q] at e1; cases e1
  | some z =>
    obtain ⟨all, hE⟩ := z
    rw [q] at e1
    cases e1
    obtain ⟨o2, s2⟩ := Over.startG (o := DcO X.prog X.w p []) s1 hp
    refine ded_of (P := X.prog) (w := X.w) (c2 := { c1 with B := fun a => c1.B a ∨ a = p, H := upd c1.H p (DcO X.prog X.w p []) }) (kvs := []) (ys := []) hS r1 (o2.le.K.trans hK1) (o2.le.mg.trans hm1) o2.le.toW o2 s2 upd_same .nil (EnvR.moreG hp (wipe_envR _ (er.le l1))) q fun c3 ys3 hK3 hm3 o3 s3 p3 racc => ?_
    refine ⟨p, ys3, rfl, p3, fun p' hp' => ?_⟩
    obtain ⟨l4, s4, f4⟩ := (o3.sr s3).new (o := .lst (ys3.map fun x => V.ref x.2.1)) (show (c3.av c1.B).H p' = none from hp')
    exact go _ rfl ((c3.av c1.B).put p' (.lst (ys3.map fun x => V.ref x.2.1))) _ (l1.trans (o3.back.trans l4)) s4 (.lst upd_same f4 ((racc.vals.fewer o3.le.B).le l4))
end
end PD
namespace PD
open PySem PySem.Spec PyProof.Rows L2
variable [LamTab]
def adI (l : List Int) (k : Int) : List Int := if k ∈ l then l else k :: l
/-- the set of the ints l at a -/
def ISet (P : Program) (w : World) (h : Heap) (a : Addr) (D : Unit) (l : List Int) : Prop := SetR w h a (fun k => decide (k ∈ l)) l.length
section
variable {P : Program} {w : World} {A : Around} {E : Value → Shared → Prop} {s : Shared}
theorem ISet.move {h h' : Heap} {a : Addr} {D : Unit} {l : List Int} (S : ISet P w h a D l) (k : ∀ o, h.get? a = some o → h'.get? a = some o) : ISet P w h' a D l := SetR.at S k
end
def asNs : List D → Option (List Int)
  | [] => some []
  | .int i :: ds => (asNs ds).map (i :: ·)
  | _ => none
def niD (h : EH) (d : D) : Option (List Int) := match asS h d with
  | some xs => (match asNs xs with
    | some zs => if zs.length + 1 < scanBound then some zs else none
    | none => none)
  | none => none
def mLenI (a : M D) : M D := fun ε h => bR (a ε h) fun x h1 => rt ((niD h1 x).map fun zs => .int (zs.foldl adI []).length) h1
end PD
namespace PD
open PySem PySem.Spec PyProof.Rows L2
variable [LamTab]
section
variable {prog : Program} {w : World} {A : Around} {E : Value → Shared → Prop} {s : Shared}
theorem pairs_emp {nm : String} {a b : Addr} {oa ob : Obj} {es es' : Array DictEntry} {ep ep' : Nat} {Q : Bool → Shared → Prop} (ha : (a == sysModules) = false) (hb : (b == sysModules) = false)
    (hoa : s.heap.get? a = some oa) (hda : oa.data = .dict es ep) (hob : s.heap.get? b = some ob) (hdb : ob.data = .dict es' ep') (hz : es'.size = 0) (h : Q (es.size == 0) s) :
    wpAny (model prog w) A (Builtin.Dict.samePairs nm a b) Q E s := by
  unfold Builtin.Dict.samePairs Builtin.Dict.showsAll
  rw [if_neg (show ¬ (a == sysModules) = true by rw [ha]; exact Bool.false_ne_true), if_neg (show ¬ (b == sysModules) = true by rw [hb]; exact Bool.false_ne_true)]
  refine wpAny_bind (wpAny_pure (wpAny_bind (wpAny_pure ?_)))
  refine wpAny_bind (wpAny_dictEntries hoa hda ?_)
  dsimp only
  refine wpAny_bind (wpAny_dictEntries hob hdb ?_)
  by_cases hsz : es.size = es'.size
  case neg =>
    rw [if_pos (by simpa using hsz)]
    have hbf : (es.size == 0) = false := by
      rw [hz] at hsz
      simpa using hsz
    rw [hbf] at h
    exact wpAny_bind (wpAny_rule (wpAny_pure h))
  case pos =>
    have h0 : es.size = 0 := hsz.trans hz
    have ht : (es.size == 0) = true := by simpa using h0
    rw [ht] at h
    rw [if_neg (by rw [hsz]; simp)]
    refine wpAny_bind (wpAny_dictEpoch hoa hda ?_)
    refine wpAny_bind ?_
    rw [Std.Legacy.Range.forIn_eq_forIn_range']
    simp only [Std.Legacy.Range.size, Nat.sub_zero, Nat.add_sub_cancel, Nat.div_one, h0]
    exact wpAny_pure (wpAny_pure h)
theorem ne_emp {a b : Addr} {oa ob : Obj} {es es' : Array DictEntry} {ep ep' : Nat} {Q : Value → Shared → Prop} (ha : (a == sysModules) = false) (hb : (b == sysModules) = false)
    (hoa : s.heap.get? a = some oa) (hxa : oa.ExactDict) (hda : oa.data = .dict es ep) (hob : s.heap.get? b = some ob) (hxb : ob.ExactDict) (hdb : ob.data = .dict es' ep') (hz : es'.size = 0) (hu : A.units < cLine) (h : Q (.bool (!(es.size == 0))) s) :
    wpAny (model prog w) A (compareOp .NotEq (.ref a) (.ref b)) Q E s := by
  have ta : s.TypeIs (.ref a) "dict" := ⟨oa, hoa, hxa.1⟩
  have tb : s.TypeIs (.ref b) "dict" := ⟨ob, hob, hxb.1⟩
  refine wpAny_richCompare_same_room (op := .NotEq) ta tb PySem.F.slot_dict_ne (wpAny_call_entry PySem.F.slot_dict_ne ta PySem.F.entry_dict_ne ?_ (PySem.F.args_dict_ne_2 _ _)) hu
  show wpAny _ _ (Builtin.Dict.dictSlotArgs "__ne__" ⟨[.ref a, .ref b], []⟩ >>= _) _ _ s
  refine wpAny_bind ?_
  unfold Builtin.Dict.dictSlotArgs
  refine wpAny_bind (wpAny_notOrdered_dict ta ?_)
  show wpAny _ _ (pure (Value.ref a, Value.ref b)) _ _ s
  refine wpAny_pure ?_
  refine wpAny_bind (wpAny_isInstance (T := "dict") tb PySem.F.sub_dict_dict ?_)
  simp only [Bool.not_true, Bool.false_eq_true, if_false]
  refine wpAny_bind (wpAny_pure (wpAny_bind (wpAny_pure ?_)))
  refine wpAny_bind (pairs_emp ha hb hoa hda hob hdb hz ?_)
  refine wpAny_pure ⟨_, rfl, ?_, ?_⟩
  · exact fun x => nomatch x
  · have e : ((es.size == 0) == false) = !(es.size == 0) := by cases (es.size == 0) <;> rfl
    first | exact h | (rw [e]; exact h) | simpa using h
end
def rNeEmp : R2 := fun x y H Q => ∃ (a b : Addr) (t t' : Bool) (oa ob : HO) (zs : List (List Key × V)), x = .ref a ∧ y = .ref b ∧ H a = some oa ∧ isDic t oa zs ∧ H b = some ob ∧ isDic t' ob [] ∧ Q (.bl (!zs.isEmpty)) H
theorem dic_at {X : Cx} {pins : List (Addr × Obj)} {σ : L2.St} {H : Hp} {s : Shared} {a : Addr} {t : Bool} {o : HO} {zs : List (List Key × V)} (I : Inv X pins σ H s) (h : H a = some o) (d : isDic t o zs) :
    ∃ ob es ep, (a == sysModules) = false ∧ s.heap.get? a = some ob ∧ ob.ExactDict ∧ ob.data = .dict es ep ∧ es.size = zs.length := by
  rcases d with ⟨_, ys, rfl, rfl⟩ | ⟨_, rfl⟩
  · obtain ⟨_, g1, vs, rel, ob, es, ep, g2, g3, g4, _, g5, _⟩ := dk_of I.hok h
    exact ⟨ob, es, ep, g1, g2, g3, g4, by rw [List.length_map, rel.length, ← g5.length]; exact Array.length_toList.symm⟩
  · obtain ⟨_, g1, xs, rel, ob, es, ep, g2, g3, g4, g5, _⟩ := (show ObjOk X.prog X.w H s.heap a (.dT zs) from I.hok a _ h)
    exact ⟨ob, es, ep, g1, g2, g3, g4, by rw [size_of_entries g5, rel.length]⟩
theorem op_neEmp {X : Cx} {k : Nat} (hr : Room k X.A) : OpR X (compareOp .NotEq) rNeEmp := by
  intro pins s σ H x y v u Q I rx ry h
  obtain ⟨a, b, t, t', oa, ob, zs, rfl, rfl, h1, h2, h3, h4, q⟩ := h
  cases rx
  cases ry
  obtain ⟨o1, es1, ep1, k1, k2, k3, k4, k5⟩ := dic_at I h1 h2
  obtain ⟨o2, es2, ep2, l1, l2, l3, l4, l5⟩ := dic_at I h3 h4
  have e : (!(es1.size == 0)) = !zs.isEmpty := by
    rw [k5]
    cases zs <;> rfl
  refine ne_emp k1 l1 k2 k3 k4 l2 l3 l4 l5 (by have := hr.units; omega) ?_
  rw [e]
  exact ⟨.bl (!zs.isEmpty), H, I, rfl, q⟩
def asDicA (h : EH) (d : D) : Option (List (List Key × D)) := match d with
  | .dic _ kvs => some kvs
  | .ref n => (match h[n]? with
    | some (.dic _ kvs) => some kvs
    | _ => none)
  | _ => none
theorem asDicA_ok {c : RC} {h : EH} {d : D} {v : V} {kvs : List (List Key × D)} (s : SR c h) (r : Rep c d v) (e : asDicA h d = some kvs) : ∃ (a : Addr) (t : Bool) (o : HO) (zs : List (List Key × V)), v = .ref a ∧ c.H a = some o ∧ isDic t o zs ∧ RepP c kvs zs := by
  cases r with
  | dic k1 k2 k3 k4 => cases e; exact ⟨_, _, _, _, rfl, k1, k2, k4⟩
  | @ref n a hn =>
    unfold asDicA at e
    dsimp only at e
    cases q : h[n]? with
    | none => rw [q] at e; cases e
    | some k =>
      rw [q] at e
      cases k with
      | dic t kvs' =>
        cases e
        obtain ⟨o, zs, h1, h3, h2⟩ := s.cells n a _ hn q
        exact ⟨_, _, _, _, rfl, h1, h3, h2⟩
      | _ => cases e
  | _ => cases e
def dNeEmp (h : EH) (x y : D) : Option D := match asDicA h x, asDicA h y with
  | some kvs, some [] => some (.bl (!kvs.isEmpty))
  | _, _ => none
theorem ops_neEmp {K : PySem.W.Frag} {mg : Str → Option Value} : OpS K mg rNeEmp dNeEmp := by
  intro c eh x y dx dy d Q hK hm sr rx ry e go
  subst hK
  unfold dNeEmp at e
  cases q : asDicA eh dx with
  | none => rw [q] at e; cases e
  | some ks =>
    rw [q] at e
    cases q2 : asDicA eh dy with
    | none => rw [q2] at e; cases e
    | some ls =>
      rw [q2] at e
      cases ls with
      | cons _ _ => cases e
      | nil =>
        cases e
        obtain ⟨a, t, o, zs, rfl, g1, g2, g3⟩ := asDicA_ok sr rx q
        obtain ⟨b, t', o', zs', rfl, k1, k2, k3⟩ := asDicA_ok sr ry q2
        cases k3
        refine ⟨a, b, t, t', o, o', zs, rfl, rfl, g1, g2, k1, k2, ?_⟩
        have : ks.isEmpty = zs.isEmpty := by cases g3 <;> rfl
        rw [← this]
        exact go c _ (.refl c) sr (.bl _)
section
variable {X : Cx} {W : WX} {a b e : Expr} {ma mb : M D} {pos p : Pos} {m : M (List D)}
theorem re_neEmp {k : Nat} (hr : Room k X.A) (ha : RE X W a ma) (hb : RE X W b mb) : RE X W (.Compare a [.NotEq] [b] pos) (mBin dNeEmp ma mb) := re_cmp (op_neEmp hr) ops_neEmp ha hb (nomark _)
end
def asNsM : List D → Option (List Int)
  | [] => some []
  | .int i :: ds => (asNsM ds).map (i :: ·)
  | _ => none
def dSum (h : EH) : List D → Option D
  | [d] => match asL h d with
    | some xs => (asNsM xs).map fun ns => .int ns.sum
    | none => none
  | _ => none
end PD
namespace PD
open PySem PySem.Spec PyProof.Rows L2
variable [LamTab]
/-- sorted({..}), the new list as a value -/
def mSortV (vs : List Nat) (mi : M (List D)) (g : MG) (t : M Bool) (b : MB) : M D := fun ε h => bR (mi ε h) fun ds h1 => match lpB g t b (wipeE ε vs) ds h1 with
  | some (ys, h2) => (match asTs ys with
    | some zs => if zs.length + 1 < scanBound then some (.ok (.lst ((srtU zs).map .str)), h2) else none
    | none => none)
  | none => none
theorem scN_ofV {P : Program} {w : World} {K : PySem.W.Frag} {mg : Str → Option Value} {W : WX} {mi : M (List D)} {g : MG} {S vs : List Nat} {t : M Bool} {body : Addr → BodyT} {mb : MB} {σ : L2.St} {H : Hp} {Q : VK} (hS : ∀ i ∈ S, i ∈ vs)
    (hB : ∀ p, BodyR K mg (fun xs => SetTO P w p ((strsV xs).foldl addT [])) (scanBound - 1) p (body p) mb) (h : tE K mg W (mSortV vs mi g t mb) σ H Q) :
    tLcN (fun D => SetTO P w D []) (tI K mg W mi) (tG K mg S g) (tT K mg W0 t) vs body σ H (tSrt P w Q) := by
  obtain ⟨c, ε, h, r, h', hK, hm, rfl, sr, er, e, px, go⟩ := h
  unfold tLcN
  refine tX.bind hK hm sr er e px fun ds h1 c1 J e1 l1 s1 r1 => ?_
  intro p hp
  have hK1 := l1.K.trans hK
  have hm1 := l1.mg.trans hm
  cases q : lpB g t mb (wipeE ε vs) ds h1 with
  | none => rw [q] at e1; cases e1
  | some z =>
    obtain ⟨all, hE⟩ := z
    rw [q] at e1
    dsimp only at e1
    cases q2 : asTs all with
    | none => rw [q2] at e1; cases e1
    | some zs =>
      rw [q2] at e1
      dsimp only at e1
      by_cases hz : zs.length + 1 < scanBound
      · rw [if_pos hz] at e1
        cases e1
        obtain ⟨o2, s2⟩ := Over.startG (o := SetTO P w p []) s1 hp
        have hl : all.length = zs.length := asTs_len q2
        refine lp_of (O := fun xs => SetTO P w p ((strsV xs).foldl addT [])) (Z := scanBound - 1) (xs := []) (c2 := { c1 with B := fun a => c1.B a ∨ a = p, H := upd c1.H p (SetTO P w p []) }) (acc := []) (fun _ _ z => by cases z) hS (hB p) r1 (o2.le.K.trans hK1) (o2.le.mg.trans hm1) o2.le.toW o2 s2 upd_same .nil (EnvR.moreG hp (wipe_envR vs (er.le l1))) q (by rw [List.nil_append]; omega) fun c3 xs3 hK3 hm3 o3 s3 p3 racc lw3 eu3 => ?_
        have ex := asTs_ok racc q2
        have es : strsV xs3 = zs.map toS := by rw [ex]; exact strsV_map _
        rw [es] at p3
        refine ⟨p, zs, rfl, p3, hz, ?_⟩
        intro p' hp'
        obtain ⟨l4, s4, f4⟩ := (o3.sr s3).new (o := .lst (((srtU zs).map toS).map V.str)) (show (c3.av c1.B).H p' = none from hp')
        exact go _ rfl _ _ ((l1.trans o3.back).trans l4) s4 (.lst upd_same f4 (reps_txs _ _))
      · rw [if_neg hz] at e1; cases e1
section
variable {X : Cx} {W : WX}
theorem re_sortV2 {elt tg iter tg1 iter1 : Expr} {ifs ifs1 : List Expr} {scope : Scope} {own : List (Str × Nat)} {vs1 : List Nat} {p q pos : Pos} {mi mi1 : M (List D)} {g g1 : MG} {S S1 : List Nat} {t t1 : M Bool} {e : M D} (hc : X.calm = true) (hN : X.N.Nodup) (hm : X.mg "sorted" = none) (hi : RI X W tg iter mi) (ok : BlkOk X.N X.env.scope scope own)
    (hS : ∀ i ∈ S, i ∈ own.map (·.2)) (hS1 : ∀ i ∈ S1, i ∈ vs1) (hv : ∀ i ∈ vs1, i ∈ own.map (·.2))
    (hg : ∀ (s : Shared) (H : Hp) (C : Addr) (cl : List (Str × Addr)) (fp : List Addr), RG (X.blk s H scope (compEnvC scope cl C X.env) fp) tg S g) (ht : ∀ (s : Shared) (H : Hp) (C : Addr) (cl : List (Str × Addr)) (fp : List Addr), RTs (X.blk s H scope (compEnvC scope cl C X.env) fp) W0 ifs t)
    (hi1 : ∀ (s : Shared) (H : Hp) (C : Addr) (cl : List (Str × Addr)) (fp : List Addr), RI (X.blk s H scope (compEnvC scope cl C X.env) fp) W0 tg1 iter1 mi1)
    (hg1 : ∀ (s : Shared) (H : Hp) (C : Addr) (cl : List (Str × Addr)) (fp : List Addr), RG (X.blk s H scope (compEnvC scope cl C X.env) fp) tg1 S1 g1) (ht1 : ∀ (s : Shared) (H : Hp) (C : Addr) (cl : List (Str × Addr)) (fp : List Addr), RTs (X.blk s H scope (compEnvC scope cl C X.env) fp) W0 ifs1 t1)
    (he : ∀ (s : Shared) (H : Hp) (C : Addr) (cl : List (Str × Addr)) (fp : List Addr), RE (X.blk s H scope (compEnvC scope cl C X.env) fp) W0 elt e) (hgl : Gl X "sorted" := by rfl) (hs : ∀ x, foldedSetIterable iter X.env x = pure x := by intro _; rfl) (hs1 : ∀ env x, foldedSetIterable iter1 env x = pure x := by intro _ _; rfl) :
    RE X W (.Call (.Name "sorted" p) [.SetComp elt [⟨tg, iter, ifs, 0⟩, ⟨tg1, iter1, ifs1, 0⟩] scope q] [] pos) (mSortV (own.map (·.2)) mi g t (mbFor mi1 g1 t1 vs1 (mbS e))) := by
  have pe := pe_scN (g := tG X.K X.mg S g) (tt := tT X.K X.mg W0 t) (body := fun p => tForB (tI X.K X.mg W0 mi1) (tG X.K X.mg S1 g1) (tT X.K X.mg W0 t1) vs1 (tAdd X.prog X.w (tE X.K X.mg W0 e) p)) (elt := elt) (gs := [⟨tg1, iter1, ifs1, 0⟩]) (pos := q) hc hN (fun _ _ _ => sc2_0) hi ok hv hg ht (fun s H C cl fp D =>
    runs_for hc node_sc rfl rfl (fun _ => sc2_1) (vsIn := []) (fun _ z => by cases z) (hs1 _) (hi1 s H C cl fp) rfl (hg1 s H C cl fp) (ht1 s H C cl fp) (runs_add rfl (he s H C cl fp))) hs
  refine ⟨fun pins s σ H Q I h => ?_⟩
  have h2 := scN_ofV (P := X.prog) (w := X.w) hS (fun p => bodyR_for (fun _ _ z => by cases z) hS1 (bodyR_add (P := X.prog) (w := X.w))) h
  refine Call_ (ld_blt (u := .builtin "sorted") I hgl hm (by decide +kernel) ?_ (by decide) (by decide))
  refine PyProof.Rows.callWith_builtin1 (PyProof.Rows.args_cons (thn (pe.run pins s σ H _ I h2) fun v s1 ⟨x, H1, I1, r1, D, zs, ev, hD, hz, fin⟩ => PyProof.Rows.args_nil ?_) rfl) rfl rfl
  subst ev
  cases r1
  obtain ⟨B, Sx⟩ := setTO_get I1 hD
  have lt : ((zs.map toS).foldl addT []).length < scanBound := by
    have := fold_len (zs.map toS) []
    rw [List.length_map, List.length_nil] at this
    omega
  refine sorted_txts Sx (I1.ok.hd hc) lt fun s3 p3 out c3 keep g3 o3 hp at_ ov rise => ?_
  have rise' : Rising (out.map txv) (zs.map toS) := ⟨rise.up, fun x => (rise.mem x).trans (by rw [fold_mem]; simp), rise.nd⟩
  have eo := rising_eq rise'
  have hlen : ((out.map txv).map V.str).length ≤ sizeLine := by
    have n1 := nodup_len (l := out.map txv) rise.nd rise'.mem
    have n2 := nodup_len Sx.nd (zs := zs) fun x => by rw [fold_mem]; simp
    rw [List.length_map, n1, ← n2]
    have : scanBound ≤ sizeLine := by decide
    omega
  have hn : H1 p3 = none := I1.hok.fresh hp
  have J : Inv X pins σ (upd H1 p3 (.lst ((out.map txv).map V.str))) { s1 with heap := s3.heap, gens := s3.gens, drawn := s3.drawn, toks := s3.toks } :=
    I1.call (ch := []) (Un.laid keep hp hn) (I1.hok.laid keep hp ⟨hlen, out, c3, vals_strs ov, at_⟩) (by rw [g3]; exact I1.bare) (fun _ z => nomatch z)
  have es : s3 = { s1 with heap := s3.heap, gens := s3.gens, drawn := s3.drawn, toks := s3.toks } := by
    cases s3; cases s1; cases o3; rfl
  rw [es]
  refine ⟨.ref p3, _, J, rfl, ?_⟩
  rw [eo]
  exact fin p3 hn
end
end PD
namespace L2
open PySem PySem.Spec PyProof.Rows
end L2
namespace PD
open PySem PySem.Spec PyProof.Rows L2
end PD
namespace PySem
open Sem (wp)
section
variable {prog : Program} {w : World} {K : Type} [DecidableEq K] {knd : KeyKind prog w K} {A : Around} {E : Value → Shared → Prop} {s : Shared}
theorem wpAny_dictPut_pairs {d : Addr} {kvs : List (K × Value)} {k : K} {key v : Value} {Q : Unit → Shared → Prop} (hkey : knd.is k key = true) (hm : s.heap.DictOf knd d kvs)
    (hQ : ∀ h', h'.DictOf knd d (stored kvs k v) → Heap.SameBut d s.heap h' → Q () { s with heap := h' })
    (hsz : kvs.length ≤ sizeLine := by size_fits) :
    wpAny (model prog w) A (dictPut d (knd.hash k) key v) Q E s := by
  obtain ⟨o, es, ep, ho, hc, hd, hk, hp, hn⟩ := hm
  have hes : es.size ≤ sizeLine := by have e1 := hp.length; have e2 : es.toList.length = es.size := by simp
                                      omega
  unfold dictPut
  refine wpAny_bind (wpAny_dictFind_of hkey ho hd hk ?_)
  have hidx : (es.findIdx? fun e => knd.is k e.key) = kvs.findIdx? fun kv => decide (kv.1 = k) := by
    rw [← hp.findIdx k]; obtain ⟨l⟩ := es; simp
  cases hi : es.findIdx? fun e => knd.is k e.key with
  | some i =>
    refine wpAny_updateDict ho hd (hQ _ ⟨_, _, ep, Heap.get?_update_self _ ho (Obj.isFreed_of_dict (Obj.data_mapDict hd _)),
      hc.mapDict _, Obj.data_mapDict hd _, hk.modify _ _, ?_, ?_⟩ (Heap.SameBut.update ..))
    · rw [stored, if_pos (any_of_findIdx_some (hidx ▸ hi))]
      have hl : (es.toList.findIdx? fun e => knd.is k e.key) = some i := by rw [← hi]; obtain ⟨l⟩ := es; simp
      have := hp.modify hn hl v
      obtain ⟨l⟩ := es
      simpa using this
    · rw [stored, if_pos (any_of_findIdx_some (hidx ▸ hi)), keys_map_store]; exact hn
  | none =>
    have hnot : k ∉ kvs.map (·.1) := not_mem_of_findIdx_none (hidx ▸ hi)
    have hany : ¬ (kvs.any fun kv => decide (kv.1 = k)) = true := by
      rw [List.any_eq_true]; rintro ⟨kv, hkv, he⟩
      exact hnot (List.mem_map.mpr ⟨kv, hkv, of_decide_eq_true he⟩)
    refine wpAny_updateDictKeys (hz := hes) ho hd (hQ _ ⟨_, _, ep + 1, Heap.get?_update_self _ ho (Obj.isFreed_of_dict (Obj.data_mapDictKeys hd _)),
      hc.mapDictKeys _, Obj.data_mapDictKeys hd _, hk.push hkey _, ?_, ?_⟩ (Heap.SameBut.update ..))
    · rw [stored, if_neg hany]
      have := hp.append hkey (knd.hash k) v
      obtain ⟨l⟩ := es
      simpa using this
    · rw [stored, if_neg hany, List.map_append, List.nodup_append]
      refine ⟨hn, by simp, ?_⟩
      intro a ha b hb
      simp only [List.map_cons, List.map_nil, List.mem_singleton] at hb
      subst hb
      exact fun e => hnot (e ▸ ha)
theorem wpAny_mergeMapping {d o : Addr} {kvs more : List (K × Value)} {Q : Unit → Shared → Prop} (hdo : d ≠ o) (hoS : (o == sysModules) = false) (hne : kvs ≠ [])
    (hd : s.heap.DictOf knd d kvs) (ho : s.heap.DictOf knd o more)
    (hQ : ∀ h', h'.DictOf knd d (merged kvs more) → Heap.SameBut d s.heap h' → Q () { s with heap := h' })
    (hsz : kvs.length + more.length ≤ sizeLine := by size_fits) :
    wpAny (model prog w) A (mergeMapping d (.ref o) false) Q E s := by
  obtain ⟨od, esd, epd, hod, hcd, hdd, hkd, hpd, hnd⟩ := id hd
  obtain ⟨oo, eso, epo, hoo, hco, hdo', hko, hpo, hno⟩ := id ho
  have hlen : more.length = eso.size := by rw [← hpo.length]; simp
  unfold mergeMapping
  refine wpAny_bind (wpAny_isInstance ho.typeIs isSubtype_dict_dict ?_)
  dsimp only
  rw [if_pos rfl]
  refine wpAny_bind (wpAny_specialOf ho.typeIs F.slot_dict_iter.lookup ?_)
  refine wpAny_bind (wpAny_pure ?_)
  rw [beq_self_eq_true]
  dsimp only
  rw [hoS, if_neg (by decide)]
  refine wpAny_bind (wpAny_dictEntries hod hdd ?_)
  have hem : esd.isEmpty = false := by
    cases hb : esd.isEmpty with
    | false => rfl
    | true =>
      have h0 : esd = #[] := Array.isEmpty_iff.mp hb
      have := hpd.length
      rw [h0] at this
      exact absurd (List.length_eq_zero_iff.mp (by simpa using this.symm)) hne
  rw [hem, if_neg (by decide)]
  refine wpAny_bind (wpAny_dictEntries hoo hdo' ?_)
  refine wpAny_bind (wpAny_dictEpoch hoo hdo' ?_)
  refine wpAny_bind ?_
  rw [List.range_eq_range']
  refine wpAny_forIn_list _
    (fun rest _ s' => ∃ h' i, s' = { s with heap := h' } ∧ rest = List.range' i (eso.size - i) ∧ i ≤ eso.size ∧ h'.DictOf knd d (merged kvs (more.take i)) ∧ h'.get? o = some oo ∧ Heap.SameBut d s.heap h')
    _ ?_ ?_ _ _ ⟨s.heap, 0, rfl, by simp, Nat.zero_le _, by simpa [merged] using hd, hoo, Heap.SameBut.refl _ _⟩
  · rintro x rest b s' ⟨h', i, rfl, hr, hi, hd', hoo', hs'⟩
    have hlt : i < eso.size := by
      rcases Nat.lt_or_ge i eso.size with h | h
      · exact h
      · rw [Nat.sub_eq_zero_of_le h] at hr; simp at hr
    obtain ⟨rfl, hrest⟩ : x = i ∧ rest = List.range' (i + 1) (eso.size - (i + 1)) := by
      have e : eso.size - i = (eso.size - (i + 1)) + 1 := by omega
      rw [e, List.range'_succ] at hr
      injection hr with h1 h2
      exact ⟨h1, h2⟩
    refine wpAny_bind (wpAny_dictEntries hoo' hdo' ?_)
    rw [Array.getElem?_eq_getElem hlt]
    obtain ⟨kv, hkv⟩ : ∃ kv, more[x]? = some kv := ⟨more[x]'(by rw [hlen]; exact hlt), List.getElem?_eq_getElem _⟩
    obtain ⟨k, v⟩ := kv
    obtain ⟨hkey, hval⟩ := hpo.get? (e := eso[x]) (by simp [hlt]) hkv
    obtain ⟨k', hkey', hhash⟩ := hko eso[x] (Array.getElem_mem hlt)
    obtain rfl : k' = k := knd.inj _ _ _ hkey' hkey
    dsimp only
    rw [if_neg (by decide), hhash, hval]
    have hmx : (merged kvs (more.take x)).length ≤ sizeLine := by
      have e1 := merged_length_le kvs (more.take x)
      have e2 : (more.take x).length ≤ more.length := by rw [List.length_take]; omega
      omega
    refine wpAny_bind (wpAny_holding (wpAny_dictPut_pairs (hsz := hmx) hkey hd' fun h'' hd'' hs'' => ?_))
    have hoo'' : h''.get? o = some oo := (hs''.2 o (Ne.symm hdo)).trans hoo'
    refine wpAny_bind (wpAny_dictEpoch hoo'' hdo' ?_)
    rw [if_neg (by simp)]
    exact wpAny_pure ⟨h'', x + 1, rfl, hrest, hlt, by rw [merged_take_succ kvs more x (k', v) hkv]; exact hd'', hoo'', hs'.trans hs''⟩
  · rintro b s' ⟨h', i, rfl, hr, hi, hd', hoo', hs'⟩
    have hin : i = eso.size := by
      rcases Nat.lt_or_ge i eso.size with h | h
      · have e : eso.size - i = (eso.size - (i + 1)) + 1 := by omega
        rw [e, List.range'_succ] at hr; exact nomatch hr
      · exact Nat.le_antisymm hi h
    refine wpAny_pure (hQ h' ?_ hs')
    rw [hin, ← hlen, List.take_length] at hd'; exact hd'
theorem wpAny_Dict_star {env : Env} {ke ve me : Expr} {pos : Pos} {Q : Value → Shared → Prop} {k v m : Sem Value}
    (hshape : (evalEachOpt [some ke, none] env).zip ((evalEach [ve, me] env).map fun v => do let x ← v; standAt pos; pure x) = [(some k, v), (none, m)])
    (h : wpAny (model prog w) A (evalPairs [(k, v)]) (fun vs s₁ => ∃ kvs, kvs ≠ [] ∧ Carries knd vs kvs ∧ s₁.heap.DictOf knd s.heap.objs.size [] ∧
      ∀ h', h'.DictOf knd s.heap.objs.size (merged [] kvs) → Heap.SameBut s.heap.objs.size s₁.heap h' → wpAny (model prog w) A m (fun mv s₂ => ∃ o kvs₂ more, mv = .ref o ∧ kvs₂ ≠ [] ∧ s.heap.objs.size ≠ o ∧ (o == sysModules) = false ∧ s₂.heap.DictOf knd s.heap.objs.size kvs₂ ∧ s₂.heap.DictOf knd o more ∧
        kvs₂.length + more.length ≤ sizeLine ∧ ∀ h'', h''.DictOf knd s.heap.objs.size (merged kvs₂ more) → Heap.SameBut s.heap.objs.size s₂.heap h'' → Q (.ref s.heap.objs.size) { s₂ with heap := h'' }) E { s₁ with heap := h', toks := s₁.toks + vs.length }) E
      { s with heap := s.heap.push { cls := .type "dict", data := .dict #[] } }) :
    wpAny (model prog w) A (eval (.Dict [some ke, none] [ve, me] pos) env) Q E s := by
  rw [arm_eval_Dict, hshape]
  refine wpAny_bind (wpAny_standAt ?_)
  unfold dictDisplay
  dsimp only
  have e1 : (([(k, v)] : List (Sem Value × Sem Value)).length == 17) = false := rfl
  simp only [List.forIn_cons, List.forIn_nil, pure_bind, bind_assoc, List.nil_append, e1, Bool.false_eq_true, if_false, List.isEmpty_cons, List.isEmpty_nil, if_true]
  refine wpAny_bind (wpAny_subDict (knd := knd) (show (1 : Nat) ≤ 15 by decide) (wpAny_mono h (fun vs s₁ h₁ => ?_) fun _ _ e => e))
  obtain ⟨kvs, hne, hc, hm, hq⟩ := h₁
  refine ⟨kvs, hc, hm, fun h' a b => ?_⟩
  refine wpAny_bind (wpAny_holding (wpAny_mono (hq h' a b) (fun mv s₂ h₂ => ?_) fun _ _ e => e))
  obtain ⟨o, kvs₂, more, rfl, ne2, hdo, hoS, d1, d2, hsz, hq2⟩ := h₂
  refine wpAny_bind (wpAny_onRaise (wpAny_tryCatch (wpAny_onRaise (wpAny_holding (wpAny_mergeMapping (knd := knd) hdo hoS ne2 d1 d2 (fun h'' d3 sb => ?_) hsz)))))
  exact wpAny_pure (hq2 h'' d3 sb)
end
end PySem
namespace L2
open PySem PySem.Spec PyProof.Rows
def tDispS (tk tv tm : TE) : TE := fun σ H Q => ∀ p, H p = none → tPairs [(tk, tv)] σ (upd H p (.dK [])) fun ps H2 => H2 p = some (.dK []) ∧ ∃ k y, ps = [(kV k, y)] ∧
  tm σ (upd H2 p (.dK [(k, y)])) fun z H3 => ∃ o more, z = .ref o ∧ o ≠ p ∧ H3 p = some (.dK [(k, y)]) ∧ H3 o = some (.dK more) ∧ more.length + 1 ≤ sizeLine ∧ Q (.ref p) (upd H3 p (.dK (mergeK [(k, y)] more)))
theorem pe_dispS {X : Cx} {pos : Pos} {ke ve me : Expr} {tk tv tm : TE} (h : PPs X pos [some ke] [ve] [(tk, tv)]) (hm : PE X me tm) : PE X (.Dict [some ke, none] [ve, me] pos) (tDispS tk tv tm) := by
  refine ⟨fun pins s σ H Q I q => ?_⟩
  have hn := I.hok.fresh (Nat.le_refl s.heap.objs.size)
  have I1 := I.laid (a := s.heap.objs.size) (o := .dK []) (h' := s.heap.push { cls := .type "dict", data := .dict #[] }) (t' := s.toks) (fun _ _ q => Heap.get?_push_of_some _ q) (Nat.le_refl _) (dk_empty s.heap I.big)
  refine wpAny_Dict_star (knd := mixKind X.prog X.w) (k := eval ke X.env) (v := do let x ← eval ve X.env; standAt pos; pure x) (m := do let x ← eval me X.env; standAt pos; pure x) rfl ?_
  refine thn (h.run pins _ σ _ _ I1 (q _ hn)) fun ws s2 ⟨ps, H2, I2, rel, e, k, y, ep, q2⟩ => ?_
  subst ep
  obtain ⟨rs, c, rk⟩ := carries_of (P := X.prog) (w := X.w) (kvs := [(k, y)]) rel
  obtain ⟨z, hd, vs0, r0, dd⟩ := dk_of I2.hok e
  cases r0
  have nrs : rs ≠ [] := fun er => by
    subst er
    cases rk
  refine ⟨rs, nrs, c, dd, fun h' dd' hs => ?_⟩
  have he : ∃ q, h'.get? s.heap.objs.size = some q := let ⟨q, _, _, hq, _⟩ := dd'; ⟨q, hq⟩
  have I3 := d_write (t' := s2.toks + ws.length) I2 (ob := .dK (mergeK [] [(k, y)])) (by rw [e]; exact True.intro) hs he (dk_new (show (1 : Nat) ≤ sizeLine by decide) hd (rk.merge .nil) dd')
  have e1 : mergeK [] [(k, y)] = [(k, y)] := rfl
  rw [e1] at I3
  refine wpAny_bind (thn (hm.run pins _ σ _ _ I3 q2) fun mv s4 hz => ?_)
  obtain ⟨z, H4, I4, rz, o, more, rfl, ne, e4, e5, lz, q4⟩ := hz
  refine wpAny_bind (wpAny_standAt (wpAny_pure ?_))
  have hr : mv = .ref o := by cases rz; rfl
  subst hr
  obtain ⟨_, hd4, vs4, r4, dd4⟩ := dk_of I4.hok e4
  obtain ⟨_, hd5, vs5, r5, dd5⟩ := dk_of I4.hok e5
  have n4 : vs4 ≠ [] := fun er => by
    subst er
    cases r4
  have l4 : vs4.length = 1 := by
    have := r4.length
    simpa using this.symm
  have l5 : more.length = vs5.length := r5.length
  refine ⟨o, vs4, vs5, rfl, n4, fun z => ne z.symm, hd5, dd4, dd5, by rw [l4, ← l5]; omega, fun h'' d3 sb => ?_⟩
  have he2 : ∃ q, h''.get? s.heap.objs.size = some q := let ⟨q, _, _, hq, _⟩ := d3; ⟨q, hq⟩
  have lm : (mergeK [(k, y)] more).length ≤ sizeLine := by
    have := length_mergeK more [(k, y)]
    simp only [List.length_cons, List.length_nil] at this
    omega
  exact ⟨.ref s.heap.objs.size, _, d_write (t' := s4.toks) I4 (by rw [e4]; exact True.intro) sb he2 (dk_new lm hd4 (r5.merge r4) d3), rfl, q4⟩
end L2
namespace PD
open PySem PySem.Spec PyProof.Rows L2
variable [LamTab]
def mrgL (acc more : List (List Key × D)) : List (List Key × D) := more.foldl (fun a p => putKD p.1 p.2 a) acc
theorem mrg_rep {c : RC} : ∀ {zs : List (Key × V)} {more acc : List (List Key × D)} {ys : List (Key × V)}, RepP c more (zs.map fun p => ([p.1], p.2)) → RepP c acc (ys.map fun p => ([p.1], p.2)) → RepP c (mrgL acc more) ((mergeK ys zs).map fun p => ([p.1], p.2))
  | [], _, _, _, .nil, h => h
  | (k, v) :: zs, _ :: ms, acc, ys, .cons (d := d) r t, h => by
    refine mrg_rep (zs := zs) (ys := putK ys k v) (more := ms) (acc := putKD [k] d acc) t ?_
    rw [← putK_one]
    exact putK_rep r h
def mDicS (mk mv mm : M D) : M D := fun ε h => bR (mPairs [(mk, mv)] ε h) fun ps h1 => match ps with
  | [(dk, dv)] => (match keyD dk with
    | some k => bR (mm ε h1) fun d h2 => (match d with
      | .dic false kvs => if kvs.length ≤ 1000000 then some (.ok (.dic false (mrgL [([k], dv)] kvs)), h2) else none
      | _ => none)
    | none => none)
  | _ => none
section
variable {X : Cx} {W : WX}
theorem re_dicS {ke ve me : Expr} {mk mv mm : M D} {pos : Pos} (hk : RE X W ke mk) (hv : RE X W ve mv) (hmm : RE X W me mm) : RE X W (.Dict [some ke, none] [ve, me] pos) (mDicS mk mv mm) := by
  refine pe_imp (pe_dispS (RPs.pps (r := [(mk, mv)]) (.cons hk hv .nil)) hmm) fun σ H Q h => ?_
  obtain ⟨c, ε, h, r', h', hK, hm, rfl, sr, er, e, px, go⟩ := h
  unfold tDispS
  intro p hp
  obtain ⟨o1, s1⟩ := Over.startG (o := .dK []) sr hp
  refine pairs_of [(mk, mv)] ?_
  unfold mDicS at e
  have er1 : EnvR { c with B := fun a => c.B a ∨ a = p, H := upd c.H p (.dK []) } ε σ := EnvR.moreG hp er
  refine tX.bind (c := { c with B := fun a => c.B a ∨ a = p, H := upd c.H p (.dK []) }) hK (o1.le.mg.trans hm) s1 er1 e (fun x ex c' cls dx l s xr => ?_) fun qs h2 c2 vs e2 l2 s2 r2 => ?_
  · have o2 := o1.step l
    refine px x ex (c'.av c.B) cls dx o2.back (o2.sr s) ?_
    obtain ⟨Ca, d, us, g1, g2, g3, g4, g5, g6⟩ := xr
    exact ⟨Ca, d, us, g1, g2, g3, g4, ⟨fun z => g5.1 (o2.le.B _ z), g5.2⟩, RepF.fewer o2.le.B g6⟩
  · have o2 := o1.step l2
    have p2 : c2.H p = some (.dK []) := (l2.keep p _ upd_same (fun _ z => by cases z) fun z => sr.nb p z |> fun k => (by
      obtain ⟨ob, eo⟩ := sr.ex z
      rw [hp] at eo; cases eo)).1
    match qs, vs, r2, e2 with
    | [(dk, dv)], [(x, v)], .cons rk rv .nil, e2 =>
      dsimp only at e2
      cases q : keyD dk with
      | none => rw [q] at e2; cases e2
      | some k =>
        rw [q] at e2
        dsimp only at e2
        have hx := keyD_ok rk q
        subst hx
        refine ⟨p2, k, v, rfl, ?_⟩
        obtain ⟨o3, s3⟩ := o2.putBG (b' := .dK [(k, v)]) s2 p2 (fun _ z => by cases z) (fun _ _ z => by cases z)
        have rv3 : Rep (c2.put p (.dK [(k, v)])) dv v := rv.putBG o2.Bp p2 (fun _ z => by cases z) (fun _ _ z => by cases z)
        have er3 : EnvR (c2.put p (.dK [(k, v)])) ε σ := EnvR.putBG o2.Bp p2 (fun _ z => by cases z) (fun _ _ z => by cases z) (er1.le l2)
        refine tX.bind (c := c2.put p (.dK [(k, v)])) (o3.le.K.trans hK) (o3.le.mg.trans hm) s3 er3 e2 (fun x ex c' cls dx l s xr => ?_) fun d h4 c4 z e4 l4 s4 r4 => ?_
        · have o4 := o3.step l
          refine px x ex (c'.av c.B) cls dx o4.back (o4.sr s) ?_
          obtain ⟨Ca, d, us, g1, g2, g3, g4, g5, g6⟩ := xr
          exact ⟨Ca, d, us, g1, g2, g3, g4, ⟨fun z => g5.1 (o4.le.B _ z), g5.2⟩, RepF.fewer o4.le.B g6⟩
        · have o4 := o3.step l4
          have p4 : c4.H p = some (.dK [(k, v)]) := (l4.keep p _ upd_same (fun _ z => by cases z) fun z => s3.nb p z o3.Bp).1
          cases r4 with
          | @dic a t o kvs' zs k1 k2 k3 k4 =>
            cases t with
            | true => cases e4
            | false =>
              dsimp only at e4
              split at e4
              · rename_i hl
                cases e4
                rcases k2 with ⟨_, ys, ho, hz⟩ | ⟨z, _⟩
                · subst ho hz
                  have ne : a ≠ p := fun z => k3.1 (z ▸ o4.Bp)
                  have ly : ys.length ≤ 1000000 := by
                    have := k4.len
                    rw [List.length_map] at this
                    omega
                  refine ⟨a, ys, rfl, ne, p4, k1, by show ys.length + 1 ≤ 16777216; omega, ?_⟩
                  obtain ⟨o5, s5⟩ := o4.putBG (b' := .dK (mergeK [(k, v)] ys)) s4 p4 (fun _ z => by cases z) (fun _ _ z => by cases z)
                  have r5 : RepP c4 (mrgL [([k], dv)] kvs') ((mergeK [(k, v)] ys).map fun p => ([p.1], p.2)) := mrg_rep k4 (.cons (rv3.le l4) .nil)
                  have hr5 := RepP.putBG (o' := .dK (mergeK [(k, v)] ys)) o4.Bp p4 (fun _ z => by cases z) (fun _ _ z => by cases z) r5
                  refine go _ rfl ((c4.put p (.dK (mergeK [(k, v)] ys))).av c.B) _ o5.back (o5.sr s5) ?_
                  refine .dic (o := .dK (mergeK [(k, v)] ys)) (zs := (mergeK [(k, v)] ys).map fun p => ([p.1], p.2)) upd_same (.inl ⟨rfl, _, rfl, rfl⟩) ⟨fun z => ?_, fun z => s5.nb p z o5.Bp⟩ (RepP.fewer o5.le.B hr5)
                  obtain ⟨ob, eo⟩ := sr.bt p z
                  rw [hp] at eo; cases eo
                · cases z
              · cases e4
          | _ => cases e4
end
end PD
namespace PD
open PySem PySem.Spec PyProof.Rows L2
variable [LamTab]
section
variable {prog : Program} {w : World} {A : Around} {E : Value → Shared → Prop} {s : Shared}
theorem eq_emp {a b : Addr} {oa ob : Obj} {es es' : Array DictEntry} {ep ep' : Nat} {Q : Value → Shared → Prop} (ha : (a == sysModules) = false) (hb : (b == sysModules) = false)
    (hoa : s.heap.get? a = some oa) (hxa : oa.ExactDict) (hda : oa.data = .dict es ep) (hob : s.heap.get? b = some ob) (hxb : ob.ExactDict) (hdb : ob.data = .dict es' ep') (hz : es'.size = 0) (hu : A.units < cLine) (h : Q (.bool (es.size == 0)) s) :
    wpAny (model prog w) A (compareOp .Eq (.ref a) (.ref b)) Q E s := by
  have ta : s.TypeIs (.ref a) "dict" := ⟨oa, hoa, hxa.1⟩
  have tb : s.TypeIs (.ref b) "dict" := ⟨ob, hob, hxb.1⟩
  refine wpAny_richCompare_same_room (op := .Eq) ta tb PySem.F.slot_dict_eq (wpAny_call_entry PySem.F.slot_dict_eq ta PySem.F.entry_dict_eq ?_ (PySem.F.args_dict_eq_2 _ _)) hu
  show wpAny _ _ (Builtin.Dict.dictSlotArgs "__eq__" ⟨[.ref a, .ref b], []⟩ >>= _) _ _ s
  refine wpAny_bind ?_
  unfold Builtin.Dict.dictSlotArgs
  refine wpAny_bind (wpAny_notOrdered_dict ta ?_)
  show wpAny _ _ (pure (Value.ref a, Value.ref b)) _ _ s
  refine wpAny_pure ?_
  refine wpAny_bind (wpAny_isInstance (T := "dict") tb PySem.F.sub_dict_dict ?_)
  simp only [Bool.not_true, Bool.false_eq_true, if_false]
  refine wpAny_bind (wpAny_pure (wpAny_bind (wpAny_pure ?_)))
  refine wpAny_bind (pairs_emp ha hb hoa hda hob hdb hz ?_)
  refine wpAny_pure ⟨_, rfl, ?_, ?_⟩
  · exact fun x => nomatch x
  · have e : ((es.size == 0) == true) = (es.size == 0) := by cases (es.size == 0) <;> rfl
    first | exact h | (rw [e]; exact h) | simpa using h
end
def rEqEmp : R2 := fun x y H Q => ∃ (a b : Addr) (t t' : Bool) (oa ob : HO) (zs : List (List Key × V)), x = .ref a ∧ y = .ref b ∧ H a = some oa ∧ isDic t oa zs ∧ H b = some ob ∧ isDic t' ob [] ∧ Q (.bl zs.isEmpty) H
theorem op_eqEmp {X : Cx} {k : Nat} (hr : Room k X.A) : OpR X (compareOp .Eq) rEqEmp := by
  intro pins s σ H x y v u Q I rx ry h
  obtain ⟨a, b, t, t', oa, ob, zs, rfl, rfl, h1, h2, h3, h4, q⟩ := h
  cases rx
  cases ry
  obtain ⟨o1, es1, ep1, k1, k2, k3, k4, k5⟩ := dic_at I h1 h2
  obtain ⟨o2, es2, ep2, l1, l2, l3, l4, l5⟩ := dic_at I h3 h4
  have e : (es1.size == 0) = zs.isEmpty := by
    rw [k5]
    cases zs <;> rfl
  refine eq_emp k1 l1 k2 k3 k4 l2 l3 l4 l5 (by have := hr.units; omega) ?_
  rw [e]
  exact ⟨.bl zs.isEmpty, H, I, rfl, q⟩
def dEqEmp (h : EH) (x y : D) : Option D := match asDicA h x, asDicA h y with
  | some kvs, some [] => some (.bl kvs.isEmpty)
  | _, _ => none
theorem ops_eqEmp {K : PySem.W.Frag} {mg : Str → Option Value} : OpS K mg rEqEmp dEqEmp := by
  intro c eh x y dx dy d Q hK hm sr rx ry e go
  subst hK
  unfold dEqEmp at e
  cases q : asDicA eh dx with
  | none => rw [q] at e; cases e
  | some ks =>
    rw [q] at e
    cases q2 : asDicA eh dy with
    | none => rw [q2] at e; cases e
    | some ls =>
      rw [q2] at e
      cases ls with
      | cons _ _ => cases e
      | nil =>
        cases e
        obtain ⟨a, t, o, zs, rfl, g1, g2, g3⟩ := asDicA_ok sr rx q
        obtain ⟨b, t', o', zs', rfl, k1, k2, k3⟩ := asDicA_ok sr ry q2
        cases k3
        refine ⟨a, b, t, t', o, o', zs, rfl, rfl, g1, g2, k1, k2, ?_⟩
        have : ks.isEmpty = zs.isEmpty := by cases g3 <;> rfl
        rw [← this]
        exact go c _ (.refl c) sr (.bl _)
section
variable {X : Cx} {W : WX} {a b e : Expr} {ma mb : M D} {pos p : Pos} {m : M (List D)}
theorem rt_eqEmp {k : Nat} (hr : Room k X.A) (ha : RE X W a ma) (hb : RE X W b mb) : RT X W (.Compare a [.Eq] [b] pos) (mTst (mBin dEqEmp ma mb)) := rt_cmp (op_eqEmp hr) ops_eqEmp ha hb (nomark _)
end
end PD
namespace PD
open PySem PySem.Spec PyProof.Rows L2
/-- the run lemmas of the layer ask for a LamTab; any will do -/
instance (priority := low) lamTab0 : LamTab := ⟨fun _ => ⟨"", ⟨[], [], none, [], [], none, []⟩, .Constant .none 0 ⟨0, 0, 0, 0⟩, { kind := .function, names := [], isGenerator := false, isCoroutine := false }, [], false⟩, []⟩
def sq (x : Option (RS × EH)) (b : MS) : Option (RS × EH) := match x with
  | some (.nx ε1, h1) => b ε1 h1
  | some (r, h1) => some (r, h1)
  | none => none
section
variable {α : Type} {ε ε1 : Ev} {h h1 : EH}
theorem seq_ap (a b : MS) : msSeq a b ε h = sq (a ε h) b := (rfl)
theorem sq_nx (b : MS) : sq (some (.nx ε, h)) b = b ε h := (rfl)
theorem sq_rt (d : D) (b : MS) : sq (some (.rt d, h)) b = some (.rt d, h) := (rfl)
theorem sq_bk (b : MS) : sq (some (.bk ε, h)) b = some (.bk ε, h) := (rfl)
theorem sq_ct (b : MS) : sq (some (.ct ε, h)) b = some (.ct ε, h) := (rfl)
theorem sq_ex (e : Ex) (b : MS) : sq (some (.ex e ε, h)) b = some (.ex e ε, h) := (rfl)
theorem bS_ok (a : α) (f : α → EH → Option (RS × EH)) : bS (some (.ok a, h)) ε f = f a h := (rfl)
theorem bS_ex (e : Ex) (f : α → EH → Option (RS × EH)) : bS (some (.ex e, h)) ε f = some (.ex e ε, h) := (rfl)
theorem var_ap (i : Nat) : mVar i ε h = rt (ε.getD i none) h := (rfl)
theorem c_ap (d : D) : mC d ε h = some (.ok d, h) := (rfl)
def binK2 (f : EH → D → D → Option D) (x y : D) (h2 : EH) : O D := rt (f h2 x y) h2
def binK1 (f : EH → D → D → Option D) (b : M D) (ε : Ev) (x : D) (h1 : EH) : O D := bR (b ε h1) (binK2 f x)
theorem bin_ap (f : EH → D → D → Option D) (a b : M D) : mBin f a b ε h = bR (a ε h) (binK1 f b ε) := (rfl)
theorem binK1_ap (f : EH → D → D → Option D) (b : M D) (x : D) : binK1 f b ε x h = bR (b ε h) (binK2 f x) := (rfl)
theorem binK2_ap (f : EH → D → D → Option D) (x y : D) : binK2 f x y h = rt (f h x y) h := (rfl)
def tstK (x : D) (h1 : EH) : O Bool := rt (asB x) h1
theorem tst_ap (m : M D) : mTst m ε h = bR (m ε h) tstK := (rfl)
theorem tstK_b (b : Bool) : tstK (.bl b) h = some (.ok b, h) := (rfl)
def notK (b : Bool) (h1 : EH) : O Bool := some (.ok (!b), h1)
theorem not_ap (a : M Bool) : mNot a ε h = bR (a ε h) notK := (rfl)
theorem notK_ap (b : Bool) : notK b h = some (.ok (!b), h) := (rfl)
def andK (b : M Bool) (ε : Ev) (x : Bool) (h1 : EH) : O Bool := if x = true then b ε h1 else some (.ok false, h1)
def orK (b : M Bool) (ε : Ev) (x : Bool) (h1 : EH) : O Bool := if x = true then some (.ok true, h1) else b ε h1
def ifK (a b : M α) (ε : Ev) (x : Bool) (h1 : EH) : O α := if x = true then a ε h1 else b ε h1
theorem and_ap (a b : M Bool) : mAnd a b ε h = bR (a ε h) (andK b ε) := (rfl)
theorem or_ap (a b : M Bool) : mOr a b ε h = bR (a ε h) (orK b ε) := (rfl)
theorem if_ap (t : M Bool) (a b : M α) : mIf t a b ε h = bR (t ε h) (ifK a b ε) := (rfl)
theorem andK_t (b : M Bool) : andK b ε true h = b ε h := (rfl)
theorem andK_f (b : M Bool) : andK b ε false h = some (.ok false, h) := (rfl)
theorem orK_t (b : M Bool) : orK b ε true h = some (.ok true, h) := (rfl)
theorem orK_f (b : M Bool) : orK b ε false h = b ε h := (rfl)
theorem ifK_t (a b : M α) : ifK a b ε true h = a ε h := (rfl)
theorem ifK_f (a b : M α) : ifK a b ε false h = b ε h := (rfl)
def andV (b : M D) (ε : Ev) (x : D) (h : EH) : O D := match x with
  | .bl true => b ε h
  | .bl false => some (.ok (.bl false), h)
  | _ => none
def orV (b : M D) (ε : Ev) (x : D) (h : EH) : O D := match x with
  | .bl true => some (.ok (.bl true), h)
  | .bl false => b ε h
  | _ => none
theorem andv_ap (a b : M D) : mAndV a b ε h = bR (a ε h) (andV b ε) := (rfl)
theorem orv_ap (a b : M D) : mOrV a b ε h = bR (a ε h) (orV b ε) := (rfl)
theorem andV_t (b : M D) : andV b ε (.bl true) h = b ε h := (rfl)
theorem andV_f (b : M D) : andV b ε (.bl false) h = some (.ok (.bl false), h) := (rfl)
theorem orV_t (b : M D) : orV b ε (.bl true) h = some (.ok (.bl true), h) := (rfl)
theorem orV_f (b : M D) : orV b ε (.bl false) h = b ε h := (rfl)
def notV (x : D) (h : EH) : O D := match x with
  | .bl b => some (.ok (.bl (!b)), h)
  | _ => none
theorem notv_ap (a : M D) : mNotV a ε h = bR (a ε h) notV := (rfl)
theorem notV_c (c : Bool) : notV (.bl c) h = some (.ok (.bl (!c)), h) := (rfl)
theorem nil_ap : mNil ε h = some (.ok [], h) := (rfl)
def consK2 (x : D) (xs : List D) (h2 : EH) : O (List D) := some (.ok (x :: xs), h2)
def consK1 (b : M (List D)) (ε : Ev) (x : D) (h1 : EH) : O (List D) := bR (b ε h1) (consK2 x)
theorem cons_ap (a : M D) (b : M (List D)) : mCons a b ε h = bR (a ε h) (consK1 b ε) := (rfl)
theorem consK1_ap (b : M (List D)) (x : D) : consK1 b ε x h = bR (b ε h) (consK2 x) := (rfl)
theorem consK2_ap (x : D) (xs : List D) : consK2 x xs h = some (.ok (x :: xs), h) := (rfl)
def tupK (ds : List D) (h1 : EH) : O D := rt (szL ds (.tup ds)) h1
def lstK (ds : List D) (h1 : EH) : O D := rt (szL ds (.lst ds)) h1
theorem tup_ap (m : M (List D)) : mTup m ε h = bR (m ε h) tupK := (rfl)
theorem lst_ap (m : M (List D)) : mLst m ε h = bR (m ε h) lstK := (rfl)
theorem tupK_ok {ds : List D} (e : ds.length ≤ 16777216) : tupK ds h = some (.ok (.tup ds), h) := by
  show rt (szL ds (.tup ds)) h = _
  rw [show szL ds (.tup ds) = some (.tup ds) from if_pos e]; rfl
theorem lstK_ok {ds : List D} (e : ds.length ≤ 16777216) : lstK ds h = some (.ok (.lst ds), h) := by
  show rt (szL ds (.lst ds)) h = _
  rw [show szL ds (.lst ds) = some (.lst ds) from if_pos e]; rfl
def callK (f : EH → List D → Option D) (xs : List D) (h1 : EH) : O D := rt (f h1 xs) h1
theorem call_ap (f : EH → List D → Option D) (a : M (List D)) : mCall f a ε h = bR (a ε h) (callK f) := (rfl)
theorem callK_ap (f : EH → List D → Option D) (xs : List D) : callK f xs h = rt (f h xs) h := (rfl)
def callPK (F : PF) (ds : List D) (h1 : EH) : O D := if noRef.go ds = true then (F ds).map fun r => (r, h1) else none
theorem callP_ap (F : PF) (a : M (List D)) : mCallP F a ε h = bR (a ε h) (callPK F) := (rfl)
theorem callPK_ok {F : PF} {ds : List D} {r : R D} (e2 : F ds = some r) (e : noRef.go ds = true) : callPK F ds h = some (r, h) := by
  unfold callPK
  rw [if_pos e, e2]; rfl
theorem callI_ap (F : IF) (a : M (List D)) : mCallI F a ε h = bR (a ε h) F := (rfl)
def permK (p : List Nat) (ds : List D) (h1 : EH) : O (List D) := some (.ok (permL p ds), h1)
theorem perm_ap (p : List Nat) (a : M (List D)) : mPerm p a ε h = bR (a ε h) (permK p) := (rfl)
theorem permK_ap (p : List Nat) (ds : List D) : permK p ds h = some (.ok (permL p ds), h) := (rfl)
theorem nop_ap : mNoP ε h = some (.ok none, h) := (rfl)
def smP (x : D) (h1 : EH) : O (Option Int) := match x with
  | .int i => some (.ok (some i), h1)
  | _ => none
theorem smp_ap (m : M D) : mSmP m ε h = bR (m ε h) smP := (rfl)
theorem smP_int (i : Int) : smP (.int i) h = some (.ok (some i), h) := (rfl)
def slK3 (x : D) (l u : Option Int) (h3 : EH) : O D := rt (dSl h3 x l u) h3
def slK2 (hi : M (Option Int)) (ε : Ev) (x : D) (l : Option Int) (h2 : EH) : O D := bR (hi ε h2) (slK3 x l)
def slK1 (lo hi : M (Option Int)) (ε : Ev) (x : D) (h1 : EH) : O D := bR (lo ε h1) (slK2 hi ε x)
theorem sl_ap (a : M D) (lo hi : M (Option Int)) : mSl a lo hi ε h = bR (a ε h) (slK1 lo hi ε) := (rfl)
theorem slK1_ap (lo hi : M (Option Int)) (x : D) : slK1 lo hi ε x h = bR (lo ε h) (slK2 hi ε x) := (rfl)
theorem slK2_ap (hi : M (Option Int)) (x : D) (l : Option Int) : slK2 hi ε x l h = bR (hi ε h) (slK3 x l) := (rfl)
theorem slK3_ap (x : D) (l u : Option Int) : slK3 x l u h = rt (dSl h x l u) h := (rfl)
theorem sl_lst (ds : List D) (l u : Option Int) : dSl h (.lst ds) l u = some (.lst (cutD ds l u)) := (rfl)
theorem sl_scr (ds : List D) (l u : Option Int) : dSl h (.scr ds) l u = some (.lst (cutD ds l u)) := (rfl)
theorem sl_tup (ds : List D) (l u : Option Int) : dSl h (.tup ds) l u = some (.tup (cutD ds l u)) := (rfl)
theorem sl_str {z : List Nat} (l u : Option Int) (e : z.length ≤ 16777216) : dSl h (.str z) l u = some (.str (cutD z l u)) := if_pos e
def chK4 (g : EH → D → D → Option D) (y z : D) (h4 : EH) : O D := rt (g h4 y z) h4
def chK3 (g : EH → D → D → Option D) (c : M D) (ε : Ev) (y : D) (k : Bool) (h3 : EH) : O D := if k = true then bR (c ε h3) (chK4 g y) else some (.ok (.bl false), h3)
def chK2 (f g : EH → D → D → Option D) (c : M D) (ε : Ev) (x y : D) (h2 : EH) : O D := bR (rt ((f h2 x y).bind asB) h2) (chK3 g c ε y)
def chK1 (f g : EH → D → D → Option D) (b c : M D) (ε : Ev) (x : D) (h1 : EH) : O D := bR (b ε h1) (chK2 f g c ε x)
theorem chain_ap (f g : EH → D → D → Option D) (a b c : M D) : mChain f g a b c ε h = bR (a ε h) (chK1 f g b c ε) := (rfl)
theorem chK1_ap (f g : EH → D → D → Option D) (b c : M D) (x : D) : chK1 f g b c ε x h = bR (b ε h) (chK2 f g c ε x) := (rfl)
theorem chK2_ap (f g : EH → D → D → Option D) (c : M D) (x y : D) : chK2 f g c ε x y h = bR (rt ((f h x y).bind asB) h) (chK3 g c ε y) := (rfl)
theorem chK3_t (g : EH → D → D → Option D) (c : M D) (y : D) : chK3 g c ε y true h = bR (c ε h) (chK4 g y) := (rfl)
theorem chK3_f (g : EH → D → D → Option D) (c : M D) (y : D) : chK3 g c ε y false h = some (.ok (.bl false), h) := (rfl)
theorem chK4_ap (g : EH → D → D → Option D) (y z : D) : chK4 g y z h = rt (g h y z) h := (rfl)
def isiK (ts : List Ty) (d : D) (h1 : EH) : O D := match tyD h1 d with
  | some t => some (.ok (.bl (ts.any (isa t))), h1)
  | none => none
theorem isi_ap (ts : List Ty) (a : M D) : mIsi ts a ε h = bR (a ε h) (isiK ts) := (rfl)
theorem isiK_int (ts : List Ty) (i : Int) : isiK ts (.int i) h = some (.ok (.bl (ts.any (isa .int))), h) := (rfl)
theorem isiK_str (ts : List Ty) (i : List Nat) : isiK ts (.str i) h = some (.ok (.bl (ts.any (isa .str))), h) := (rfl)
theorem isiK_bl (ts : List Ty) (i : Bool) : isiK ts (.bl i) h = some (.ok (.bl (ts.any (isa .bool))), h) := (rfl)
theorem isiK_non (ts : List Ty) : isiK ts .non h = some (.ok (.bl (ts.any (isa .non))), h) := (rfl)
theorem isiK_tup (ts : List Ty) (i : List D) : isiK ts (.tup i) h = some (.ok (.bl (ts.any (isa .tup))), h) := (rfl)
theorem isiK_lst (ts : List Ty) (i : List D) : isiK ts (.lst i) h = some (.ok (.bl (ts.any (isa .lst))), h) := (rfl)
def lcK (vs : List Nat) (g : MG) (t : M Bool) (e : M D) (ε : Ev) (ds : List D) (h1 : EH) : O D := okL (lcL g t e ds (wipeE ε vs) h1)
theorem lc_ap (vs : List Nat) (it : M (List D)) (g : MG) (t : M Bool) (e : M D) : mLc vs it g t e ε h = bR (it ε h) (lcK vs g t e ε) := (rfl)
theorem lcK_ok {vs : List Nat} {g : MG} {t : M Bool} {e : M D} {ds ys : List D} {h' : EH} (q : lcL g t e ds (wipeE ε vs) h = some (ys, h')) (l : ys.length ≤ 16777216) : lcK vs g t e ε ds h = some (.ok (.lst ys), h') := by
  unfold lcK
  rw [q]
  exact if_pos l
def lstCK (ds : List D) (h1 : EH) : O D := if ds.length ≤ sizeLine then some (.ok (.ref h1.length), h1 ++ [.lst ds]) else none
theorem lstC_ap (m : M (List D)) : mLstC m ε h = bR (m ε h) lstCK := (rfl)
theorem lstCK_ok {ds : List D} (e : ds.length ≤ 16777216) : lstCK ds h = some (.ok (.ref h.length), h ++ [.lst ds]) := if_pos e
def mtsK2 (f : EH → List Nat → List D → Option D) (z : List Nat) (ds : List D) (h2 : EH) : O D := rt (f h2 z ds) h2
def mtsK (f : EH → List Nat → List D → Option D) (a : M (List D)) (ε : Ev) (x : D) (h1 : EH) : O D := match x with
  | .str z => bR (a ε h1) (mtsK2 f z)
  | _ => none
theorem mts_ap (f : EH → List Nat → List D → Option D) (o : M D) (a : M (List D)) : mMtS f o a ε h = bR (o ε h) (mtsK f a ε) := (rfl)
theorem mtsK_str (f : EH → List Nat → List D → Option D) (a : M (List D)) (z : List Nat) : mtsK f a ε (.str z) h = bR (a ε h) (mtsK2 f z) := (rfl)
theorem mtsK2_ap (f : EH → List Nat → List D → Option D) (z : List Nat) (ds : List D) : mtsK2 f z ds h = rt (f h z ds) h := (rfl)
theorem yes_ap : mYes ε h = some (.ok true, h) := (rfl)
def ilK (x : D) (h1 : EH) : O (List D) := match x with
  | .lst ds => some (.ok ds, h1)
  | .scr ds => some (.ok ds, h1)
  | _ => none
theorem il_ap (a : M D) : miL a ε h = bR (a ε h) ilK := (rfl)
theorem ilK_lst (ds : List D) : ilK (.lst ds) h = some (.ok ds, h) := (rfl)
theorem ilK_scr (ds : List D) : ilK (.scr ds) h = some (.ok ds, h) := (rfl)
def itK (x : D) (h1 : EH) : O (List D) := match x with
  | .tup ds => some (.ok ds, h1)
  | _ => none
theorem it_ap (a : M D) : miT a ε h = bR (a ε h) itK := (rfl)
theorem itK_tup (ds : List D) : itK (.tup ds) h = some (.ok ds, h) := (rfl)
def isK (x : D) (h1 : EH) : O (List D) := match x with
  | .str z => some (.ok (z.map fun c => .str [c]), h1)
  | _ => none
theorem is_ap (a : M D) : miS a ε h = bR (a ε h) isK := (rfl)
theorem isK_str (z : List Nat) : isK (.str z) h = some (.ok (z.map fun c => .str [c]), h) := (rfl)
def ir1K (xs : List D) (h1 : EH) : O (List D) := match xs with
  | [.int j] => if -(2 ^ 62) ≤ j ∧ j < 2 ^ 62 then some (.ok (rngD 0 j.toNat), h1) else none
  | _ => none
theorem ir1_ap (a : M (List D)) : miR1 a ε h = bR (a ε h) ir1K := (rfl)
theorem ir1K_ok {j : Int} (e : -(2 ^ 62) ≤ j ∧ j < 2 ^ 62) : ir1K [.int j] h = some (.ok (rngD 0 j.toNat), h) := if_pos e
def izK (xs : List D) (h1 : EH) : O (List D) := match xs with
  | [x, y] => (match x, y with
    | .lst as, .lst bs => some (.ok (zipD as bs), h1)
    | .tup as, .tup bs => some (.ok (zipD as bs), h1)
    | .scr as, .lst bs => some (.ok (zipD as bs), h1)
    | .lst as, .scr bs => some (.ok (zipD as bs), h1)
    | .scr as, .scr bs => some (.ok (zipD as bs), h1)
    | _, _ => none)
  | _ => none
theorem iz_ap (a : M (List D)) : miZip a ε h = bR (a ε h) izK := (rfl)
theorem izK_l (as bs : List D) : izK [.lst as, .lst bs] h = some (.ok (zipD as bs), h) := (rfl)
theorem izK_t (as bs : List D) : izK [.tup as, .tup bs] h = some (.ok (zipD as bs), h) := (rfl)
theorem snil_ap : msNil ε h = some (.nx ε, h) := (rfl)
def retK (d : D) (h1 : EH) : Option (RS × EH) := some (.rt d, h1)
theorem ret_ap (a : M D) : msRet a ε h = bS (a ε h) ε retK := (rfl)
theorem retK_ap (d : D) : retK d h = some (.rt d, h) := (rfl)
def sifK (a b : MS) (ε : Ev) (k : Bool) (h1 : EH) : Option (RS × EH) := if k = true then a ε h1 else b ε h1
theorem sif_ap (t : M Bool) (a b : MS) : msIf t a b ε h = bS (t ε h) ε (sifK a b ε) := (rfl)
theorem sifK_t (a b : MS) : sifK a b ε true h = a ε h := (rfl)
theorem sifK_f (a b : MS) : sifK a b ε false h = b ε h := (rfl)
def sexprK (ε : Ev) (_ : D) (h1 : EH) : Option (RS × EH) := some (.nx ε, h1)
theorem sexpr_ap (a : M D) : msExpr a ε h = bS (a ε h) ε (sexprK ε) := (rfl)
theorem sexprK_ap (d : D) : sexprK ε d h = some (.nx ε, h) := (rfl)
theorem bk_ap : msBk ε h = some (.bk ε, h) := (rfl)
theorem ct_ap : msCt ε h = some (.ct ε, h) := (rfl)
def asgK (g : MG) (ε : Ev) (d : D) (h1 : EH) : Option (RS × EH) := bG (g d ε h1)
theorem asg_ap (a : M D) (g : MG) : msAsg a g ε h = bS (a ε h) ε (asgK g ε) := (rfl)
theorem asgK_ap (g : MG) (d : D) : asgK g ε d h = bG (g d ε h) := (rfl)
theorem bG_ok : bG (some (ε, h)) = some (.nx ε, h) := (rfl)
def forK (g : MG) (b : MS) (ε : Ev) (ds : List D) (h1 : EH) : Option (RS × EH) := forL g b ds ε h1
theorem for_ap (it : M (List D)) (g : MG) (b : MS) : msFor it g b ε h = bS (it ε h) ε (forK g b ε) := (rfl)
theorem forK_ap (g : MG) (b : MS) (ds : List D) : forK g b ε ds h = forL g b ds ε h := (rfl)
def parK (i j : Nat) (ε : Ev) (ds : List D) (h1 : EH) : Option (RS × EH) := match ds with
  | [d, e] => some (.nx ((ε.set i (some d)).set j (some e)), h1)
  | _ => none
theorem par_ap (i j : Nat) (m : M (List D)) : msPar i j m ε h = bS (m ε h) ε (parK i j ε) := (rfl)
theorem parK_ok (i j : Nat) (d e : D) : parK i j ε [d, e] h = some (.nx ((ε.set i (some d)).set j (some e)), h) := (rfl)
theorem gname_ap (i : Nat) (d : D) : mgName i d ε h = some (ε.set i (some d), h) := (rfl)
theorem gnil_ap : mgNil [] ε h = some (ε, h) := (rfl)
def gK (x : Option (Ev × EH)) (b : MGs) (r : List D) : Option (Ev × EH) := match x with
  | some (ε1, h1) => b r ε1 h1
  | none => none
theorem gcons_ap (a : MG) (b : MGs) (d : D) (r : List D) : mgCons a b (d :: r) ε h = gK (a d ε h) b r := (rfl)
theorem gK_ok (b : MGs) (r : List D) : gK (some (ε, h)) b r = b r ε h := (rfl)
theorem gtup_ap (n : Nat) (ms : MGs) (ds : List D) : mgTup n ms (.tup ds) ε h = if ds.length = n then ms ds ε h else none := (rfl)
def subK2 (v x : D) (ε : Ev) (z : O D) : Option (Ev × EH) := match z with
  | some (.ok y, h2) => (putL h2 x y v).map fun h3 => (ε, h3)
  | _ => none
def subK1 (v : D) (i : M D) (ε : Ev) (z : O D) : Option (Ev × EH) := match z with
  | some (.ok x, h1) => subK2 v x ε (i ε h1)
  | _ => none
theorem gsub_ap (o i : M D) (v : D) : mgSub o i v ε h = subK1 v i ε (o ε h) := by
  unfold mgSub subK1 subK2
  cases o ε h with
  | none => rfl
  | some z =>
    obtain ⟨r, h1⟩ := z
    cases r <;> rfl
theorem subK1_ok (v x : D) (i : M D) : subK1 v i ε (some (.ok x, h)) = subK2 v x ε (i ε h) := (rfl)
theorem subK2_ok (v x y : D) : subK2 v x ε (some (.ok y, h)) = (putL h x y v).map fun h3 => (ε, h3) := (rfl)
theorem add_int (i j : Int) : dAdd h (.int i) (.int j) = some (.int (i + j)) := (rfl)
theorem add_lst {a b : List D} (e : a.length + b.length ≤ 16777216) : dAdd h (.lst a) (.lst b) = some (.lst (a ++ b)) := by
  unfold dAdd dCatS dCatT dCatL dI2
  simp [asO, show a.length + b.length ≤ sizeLine from e]
theorem sub_int (i j : Int) : dSub h (.int i) (.int j) = some (.int (i - j)) := (rfl)
theorem mul_int {i j : Int} (e : CMul i j) : dMul h (.int i) (.int j) = some (.int (i * j)) := if_pos e
theorem div_int {i j : Int} (e : CDiv i j) : dDiv h (.int i) (.int j) = some (.int (i / j)) := if_pos e
theorem mod_int {i j : Int} (e : 0 < j) : dMod h (.int i) (.int j) = some (.int (i % j)) := if_pos e
theorem pow_int {i j : Int} (e : CPow i j) : dPow h (.int i) (.int j) = some (.int (i ^ j.toNat)) := if_pos e
theorem lt_int (i j : Int) : dLt h (.int i) (.int j) = some (.bl (decide (i < j))) := (rfl)
theorem le_int (i j : Int) : dLe h (.int i) (.int j) = some (.bl (decide (i ≤ j))) := (rfl)
theorem gt_int (i j : Int) : dGt h (.int i) (.int j) = some (.bl (decide (j < i))) := (rfl)
theorem ge_int (i j : Int) : dGe h (.int i) (.int j) = some (.bl (decide (j ≤ i))) := (rfl)
theorem eq_int (i j : Int) : dEq h (.int i) (.int j) = some (.bl (decide (i = j))) := (rfl)
theorem eq_str (i j : List Nat) : dEq h (.str i) (.str j) = some (.bl (decide (i = j))) := (rfl)
theorem eq_bl (i j : Bool) : dEq h (.bl i) (.bl j) = some (.bl (decide (i = j))) := (rfl)
theorem eq_is (i : Int) (j : List Nat) : dEq h (.int i) (.str j) = some (.bl false) := (rfl)
theorem eq_si (i : Int) (j : List Nat) : dEq h (.str j) (.int i) = some (.bl false) := (rfl)
theorem eq_bs (i : Bool) (j : List Nat) : dEq h (.bl i) (.str j) = some (.bl false) := (rfl)
theorem eq_sb (i : Bool) (j : List Nat) : dEq h (.str j) (.bl i) = some (.bl false) := (rfl)
theorem eq_nn : dEq h .non .non = some (.bl true) := (rfl)
theorem ne_int (i j : Int) : dNe h (.int i) (.int j) = some (.bl (!decide (i = j))) := (rfl)
theorem ne_str (i j : List Nat) : dNe h (.str i) (.str j) = some (.bl (!decide (i = j))) := (rfl)
theorem ne_bl (i j : Bool) : dNe h (.bl i) (.bl j) = some (.bl (!decide (i = j))) := (rfl)
theorem isn_ap (neg : Bool) (x : D) : dIsN neg h x .non = some (.bl (neg != isNon x)) := (rfl)
theorem isN_int (i : Int) : isNon (.int i) = false := (rfl)
theorem isN_str (i : List Nat) : isNon (.str i) = false := (rfl)
theorem isN_bl (i : Bool) : isNon (.bl i) = false := (rfl)
theorem isN_tup (i : List D) : isNon (.tup i) = false := (rfl)
theorem isN_lst (i : List D) : isNon (.lst i) = false := (rfl)
theorem isN_non : isNon .non = true := (rfl)
theorem ix_lst (ds : List D) (i : Int) : dIx h (.lst ds) (.int i) = atI ds i := (rfl)
theorem ix_tup (ds : List D) (i : Int) : dIx h (.tup ds) (.int i) = atI ds i := (rfl)
theorem ix_scr (ds : List D) (i : Int) : dIx h (.scr ds) (.int i) = atI ds i := (rfl)
theorem len_lst (ds : List D) : dLen h [.lst ds] = some (.int ds.length) := (rfl)
theorem len_tup (ds : List D) : dLen h [.tup ds] = some (.int ds.length) := (rfl)
theorem int_int (i : Int) : dInt h [.int i] = some (.int i) := (rfl)
theorem list_lst (ds : List D) : dList h [.lst ds] = some (.lst ds) := (rfl)
theorem list_tup (ds : List D) : dList h [.tup ds] = some (.lst ds) := (rfl)
theorem tuple_lst (ds : List D) : dTuple h [.lst ds] = some (.tup ds) := (rfl)
theorem tuple_tup (ds : List D) : dTuple h [.tup ds] = some (.tup ds) := (rfl)
theorem all_lst {ds : List D} {bs : List Bool} (e : asBs ds = some bs) : dAll h [.lst ds] = some (.bl (bs.all id)) := by
  show (asBs ds).map _ = _
  rw [e]; rfl
theorem asB_bl (b : Bool) : asB (.bl b) = some b := (rfl)
theorem getD0 {α : Type} (a : Option α) (r : List (Option α)) : (a :: r).getD 0 none = a := (rfl)
theorem getDS {α : Type} (a : Option α) (r : List (Option α)) (n : Nat) : (a :: r).getD (n + 1) none = r.getD n none := by
  simp
theorem set0 {α : Type} (a b : α) (r : List α) : (a :: r).set 0 b = b :: r := (rfl)
theorem setS {α : Type} (a b : α) (r : List α) (n : Nat) : (a :: r).set (n + 1) b = a :: r.set n b := (rfl)
theorem at0 {α : Type} (a : α) (r : List α) : (a :: r)[0]? = some a := (rfl)
theorem atS {α : Type} (a : α) (r : List α) (n : Nat) : (a :: r)[n + 1]? = r[n]? := (rfl)
theorem atI_nat {α : Type} (xs : List α) (n : Nat) (i : Int) (e : i = (n : Int)) : atI xs i = xs[n]? := by
  subst e
  unfold atI ixN
  by_cases hn : n < xs.length
  · rw [if_pos (by omega), if_pos (by omega)]
    rfl
  · rw [if_pos (by omega), if_neg (by omega), List.getElem?_eq_none (by omega)]
    rfl
theorem endI_rt {d d' : D} {n : Nat} (e : h.length = n) (f : frzI n h d = some d') : endI n (some (.rt d, h)) = some (.ok d', h) := by
  unfold endI trim
  simp only [f, e, if_true]
theorem endI_nx {n : Nat} (e : h.length = n) : endI n (some (.nx ε, h)) = some (.ok .non, h) := by
  unfold endI trim
  simp only [e, if_true, Option.map_some]
theorem endP_rt {d : D} (e : noRef d = true) (f : frz h d = some d) : endP (some (.rt d, h)) = some (.ok d) := by
  show (frz h d).map _ = _
  rw [f]; rfl
theorem map_some' {α β : Type} (f : α → β) (a : α) : (some a).map f = some (f a) := (rfl)
theorem bind_some' {α β : Type} (f : α → Option β) (a : α) : (some a).bind f = f a := (rfl)
end
theorem frz_id {h : EH} : ∀ {d : D}, noRef d = true → frz1 h d = some d
  | .non, _ => rfl
  | .bl _, _ => rfl
  | .int _, _ => rfl
  | .str _, _ => rfl
  | .dic _ _, e => if_pos e
  | .ref _, e => by cases e
  | .tup ds, e => if_pos e
  | .lst ds, e => if_pos e
  | .scr ds, e => if_pos e
  | .obj C fs, e => if_pos e
  | .fn _ _, e => if_pos e
  | .exc _ _, e => if_pos e
theorem frzL_id {h : EH} : ∀ {ds : List D}, noRef.go ds = true → frzL h ds = some ds
  | [], _ => rfl
  | d :: ds, e => by
    rw [noRef.go, Bool.and_eq_true] at e
    unfold frzL
    rw [frz_id e.1, frzL_id e.2]
theorem frzT {h : EH} : ∀ {d : D}, noRef d = true → frz h d = some d
  | .tup ds, e => by
    show (frzL h ds).map D.tup = _
    rw [frzL_id (by rw [noRef] at e; exact e)]; rfl
  | .lst ds, e => by
    show (frzL h ds).map D.lst = _
    rw [frzL_id (by rw [noRef] at e; exact e)]; rfl
  | .non, _ => rfl
  | .bl _, _ => rfl
  | .int _, _ => rfl
  | .str _, _ => rfl
  | .dic _ _, e => if_pos e
  | .ref _, e => by cases e
  | .scr ds, e => if_pos e
  | .obj C fs, e => if_pos e
  | .fn _ _, e => if_pos e
  | .exc _ _, e => if_pos e
theorem frzI_id1 {n : Nat} {h : EH} : ∀ {d : D}, noRef d = true → frz1I n h d = some d
  | .non, _ => rfl
  | .bl _, _ => rfl
  | .int _, _ => rfl
  | .str _, _ => rfl
  | .dic _ _, e => if_pos e
  | .ref _, e => by cases e
  | .tup ds, e => if_pos e
  | .lst ds, e => if_pos e
  | .scr ds, e => if_pos e
  | .obj C fs, e => if_pos e
  | .fn _ _, e => if_pos e
  | .exc _ _, e => if_pos e
theorem frzLI_id {n : Nat} {h : EH} : ∀ {ds : List D}, noRef.go ds = true → frzLI n h ds = some ds
  | [], _ => rfl
  | d :: ds, e => by
    rw [noRef.go, Bool.and_eq_true] at e
    unfold frzLI
    rw [frzI_id1 e.1, frzLI_id e.2]
theorem frzIT {n : Nat} {h : EH} : ∀ {d : D}, noRef d = true → frzI n h d = some d
  | .tup ds, e => by
    show (frzLI n h ds).map D.tup = _
    rw [frzLI_id (by rw [noRef] at e; exact e)]; rfl
  | .lst ds, e => by
    show (frzLI n h ds).map D.lst = _
    rw [frzLI_id (by rw [noRef] at e; exact e)]; rfl
  | .non, _ => rfl
  | .bl _, _ => rfl
  | .int _, _ => rfl
  | .str _, _ => rfl
  | .dic _ _, e => if_pos e
  | .ref _, e => by cases e
  | .scr ds, e => if_pos e
  | .obj C fs, e => if_pos e
  | .fn _ _, e => if_pos e
  | .exc _ _, e => if_pos e
section
variable {h h' : EH} {d : D} {n : Nat}
theorem endP_ok (e : noRef d = true) : endP (some (.rt d, h)) = some (.ok d) := endP_rt e (frzT e)
theorem endI_ok (l : h.length = n) (e : noRef d = true) : endI n (some (.rt d, h)) = some (.ok d, h) := endI_rt l (frzIT e)
end
end PD
namespace PD
open PySem PySem.Spec PyProof.Rows L2
def bagC (cs : List D) (i b s c : Int) : Cell := .lst [.lst cs, .int i, .int b, .int s, .int c]
/-- a bag between two pulls -/
structure BagI (k : Cell) : Prop where
  ex : ∃ (cs : List Int) (i b s c : Int), k = bagC (cs.map .int) i b s c ∧ cs.length ≤ 63 ∧ 0 ≤ i ∧ 0 ≤ b ∧ 0 ≤ s ∧ s < 2147483549
theorem cmul_l {i j : Int} (h : -18446744073709551616 < i ∧ i < 18446744073709551616) : CMul i j := .inl h
def mPull : MS :=
    (msSeq (msAsg (mBin dAdd (mBin dIx (mVar 0) (mC (.int 4))) (mC (.int 1))) (mgSub (mVar 0) (mC (.int 4))))
    (msSeq (msIf (mAnd (mTst (mBin dEq (mBin dIx (mVar 0) (mC (.int 2))) (mC (.int 0)))) (mTst (mBin dLt (mBin dIx (mVar 0) (mC (.int 1))) (mCall dLen (mCons (mBin dIx (mVar 0) (mC (.int 0))) mNil))))) (msSeq (msAsg (mTup (mCons (mBin dIx (mBin dIx (mVar 0) (mC (.int 0))) (mBin dIx (mVar 0) (mC (.int 1)))) (mCons (mBin dAdd (mBin dIx (mVar 0) (mC (.int 1))) (mC (.int 1))) mNil))) (mgTup 2 (mgCons (mgName 3) (mgCons (mgSub (mVar 0) (mC (.int 1))) mgNil))))
    (msSeq (msIf (mTst (mBin dGe (mVar 3) (mBin dPow (mC (.int 10)) (mC (.int 18))))) (msAsg (mVar 3) (mgSub (mVar 0) (mC (.int 2)))) msNil)
    (msAsg (mBin dMod (mCall dInt (mCons (mBin dAdd (mBin dAdd (mBin dMul (mBin dIx (mVar 0) (mC (.int 3))) (mC (.int 38377))) (mBin dMul (mBin dMod (mCall dInt (mCons (mVar 3) mNil)) (mC (.int 2147483489))) (mC (.int 41143)))) (mC (.int 61))) mNil)) (mC (.int 2147483549))) (mgSub (mVar 0) (mC (.int 3)))))) msNil)
    (msSeq (msIf (mTst (mBin dGt (mBin dIx (mVar 0) (mC (.int 2))) (mC (.int 0)))) (msSeq (msAsg (mTup (mCons (mBin dMod (mCall dInt (mCons (mBin dIx (mVar 0) (mC (.int 2))) mNil)) (mVar 1)) (mCons (mBin dDiv (mBin dIx (mVar 0) (mC (.int 2))) (mVar 1)) mNil))) (mgTup 2 (mgCons (mgName 4) (mgCons (mgSub (mVar 0) (mC (.int 2))) mgNil))))
    (msRet (mVar 4))) msNil)
    (msSeq (msAsg (mBin dIx (mVar 0) (mC (.int 3))) (mgName 2))
    (msSeq (msAsg (mBin dMod (mCall dInt (mCons (mBin dAdd (mBin dAdd (mBin dAdd (mBin dPow (mVar 2) (mC (.int 3))) (mBin dMul (mVar 2) (mC (.int 37813)))) (mBin dMul (mBin dIx (mVar 0) (mC (.int 4))) (mC (.int 1299689)))) (mC (.int 65437))) mNil)) (mC (.int 2147483549))) (mgSub (mVar 0) (mC (.int 3))))
    (msRet (mBin dMod (mCall dInt (mCons (mBin dAdd (mBin dDiv (mBin dIx (mVar 0) (mC (.int 3))) (mC (.int 89))) (mBin dMul (mBin dMod (mCall dInt (mCons (mBin dIx (mVar 0) (mC (.int 3))) mNil)) (mC (.int 7919))) (mC (.int 71)))) mNil)) (mVar 1))))))))
section
variable {cs : List D} {i b s c : Int} {t : EH}
theorem bag0 : dIx (bagC cs i b s c :: t) (.ref 0) (.int 0) = some (.lst cs) := rfl
theorem bag1 : dIx (bagC cs i b s c :: t) (.ref 0) (.int 1) = some (.int i) := rfl
theorem bag2 : dIx (bagC cs i b s c :: t) (.ref 0) (.int 2) = some (.int b) := rfl
theorem bag3 : dIx (bagC cs i b s c :: t) (.ref 0) (.int 3) = some (.int s) := rfl
theorem bag4 : dIx (bagC cs i b s c :: t) (.ref 0) (.int 4) = some (.int c) := rfl
theorem put1 (x : Int) : putL (bagC cs i b s c :: t) (.ref 0) (.int 1) (.int x) = some (bagC cs x b s c :: t) := rfl
theorem put2 (x : Int) : putL (bagC cs i b s c :: t) (.ref 0) (.int 2) (.int x) = some (bagC cs i x s c :: t) := rfl
theorem put3 (x : Int) : putL (bagC cs i b s c :: t) (.ref 0) (.int 3) (.int x) = some (bagC cs i b x c :: t) := rfl
theorem put4 (x : Int) : putL (bagC cs i b s c :: t) (.ref 0) (.int 4) (.int x) = some (bagC cs i b s x :: t) := rfl
end
theorem mul_rc {h : EH} {i j : Int} (e : -18446744073709551616 < j ∧ j < 18446744073709551616) : dMul h (.int i) (.int j) = some (.int (i * j)) := mul_int (.inr e)
theorem pow_c {h : EH} {i j : Int} (e : 0 ≤ j ∧ j ≤ 1000000) (e2 : i.natAbs < 18446744073709551616) : dPow h (.int i) (.int j) = some (.int (i ^ j.toNat)) := pow_int ⟨e.1, e.2, e2⟩
theorem p10_18 {h : EH} : dPow h (.int 10) (.int 18) = some (.int 1000000000000000000) := pow_int ⟨by decide, by decide, by decide⟩
theorem div_c {h : EH} {i j : Int} (e : 0 < j ∧ j < 1073741824) : dDiv h (.int i) (.int j) = some (.int (i / j)) := div_int e
theorem pull_ok {k : Cell} (hk : BagI k) {n : Int} (hn : 0 < n) (hn2 : n < 1073741824) (t : EH) : ∃ d k', runI 5 mPull [.ref 0, .int n] (k :: t) = some (.ok (.int d), k' :: t) ∧ 0 ≤ d ∧ d < n ∧ BagI k' := by
  obtain ⟨cs, i, b, s, c, rfl, hcs, hi, hb, hs, hs2⟩ := hk.ex
  have fin : ∀ {d : Int} {k' : Cell} {ε : Ev}, mPull (startE 5 [.ref 0, .int n]) (bagC (cs.map .int) i b s c :: t) = some (.rt (.int d), k' :: t) → runI 5 mPull [.ref 0, .int n] (bagC (cs.map .int) i b s c :: t) = some (.ok (.int d), k' :: t) := fun e => by
    unfold runI
    rw [e]
    exact endI_ok rfl rfl
  have e0 : startE 5 [.ref 0, .int n] = [some (.ref 0), some (.int n), none, none, none] := rfl
  rw [e0] at fin
  have hs3 : s.natAbs < 18446744073709551616 := by omega
  by_cases q1 : b = 0
  · subst q1
    have M : ∀ z : Int, 0 ≤ z % 2147483549 ∧ z % 2147483549 < 2147483549 := fun z => ⟨Int.emod_nonneg _ (by decide), Int.emod_lt_of_pos _ (by decide)⟩
    by_cases q2 : i < (cs.length : Int)
    · obtain ⟨j, rfl⟩ : ∃ j : Nat, i = (j : Int) := ⟨i.toNat, by omega⟩
      have hj : j < cs.length := by omega
      have eX : atI (cs.map D.int) (j : Int) = some (.int cs[j]) := by
        rw [atI_nat _ j _ rfl, List.getElem?_map, List.getElem?_eq_getElem hj]; rfl
      by_cases q3 : (1000000000000000000 : Int) ≤ cs[j]
      · have q4 : 0 < cs[j] := by omega
        refine ⟨cs[j] % n, bagC (cs.map .int) (j + 1) (cs[j] / n) ((s * 38377 + cs[j] % 2147483489 * 41143 + 61) % 2147483549) (c + 1), ?_, Int.emod_nonneg _ (by omega), Int.emod_lt_of_pos _ hn, ⟨_, _, _, _, _, rfl, hcs, by omega, Int.ediv_nonneg (by omega) (by omega), (M _).1, (M _).2⟩⟩
        refine fin (ε := []) ?_
        simp only [mPull, ↓seq_ap, ↓var_ap, ↓c_ap, ↓bin_ap, ↓tst_ap, ↓not_ap, ↓and_ap, ↓or_ap, ↓if_ap, ↓andv_ap, ↓orv_ap, ↓notv_ap, ↓nil_ap, ↓cons_ap, ↓tup_ap, ↓lst_ap, ↓call_ap, ↓callP_ap, ↓callI_ap, ↓perm_ap, ↓nop_ap, ↓smp_ap, ↓sl_ap, ↓chain_ap, ↓isi_ap, ↓lc_ap, ↓lstC_ap, ↓mts_ap, ↓yes_ap, ↓il_ap, ↓it_ap, ↓is_ap, ↓ir1_ap, ↓iz_ap, ↓snil_ap, ↓ret_ap, ↓sif_ap, ↓sexpr_ap, ↓bk_ap, ↓ct_ap, ↓asg_ap, ↓for_ap, ↓par_ap, ↓gname_ap, ↓gnil_ap, ↓gcons_ap, ↓gtup_ap, ↓gsub_ap, bR_ok, bR_ex, rt_some, sq_nx, sq_rt, sq_bk, sq_ct, sq_ex, bS_ok, bS_ex, binK1_ap, binK2_ap, tstK_b, notK_ap, andK_t, andK_f, orK_t, orK_f, ifK_t, ifK_f, andV_t, andV_f, orV_t, orV_f, notV_c, consK1_ap, consK2_ap, tupK_ok, lstK_ok, callK_ap, permK_ap, smP_int, slK1_ap, slK2_ap, slK3_ap, sl_lst, sl_scr, sl_tup, chK1_ap, chK2_ap, chK3_t, chK3_f, chK4_ap, isiK_int, isiK_str, isiK_bl, isiK_non, isiK_tup, isiK_lst, mtsK_str, mtsK2_ap, ilK_lst, ilK_scr, itK_tup, isK_str, izK_l, izK_t, retK_ap, sifK_t, sifK_f, sexprK_ap, asgK_ap, bG_ok, forK_ap, parK_ok, gK_ok, subK1_ok, subK2_ok, add_int, sub_int, mod_int, lt_int, le_int, gt_int, ge_int, eq_int, eq_str, eq_bl, eq_is, eq_si, eq_bs, eq_sb, eq_nn, ne_int, ne_str, ne_bl, isn_ap, isN_int, isN_str, isN_bl, isN_tup, isN_lst, isN_non, ix_lst, ix_tup, ix_scr, len_lst, len_tup, int_int, list_lst, list_tup, tuple_lst, tuple_tup, asB_bl, getD0, getDS, set0, setS, at0, atS, map_some', bind_some', List.length_cons, List.length_nil, List.any_cons, List.any_nil, bag0, bag1, bag2, bag3, bag4, put1, put2, put3, put4, hn, hn2, q2, q3, q4, eX, decide_true, decide_false, and_self, div_c, mul_rc, p10_18, pow_c, Nat.reduceLeDiff, Nat.reduceAdd, if_true, List.length_map, Int.reduceLT, Int.reduceNeg, Int.reducePow, Int.reduceToNat, Int.reduceLE, Nat.reduceLT]
      · have hs4 := M (s * 38377 + cs[j] % 2147483489 * 41143 + 61)
        generalize hs' : (s * 38377 + cs[j] % 2147483489 * 41143 + 61) % 2147483549 = s' at hs4
        have hs5 : s'.natAbs < 18446744073709551616 := by omega
        generalize hz : (s' ^ 3 + s' * 37813 + (c + 1) * 1299689 + 65437) % 2147483549 = z
        refine ⟨(z / 89 + z % 7919 * 71) % n, bagC (cs.map .int) (j + 1) 0 z (c + 1), ?_, Int.emod_nonneg _ (by omega), Int.emod_lt_of_pos _ hn, ⟨_, _, _, _, _, rfl, hcs, by omega, by omega, by rw [← hz]; exact (M _).1, by rw [← hz]; exact (M _).2⟩⟩
        refine fin (ε := []) ?_
        simp only [mPull, ↓seq_ap, ↓var_ap, ↓c_ap, ↓bin_ap, ↓tst_ap, ↓not_ap, ↓and_ap, ↓or_ap, ↓if_ap, ↓andv_ap, ↓orv_ap, ↓notv_ap, ↓nil_ap, ↓cons_ap, ↓tup_ap, ↓lst_ap, ↓call_ap, ↓callP_ap, ↓callI_ap, ↓perm_ap, ↓nop_ap, ↓smp_ap, ↓sl_ap, ↓chain_ap, ↓isi_ap, ↓lc_ap, ↓lstC_ap, ↓mts_ap, ↓yes_ap, ↓il_ap, ↓it_ap, ↓is_ap, ↓ir1_ap, ↓iz_ap, ↓snil_ap, ↓ret_ap, ↓sif_ap, ↓sexpr_ap, ↓bk_ap, ↓ct_ap, ↓asg_ap, ↓for_ap, ↓par_ap, ↓gname_ap, ↓gnil_ap, ↓gcons_ap, ↓gtup_ap, ↓gsub_ap, bR_ok, bR_ex, rt_some, sq_nx, sq_rt, sq_bk, sq_ct, sq_ex, bS_ok, bS_ex, binK1_ap, binK2_ap, tstK_b, notK_ap, andK_t, andK_f, orK_t, orK_f, ifK_t, ifK_f, andV_t, andV_f, orV_t, orV_f, notV_c, consK1_ap, consK2_ap, tupK_ok, lstK_ok, callK_ap, permK_ap, smP_int, slK1_ap, slK2_ap, slK3_ap, sl_lst, sl_scr, sl_tup, chK1_ap, chK2_ap, chK3_t, chK3_f, chK4_ap, isiK_int, isiK_str, isiK_bl, isiK_non, isiK_tup, isiK_lst, mtsK_str, mtsK2_ap, ilK_lst, ilK_scr, itK_tup, isK_str, izK_l, izK_t, retK_ap, sifK_t, sifK_f, sexprK_ap, asgK_ap, bG_ok, forK_ap, parK_ok, gK_ok, subK1_ok, subK2_ok, add_int, sub_int, mod_int, lt_int, le_int, gt_int, ge_int, eq_int, eq_str, eq_bl, eq_is, eq_si, eq_bs, eq_sb, eq_nn, ne_int, ne_str, ne_bl, isn_ap, isN_int, isN_str, isN_bl, isN_tup, isN_lst, isN_non, ix_lst, ix_tup, ix_scr, len_lst, len_tup, int_int, list_lst, list_tup, tuple_lst, tuple_tup, asB_bl, getD0, getDS, set0, setS, at0, atS, map_some', bind_some', List.length_cons, List.length_nil, List.any_cons, List.any_nil, bag0, bag1, bag2, bag3, bag4, put1, put2, put3, put4, hn, hn2, q2, q3, eX, decide_true, decide_false, and_self, div_c, mul_rc, p10_18, pow_c, Nat.reduceLeDiff, Nat.reduceAdd, if_true, List.length_map, Int.reduceLT, Int.reduceNeg, Int.reducePow, Int.reduceToNat, Int.reduceLE, Nat.reduceLT, hs', hs5, hz]
    · have hs5 : s.natAbs < 18446744073709551616 := by omega
      generalize hz : (s ^ 3 + s * 37813 + (c + 1) * 1299689 + 65437) % 2147483549 = z
      refine ⟨(z / 89 + z % 7919 * 71) % n, bagC (cs.map .int) i 0 z (c + 1), ?_, Int.emod_nonneg _ (by omega), Int.emod_lt_of_pos _ hn, ⟨_, _, _, _, _, rfl, hcs, by omega, by omega, by rw [← hz]; exact (M _).1, by rw [← hz]; exact (M _).2⟩⟩
      refine fin (ε := []) ?_
      simp only [mPull, ↓seq_ap, ↓var_ap, ↓c_ap, ↓bin_ap, ↓tst_ap, ↓not_ap, ↓and_ap, ↓or_ap, ↓if_ap, ↓andv_ap, ↓orv_ap, ↓notv_ap, ↓nil_ap, ↓cons_ap, ↓tup_ap, ↓lst_ap, ↓call_ap, ↓callP_ap, ↓callI_ap, ↓perm_ap, ↓nop_ap, ↓smp_ap, ↓sl_ap, ↓chain_ap, ↓isi_ap, ↓lc_ap, ↓lstC_ap, ↓mts_ap, ↓yes_ap, ↓il_ap, ↓it_ap, ↓is_ap, ↓ir1_ap, ↓iz_ap, ↓snil_ap, ↓ret_ap, ↓sif_ap, ↓sexpr_ap, ↓bk_ap, ↓ct_ap, ↓asg_ap, ↓for_ap, ↓par_ap, ↓gname_ap, ↓gnil_ap, ↓gcons_ap, ↓gtup_ap, ↓gsub_ap, bR_ok, bR_ex, rt_some, sq_nx, sq_rt, sq_bk, sq_ct, sq_ex, bS_ok, bS_ex, binK1_ap, binK2_ap, tstK_b, notK_ap, andK_t, andK_f, orK_t, orK_f, ifK_t, ifK_f, andV_t, andV_f, orV_t, orV_f, notV_c, consK1_ap, consK2_ap, tupK_ok, lstK_ok, callK_ap, permK_ap, smP_int, slK1_ap, slK2_ap, slK3_ap, sl_lst, sl_scr, sl_tup, chK1_ap, chK2_ap, chK3_t, chK3_f, chK4_ap, isiK_int, isiK_str, isiK_bl, isiK_non, isiK_tup, isiK_lst, mtsK_str, mtsK2_ap, ilK_lst, ilK_scr, itK_tup, isK_str, izK_l, izK_t, retK_ap, sifK_t, sifK_f, sexprK_ap, asgK_ap, bG_ok, forK_ap, parK_ok, gK_ok, subK1_ok, subK2_ok, add_int, sub_int, mod_int, lt_int, le_int, gt_int, ge_int, eq_int, eq_str, eq_bl, eq_is, eq_si, eq_bs, eq_sb, eq_nn, ne_int, ne_str, ne_bl, isn_ap, isN_int, isN_str, isN_bl, isN_tup, isN_lst, isN_non, ix_lst, ix_tup, ix_scr, len_lst, len_tup, int_int, list_lst, list_tup, tuple_lst, tuple_tup, asB_bl, getD0, getDS, set0, setS, at0, atS, map_some', bind_some', List.length_cons, List.length_nil, List.any_cons, List.any_nil, bag0, bag1, bag2, bag3, bag4, put1, put2, put3, put4, hn, hn2, q2, decide_true, decide_false, and_self, div_c, mul_rc, p10_18, pow_c, Nat.reduceLeDiff, Nat.reduceAdd, if_true, List.length_map, Int.reduceLT, Int.reduceNeg, Int.reducePow, Int.reduceToNat, Int.reduceLE, Nat.reduceLT, hs5, hz]
  · have q2 : 0 < b := by omega
    refine ⟨b % n, bagC (cs.map .int) i (b / n) s (c + 1), ?_, Int.emod_nonneg _ (by omega), Int.emod_lt_of_pos _ hn, ⟨_, _, _, _, _, rfl, hcs, hi, Int.ediv_nonneg hb (by omega), hs, hs2⟩⟩
    refine fin (ε := []) ?_
    simp only [mPull, ↓seq_ap, ↓var_ap, ↓c_ap, ↓bin_ap, ↓tst_ap, ↓not_ap, ↓and_ap, ↓or_ap, ↓if_ap, ↓andv_ap, ↓orv_ap, ↓notv_ap, ↓nil_ap, ↓cons_ap, ↓tup_ap, ↓lst_ap, ↓call_ap, ↓callP_ap, ↓callI_ap, ↓perm_ap, ↓nop_ap, ↓smp_ap, ↓sl_ap, ↓chain_ap, ↓isi_ap, ↓lc_ap, ↓lstC_ap, ↓mts_ap, ↓yes_ap, ↓il_ap, ↓it_ap, ↓is_ap, ↓ir1_ap, ↓iz_ap, ↓snil_ap, ↓ret_ap, ↓sif_ap, ↓sexpr_ap, ↓bk_ap, ↓ct_ap, ↓asg_ap, ↓for_ap, ↓par_ap, ↓gname_ap, ↓gnil_ap, ↓gcons_ap, ↓gtup_ap, ↓gsub_ap, bR_ok, bR_ex, rt_some, sq_nx, sq_rt, sq_bk, sq_ct, sq_ex, bS_ok, bS_ex, binK1_ap, binK2_ap, tstK_b, notK_ap, andK_t, andK_f, orK_t, orK_f, ifK_t, ifK_f, andV_t, andV_f, orV_t, orV_f, notV_c, consK1_ap, consK2_ap, tupK_ok, lstK_ok, callK_ap, permK_ap, smP_int, slK1_ap, slK2_ap, slK3_ap, sl_lst, sl_scr, sl_tup, chK1_ap, chK2_ap, chK3_t, chK3_f, chK4_ap, isiK_int, isiK_str, isiK_bl, isiK_non, isiK_tup, isiK_lst, mtsK_str, mtsK2_ap, ilK_lst, ilK_scr, itK_tup, isK_str, izK_l, izK_t, retK_ap, sifK_t, sifK_f, sexprK_ap, asgK_ap, bG_ok, forK_ap, parK_ok, gK_ok, subK1_ok, subK2_ok, add_int, sub_int, mod_int, lt_int, le_int, gt_int, ge_int, eq_int, eq_str, eq_bl, eq_is, eq_si, eq_bs, eq_sb, eq_nn, ne_int, ne_str, ne_bl, isn_ap, isN_int, isN_str, isN_bl, isN_tup, isN_lst, isN_non, ix_lst, ix_tup, ix_scr, len_lst, len_tup, int_int, list_lst, list_tup, tuple_lst, tuple_tup, asB_bl, getD0, getDS, set0, setS, at0, atS, map_some', bind_some', List.length_cons, List.length_nil, List.any_cons, List.any_nil, bag0, bag1, bag2, bag3, bag4, put1, put2, put3, put4, hn, hn2, q1, q2, decide_true, decide_false, and_self, div_c, Nat.reduceLeDiff, Nat.reduceAdd, if_true]
end PD
local macro_rules
  | `(tactic| simp? only [$xs,*] $[$l]?) => `(tactic| simp only [↓PD.seq_ap, ↓PD.var_ap, ↓PD.c_ap, ↓PD.bin_ap, ↓PD.tst_ap, ↓PD.not_ap, ↓PD.and_ap, ↓PD.or_ap, ↓PD.if_ap, ↓PD.andv_ap, ↓PD.orv_ap, ↓PD.notv_ap, ↓PD.nil_ap, ↓PD.cons_ap, ↓PD.tup_ap, ↓PD.lst_ap, ↓PD.call_ap, ↓PD.callP_ap, ↓PD.callI_ap, ↓PD.perm_ap, ↓PD.nop_ap, ↓PD.smp_ap, ↓PD.sl_ap, ↓PD.chain_ap, ↓PD.isi_ap, ↓PD.lc_ap, ↓PD.lstC_ap, ↓PD.mts_ap, ↓PD.yes_ap, ↓PD.il_ap, ↓PD.it_ap, ↓PD.is_ap, ↓PD.ir1_ap, ↓PD.iz_ap, ↓PD.snil_ap, ↓PD.ret_ap, ↓PD.sif_ap, ↓PD.sexpr_ap, ↓PD.bk_ap, ↓PD.ct_ap, ↓PD.asg_ap, ↓PD.for_ap, ↓PD.par_ap, ↓PD.gname_ap, ↓PD.gnil_ap, ↓PD.gcons_ap, ↓PD.gtup_ap, ↓PD.gsub_ap, PD.bR_ok, PD.bR_ex, PD.rt_some, PD.sq_nx, PD.sq_rt, PD.sq_bk, PD.sq_ct, PD.sq_ex, PD.bS_ok, PD.bS_ex, PD.binK1_ap, PD.binK2_ap, PD.tstK_b, PD.notK_ap, PD.andK_t, PD.andK_f, PD.orK_t, PD.orK_f, PD.ifK_t, PD.ifK_f, PD.andV_t, PD.andV_f, PD.orV_t, PD.orV_f, PD.notV_c, PD.consK1_ap, PD.consK2_ap, PD.tupK_ok, PD.lstK_ok, PD.callK_ap, PD.permK_ap, PD.smP_int, PD.slK1_ap, PD.slK2_ap, PD.slK3_ap, PD.sl_lst, PD.sl_scr, PD.sl_tup, PD.chK1_ap, PD.chK2_ap, PD.chK3_t, PD.chK3_f, PD.chK4_ap, PD.isiK_int, PD.isiK_str, PD.isiK_bl, PD.isiK_non, PD.isiK_tup, PD.isiK_lst, PD.mtsK_str, PD.mtsK2_ap, PD.ilK_lst, PD.ilK_scr, PD.itK_tup, PD.isK_str, PD.izK_l, PD.izK_t, PD.retK_ap, PD.sifK_t, PD.sifK_f, PD.sexprK_ap, PD.asgK_ap, PD.bG_ok, PD.forK_ap, PD.parK_ok, PD.gK_ok, PD.subK1_ok, PD.subK2_ok, PD.add_int, PD.sub_int, PD.mod_int, PD.lt_int, PD.le_int, PD.gt_int, PD.ge_int, PD.eq_int, PD.eq_str, PD.eq_bl, PD.eq_is, PD.eq_si, PD.eq_bs, PD.eq_sb, PD.eq_nn, PD.ne_int, PD.ne_str, PD.ne_bl, PD.isn_ap, PD.isN_int, PD.isN_str, PD.isN_bl, PD.isN_tup, PD.isN_lst, PD.isN_non, PD.ix_lst, PD.ix_tup, PD.ix_scr, PD.len_lst, PD.len_tup, PD.int_int, PD.list_lst, PD.list_tup, PD.tuple_lst, PD.tuple_tup, PD.asB_bl, PD.getD0, PD.getDS, PD.set0, PD.setS, PD.at0, PD.atS, PD.map_some', PD.bind_some', List.length_cons, List.length_nil, List.any_cons, List.any_nil, decide_true, decide_false, and_self, Nat.reduceLeDiff, Nat.reduceAdd, if_true, Int.reduceLT, Int.reduceNeg, Int.reducePow, Int.reduceToNat, Int.reduceLE, Nat.reduceLT, Int.reduceAdd, Int.reduceSub, Bool.not_true, Bool.not_false, Int.reduceEq, bne_self_eq_false, Bool.false_bne, Bool.true_bne, Int.reduceBNe, $xs,*] $[$l]?)
namespace PD
open PySem PySem.Spec PyProof.Rows L2
def F_pull : IF := runI 5 mPull
theorem lcL_map {g : MG} {t : M Bool} {e : M D} (f : D → D) {ε : Ev} {h : EH} : ∀ {ds : List D}, (∀ d ∈ ds, ∃ ε1, g d ε h = some (ε1, h) ∧ t ε1 h = some (.ok true, h) ∧ e ε1 h = some (.ok (f d), h)) → lcL g t e ds ε h = some (ds.map f, h)
  | [], _ => rfl
  | d :: ds, H => by
    obtain ⟨ε1, h1, h2, h3⟩ := H d List.mem_cons_self
    unfold lcL
    simp only [h1, h2, h3, lcL_map f fun x hx => H x (List.mem_cons_of_mem _ hx), List.map_cons]
theorem lcL_bag {g : MG} {e : M D} {ε : Ev} (P : D → Prop) : ∀ {ds : List D}, (∀ d ∈ ds, ∀ k t, BagI k → ∃ ε1 y k', g d ε (k :: t) = some (ε1, k :: t) ∧ e ε1 (k :: t) = some (.ok y, k' :: t) ∧ P y ∧ BagI k') →
    ∀ k t, BagI k → ∃ ys k', lcL g mYes e ds ε (k :: t) = some (ys, k' :: t) ∧ ys.length = ds.length ∧ (∀ y ∈ ys, P y) ∧ BagI k'
  | [], _, k, t, hk => ⟨[], k, rfl, rfl, (fun _ h => nomatch h), hk⟩
  | d :: ds, H, k, t, hk => by
    obtain ⟨ε1, y, k1, h1, h2, h3, h4⟩ := H d List.mem_cons_self k t hk
    obtain ⟨ys, k2, i1, i2, i3, i4⟩ := lcL_bag P (fun x hx => H x (List.mem_cons_of_mem _ hx)) k1 t h4
    refine ⟨y :: ys, k2, ?_, congrArg Nat.succ i2, fun z hz => ?_, i4⟩
    · unfold lcL
      simp only [h1, yes_ap, h2, i1]
    · rcases List.mem_cons.mp hz with e | e
      · rw [e]; exact h3
      · exact i3 z e
theorem asBs_map {α : Type} (f : α → Bool) : ∀ ds : List α, asBs (ds.map fun d => .bl (f d)) = some (ds.map f)
  | [] => rfl
  | d :: ds => by
    rw [List.map_cons]
    unfold asBs
    rw [asBs_map f ds]; rfl
theorem atI_in {α : Type} {ds : List α} {i : Int} (h0 : 0 ≤ i) (h1 : i < (ds.length : Int)) : ∃ x ∈ ds, atI ds i = some x := by
  have hj : i.toNat < ds.length := by omega
  exact ⟨ds[i.toNat], List.getElem_mem hj, by rw [atI_nat ds i.toNat i (by omega), List.getElem?_eq_getElem hj]⟩
def mAny : MS :=
    (msRet (mBin dIx (mVar 1) (mCallI F_pull (mCons (mVar 0) (mCons (mCall dLen (mCons (mVar 1) mNil)) mNil)))))
def F_any : IF := runI 2 mAny
theorem any_lst {k : Cell} (hk : BagI k) {ds : List D} (h0 : 0 < ds.length) (h1 : ds.length < 1073741824) (hr : ∀ d ∈ ds, noRef d = true) (t : EH) : ∃ d k', F_any [.ref 0, .lst ds] (k :: t) = some (.ok d, k' :: t) ∧ d ∈ ds ∧ BagI k' := by
  obtain ⟨i, k', e, i0, i1, hk'⟩ := pull_ok hk (n := (ds.length : Int)) (by omega) (by omega) t
  obtain ⟨d, hd, ed⟩ := atI_in i0 i1
  refine ⟨d, k', ?_, hd, hk'⟩
  show endI _ (mAny [some (.ref 0), some (.lst ds)] (k :: t)) = _
  have e' : F_pull [.ref 0, .int ds.length] (k :: t) = some (.ok (.int i), k' :: t) := e
  simp only [mAny, ↓seq_ap, ↓var_ap, ↓c_ap, ↓bin_ap, ↓tst_ap, ↓not_ap, ↓and_ap, ↓or_ap, ↓if_ap, ↓andv_ap, ↓orv_ap, ↓notv_ap, ↓nil_ap, ↓cons_ap, ↓tup_ap, ↓lst_ap, ↓call_ap, ↓callP_ap, ↓callI_ap, ↓perm_ap, ↓nop_ap, ↓smp_ap, ↓sl_ap, ↓chain_ap, ↓isi_ap, ↓lc_ap, ↓lstC_ap, ↓mts_ap, ↓yes_ap, ↓il_ap, ↓it_ap, ↓is_ap, ↓ir1_ap, ↓iz_ap, ↓snil_ap, ↓ret_ap, ↓sif_ap, ↓sexpr_ap, ↓bk_ap, ↓ct_ap, ↓asg_ap, ↓for_ap, ↓par_ap, ↓gname_ap, ↓gnil_ap, ↓gcons_ap, ↓gtup_ap, ↓gsub_ap, bR_ok, bR_ex, rt_some, sq_nx, sq_rt, sq_bk, sq_ct, sq_ex, bS_ok, bS_ex, binK1_ap, binK2_ap, tstK_b, notK_ap, andK_t, andK_f, orK_t, orK_f, ifK_t, ifK_f, andV_t, andV_f, orV_t, orV_f, notV_c, consK1_ap, consK2_ap, tupK_ok, lstK_ok, callK_ap, permK_ap, smP_int, slK1_ap, slK2_ap, slK3_ap, sl_lst, sl_scr, sl_tup, chK1_ap, chK2_ap, chK3_t, chK3_f, chK4_ap, isiK_int, isiK_str, isiK_bl, isiK_non, isiK_tup, isiK_lst, mtsK_str, mtsK2_ap, ilK_lst, ilK_scr, itK_tup, isK_str, izK_l, izK_t, retK_ap, sifK_t, sifK_f, sexprK_ap, asgK_ap, bG_ok, forK_ap, parK_ok, gK_ok, subK1_ok, subK2_ok, add_int, sub_int, mod_int, lt_int, le_int, gt_int, ge_int, eq_int, eq_str, eq_bl, eq_is, eq_si, eq_bs, eq_sb, eq_nn, ne_int, ne_str, ne_bl, isn_ap, isN_int, isN_str, isN_bl, isN_tup, isN_lst, isN_non, ix_lst, ix_tup, ix_scr, len_lst, len_tup, int_int, list_lst, list_tup, tuple_lst, tuple_tup, asB_bl, getD0, getDS, set0, setS, at0, atS, map_some', bind_some', List.length_cons, List.length_nil, List.any_cons, List.any_nil, e', ed]
  exact endI_ok rfl (hr d hd)
def mDraws : MS :=
    (msSeq (msAsg (mC (.int 5648)) (mgName 1))
    (msSeq (msFor (miL (mSl (mVar 0) mNoP (mSmP (mC (.int 63))))) (mgName 2) (msAsg (mBin dMod (mCall dInt (mCons (mBin dAdd (mBin dAdd (mBin dMul (mVar 1) (mC (.int 44021))) (mBin dMod (mCall dInt (mCons (mVar 2) mNil)) (mC (.int 2147483489)))) (mC (.int 53))) mNil)) (mC (.int 2147483549))) (mgName 1)))
    (msRet (mLstC (mCons (mCall dList (mCons (mSl (mVar 0) mNoP (mSmP (mC (.int 63)))) mNil)) (mCons (mC (.int 0)) (mCons (mC (.int 0)) (mCons (mVar 1) (mCons (mC (.int 0)) mNil)))))))))
def F_draws : IF := runA 3 mDraws
theorem draws_loop {x : D} : ∀ (ns : List Int) (s : Int) (o : Option D), 0 ≤ s → s < 2147483549 → ∃ s' o', forL (mgName 2) (msAsg (mBin dMod (mCall dInt (mCons (mBin dAdd (mBin dAdd (mBin dMul (mVar 1) (mC (.int 44021))) (mBin dMod (mCall dInt (mCons (mVar 2) mNil)) (mC (.int 2147483489)))) (mC (.int 53))) mNil)) (mC (.int 2147483549))) (mgName 1)) (ns.map .int) [some x, some (.int s), o] [] = some (.nx [some x, some (.int s'), o'], []) ∧ 0 ≤ s' ∧ s' < 2147483549
  | [], s, o, h0, h1 => ⟨s, o, rfl, h0, h1⟩
  | n :: ns, s, o, h0, h1 => by
    obtain ⟨s', o', e, r⟩ := draws_loop ns ((s * 44021 + n % 2147483489 + 53) % 2147483549) (some (.int n)) (Int.emod_nonneg _ (by decide)) (Int.emod_lt_of_pos _ (by decide))
    refine ⟨s', o', ?_, r⟩
    rw [List.map_cons]
    unfold forL
    simp? only [mul_rc]
    exact e
theorem cut63 {α : Type} {ns : List α} (h : ns.length ≤ 63) : cutD ns none (some 63) = ns := by
  unfold cutD
  have e1 : HT.sIx ns.length 0 none = 0 := rfl
  have e2 : HT.sIx ns.length ns.length (some 63) = ns.length := by
    show (if (63 : Int) < 0 then ((63 : Int) + (ns.length : Int)).toNat else min (63 : Int).toNat ns.length) = _
    rw [if_neg (by decide)]
    show min 63 ns.length = _
    omega
  rw [e1, e2]
  simp
theorem draws_ok {ns : List Int} (h : ns.length ≤ 63) : ∃ k, F_draws [.scr (ns.map .int)] [] = some (.ok (.ref 0), [k]) ∧ BagI k := by
  obtain ⟨s', o', e, r0, r1⟩ := draws_loop (x := .scr (ns.map .int)) ns 5648 none (by decide) (by decide)
  refine ⟨bagC (ns.map .int) 0 0 s' 0, ?_, ⟨_, _, _, _, _, rfl, h, by decide, by decide, r0, r1⟩⟩
  show endA _ (mDraws [some (.scr (ns.map .int)), none, none] []) = _
  have l : (ns.map D.int).length ≤ 63 := by simpa using h
  simp? only [mDraws, cut63 l, e, lstCK_ok]
  rfl
def mLike (F : PF) : MS :=
    (msSeq (msIf (mTst (mIsi [.lst, .tup] (mVar 1))) (msSeq (msAsg (mAndV (mBin dEq (mIsi [.lst] (mVar 0)) (mIsi [.lst] (mVar 1))) (mBin dEq (mIsi [.tup] (mVar 0)) (mIsi [.tup] (mVar 1)))) (mgName 2))
    (msRet (mAndV (mVar 2) (mAndV (mBin dEq (mCall dLen (mCons (mVar 0) mNil)) (mCall dLen (mCons (mVar 1) mNil))) (mCall dAll (mCons (mLc [3, 4] (miZip (mCons (mVar 0) (mCons (mVar 1) mNil))) (mgTup 2 (mgCons (mgName 3) (mgCons (mgName 4) mgNil))) mYes (mCallP F (mCons (mVar 3) (mCons (mVar 4) mNil)))) mNil)))))) msNil)
    (msSeq (msIf (mOr (mTst (mBin (dIsN false) (mVar 0) (mC .non))) (mOr (mTst (mBin (dIsN false) (mVar 1) (mC .non))) (mTst (mBin dNe (mIsi [.bool] (mVar 0)) (mIsi [.bool] (mVar 1)))))) (msRet (mAndV (mBin (dIsN false) (mVar 0) (mC .non)) (mBin (dIsN false) (mVar 1) (mC .non)))) msNil)
    (msRet (mAndV (mBin dEq (mIsi [.int] (mVar 0)) (mIsi [.int] (mVar 1))) (mAndV (mBin dEq (mIsi [.str] (mVar 0)) (mIsi [.str] (mVar 1))) (mBin dEq (mVar 0) (mVar 1)))))))
def F_like_ : Nat → PF
  | 0 => fun _ => none
  | t + 1 => runP 5 (mLike (F_like_ t))
/-- data of a depth -/
def okD : Nat → D → Bool
  | 0, _ => false
  | _ + 1, .non => true
  | _ + 1, .bl _ => true
  | _ + 1, .int _ => true
  | _ + 1, .str _ => true
  | t + 1, .tup ds => decide (ds.length ≤ 16777216) && ds.all (okD t)
  | t + 1, .lst ds => decide (ds.length ≤ 16777216) && ds.all (okD t)
  | _ + 1, _ => false
theorem noRef_all : ∀ {ds : List D}, (∀ d ∈ ds, noRef d = true) → noRef.go ds = true
  | [], _ => rfl
  | d :: ds, h => by
    rw [noRef.go, h d List.mem_cons_self, noRef_all fun x hx => h x (List.mem_cons_of_mem _ hx)]; rfl
theorem okD_noRef : ∀ {t : Nat} {d : D}, okD t d = true → noRef d = true
  | 0, _, e => by cases e
  | t + 1, .non, _ => rfl
  | t + 1, .bl _, _ => rfl
  | t + 1, .int _, _ => rfl
  | t + 1, .str _, _ => rfl
  | t + 1, .tup ds, e => by
    rw [noRef]
    exact noRef_all fun d hd => okD_noRef (t := t) (List.all_eq_true.mp (Bool.and_eq_true_iff.mp (show (decide (ds.length ≤ 16777216) && ds.all (okD t)) = true from e)).2 d hd)
  | t + 1, .lst ds, e => by
    rw [noRef]
    exact noRef_all fun d hd => okD_noRef (t := t) (List.all_eq_true.mp (Bool.and_eq_true_iff.mp (show (decide (ds.length ≤ 16777216) && ds.all (okD t)) = true from e)).2 d hd)
  | t + 1, .scr _, e => by cases e
  | t + 1, .dic _ _, e => by cases e
  | t + 1, .obj _ _, e => by cases e
  | t + 1, .ref _, e => by cases e
theorem okD_up : ∀ {t : Nat} {d : D}, okD t d = true → okD (t + 1) d = true
  | 0, _, e => by cases e
  | t + 1, .non, _ => rfl
  | t + 1, .bl _, _ => rfl
  | t + 1, .int _, _ => rfl
  | t + 1, .str _, _ => rfl
  | t + 1, .tup ds, e => by
    have e' := Bool.and_eq_true_iff.mp (show (decide (ds.length ≤ 16777216) && ds.all (okD t)) = true from e)
    exact Bool.and_eq_true_iff.mpr ⟨e'.1, List.all_eq_true.mpr fun d hd => okD_up (List.all_eq_true.mp e'.2 d hd)⟩
  | t + 1, .lst ds, e => by
    have e' := Bool.and_eq_true_iff.mp (show (decide (ds.length ≤ 16777216) && ds.all (okD t)) = true from e)
    exact Bool.and_eq_true_iff.mpr ⟨e'.1, List.all_eq_true.mpr fun d hd => okD_up (List.all_eq_true.mp e'.2 d hd)⟩
  | t + 1, .scr _, e => by cases e
  | t + 1, .dic _ _, e => by cases e
  | t + 1, .obj _ _, e => by cases e
  | t + 1, .ref _, e => by cases e
theorem okD_le {t u : Nat} {d : D} (h : okD t d = true) (l : t ≤ u) : okD u d = true := by
  induction l with
  | refl => exact h
  | step _ ih => exact okD_up ih
theorem zip_self : ∀ ds : List D, zipD ds ds = ds.map fun d => .tup [d, d]
  | [] => rfl
  | d :: ds => by
    have := zip_self ds
    unfold zipD at this ⊢
    rw [List.zip_cons_cons, List.map_cons, this, List.map_cons]
theorem like_lc {t : Nat} {ds : List D} {a b c : Option D} (hl : ds.length ≤ 16777216) (hd : ∀ d ∈ ds, noRef d = true) (ih : ∀ d ∈ ds, F_like_ t [d, d] = some (.ok (.bl true))) :
    lcL (mgTup 2 (mgCons (mgName 3) (mgCons (mgName 4) mgNil))) mYes (mCallP (F_like_ t) (mCons (mVar 3) (mCons (mVar 4) mNil))) (zipD ds ds) [a, b, c, none, none] [] = some (ds.map fun _ => .bl true, []) := by
  have := lcL_map (g := mgTup 2 (mgCons (mgName 3) (mgCons (mgName 4) mgNil))) (t := mYes) (e := mCallP (F_like_ t) (mCons (mVar 3) (mCons (mVar 4) mNil))) (fun _ => .bl true) (ε := [a, b, c, none, none]) (h := []) (ds := zipD ds ds) fun x hx => by
    rw [zip_self] at hx
    obtain ⟨d, hd1, rfl⟩ := List.mem_map.mp hx
    refine ⟨[a, b, c, some d, some d], rfl, rfl, ?_⟩
    have e2 : noRef.go [d, d] = true := by rw [noRef.go, noRef.go, hd d hd1]; rfl
    simp only [↓seq_ap, ↓var_ap, ↓c_ap, ↓bin_ap, ↓tst_ap, ↓not_ap, ↓and_ap, ↓or_ap, ↓if_ap, ↓andv_ap, ↓orv_ap, ↓notv_ap, ↓nil_ap, ↓cons_ap, ↓tup_ap, ↓lst_ap, ↓call_ap, ↓callP_ap, ↓callI_ap, ↓perm_ap, ↓nop_ap, ↓smp_ap, ↓sl_ap, ↓chain_ap, ↓isi_ap, ↓lc_ap, ↓lstC_ap, ↓mts_ap, ↓yes_ap, ↓il_ap, ↓it_ap, ↓is_ap, ↓ir1_ap, ↓iz_ap, ↓snil_ap, ↓ret_ap, ↓sif_ap, ↓sexpr_ap, ↓bk_ap, ↓ct_ap, ↓asg_ap, ↓for_ap, ↓par_ap, ↓gname_ap, ↓gnil_ap, ↓gcons_ap, ↓gtup_ap, ↓gsub_ap, bR_ok, bR_ex, rt_some, sq_nx, sq_rt, sq_bk, sq_ct, sq_ex, bS_ok, bS_ex, binK1_ap, binK2_ap, tstK_b, notK_ap, andK_t, andK_f, orK_t, orK_f, ifK_t, ifK_f, andV_t, andV_f, orV_t, orV_f, notV_c, consK1_ap, consK2_ap, tupK_ok, lstK_ok, callK_ap, permK_ap, smP_int, slK1_ap, slK2_ap, slK3_ap, sl_lst, sl_scr, sl_tup, chK1_ap, chK2_ap, chK3_t, chK3_f, chK4_ap, isiK_int, isiK_str, isiK_bl, isiK_non, isiK_tup, isiK_lst, mtsK_str, mtsK2_ap, ilK_lst, ilK_scr, itK_tup, isK_str, izK_l, izK_t, retK_ap, sifK_t, sifK_f, sexprK_ap, asgK_ap, bG_ok, forK_ap, parK_ok, gK_ok, subK1_ok, subK2_ok, add_int, sub_int, mod_int, lt_int, le_int, gt_int, ge_int, eq_int, eq_str, eq_bl, eq_is, eq_si, eq_bs, eq_sb, eq_nn, ne_int, ne_str, ne_bl, isn_ap, isN_int, isN_str, isN_bl, isN_tup, isN_lst, isN_non, ix_lst, ix_tup, ix_scr, len_lst, len_tup, int_int, list_lst, list_tup, tuple_lst, tuple_tup, asB_bl, getD0, getDS, set0, setS, at0, atS, map_some', bind_some', List.length_cons, List.length_nil, List.any_cons, List.any_nil, callPK_ok (ih d hd1) e2]
  rw [this, zip_self, List.map_map]
  rfl
theorem like_refl : ∀ {t : Nat} {d : D}, okD t d = true → F_like_ t [d, d] = some (.ok (.bl true))
  | 0, _, e => by cases e
  | t + 1, .non, _ => by
    show endP (mLike (F_like_ t) [some .non, some .non, none, none, none] []) = _
    simp? only [mLike, isa, Bool.or_false, Bool.or_true, Bool.and_true, Bool.and_false, Bool.or_self]
    exact endP_ok rfl
  | t + 1, .bl b, _ => by
    show endP (mLike (F_like_ t) [some (.bl b), some (.bl b), none, none, none] []) = _
    simp? only [mLike, isa, Bool.or_false, Bool.or_true, Bool.and_true, Bool.and_false, Bool.or_self]
    exact endP_ok rfl
  | t + 1, .int i, _ => by
    show endP (mLike (F_like_ t) [some (.int i), some (.int i), none, none, none] []) = _
    simp? only [mLike, isa, Bool.or_false, Bool.or_true, Bool.and_true, Bool.and_false, Bool.or_self]
    exact endP_ok rfl
  | t + 1, .str z, _ => by
    show endP (mLike (F_like_ t) [some (.str z), some (.str z), none, none, none] []) = _
    simp? only [mLike, isa, Bool.or_false, Bool.or_true, Bool.and_true, Bool.and_false, Bool.or_self]
    exact endP_ok rfl
  | t + 1, .tup ds, e => by
    obtain ⟨e1, e2⟩ := Bool.and_eq_true_iff.mp (show (decide (ds.length ≤ 16777216) && ds.all (okD t)) = true from e)
    have hl : ds.length ≤ 16777216 := of_decide_eq_true e1
    have hA := List.all_eq_true.mp e2
    have lc := like_lc (t := t) (a := some (.tup ds)) (b := some (.tup ds)) (c := some (.bl true)) hl (fun d hd => okD_noRef (hA d hd)) fun d hd => like_refl (hA d hd)
    have lk := lcK_ok (vs := [3, 4]) (ε := [some (.tup ds), some (.tup ds), some (.bl true), none, none]) (h := []) lc (by simpa using hl)
    show endP (mLike (F_like_ t) [some (.tup ds), some (.tup ds), none, none, none] []) = _
    simp? only [mLike, isa, Bool.or_false, Bool.or_true, Bool.and_true, Bool.and_false, Bool.or_self, lk, all_lst (asBs_map (fun _ => true) ds)]
    rw [show (ds.map fun _ => true).all id = true by simp]
    exact endP_ok rfl
  | t + 1, .lst ds, e => by
    obtain ⟨e1, e2⟩ := Bool.and_eq_true_iff.mp (show (decide (ds.length ≤ 16777216) && ds.all (okD t)) = true from e)
    have hl : ds.length ≤ 16777216 := of_decide_eq_true e1
    have hA := List.all_eq_true.mp e2
    have lc := like_lc (t := t) (a := some (.lst ds)) (b := some (.lst ds)) (c := some (.bl true)) hl (fun d hd => okD_noRef (hA d hd)) fun d hd => like_refl (hA d hd)
    have lk := lcK_ok (vs := [3, 4]) (ε := [some (.lst ds), some (.lst ds), some (.bl true), none, none]) (h := []) lc (by simpa using hl)
    show endP (mLike (F_like_ t) [some (.lst ds), some (.lst ds), none, none, none] []) = _
    simp? only [mLike, isa, Bool.or_false, Bool.or_true, Bool.and_true, Bool.and_false, Bool.or_self, lk, all_lst (asBs_map (fun _ => true) ds)]
    rw [show (ds.map fun _ => true).all id = true by simp]
    exact endP_ok rfl
  | t + 1, .scr _, e => by cases e
  | t + 1, .dic _ _, e => by cases e
  | t + 1, .obj _ _, e => by cases e
  | t + 1, .ref _, e => by cases e
end PD
namespace PD
open PySem PySem.Spec PyProof.Rows L2
def abc : List Nat := [97, 98, 99, 100, 101, 102, 103, 104, 105, 106, 107, 108, 109, 110, 111, 112, 113, 114, 115, 116, 117, 118, 119, 120, 121, 122]
def resv : List (List Nat) := [[97, 110, 100], [102, 111, 117, 110, 100], [107, 101, 121], [110, 101, 120, 116], [110, 111, 116], [111, 114], [111, 119, 110], [115, 101, 116], [116, 114, 117, 101], [119, 104, 101, 114, 101]]
def isNm (z : List Nat) : Bool := decide (1 ≤ z.length) && (decide (z.length ≤ 6) && (!decide (z ∈ resv) && z.all fun c => decide (c ∈ abc)))
def isCol (z : List Nat) : Bool := decide (z = [107, 101, 121]) || isNm z
theorem in_strs {h : EH} {z : List Nat} (ws : List (List Nat)) : dInA h (.str z) (.tup (ws.map .str)) = some (.bl (decide (z ∈ ws))) := by
  show (dInS false h (.str z) (.tup (ws.map .str))).or (dIn false h (.str z) (.tup (ws.map .str))) = _
  have e1 : dInS false h (.str z) (.tup (ws.map .str)) = none := rfl
  have e2 : (ws.map D.str).all flatD = true := by
    rw [List.all_eq_true]
    intro d hd
    obtain ⟨w, _, rfl⟩ := List.mem_map.mp hd
    rfl
  have e3 : dIn false h (.str z) (.tup (ws.map .str)) = some (.bl (false != (ws.map D.str).any fun y => eqF y (.str z))) := if_pos ⟨rfl, e2⟩
  rw [e1, e3]
  show some (D.bl (false != (ws.map D.str).any fun y => eqF y (.str z))) = _
  congr 2
  rw [Bool.eq_iff_iff]
  simp only [Bool.false_bne, List.any_eq_true, List.mem_map, decide_eq_true_eq]
  constructor
  · rintro ⟨d, ⟨w, hw, rfl⟩, e⟩
    have : w = z := by simpa [eqF] using e
    exact this ▸ hw
  · intro hz
    exact ⟨.str z, ⟨z, hz, rfl⟩, by simp [eqF]⟩
theorem in_strsL {h : EH} {z : List Nat} (ws : List (List Nat)) : dInA h (.str z) (.lst (ws.map .str)) = some (.bl (decide (z ∈ ws))) := by
  show (dInS false h (.str z) (.lst (ws.map .str))).or (dIn false h (.str z) (.lst (ws.map .str))) = _
  have e1 : dInS false h (.str z) (.lst (ws.map .str)) = none := rfl
  have e2 : (ws.map D.str).all flatD = true := by
    rw [List.all_eq_true]
    intro d hd
    obtain ⟨w, _, rfl⟩ := List.mem_map.mp hd
    rfl
  have e3 : dIn false h (.str z) (.lst (ws.map .str)) = some (.bl (false != (ws.map D.str).any fun y => eqF y (.str z))) := if_pos ⟨rfl, e2⟩
  rw [e1, e3]
  show some (D.bl (false != (ws.map D.str).any fun y => eqF y (.str z))) = _
  congr 2
  rw [Bool.eq_iff_iff]
  simp only [Bool.false_bne, List.any_eq_true, List.mem_map, decide_eq_true_eq]
  constructor
  · rintro ⟨d, ⟨w, hw, rfl⟩, e⟩
    have : w = z := by simpa [eqF] using e
    exact this ▸ hw
  · intro hz
    exact ⟨.str z, ⟨z, hz, rfl⟩, by simp [eqF]⟩
def isCon (i : Int) : Bool := decide (0 - 1000000000000000000000000000000 ≤ i) && decide (i ≤ 1000000000000000000000000000000)
def sField : List Nat := [102, 105, 101, 108, 100]
def sNumber : List Nat := [110, 117, 109, 98, 101, 114]
def sName : List Nat := [110, 97, 109, 101]
def sOwn : List Nat := [111, 119, 110]
def sNext : List Nat := [110, 101, 120, 116]
def sPlus : List Nat := [112, 108, 117, 115]
inductive Pl where
  | num (n : Int) | name (z : List Nat) | field (z y : List Nat) | own (y : List Nat) | next (y : List Nat)
  deriving DecidableEq
def Pl.d : Pl → D
  | .num n => .tup [.str sNumber, .int n]
  | .name z => .tup [.str sName, .str z]
  | .field z y => .tup [.str sField, .str z, .str y]
  | .own y => .tup [.str sOwn, .str y]
  | .next y => .tup [.str sNext, .str y]
def Pl.ok : Pl → Bool
  | .num n => isCon n
  | .name z => isNm z
  | .field z y => isNm z && isCol y
  | .own y => isCol y
  | .next y => isCol y
inductive Vl where
  | pl (p : Pl) | plus (p : Pl) (m : Int)
  deriving DecidableEq
def Vl.d : Vl → D
  | .pl p => p.d
  | .plus p m => .tup [.str sPlus, p.d, .int m]
def Vl.ok : Vl → Bool
  | .pl p => p.ok
  | .plus p m => p.ok && isCon m
end PD
namespace PD
open PySem PySem.Spec PyProof.Rows L2
theorem asTs_map : ∀ zs : List (List Nat), asTs (zs.map .str) = some zs
  | [] => rfl
  | z :: zs => by
    rw [List.map_cons]
    unfold asTs
    rw [asTs_map zs]; rfl
def abcAt (n : Nat) : Nat := abc.getD (n % 26) 0
def row (stem : List Nat) (a f k : Nat) : List Nat := stem.take a ++ [abcAt (f + k)] ++ stem.drop a
end PD
namespace PD
open PySem PySem.Spec PyProof.Rows L2
end PD
namespace PD
open PySem PySem.Spec PyProof.Rows L2
section
variable {ε : Ev} {h : EH}
def fldK (Cs : List Str) (f : Str) (x : D) (h1 : EH) : O D := rt (dFld Cs f h1 x) h1
theorem fld_ap (Cs : List Str) (f : Str) (a : M D) : mFld Cs f a ε h = bR (a ε h) (fldK Cs f) := (rfl)
theorem fldK_ap (Cs : List Str) (f : Str) (x : D) : fldK Cs f x h = rt (dFld Cs f h x) h := (rfl)
def meiK2 (F : IF) (x : D) (ds : List D) (h2 : EH) : O D := F (x :: ds) h2
def meiK (C m : Str) (F : IF) (a : M (List D)) (ε : Ev) (x : D) (h1 : EH) : O D := match insD h1 x with
  | some (C', fs) => if C' = C ∧ fs.lookup m = none then bR (a ε h1) (meiK2 F x) else none
  | none => none
theorem mei_ap (C m : Str) (F : IF) (o : M D) (a : M (List D)) : mMeI C m F o a ε h = bR (o ε h) (meiK C m F a ε) := (rfl)
theorem meiK2_ap (F : IF) (x : D) (ds : List D) : meiK2 F x ds h = F (x :: ds) h := (rfl)
def faugK2 (Cs : List Str) (f : Str) (x z : D) (h1 : EH) (ε : Ev) (y : D) (h2 : EH) : Option (RS × EH) := match addI z y with
    | some w => if (insD h1 x).map (·.1) = (insD h2 x).map (·.1) then (putO Cs f h2 x w).map fun h3 => (.nx ε, h3) else none
    | none => none
def faugK (Cs : List Str) (f : Str) (v : M D) (ε : Ev) (x : D) (h1 : EH) : Option (RS × EH) := match dFld Cs f h1 x with
  | some z => bS (v ε h1) ε (faugK2 Cs f x z h1 ε)
  | none => none
theorem faug_ap (Cs : List Str) (f : Str) (o v : M D) : msFAug Cs f o v ε h = bS (o ε h) ε (faugK Cs f v ε) := (rfl)
def sfldK2 (Cs : List Str) (f : Str) (ε : Ev) (y x : D) (h2 : EH) : Option (RS × EH) := (putO Cs f h2 x y).map fun h3 => (.nx ε, h3)
def sfldK (Cs : List Str) (f : Str) (o : M D) (ε : Ev) (y : D) (h1 : EH) : Option (RS × EH) := bS (o ε h1) ε (sfldK2 Cs f ε y)
theorem sfld_ap (Cs : List Str) (f : Str) (o v : M D) : msFld Cs f o v ε h = bS (v ε h) ε (sfldK Cs f o ε) := (rfl)
theorem sfldK_ap (Cs : List Str) (f : Str) (o : M D) (y : D) : sfldK Cs f o ε y h = bS (o ε h) ε (sfldK2 Cs f ε y) := (rfl)
theorem sfldK2_ap (Cs : List Str) (f : Str) (y x : D) : sfldK2 Cs f ε y x h = (putO Cs f h x y).map fun h3 => (.nx ε, h3) := (rfl)
def c1K (f : D → Option D) (x : D) (h1 : EH) : O D := rt (f x) h1
theorem c1_ap (f : D → Option D) (a : M D) : mC1 f a ε h = bR (a ε h) (c1K f) := (rfl)
theorem c1K_ap (f : D → Option D) (x : D) : c1K f x h = rt (f x) h := (rfl)
def ir2K (xs : List D) (h1 : EH) : O (List D) := match xs with
  | [.int i, .int j] => if -(2 ^ 62) ≤ i ∧ i < 2 ^ 62 ∧ -(2 ^ 62) ≤ j ∧ j < 2 ^ 62 then some (.ok (rngD i (j - i).toNat), h1) else none
  | _ => none
theorem ir2_ap (a : M (List D)) : miR2 a ε h = bR (a ε h) ir2K := (rfl)
theorem forL_nx {g : MG} {b : MS} {d : D} {ds : List D} {ε1 ε2 : Ev} {h1 h2 : EH} (e1 : g d ε h = some (ε1, h1)) (e2 : b ε1 h1 = some (.nx ε2, h2)) : forL g b (d :: ds) ε h = forL g b ds ε2 h2 := by
  show (match g d ε h with
    | none => none
    | some (ε1, h1) => match b ε1 h1 with
      | some (.nx ε2, h2) => forL g b ds ε2 h2
      | some (.ct ε2, h2) => forL g b ds ε2 h2
      | some (.bk ε2, h2) => some (.nx ε2, h2)
      | some (.rt d, h2) => some (.rt d, h2)
      | some (.ex e ε2, h2) => some (.ex e ε2, h2)
      | none => none) = _
  rw [e1]
  dsimp only
  rw [e2]
end
end PD
namespace PD
open PySem PySem.Spec PyProof.Rows L2
end PD
namespace PD
open PySem PySem.Spec PyProof.Rows L2
theorem toS_inj {a b : List Nat} (h : toS a = toS b) : a = b := by
  have : (toS a).cps.toList = (toS b).cps.toList := by rw [h]
  simpa [toS] using this
theorem forL_ct {g : MG} {b : MS} {d : D} {ds : List D} {ε ε1 ε2 : Ev} {h h1 h2 : EH} (e1 : g d ε h = some (ε1, h1)) (e2 : b ε1 h1 = some (.ct ε2, h2)) : forL g b (d :: ds) ε h = forL g b ds ε2 h2 := by
  show (match g d ε h with
    | none => none
    | some (ε1, h1) => match b ε1 h1 with
      | some (.nx ε2, h2) => forL g b ds ε2 h2
      | some (.ct ε2, h2) => forL g b ds ε2 h2
      | some (.bk ε2, h2) => some (.nx ε2, h2)
      | some (.rt d, h2) => some (.rt d, h2)
      | some (.ex e ε2, h2) => some (.ex e ε2, h2)
      | none => none) = _
  rw [e1]
  dsimp only
  rw [e2]
end PD
namespace PD
open PySem PySem.Spec PyProof.Rows L2
section
variable {ε : Ev} {h : EH}
def iaK (x : D) (h1 : EH) : O (List D) := match x with
  | .lst ds => some (.ok ds, h1)
  | .scr ds => some (.ok ds, h1)
  | .tup ds => some (.ok ds, h1)
  | _ => none
theorem ia_ap (a : M D) : miA a ε h = bR (a ε h) iaK := by
  unfold miA miL miT
  cases a ε h with
  | none => rfl
  | some z =>
    obtain ⟨r, h1⟩ := z
    cases r with
    | ex e => rfl
    | ok x => cases x <;> rfl
theorem iaK_lst (ds : List D) : iaK (.lst ds) h = some (.ok ds, h) := (rfl)
theorem iaK_tup (ds : List D) : iaK (.tup ds) h = some (.ok ds, h) := (rfl)
def ienK (xs : List D) (h1 : EH) : O (List D) := match xs with
  | [x] => (match x with
    | .lst as => some (.ok (enumD as), h1)
    | .tup as => some (.ok (enumD as), h1)
    | .scr as => some (.ok (enumD as), h1)
    | _ => none)
  | _ => none
theorem ien_ap (a : M (List D)) : miEn a ε h = bR (a ε h) ienK := (rfl)
theorem ienK_lst (ds : List D) : ienK [.lst ds] h = some (.ok (enumD ds), h) := (rfl)
theorem ienK_tup (ds : List D) : ienK [.tup ds] h = some (.ok (enumD ds), h) := (rfl)
def sortK (x : D) (h1 : EH) : O D := rt ((txD h1 x).map fun zs => .lst ((srtU zs).map .str)) h1
def lenTK (x : D) (h1 : EH) : O D := rt ((txD h1 x).map fun zs => .int (srtU zs).length) h1
theorem sort_ap (a : M D) : mSortT a ε h = bR (a ε h) sortK := (rfl)
theorem lenT_ap (a : M D) : mLenT a ε h = bR (a ε h) lenTK := (rfl)
def cgetK2 (kvs : List (List Nat × D)) (k : List Nat) (z : D) (h2 : EH) : O D := some (.ok ((lkS k kvs).getD z), h2)
def cgetK (kvs : List (List Nat × D)) (b : M D) (ε : Ev) (y : D) (h1 : EH) : O D := match y with
  | .str k => bR (b ε h1) (cgetK2 kvs k)
  | _ => none
theorem cget_ap (kvs : List (List Nat × D)) (a b : M D) : mCGet kvs a b ε h = bR (a ε h) (cgetK kvs b ε) := (rfl)
theorem cgetK_str (kvs : List (List Nat × D)) (b : M D) (k : List Nat) : cgetK kvs b ε (.str k) h = bR (b ε h) (cgetK2 kvs k) := (rfl)
theorem cgetK2_ap (kvs : List (List Nat × D)) (k : List Nat) (z : D) : cgetK2 kvs k z h = some (.ok ((lkS k kvs).getD z), h) := (rfl)
def apK2 (x y : D) (h2 : EH) : O D := (apD h2 x y).map fun h3 => (.ok .non, h3)
def apK (e : M D) (ε : Ev) (x : D) (h1 : EH) : O D := if isLc h1 x = true then bR (e ε h1) (apK2 x) else none
theorem append_ap (o e : M D) : mAppend o e ε h = bR (o ε h) (apK e ε) := (rfl)
theorem apK2_ap (x y : D) : apK2 x y h = (apD h x y).map fun h3 => (.ok .non, h3) := (rfl)
def app2K2 (xs ys : List D) (h2 : EH) : O (List D) := some (.ok (xs ++ ys), h2)
def app2K (b : M (List D)) (ε : Ev) (xs : List D) (h1 : EH) : O (List D) := bR (b ε h1) (app2K2 xs)
theorem app2_ap (a b : M (List D)) : mApp2 a b ε h = bR (a ε h) (app2K b ε) := (rfl)
theorem app2K_ap (b : M (List D)) (xs : List D) : app2K b ε xs h = bR (b ε h) (app2K2 xs) := (rfl)
theorem app2K2_ap (xs ys : List D) : app2K2 xs ys h = some (.ok (xs ++ ys), h) := (rfl)
def par3K (i j l : Nat) (ε : Ev) (ds : List D) (h1 : EH) : Option (RS × EH) := match ds with
  | [d, e, f] => some (.nx (((ε.set i (some d)).set j (some e)).set l (some f)), h1)
  | _ => none
theorem par3_ap (i j l : Nat) (m : M (List D)) : msPar3 i j l m ε h = bS (m ε h) ε (par3K i j l ε) := (rfl)
theorem par3K_ok (i j l : Nat) (d e f : D) : par3K i j l ε [d, e, f] h = some (.nx (((ε.set i (some d)).set j (some e)).set l (some f)), h) := (rfl)
def lc2K (vs : List Nat) (g : MG) (t : M Bool) (mi1 : M (List D)) (g1 : MG) (t1 : M Bool) (e : M D) (vs1 : List Nat) (ε : Ev) (ds : List D) (h1 : EH) : O D := okL (lcL2 g t mi1 g1 t1 e vs1 ds (wipeE ε vs) h1)
theorem lc2_ap (vs : List Nat) (mi : M (List D)) (g : MG) (t : M Bool) (mi1 : M (List D)) (g1 : MG) (t1 : M Bool) (e : M D) (vs1 : List Nat) : mLc2 vs mi g t mi1 g1 t1 e vs1 ε h = bR (mi ε h) (lc2K vs g t mi1 g1 t1 e vs1 ε) := (rfl)
theorem lc2K_ok {vs : List Nat} {g : MG} {t : M Bool} {mi1 : M (List D)} {g1 : MG} {t1 : M Bool} {e : M D} {vs1 : List Nat} {ds ys : List D} {h' : EH} (q : lcL2 g t mi1 g1 t1 e vs1 ds (wipeE ε vs) h = some (ys, h')) (l : ys.length ≤ 16777216) :
    lc2K vs g t mi1 g1 t1 e vs1 ε ds h = some (.ok (.lst ys), h') := by
  unfold lc2K
  rw [q]
  exact if_pos l
/-- each turn of the outer for gives its own list, and leaves the cells -/
theorem lcL2_flat {g : MG} {t : M Bool} {mi1 : M (List D)} {g1 : MG} {t1 : M Bool} {e : M D} {vs1 : List Nat} (f : D → List D) : ∀ {ds : List D}, (∀ d ∈ ds, ∃ ε1, g d ε h = some (ε1, h) ∧
      ((t ε1 h = some (.ok false, h) ∧ f d = []) ∨ ∃ ds1, t ε1 h = some (.ok true, h) ∧ mi1 ε1 h = some (.ok ds1, h) ∧ lcL g1 t1 e ds1 (wipeE ε1 vs1) h = some (f d, h))) → lcL2 g t mi1 g1 t1 e vs1 ds ε h = some (ds.flatMap f, h)
  | [], _ => rfl
  | d :: ds, H => by
    obtain ⟨ε1, h1, h2⟩ := H d List.mem_cons_self
    have ih := lcL2_flat (ds := ds) f fun x hx => H x (List.mem_cons_of_mem _ hx)
    unfold lcL2
    rcases h2 with ⟨h2, h3⟩ | ⟨ds1, h2, h3, h4⟩
    · simp only [h1, h2, ih, List.flatMap_cons, h3, List.nil_append]
    · simp only [h1, h2, h3, h4, ih, List.flatMap_cons]
def prpK (C : Str) (F : PF) (x : D) (h1 : EH) : O D := match insD h1 x with
  | some (C', _) => if C' = C ∧ noRef.go [x] = true then (match F [x] with
    | some (.ok d) => some (.ok d, h1)
    | _ => none) else none
  | none => none
theorem prp_ap (C : Str) (F : PF) (o : M D) : mPrp C F o ε h = bR (o ε h) (prpK C F) := (rfl)
theorem prpK_ok {C : Str} {F : PF} {fs : List (Str × D)} {d : D} (n : noRef (.obj C fs) = true) (e : F [.obj C fs] = some (.ok d)) : prpK C F (.obj C fs) h = some (.ok d, h) := by
  unfold prpK
  rw [show insD h (.obj C fs) = some (C, fs) from rfl]
  dsimp only
  rw [if_pos ⟨rfl, by rw [noRef.go, n]; rfl⟩, e]
def mepK2 (F : PF) (x : D) (ds : List D) (h2 : EH) : O D := if noRef.go (x :: ds) = true then (F (x :: ds)).map fun r => (r, h2) else none
def mepK (C m : Str) (F : PF) (a : M (List D)) (ε : Ev) (x : D) (h1 : EH) : O D := match insD h1 x with
  | some (C', fs) => if C' = C ∧ fs.lookup m = none then bR (a ε h1) (mepK2 F x) else none
  | none => none
theorem mep_ap (C m : Str) (F : PF) (o : M D) (a : M (List D)) : mMeP C m F o a ε h = bR (o ε h) (mepK C m F a ε) := (rfl)
theorem mepK_ok {C m : Str} {F : PF} {a : M (List D)} {fs : List (Str × D)} (l : fs.lookup m = none) : mepK C m F a ε (.obj C fs) h = bR (a ε h) (mepK2 F (.obj C fs)) := by
  unfold mepK
  rw [show insD h (.obj C fs) = some (C, fs) from rfl]
  exact if_pos ⟨rfl, l⟩
theorem mepK2_ok {F : PF} {x : D} {ds : List D} {r : R D} (n : noRef.go (x :: ds) = true) (e : F (x :: ds) = some r) : mepK2 F x ds h = some (r, h) := by
  unfold mepK2
  rw [if_pos n, e]; rfl
def mkpK (C : Str) (dd : List D) (F : IF) (ds : List D) (h1 : EH) : O D := match F (.ref h1.length :: (ds ++ dd)) (h1 ++ [.obj C []]) with
  | some (.ok .non, h2) => (match frzI h1.length h2 (.ref h1.length), trim h1.length h2 with
    | some d, some h3 => some (.ok d, h3)
    | _, _ => none)
  | some (.ex e, h2) => if noRef.gf e.fs = true then (trim h1.length h2).map fun h3 => (.ex e, h3) else none
  | _ => none
theorem mkp_ap (C : Str) (dd : List D) (F : IF) (a : M (List D)) : mMkP C dd F a ε h = bR (a ε h) (mkpK C dd F) := (rfl)
theorem mkpK_ok {C : Str} {F : IF} {ds : List D} {fs : List (Str × D)} (hp : h.all pureC = true) (hf : noRef.gf fs = true) (e : F (.ref h.length :: (ds ++ [])) (h ++ [.obj C []]) = some (.ok .non, h ++ [.obj C fs])) : mkpK C [] F ds h = some (.ok (.obj C fs), h) := by
  have tr : trim h.length (h ++ [.obj C fs]) = some h := by
    unfold trim
    rw [if_neg (by simp), List.take_left, if_pos hp]
  have fr : frzI h.length (h ++ [.obj C fs]) (.ref h.length) = some (.obj C fs) := by
    show frz1I h.length (h ++ [.obj C fs]) (.ref h.length) = _
    unfold frz1I
    dsimp only
    rw [if_neg (Nat.lt_irrefl _), List.getElem?_append_right (Nat.le_refl _), Nat.sub_self]
    exact if_pos hf
  unfold mkpK
  rw [e]
  dsimp only
  rw [fr, tr]
theorem max2_ap (i j : Int) : dMax2 h [.int i, .int j] = some (.int (if j > i then j else i)) := (rfl)
def augK (i : Nat) (x : D) (ε : Ev) (y : D) (h1 : EH) : Option (RS × EH) := (addI x y).map fun z => (.nx (ε.set i (some z)), h1)
theorem augK_int {i : Nat} {a b : Int} : augK i (.int a) ε (.int b) h = some (.nx (ε.set i (some (.int (a + b)))), h) := (rfl)
def negK (x : D) (h1 : EH) : O D := match x with
  | .int i => some (.ok (.int (-i)), h1)
  | _ => none
theorem neg_ap (a : M D) : mNeg a ε h = bR (a ε h) negK := (rfl)
theorem negK_int (i : Int) : negK (.int i) h = some (.ok (.int (-i)), h) := (rfl)
end
end PD
namespace PD
open PySem PySem.Spec PyProof.Rows L2
section
variable {ε : Ev} {h : EH}
theorem lpB_flat {α : Type} {g : MG} {t : M Bool} {b : MB} (q : α → D) (f : α → List D) : ∀ {xs : List α}, (∀ x ∈ xs, ∃ ε1, g (q x) ε h = some (ε1, h) ∧ t ε1 h = some (.ok true, h) ∧ b ε1 h = some (f x, h)) → lpB g t b ε (xs.map q) h = some (xs.flatMap f, h)
  | [], _ => rfl
  | x :: xs, H => by
    obtain ⟨ε1, h1, h2, h3⟩ := H x List.mem_cons_self
    have ih := lpB_flat (xs := xs) q f fun y hy => H y (List.mem_cons_of_mem _ hy)
    rw [List.map_cons]
    unfold lpB
    simp only [h1, h2, h3, ih, List.flatMap_cons]
theorem mbFor_ok {mi : M (List D)} {g : MG} {t : M Bool} {vs : List Nat} {b : MB} {ds ys : List D} (e : mi ε h = some (.ok ds, h)) (q : lpB g t b (wipeE ε vs) ds h = some (ys, h)) : mbFor mi g t vs b ε h = some (ys, h) := by
  unfold mbFor
  rw [e]
  exact q
theorem forL_bagT {g : MG} {b : MS} {n : Nat} {x : D} (body : ∀ (d : D) (k : Cell) (t : EH) (r : Ev), BagI k → t.all pureC = true → r.length = n → ∃ (ε1 r' : Ev) (k' : Cell) (t' : EH), g d (some x :: some (.ref 0) :: r) (k :: t) = some (ε1, k :: t) ∧
    (b ε1 (k :: t) = some (.nx (some x :: some (.ref 0) :: r'), k' :: t') ∨ b ε1 (k :: t) = some (.ct (some x :: some (.ref 0) :: r'), k' :: t')) ∧ r'.length = n ∧ BagI k' ∧ t'.all pureC = true) : ∀ (ds : List D) (k : Cell) (t : EH) (r : Ev), BagI k → t.all pureC = true → r.length = n →
    ∃ (r' : Ev) (k' : Cell) (t' : EH), forL g b ds (some x :: some (.ref 0) :: r) (k :: t) = some (.nx (some x :: some (.ref 0) :: r'), k' :: t') ∧ r'.length = n ∧ BagI k' ∧ t'.all pureC = true
  | [], k, t, r, hk, ht, hr => ⟨r, k, t, rfl, hr, hk, ht⟩
  | d :: ds, k, t, r, hk, ht, hr => by
    obtain ⟨ε1, r1, k1, t1, e1, e2, l1, hk1, ht1⟩ := body d k t r hk ht hr
    obtain ⟨r2, k2, t2, e3, l2, hk2, ht2⟩ := forL_bagT body ds k1 t1 r1 hk1 ht1 l1
    refine ⟨r2, k2, t2, ?_, l2, hk2, ht2⟩
    rcases e2 with e2 | e2
    · rw [forL_nx e1 e2, e3]
    · rw [forL_ct e1 e2, e3]
end
end PD
namespace SY
variable {α : Type} [DecidableEq α] {C : List (α × α × Int)} {i j k m : α} {w w1 w2 a b : Int}
inductive Wk (C : List (α × α × Int)) : α → α → Int → Prop
  | nil (i : α) : Wk C i i 0
  | step {i k j : α} {c w : Int} : (i, k, c) ∈ C → Wk C k j w → Wk C i j (c + w)
theorem Wk.cat (h : Wk C i k a) (g : Wk C k j b) : Wk C i j (a + b) := by
  induction h with
  | nil i => rw [Int.zero_add]; exact g
  | step h _ ih => rw [Int.add_assoc]; exact .step h (ih g)
theorem Wk.one (h : (i, j, a) ∈ C) : Wk C i j a := by
  have := Wk.step h (.nil j)
  rw [Int.add_zero] at this
  exact this
theorem Wk.sub {C' : List (α × α × Int)} (hs : ∀ x ∈ C, x ∈ C') (h : Wk C i j a) : Wk C' i j a := by
  induction h with
  | nil i => exact .nil i
  | step h _ ih => exact .step (hs _ h) ih
def NoNeg (C : List (α × α × Int)) : Prop := ∀ i w, Wk C i i w → 0 ≤ w
theorem NoNeg.congr {C' : List (α × α × Int)} (h : ∀ x, x ∈ C ↔ x ∈ C') : NoNeg C ↔ NoNeg C' :=
  ⟨fun n i w k => n i w (k.sub fun x hx => (h x).mpr hx), fun n i w k => n i w (k.sub fun x hx => (h x).mp hx)⟩
/-- a walk whose inner places are all in S -/
inductive Wi (C : List (α × α × Int)) (S : List α) : α → α → Int → Prop
  | nil (i : α) : Wi C S i i 0
  | edge {i j : α} {c : Int} : (i, j, c) ∈ C → Wi C S i j c
  | cat {i m j : α} {w1 w2 : Int} : Wi C S i m w1 → Wi C S m j w2 → m ∈ S → Wi C S i j (w1 + w2)
theorem Wk.wi {S : List α} (hS : ∀ i j c, (i, j, c) ∈ C → i ∈ S ∧ j ∈ S) (h : Wk C i j w) : Wi C S i j w := by
  induction h with
  | nil i => exact .nil i
  | step h _ ih => exact .cat (.edge h) ih (hS _ _ _ h).2
theorem Wi.sub {S S' : List α} (hs : ∀ x ∈ S, x ∈ S') (h : Wi C S i j w) : Wi C S' i j w := by
  induction h with
  | nil i => exact .nil i
  | edge h => exact .edge h
  | cat _ _ hm i1 i2 => exact .cat i1 i2 (hs _ hm)
theorem wi_split {S : List α} (cl : ∀ u, Wi C S m m u → 0 ≤ u) (h : Wi C (m :: S) i j w) :
    (∃ w', w' ≤ w ∧ Wi C S i j w') ∨ ∃ w1 w2, w1 + w2 ≤ w ∧ Wi C S i m w1 ∧ Wi C S m j w2 := by
  induction h with
  | nil i => exact .inl ⟨0, Int.le_refl _, .nil i⟩
  | edge h => exact .inl ⟨_, Int.le_refl _, .edge h⟩
  | @cat i c j u v h1 h2 hc i1 i2 =>
    rcases List.mem_cons.mp hc with rfl | hc
    · have l : ∃ p, p ≤ u ∧ Wi C S i c p := by
        rcases i1 with ⟨p, hp, q⟩ | ⟨p, q, hpq, a1, a2⟩
        · exact ⟨p, hp, q⟩
        · have := cl q a2
          exact ⟨p, by omega, a1⟩
      have r : ∃ p, p ≤ v ∧ Wi C S c j p := by
        rcases i2 with ⟨p, hp, q⟩ | ⟨p, q, hpq, a1, a2⟩
        · exact ⟨p, hp, q⟩
        · have := cl p a1
          exact ⟨q, by omega, a2⟩
      obtain ⟨p, hp, l⟩ := l
      obtain ⟨q, hq, r⟩ := r
      exact .inr ⟨p, q, by omega, l, r⟩
    · rcases i1 with ⟨p, hp, l⟩ | ⟨p1, p2, hp, l1, l2⟩
      · rcases i2 with ⟨q, hq, r⟩ | ⟨q1, q2, hq, r1, r2⟩
        · exact .inl ⟨p + q, by omega, .cat l r hc⟩
        · exact .inr ⟨p + q1, q2, by omega, .cat l r1 hc, r2⟩
      · rcases i2 with ⟨q, hq, r⟩ | ⟨q1, q2, hq, r1, r2⟩
        · exact .inr ⟨p1, p2 + q, by omega, l1, .cat l2 r hc⟩
        · have := cl _ (.cat l2 r1 hc)
          exact .inr ⟨p1, q2, by omega, l1, r2⟩
abbrev Bd (α : Type) := α → α → Option Int
def put (b : Bd α) (i j : α) (v : Int) : Bd α := fun x y => if x = i ∧ y = j then some v else b x y
def rstep (m : α) (b : Bd α) (p : α × α) : Bd α := match b p.1 m, b m p.2 with
  | some x, some y => put b p.1 p.2 (min (x + y) ((b p.1 p.2).getD (x + y)))
  | _, _ => b
def Sound (C : List (α × α × Int)) (b : Bd α) : Prop := ∀ i j x, b i j = some x → Wk C i j x
def Mono (b b' : Bd α) : Prop := ∀ i j x, b i j = some x → ∃ y, b' i j = some y ∧ y ≤ x
theorem Mono.refl (b : Bd α) : Mono b b := fun _ _ x h => ⟨x, h, Int.le_refl _⟩
theorem Mono.trans {b b' b'' : Bd α} (h : Mono b b') (g : Mono b' b'') : Mono b b'' := fun i j x e => by
  obtain ⟨y, e1, l1⟩ := h i j x e
  obtain ⟨z, e2, l2⟩ := g i j y e1
  exact ⟨z, e2, by omega⟩
theorem put_same {b : Bd α} {v : Int} : put b i j v i j = some v := by simp [put]
theorem put_mono {b : Bd α} {v : Int} (h : ∀ x, b i j = some x → v ≤ x) : Mono b (put b i j v) := fun p q x e => by
  unfold put
  split
  · rename_i z
    obtain ⟨rfl, rfl⟩ := z
    exact ⟨v, rfl, h x e⟩
  · exact ⟨x, e, Int.le_refl _⟩
theorem put_sound {b : Bd α} {v : Int} (s : Sound C b) (h : Wk C i j v) : Sound C (put b i j v) := fun p q x e => by
  unfold put at e
  split at e
  · rename_i z
    obtain ⟨rfl, rfl⟩ := z
    cases e
    exact h
  · exact s p q x e
theorem rstep_sound {b : Bd α} (p : α × α) (s : Sound C b) : Sound C (rstep m b p) := by
  unfold rstep
  cases e1 : b p.1 m with
  | none => exact s
  | some x =>
    cases e2 : b m p.2 with
    | none => exact s
    | some y =>
      refine put_sound s ?_
      cases e3 : b p.1 p.2 with
      | none =>
        rw [show min (x + y) ((none : Option Int).getD (x + y)) = x + y from by simp]
        exact (s _ _ _ e1).cat (s _ _ _ e2)
      | some z =>
        rw [show ((some z : Option Int).getD (x + y)) = z from rfl]
        rcases Int.le_total (x + y) z with h | h
        · rw [Int.min_eq_left h]; exact (s _ _ _ e1).cat (s _ _ _ e2)
        · rw [Int.min_eq_right h]; exact s _ _ _ e3
theorem rstep_mono {b : Bd α} (p : α × α) : Mono b (rstep m b p) := by
  unfold rstep
  cases e1 : b p.1 m with
  | none => exact .refl b
  | some x =>
    cases e2 : b m p.2 with
    | none => exact .refl b
    | some y =>
      refine put_mono fun z e3 => ?_
      rw [e3]
      show min (x + y) z ≤ z
      omega
theorem rstep_le {b : Bd α} {x y : Int} (h1 : b i m = some x) (h2 : b m j = some y) : ∃ z, rstep m b (i, j) i j = some z ∧ z ≤ x + y := by
  unfold rstep
  simp only [h1, h2]
  exact ⟨_, put_same, by omega⟩
theorem fold_mono (L : List (α × α)) : ∀ b : Bd α, Mono b (L.foldl (rstep m) b) := by
  induction L with
  | nil => exact fun b => .refl b
  | cons p L ih => exact fun b => (rstep_mono p).trans (ih _)
theorem fold_sound (L : List (α × α)) : ∀ b : Bd α, Sound C b → Sound C (L.foldl (rstep m) b) := by
  induction L with
  | nil => exact fun b h => h
  | cons p L ih => exact fun b h => ih _ (rstep_sound p h)
theorem fold_le : ∀ (L : List (α × α)) (b : Bd α) (x y : Int), (i, j) ∈ L → b i m = some x → b m j = some y → ∃ z, L.foldl (rstep m) b i j = some z ∧ z ≤ x + y := by
  intro L
  induction L with
  | nil => exact fun b x y h => nomatch h
  | cons p L ih =>
    intro b x y h h1 h2
    rcases List.mem_cons.mp h with rfl | h
    · obtain ⟨z, e, l⟩ := rstep_le h1 h2
      obtain ⟨u, e', l'⟩ := fold_mono L (m := m) _ _ _ z e
      exact ⟨u, e', by omega⟩
    · obtain ⟨x', e1, l1⟩ := rstep_mono (m := m) p _ _ _ h1
      obtain ⟨y', e2, l2⟩ := rstep_mono (m := m) p _ _ _ h2
      obtain ⟨z, e, l⟩ := ih _ _ _ h e1 e2
      exact ⟨z, e, by omega⟩
/-- what one place in the middle does -/
structure PassOk (C : List (α × α × Int)) (ns : List α) (m : α) (b b' : Bd α) : Prop where
  sound : Sound C b → Sound C b'
  mono : Mono b b'
  le : ∀ i ∈ ns, ∀ j ∈ ns, ∀ x y, b i m = some x → b m j = some y → ∃ z, b' i j = some z ∧ z ≤ x + y
theorem pass_fold {ns : List α} {b : Bd α} (L : List (α × α)) (h : ∀ i ∈ ns, ∀ j ∈ ns, b i m ≠ none → b m j ≠ none → (i, j) ∈ L) : PassOk C ns m b (L.foldl (rstep m) b) :=
  ⟨fold_sound L b, fold_mono L b, fun i hi j hj x y h1 h2 => fold_le L b x y (h i hi j hj (by rw [h1]; simp) (by rw [h2]; simp)) h1 h2⟩
def Inv (C : List (α × α × Int)) (ns S : List α) (b : Bd α) : Prop := ∀ i ∈ ns, ∀ j ∈ ns, ∀ w, Wi C S i j w → ∃ z, b i j = some z ∧ z ≤ w
theorem pass_inv {ns S : List α} {b b' : Bd α} (hm : m ∈ ns) (nn : ∀ i ∈ ns, ∀ x, b i i = some x → 0 ≤ x) (I : Inv C ns S b) (p : PassOk C ns m b b') : Inv C ns (m :: S) b' := by
  intro i hi j hj w h
  have cl : ∀ u, Wi C S m m u → 0 ≤ u := fun u h => by
    obtain ⟨z, e, l⟩ := I m hm m hm u h
    have := nn m hm z e
    omega
  rcases wi_split cl h with ⟨w', l, g⟩ | ⟨u, v, l, g1, g2⟩
  · obtain ⟨z, e, l1⟩ := I i hi j hj w' g
    obtain ⟨y, e', l2⟩ := p.mono i j z e
    exact ⟨y, e', by omega⟩
  · obtain ⟨x, e1, l1⟩ := I i hi m hm u g1
    obtain ⟨y, e2, l2⟩ := I m hm j hj v g2
    obtain ⟨z, e, l3⟩ := p.le i hi j hj x y e1 e2
    exact ⟨z, e, by omega⟩
inductive Passes (C : List (α × α × Int)) (ns : List α) : List α → Bd α → Bd α → Prop
  | nil (b : Bd α) : Passes C ns [] b b
  | cons {m : α} {ms : List α} {b b1 b' : Bd α} : PassOk C ns m b b1 → Passes C ns ms b1 b' → Passes C ns (m :: ms) b b'
theorem Passes.sound {ns ms : List α} {b b' : Bd α} (p : Passes C ns ms b b') (s : Sound C b) : Sound C b' := by
  induction p with
  | nil => exact s
  | cons h _ ih => exact ih (h.sound s)
theorem Passes.mono {ns ms : List α} {b b' : Bd α} (p : Passes C ns ms b b') : Mono b b' := by
  induction p with
  | nil => exact .refl _
  | cons h _ ih => exact h.mono.trans ih
theorem Passes.inv {ns ms : List α} {b b' : Bd α} (p : Passes C ns ms b b') : ∀ {S : List α}, (∀ m ∈ ms, m ∈ ns) → (∀ i ∈ ns, ∀ x, b' i i = some x → 0 ≤ x) → Inv C ns S b → Inv C ns (ms.reverse ++ S) b' := by
  induction p with
  | nil => exact fun _ _ h => h
  | @cons m ms b b1 b' h g ih =>
    intro S hm nn I
    have q := (h.mono.trans g.mono)
    have I1 := pass_inv (hm m List.mem_cons_self) (fun i hi x e => by
      obtain ⟨y, e', l⟩ := q i i x e
      have := nn i hi y e'
      omega) I h
    have := ih (fun z hz => hm z (List.mem_cons_of_mem _ hz)) nn I1
    rw [List.reverse_cons, List.append_assoc]
    exact this
/-- the first bounds -/
structure Start (C : List (α × α × Int)) (ns : List α) (b : Bd α) : Prop where
  sound : Sound C b
  self : ∀ i ∈ ns, ∃ z, b i i = some z ∧ z ≤ 0
  edge : ∀ i j c, (i, j, c) ∈ C → ∃ z, b i j = some z ∧ z ≤ c
theorem Start.inv {ns : List α} {b : Bd α} (s : Start C ns b) : Inv C ns [] b := by
  intro i hi j hj w h
  cases h with
  | nil => exact s.self i hi
  | edge h => exact s.edge _ _ _ h
  | cat _ _ h => exact nomatch h
structure Fin (C : List (α × α × Int)) (ns : List α) (b : Bd α) : Prop where
  sound : Sound C b
  self : ∀ i ∈ ns, ∃ z, b i i = some z ∧ z ≤ 0
  least : (∀ i ∈ ns, ∀ x, b i i = some x → 0 ≤ x) → ∀ i ∈ ns, ∀ j ∈ ns, ∀ w, Wk C i j w → ∃ z, b i j = some z ∧ z ≤ w
theorem fin_of {ns : List α} {b b' : Bd α} (hC : ∀ i j c, (i, j, c) ∈ C → i ∈ ns ∧ j ∈ ns) (s : Start C ns b) (p : Passes C ns ns b b') : Fin C ns b' := by
  refine ⟨p.sound s.sound, fun i hi => ?_, fun nn i hi j hj w h => ?_⟩
  · obtain ⟨z, e, l⟩ := s.self i hi
    obtain ⟨y, e', l'⟩ := p.mono _ _ _ e
    exact ⟨y, e', by omega⟩
  · refine p.inv (fun _ h => h) nn s.inv i hi j hj w ((h.wi hC).sub fun x hx => ?_)
    simpa using hx
theorem Fin.open {ns : List α} {b : Bd α} (hC : ∀ i j c, (i, j, c) ∈ C → i ∈ ns ∧ j ∈ ns) (f : Fin C ns b) : (∀ i ∈ ns, ∀ x, b i i = some x → 0 ≤ x) ↔ NoNeg C := by
  refine ⟨fun nn i w h => ?_, fun n i _ x e => n i x (f.sound i i x e)⟩
  by_cases hi : i ∈ ns
  · obtain ⟨z, e, l⟩ := f.least nn i hi i hi w h
    have := nn i hi z e
    omega
  · cases h with
    | nil => exact Int.le_refl _
    | step h _ => exact absurd (hC _ _ _ h).1 hi
end SY
namespace SY
variable {α : Type} [DecidableEq α] {C : List (α × α × Int)}
def set {β : Type} (f : α → β) (i : α) (v : β) : α → β := fun x => if x = i then v else f x
theorem set_same {β : Type} {f : α → β} {i : α} {v : β} : set f i v i = v := if_pos rfl
theorem set_ne {β : Type} {f : α → β} {i x : α} {v : β} (h : x ≠ i) : set f i v x = f x := if_neg h
structure BS (α : Type) where
  w : α → Int
  last : α → Option Nat
  ρ : α → Nat
  τ : α → Nat
  now : Nat
  late : Option α
def stp (r : Nat) (s : BS α) (a : Nat) (e : α × α × Int) : BS α :=
  if s.w e.2.1 + e.2.2 < s.w e.1 then { w := set s.w e.1 (s.w e.2.1 + e.2.2), last := set s.last e.1 (some a), ρ := set s.ρ e.1 r, τ := set s.τ e.1 (s.now + 1), now := s.now + 1, late := some e.1 } else s
structure BI (C : List (α × α × Int)) (r p : Nat) (s : BS α) : Prop where
  l1 : ∀ v a, s.last v = some a → ∃ u k, C[a]? = some (v, u, k) ∧ s.w u + k ≤ s.w v ∧ (s.τ v ≤ s.τ u → s.w u + k < s.w v) ∧ s.ρ v ≤ s.ρ u + 1
  l2 : ∀ v, 1 ≤ s.ρ v → ∃ a, s.last v = some a
  l3 : ∀ v, s.τ v ≤ s.now
  l4 : ∀ v, s.ρ v ≤ r
  ex : ∀ q l u k, C[q]? = some (l, u, k) → s.w l ≤ s.w u + k ∨ (if q < p then r else r - 1) ≤ s.ρ u
  lt : ∀ v, s.late = some v → s.ρ v = r
  nl : s.late = none → ∀ q l u k, q < p → C[q]? = some (l, u, k) → s.w l ≤ s.w u + k
theorem stp_ok {r p : Nat} {s : BS α} {e : α × α × Int} (hr : 1 ≤ r) (I : BI C r p s) (he : C[p]? = some e) : BI C r (p + 1) (stp r s p e) := by
  obtain ⟨l, u, k⟩ := e
  unfold stp
  dsimp only
  by_cases hlt : s.w u + k < s.w l
  · rw [if_pos hlt]
    have wle : ∀ x, set s.w l (s.w u + k) x ≤ s.w x := fun x => by
      unfold set
      split
      · rename_i z; subst z; omega
      · exact Int.le_refl _
    have rge : ∀ x, s.ρ x ≤ set s.ρ l r x := fun x => by
      unfold set
      split
      · exact I.l4 x
      · exact Nat.le_refl _
    have hpu : r ≤ s.ρ u + 1 := by
      rcases I.ex p l u k he with h | h
      · omega
      · rw [if_neg (Nat.lt_irrefl p)] at h
        omega
    refine ⟨fun v a e => ?_, fun v h => ?_, fun v => ?_, fun v => ?_, fun q l' u' k' e => ?_, fun v e => ?_, fun e => nomatch e⟩
    · dsimp only at e ⊢
      by_cases hv : v = l
      · subst hv
        rw [set_same] at e
        cases e
        refine ⟨u, k, he, ?_, fun ht => ?_, ?_⟩
        · rw [set_same]
          have := wle u
          omega
        · rw [set_same] at ht ⊢
          by_cases hu : u = v
          · subst hu
            rw [set_same]
            omega
          · rw [set_ne hu] at ht
            have := I.l3 u
            omega
        · rw [set_same]
          have := rge u
          omega
      · rw [set_ne hv] at e
        obtain ⟨u0, k0, e0, h1, h2, h3⟩ := I.l1 v a e
        refine ⟨u0, k0, e0, ?_, fun ht => ?_, ?_⟩
        · rw [set_ne hv]
          have := wle u0
          omega
        · rw [set_ne hv] at ht ⊢
          by_cases hu : u0 = l
          · subst hu
            rw [set_same]
            omega
          · rw [set_ne hu] at ht ⊢
            exact h2 ht
        · rw [set_ne hv]
          have := rge u0
          omega
    · dsimp only at h ⊢
      by_cases hv : v = l
      · subst hv; exact ⟨p, set_same⟩
      · rw [set_ne hv] at h ⊢; exact I.l2 v h
    · dsimp only
      by_cases hv : v = l
      · subst hv; rw [set_same]; exact Nat.le_refl _
      · rw [set_ne hv]; have := I.l3 v; omega
    · dsimp only
      by_cases hv : v = l
      · subst hv; rw [set_same]; exact Nat.le_refl _
      · rw [set_ne hv]; exact I.l4 v
    · dsimp only
      by_cases hu : u' = l
      · subst hu
        refine .inr ?_
        rw [set_same]
        split <;> omega
      · rw [set_ne hu, set_ne hu]
        by_cases hq : q = p
        · subst hq
          rw [he] at e
          cases e
          refine .inl ?_
          rw [set_same]
          exact Int.le_refl _
        · have hif : (if q < p + 1 then r else r - 1) = (if q < p then r else r - 1) := by
            by_cases h : q < p
            · rw [if_pos h, if_pos (by omega)]
            · rw [if_neg h, if_neg (by omega)]
          rw [hif]
          rcases I.ex q l' u' k' e with h | h
          · refine .inl ?_
            have := wle l'
            omega
          · exact .inr h
    · dsimp only at e ⊢
      cases e
      exact set_same
  · rw [if_neg hlt]
    refine ⟨I.l1, I.l2, I.l3, I.l4, fun q l' u' k' e => ?_, I.lt, fun hn q l' u' k' hq e => ?_⟩
    · by_cases hq : q = p
      · subst hq
        rw [he] at e
        cases e
        exact .inl (by omega)
      · have hif : (if q < p + 1 then r else r - 1) = (if q < p then r else r - 1) := by
          by_cases h : q < p
          · rw [if_pos h, if_pos (by omega)]
          · rw [if_neg h, if_neg (by omega)]
        rw [hif]
        exact I.ex q l' u' k' e
    · by_cases hq' : q = p
      · subst hq'
        rw [he] at e
        cases e
        omega
      · exact I.nl hn q l' u' k' (by omega) e
/-- one round -/
def rnd (r : Nat) : Nat → List (α × α × Int) → BS α → BS α
  | _, [], s => s
  | a, e :: es, s => rnd r (a + 1) es (stp r s a e)
theorem rnd_ok {r : Nat} (hr : 1 ≤ r) : ∀ (es dn : List (α × α × Int)) (s : BS α), dn ++ es = C → BI C r dn.length s → BI C r C.length (rnd r dn.length es s) := by
  intro es
  induction es with
  | nil =>
    intro dn s e I
    rw [List.append_nil] at e
    subst e
    exact I
  | cons x es ih =>
    intro dn s e I
    have hx : C[dn.length]? = some x := by
      rw [← e, List.getElem?_append_right (Nat.le_refl _), Nat.sub_self]
      rfl
    have := ih (dn ++ [x]) (stp r s dn.length x) (by rw [List.append_assoc]; exact e) (by rw [List.length_append]; exact stp_ok hr I hx)
    rw [List.length_append] at this
    exact this
theorem next_ok {r : Nat} {s : BS α} (I : BI C r C.length s) : BI C (r + 1) 0 { s with late := none } := by
  refine ⟨I.l1, I.l2, I.l3, fun v => Nat.le_succ_of_le (I.l4 v), fun q l u k e => ?_, fun v e => (nomatch e), fun _ q l u k hq => absurd hq (Nat.not_lt_zero _)⟩
  rcases I.ex q l u k e with h | h
  · exact .inl h
  · refine .inr ?_
    rw [if_pos (List.getElem?_eq_some_iff.mp e).1] at h
    rw [if_neg (Nat.not_lt_zero _)]
    exact h
def s0 : BS α := { w := fun _ => 0, last := fun _ => none, ρ := fun _ => 0, τ := fun _ => 0, now := 0, late := none }
theorem s0_ok : BI C 1 0 (s0 : BS α) :=
  ⟨fun v a e => (nomatch e), fun v h => absurd h (by simp [s0]), fun v => Nat.le_refl _, fun v => Nat.zero_le _, fun q l u k e => .inr (by simp), fun v e => (nomatch e), fun _ q l u k hq => absurd hq (Nat.not_lt_zero _)⟩
/-- all is quiet: no ring below 0 -/
theorem quiet {r : Nat} {s : BS α} (I : BI C r C.length s) (h : s.late = none) : NoNeg C := by
  have key : ∀ i j w, Wk C i j w → s.w i ≤ s.w j + w := by
    intro i j w g
    induction g with
    | nil i => omega
    | @step i k j c w h1 _ ih =>
      obtain ⟨q, hq, e⟩ := List.getElem_of_mem h1
      have := I.nl h q i k c hq (by rw [List.getElem?_eq_getElem hq, e])
      omega
  intro i w g
  have := key i i w g
  omega
def ixOf (s : BS α) (v : α) : Nat := (s.last v).getD 0
def pOf (C : List (α × α × Int)) (s : BS α) (v : α) : α := (C[ixOf s v]?.map (·.2.1)).getD v
def it (f : α → α) : Nat → α → α
  | 0, v => v
  | n + 1, v => it f n (f v)
theorem it_add (f : α → α) : ∀ (a b : Nat) (v : α), it f (a + b) v = it f b (it f a v)
  | 0, b, v => by rw [Nat.zero_add]; rfl
  | a + 1, b, v => by rw [Nat.add_right_comm]; exact it_add f a b (f v)
theorem nodup_sub : ∀ (l t : List α), l.Nodup → (∀ x ∈ l, x ∈ t) → l.length ≤ t.length
  | [], t, _, _ => Nat.zero_le _
  | x :: l, t, nd, h => by
    have nd := List.nodup_cons.mp nd
    have hx := h x List.mem_cons_self
    have := nodup_sub l (t.erase x) nd.2 fun y hy => (List.mem_erase_of_ne (fun e : y = x => nd.1 (by rw [← e]; exact hy))).mpr (h y (List.mem_cons_of_mem _ hy))
    rw [List.length_erase_of_mem hx] at this
    have : 0 < t.length := List.length_pos_of_mem hx
    rw [List.length_cons]
    omega
/-- what the ring is: its places here, f here, .. , k of them -/
structure Ring (C : List (α × α × Int)) (s : BS α) (h : α) (k : Nat) : Prop where
  pos : 0 < k
  back : it (pOf C s) k h = h
  no : ∀ t, 0 < t → t < k → it (pOf C s) t h ≠ h
  at_ : ∀ t, ∃ a, s.last (it (pOf C s) t h) = some a
section
variable {r : Nat} {s : BS α} {h : α} {k : Nat}
theorem Ring.inj (R : Ring C s h k) : ∀ a b, a < b → b < k → it (pOf C s) a h ≠ it (pOf C s) b h := by
  intro a b hab hb e
  refine R.no (a + (k - b)) (by omega) (by omega) ?_
  rw [it_add, e, ← it_add, show b + (k - b) = k from by omega]
  exact R.back
end
end SY
namespace SY
variable {α : Type} [DecidableEq α] {C D F : List (α × α × Int)} {i j k : α} {w : Int} {φ : α → Int} {P : α → Prop}
def Sat (C : List (α × α × Int)) (φ : α → Int) : Prop := ∀ i j c, (i, j, c) ∈ C → φ i ≤ φ j + c
theorem Wk.over (hs : ∀ i j c, (i, j, c) ∈ D → Wk C i j c) (h : Wk D i j w) : Wk C i j w := by
  induction h with
  | nil => exact .nil _
  | step h _ ih => exact (hs _ _ _ h).cat ih
def Imp (C : List (α × α × Int)) (r : α × α × Int) : Prop := (r.1 = r.2.1 ∧ 0 ≤ r.2.2) ∨ ∃ x, x ≤ r.2.2 ∧ Wk C r.1 r.2.1 x
theorem wk_split (hF : ∀ i j c, (i, j, c) ∈ F → P i) (h : Wk (C ++ F) i j w) : Wk C i j w ∨ ∃ x w1 w2, P x ∧ w1 + w2 = w ∧ Wk (C ++ F) i x w1 ∧ Wk (C ++ F) x j w2 := by
  induction h with
  | nil => exact .inl (.nil _)
  | @step i k j c w h g ih =>
    rcases List.mem_append.mp h with hc | hf
    · rcases ih with ih | ⟨x, w1, w2, hx, e, h1, h2⟩
      · exact .inl (.step hc ih)
      · exact .inr ⟨x, c + w1, w2, hx, by omega, .step h h1, h2⟩
    · exact .inr ⟨i, 0, c + w, hF _ _ _ hf, by omega, .nil _, .step h g⟩
theorem proj_ge (hF : ∀ i j c, (i, j, c) ∈ F → P i ∧ P j ∧ c = φ i - φ j) (hb : ∀ i j x, P i → P j → Wk C i j x → φ i ≤ φ j + x) (h : Wk (C ++ F) i j w) : P j → ∃ p a, P p ∧ Wk C i p a ∧ a + φ p - φ j ≤ w := by
  induction h with
  | nil => exact fun hj => ⟨_, 0, hj, .nil _, by omega⟩
  | @step i k j c w h _ ih =>
    intro hj
    obtain ⟨p, a, hp, g, l⟩ := ih hj
    rcases List.mem_append.mp h with hc | hf
    · exact ⟨p, c + a, hp, .step hc g, by omega⟩
    · obtain ⟨hi, hk, e⟩ := hF _ _ _ hf
      have := hb _ _ _ hk hp g
      exact ⟨i, 0, hi, .nil _, by omega⟩
/-- the rows have a solution with these integers -/
theorem proj (n : NoNeg C) (hF : ∀ i j c, (i, j, c) ∈ F → P i ∧ P j ∧ c = φ i - φ j) (hc : ∀ i j, P i → P j → Wk F i j (φ i - φ j)) : NoNeg (C ++ F) ↔ ∀ i j x, P i → P j → Wk C i j x → φ i ≤ φ j + x := by
  constructor
  · intro h i j x hi hj g
    have h1 : Wk (C ++ F) i j x := g.sub fun y hy => List.mem_append_left _ hy
    have h2 : Wk (C ++ F) j i (φ j - φ i) := (hc j i hj hi).sub fun y hy => List.mem_append_right _ hy
    have := h _ _ (h1.cat h2)
    omega
  · intro hb i w h
    rcases wk_split (fun i j c hm => (hF i j c hm).1) h with h | ⟨x, w1, w2, hx, e, h1, h2⟩
    · exact n i w h
    · obtain ⟨p, a, hp, g, l⟩ := proj_ge hF hb (h2.cat h1) hx
      have := hb _ _ _ hx hp g
      omega
end SY
namespace SZ
open PySem PySem.Spec PyProof.Rows L2 PD
def g_LETTERS : D := (.str [97, 98, 99, 100, 101, 102, 103, 104, 105, 106, 107, 108, 109, 110, 111, 112, 113, 114, 115, 116, 117, 118, 119, 120, 121, 122])
def g_RESERVED : D := (.tup [(.str [97, 110, 100]), (.str [102, 111, 117, 110, 100]), (.str [107, 101, 121]), (.str [110, 101, 120, 116]), (.str [110, 111, 116]), (.str [111, 114]), (.str [111, 119, 110]), (.str [115, 101, 116]), (.str [116, 114, 117, 101]), (.str [119, 104, 101, 114, 101])])
def g_DIGITS : D := (.str [48, 49, 50, 51, 52, 53, 54, 55, 56, 57])
def N_closed : List Str := ["comparisons", "bounds", "names", "name", "mid", "left", "right", "k", "heads", "tails", "head", "tail", "way"]
def mb_closed_0 : MS :=
    (msSeq (msAsg (mBin dAdd (mDixT (mVar 1) (mCons (mVar 10) (mCons (mVar 4) mNil))) (mDixT (mVar 1) (mCons (mVar 4) (mCons (mVar 11) mNil)))) (mgName 12))
    (msDPutT (mVar 1) (mCons (mVar 10) (mCons (mVar 11) mNil)) (mCall dMin2 (mCons (mVar 12) (mCons (mDGet2T (mVar 1) (mCons (mVar 10) (mCons (mVar 11) mNil)) (mVar 12)) mNil)))))
def mt_closed_1 : M Bool :=
    (mTst (mDinT false (mCons (mVar 4) (mCons (mVar 3) mNil)) (mVar 1)))
def mt_closed_2 : M Bool :=
    (mTst (mDinT false (mCons (mVar 3) (mCons (mVar 4) mNil)) (mVar 1)))
def mb_closed_3 : MS :=
    (msSeq (msAsg (mLc [3] (miL (mVar 2)) (mgName 3) mt_closed_2 (mVar 3)) (mgName 8))
    (msSeq (msAsg (mLc [3] (miL (mVar 2)) (mgName 3) mt_closed_1 (mVar 3)) (mgName 9))
    (msFor (miL (mVar 8)) (mgName 10) (msFor (miL (mVar 9)) (mgName 11) mb_closed_0))))
def mb_closed_4 : MS :=
    (msDPutT (mVar 1) (mCons (mVar 5) (mCons (mVar 6) mNil)) (mCall dMin2 (mCons (mVar 7) (mCons (mDGet2T (mVar 1) (mCons (mVar 5) (mCons (mVar 6) mNil)) (mVar 7)) mNil))))
def mb_closed_5 : MS :=
    (msDPutT (mVar 1) (mCons (mVar 3) (mCons (mVar 3) mNil)) (mC (.int 0)))
def m_closed : MS :=
    (msSeq (msAsg mDnewT (mgName 1))
    (msSeq (msAsg (mLst (mCons (mC (.str [])) (mStar (mSortV [5, 6, 7, 3] (miL (mVar 0)) (mgTup 3 (mgCons (mgName 5) (mgCons (mgName 6) (mgCons (mgName 7) mgNil)))) mYes (mbFor (miT (mTup (mCons (mVar 5) (mCons (mVar 6) mNil)))) (mgName 3) (mTst (mBin dNe (mVar 3) (mC (.str [])))) [3] (mbS (mVar 3)))) mNil))) (mgName 2))
    (msSeq (msFor (miL (mVar 2)) (mgName 3) mb_closed_5)
    (msSeq (msFor (miL (mVar 0)) (mgTup 3 (mgCons (mgName 5) (mgCons (mgName 6) (mgCons (mgName 7) mgNil)))) mb_closed_4)
    (msSeq (msFor (miL (mVar 2)) (mgName 4) mb_closed_3)
    (msRet (mVar 1)))))))
def F_closed : PF := runP N_closed.length m_closed
def N_is_listed : List Str := ["value"]
def m_is_listed : MS :=
    (msRet (mIsi [.lst, .tup] (mVar 0)))
def F_is_listed : PF := runP N_is_listed.length m_is_listed
def N_is_name : List Str := ["value", "letter"]
def m_is_name : MS :=
    (msSeq (msIf (mOr (mNot (mTst (mIsi [.str] (mVar 0)))) (mOr (mNot (mTst (mChain dLe dLe (mC (.int 1)) (mCall dLen (mCons (mVar 0) mNil)) (mC (.int 6))))) (mTst (mBin dInA (mVar 0) (mC g_RESERVED))))) (msRet (mC (.bl false))) msNil)
    (msRet (mCall dAll (mCons (mLc [1] (miS (mVar 0)) (mgName 1) mYes (mBin dInA (mVar 1) (mC g_LETTERS))) mNil))))
def F_is_name : PF := runP N_is_name.length m_is_name
def N_is_column : List Str := ["value"]
def m_is_column : MS :=
    (msRet (mAndV (mIsi [.str] (mVar 0)) (mOrV (mBin dEq (mVar 0) (mC (.str [107, 101, 121]))) (mCallP F_is_name (mCons (mVar 0) mNil)))))
def F_is_column : PF := runP N_is_column.length m_is_column
def N_is_unknown : List Str := ["value", "index", "dot", "column", "sign"]
def m_is_unknown : MS :=
    (msSeq (msIf (mNot (mTst (mIsi [.str] (mVar 0)))) (msRet (mC (.bl false))) msNil)
    (msSeq (msIf (mOr (mTst (mBin dEq (mVar 0) (mC (.str [])))) (mTst (mCallP F_is_name (mCons (mVar 0) mNil)))) (msRet (mC (.bl true))) msNil)
    (msSeq (msAsg (mMtS dPart (mVar 0) (mCons (mC (.str [46])) mNil)) (mgTup 3 (mgCons (mgName 1) (mgCons (mgName 2) (mgCons (mgName 3) mgNil)))))
    (msSeq (msIf (mOr (mTst (mBin dEq (mVar 2) (mC (.str [])))) (mOr (mTst (mBin dEq (mVar 1) (mC (.str [])))) (mNot (mTst (mCall dAll (mCons (mLc [4] (miS (mVar 1)) (mgName 4) mYes (mBin dInA (mVar 4) (mC g_DIGITS))) mNil)))))) (msRet (mC (.bl false))) msNil)
    (msRet (mAndV (mBin dEq (mCall dStr (mCons (mCall dInt (mCons (mVar 1) mNil)) mNil)) (mVar 1)) (mCallP F_is_column (mCons (mVar 3) mNil))))))))
def F_is_unknown : PF := runP N_is_unknown.length m_is_unknown
def N_is_integer : List Str := ["value"]
def m_is_integer : MS :=
    (msRet (mAndV (mIsi [.int] (mVar 0)) (mNotV (mIsi [.bool] (mVar 0)))))
def F_is_integer : PF := runP N_is_integer.length m_is_integer
def N_is_comparison : List Str := ["value"]
def m_is_comparison : MS :=
    (msSeq (msIf (mOr (mNot (mTst (mIsi [.tup] (mVar 0)))) (mTst (mBin dNe (mCall dLen (mCons (mVar 0) mNil)) (mC (.int 3))))) (msRet (mC (.bl false))) msNil)
    (msRet (mAndV (mCallP F_is_unknown (mCons (mBin dIx (mVar 0) (mC (.int 0))) mNil)) (mAndV (mCallP F_is_unknown (mCons (mBin dIx (mVar 0) (mC (.int 1))) mNil)) (mCallP F_is_integer (mCons (mBin dIx (mVar 0) (mC (.int 2))) mNil))))))
def F_is_comparison : PF := runP N_is_comparison.length m_is_comparison
def N_System_init : List Str := ["self", "comparisons", "at", "comparison", "k", "left", "right"]
def mb_System_init_0 : MS :=
    (msIf (mNot (mTst (mCallP F_is_comparison (mCons (mVar 3) mNil)))) (msRaise "InvalidComparison" (some "index") [73, 110, 118, 97, 108, 105, 100, 67, 111, 109, 112, 97, 114, 105, 115, 111, 110] (mCons (mVar 2) mNil)) msNil)
def m_System_init : MS :=
    (msSeq (msIf (mNot (mTst (mCallP F_is_listed (mCons (mVar 1) mNil)))) (msRaise "InvalidComparison" (some "index") [73, 110, 118, 97, 108, 105, 100, 67, 111, 109, 112, 97, 114, 105, 115, 111, 110] (mCons (mC (.int 0)) mNil)) msNil)
    (msSeq (msFor (miEn (mCons (mVar 1) mNil)) (mgTup 2 (mgCons (mgName 2) (mgCons (mgName 3) mgNil))) mb_System_init_0)
    (msSeq (msFld ["System"] "own_rows" (mVar 0) (mListDc [3] (miA (mVar 1)) (mgName 3) mYes (mVar 3)))
    (msSeq (msFld ["System"] "own_bounds" (mVar 0) (mCallP F_closed (mCons (mFld ["System"] "own_rows" (mVar 0)) mNil)))
    (msFld ["System"] "has_solution" (mVar 0) (mCall dAll (mCons (mLcIt [4, 5, 6] (mFld ["System"] "own_bounds" (mVar 0)) (mgTup 2 (mgCons (mgTup 2 (mgCons (mgName 5) (mgCons (mgName 6) mgNil))) (mgCons (mgName 4) mgNil))) (mTst (mBin dEq (mVar 5) (mVar 6))) (mBin dGe (mVar 4) (mC (.int 0)))) mNil)))))))
def F_System_init : IF := runI N_System_init.length m_System_init
def N__law_draws : List Str := ["_law_script", "_law_seed", "_law_cell"]
def mb__law_draws_0 : MS :=
    (msAsg (mBin dMod (mCall dInt (mCons (mBin dAdd (mBin dAdd (mBin dMul (mVar 1) (mC (.int 44021))) (mBin dMod (mCall dInt (mCons (mVar 2) mNil)) (mC (.int 2147483489)))) (mC (.int 53))) mNil)) (mC (.int 2147483549))) (mgName 1))
def m__law_draws : MS :=
    (msSeq (msAsg (mC (.int 5648)) (mgName 1))
    (msSeq (msFor (miL (mSl (mVar 0) mNoP (mSmP (mC (.int 63))))) (mgName 2) mb__law_draws_0)
    (msRet (mLstC (mCons (mCall dList (mCons (mSl (mVar 0) mNoP (mSmP (mC (.int 63)))) mNil)) (mCons (mC (.int 0)) (mCons (mC (.int 0)) (mCons (mVar 1) (mCons (mC (.int 0)) mNil)))))))))
def F__law_draws : IF := runA N__law_draws.length m__law_draws
def N_ring_of : List Str := ["comparisons", "names", "worth", "last", "turn", "here", "found", "late", "name", "at", "left", "right", "k"]
def mt_ring_of_0 : M Bool :=
    (mTst (mBin dNe (mBin dIx (mBin dIx (mVar 0) (mBin dIx (mVar 6) (mNeg (mC (.int 1))))) (mC (.int 1))) (mVar 5)))
def mb_ring_of_1 : MS :=
    (msExpr (mAppend (mVar 6) (mBin dDIx (mVar 3) (mBin dIx (mBin dIx (mVar 0) (mBin dIx (mVar 6) (mNeg (mC (.int 1))))) (mC (.int 1))))))
def mb_ring_of_2 : MS :=
    (msAsg (mBin dIx (mBin dIx (mVar 0) (mBin dDIx (mVar 3) (mVar 5))) (mC (.int 1))) (mgName 5))
def mb_ring_of_3 : MS :=
    (msIf (mTst (mBin dLt (mBin dAdd (mBin dDIx (mVar 2) (mVar 11)) (mVar 12)) (mBin dDIx (mVar 2) (mVar 10)))) (msSeq (msDPut (mVar 2) (mVar 10) (mBin dAdd (mBin dDIx (mVar 2) (mVar 11)) (mVar 12)))
    (msSeq (msDPut (mVar 3) (mVar 10) (mVar 9))
    (msAsg (mVar 10) (mgName 7)))) msNil)
def mb_ring_of_4 : MS :=
    (msSeq (msAsg (mC .non) (mgName 7))
    (msSeq (msFor (miEn (mCons (mVar 0) mNil)) (mgTup 2 (mgCons (mgName 9) (mgCons (mgTup 3 (mgCons (mgName 10) (mgCons (mgName 11) (mgCons (mgName 12) mgNil)))) mgNil))) mb_ring_of_3)
    (msIf (mTst (mBin (dIsN false) (mVar 7) (mC .non))) (msRet (mC .non)) msNil)))
def m_ring_of : MS :=
    (msSeq (msAsg (mSortV [10, 11, 12, 8] (miL (mVar 0)) (mgTup 3 (mgCons (mgName 10) (mgCons (mgName 11) (mgCons (mgName 12) mgNil)))) mYes (mbFor (miT (mTup (mCons (mVar 10) (mCons (mVar 11) mNil)))) (mgName 8) mYes [8] (mbS (mVar 8)))) (mgName 1))
    (msSeq (msAsg (mDcC [8] (miL (mVar 1)) (mgName 8) mYes (mVar 8) (mC (.int 0))) (mgName 2))
    (msSeq (msAsg mDnew (mgName 3))
    (msSeq (msFor (miR1 (mCons (mCall dLen (mCons (mVar 1) mNil)) mNil)) (mgName 4) mb_ring_of_4)
    (msSeq (msAsg (mVar 7) (mgName 5))
    (msSeq (msFor (miR1 (mCons (mCall dLen (mCons (mVar 1) mNil)) mNil)) (mgName 4) mb_ring_of_2)
    (msSeq (msAsg (mLstC (mCons (mBin dDIx (mVar 3) (mVar 5)) mNil)) (mgName 6))
    (msSeq (msWh 8192 mt_ring_of_0 mb_ring_of_1)
    (msRet (mCall dTuple (mCons (mVar 6) mNil)))))))))))
def F_ring_of : PF := runP N_ring_of.length m_ring_of
def N_System_ring : List Str := ["self"]
def m_System_ring : MS :=
    (msRet (mIf (mTst (mFld ["System"] "has_solution" (mVar 0))) (mC .non) (mCallP F_ring_of (mCons (mFld ["System"] "own_rows" (mVar 0)) mNil))))
def F_System_ring : PF := runP N_System_ring.length m_System_ring
def N_System_is_open : List Str := ["self"]
def m_System_is_open : MS :=
    (msRet (mFld ["System"] "has_solution" (mVar 0)))
def F_System_is_open : PF := runP N_System_is_open.length m_System_is_open
def N__law_pull : List Str := ["_law_bag", "_law_sides", "_law_seed", "_law_cell", "_law_digit"]
def m__law_pull : MS :=
    (msSeq (msAsg (mBin dAdd (mBin dIx (mVar 0) (mC (.int 4))) (mC (.int 1))) (mgSub (mVar 0) (mC (.int 4))))
    (msSeq (msIf (mAnd (mTst (mBin dEq (mBin dIx (mVar 0) (mC (.int 2))) (mC (.int 0)))) (mTst (mBin dLt (mBin dIx (mVar 0) (mC (.int 1))) (mCall dLen (mCons (mBin dIx (mVar 0) (mC (.int 0))) mNil))))) (msSeq (msAsg (mTup (mCons (mBin dIx (mBin dIx (mVar 0) (mC (.int 0))) (mBin dIx (mVar 0) (mC (.int 1)))) (mCons (mBin dAdd (mBin dIx (mVar 0) (mC (.int 1))) (mC (.int 1))) mNil))) (mgTup 2 (mgCons (mgName 3) (mgCons (mgSub (mVar 0) (mC (.int 1))) mgNil))))
    (msSeq (msIf (mTst (mBin dGe (mVar 3) (mBin dPow (mC (.int 10)) (mC (.int 18))))) (msAsg (mVar 3) (mgSub (mVar 0) (mC (.int 2)))) msNil)
    (msAsg (mBin dMod (mCall dInt (mCons (mBin dAdd (mBin dAdd (mBin dMul (mBin dIx (mVar 0) (mC (.int 3))) (mC (.int 38377))) (mBin dMul (mBin dMod (mCall dInt (mCons (mVar 3) mNil)) (mC (.int 2147483489))) (mC (.int 41143)))) (mC (.int 61))) mNil)) (mC (.int 2147483549))) (mgSub (mVar 0) (mC (.int 3)))))) msNil)
    (msSeq (msIf (mTst (mBin dGt (mBin dIx (mVar 0) (mC (.int 2))) (mC (.int 0)))) (msSeq (msAsg (mTup (mCons (mBin dMod (mCall dInt (mCons (mBin dIx (mVar 0) (mC (.int 2))) mNil)) (mVar 1)) (mCons (mBin dDiv (mBin dIx (mVar 0) (mC (.int 2))) (mVar 1)) mNil))) (mgTup 2 (mgCons (mgName 4) (mgCons (mgSub (mVar 0) (mC (.int 2))) mgNil))))
    (msRet (mVar 4))) msNil)
    (msSeq (msAsg (mBin dIx (mVar 0) (mC (.int 3))) (mgName 2))
    (msSeq (msAsg (mBin dMod (mCall dInt (mCons (mBin dAdd (mBin dAdd (mBin dAdd (mBin dPow (mVar 2) (mC (.int 3))) (mBin dMul (mVar 2) (mC (.int 37813)))) (mBin dMul (mBin dIx (mVar 0) (mC (.int 4))) (mC (.int 1299689)))) (mC (.int 65437))) mNil)) (mC (.int 2147483549))) (mgSub (mVar 0) (mC (.int 3))))
    (msRet (mBin dMod (mCall dInt (mCons (mBin dAdd (mBin dDiv (mBin dIx (mVar 0) (mC (.int 3))) (mC (.int 89))) (mBin dMul (mBin dMod (mCall dInt (mCons (mBin dIx (mVar 0) (mC (.int 3))) mNil)) (mC (.int 7919))) (mC (.int 71)))) mNil)) (mVar 1))))))))
def F__law_pull : IF := runI N__law_pull.length m__law_pull
def N__law_any : List Str := ["_law_bag", "_law_rows"]
def m__law_any : MS :=
    (msRet (mBin dIx (mVar 1) (mCallI F__law_pull (mCons (mVar 0) (mCons (mCall dLen (mCons (mVar 1) mNil)) mNil)))))
def F__law_any : IF := runI N__law_any.length m__law_any
def N__law_near : List Str := ["_law_bag"]
def m__law_near : MS :=
    (msRet (mCallI F__law_any (mCons (mVar 0) (mCons (mLst (mCons (mC (.int 0)) (mCons (mC (.int 1)) (mCons (mC (.int 1)) (mCons (mC (.int 2)) (mCons (mC (.int 3)) (mCons (mBin dSub (mC (.int 0)) (mC (.int 1))) (mCons (mBin dSub (mC (.int 0)) (mC (.int 2))) mNil)))))))) mNil))))
def F__law_near : IF := runI N__law_near.length m__law_near
def N__law_some_comparisons : List Str := ["_law_bag", "_law_many", "_law_names", "_law_great", "_law_k"]
def me__law_some_comparisons_0 : M D :=
    (mTup (mCons (mCallI F__law_any (mCons (mVar 0) (mCons (mVar 2) mNil))) (mCons (mCallI F__law_any (mCons (mVar 0) (mCons (mVar 2) mNil))) (mCons (mBin dMul (mCallI F__law_near (mCons (mVar 0) mNil)) (mVar 3)) mNil))))
def m__law_some_comparisons : MS :=
    (msSeq (msAsg (mLst (mCons (mC (.str [])) (mCons (mC (.str [97])) (mCons (mC (.str [98])) (mCons (mC (.str [49, 46, 107, 101, 121])) (mCons (mC (.str [50, 46, 101, 110, 100])) mNil)))))) (mgName 2))
    (msSeq (msAsg (mCallI F__law_any (mCons (mVar 0) (mCons (mLst (mCons (mC (.int 1)) (mCons (mC (.int 1)) (mCons (mC (.int 1)) (mCons (mBin dPow (mC (.int 10)) (mC (.int 29))) mNil))))) mNil))) (mgName 3))
    (msRet (mLc [4] (miR1 (mCons (mVar 1) mNil)) (mgName 4) mYes me__law_some_comparisons_0))))
def F__law_some_comparisons : IF := runI N__law_some_comparisons.length m__law_some_comparisons
def N_System_comparisons : List Str := ["self"]
def m_System_comparisons : MS :=
    (msRet (mListC (mCons (mFld ["System"] "own_rows" (mVar 0)) mNil)))
def F_System_comparisons : IF := runA N_System_comparisons.length m_System_comparisons
def N__law_like : List Str := ["_law_a", "_law_b", "_law_same", "_law_c", "_law_d"]
def m__law_like (F : PF) : MS :=
    (msSeq (msIf (mTst (mIsi [.lst, .tup] (mVar 1))) (msSeq (msAsg (mAndV (mBin dEq (mIsi [.lst] (mVar 0)) (mIsi [.lst] (mVar 1))) (mBin dEq (mIsi [.tup] (mVar 0)) (mIsi [.tup] (mVar 1)))) (mgName 2))
    (msRet (mAndV (mVar 2) (mAndV (mBin dEq (mCall dLen (mCons (mVar 0) mNil)) (mCall dLen (mCons (mVar 1) mNil))) (mCall dAll (mCons (mLc [3, 4] (miZip (mCons (mVar 0) (mCons (mVar 1) mNil))) (mgTup 2 (mgCons (mgName 3) (mgCons (mgName 4) mgNil))) mYes (mCallP F (mCons (mVar 3) (mCons (mVar 4) mNil)))) mNil)))))) msNil)
    (msSeq (msIf (mOr (mTst (mBin (dIsN false) (mVar 0) (mC .non))) (mOr (mTst (mBin (dIsN false) (mVar 1) (mC .non))) (mTst (mBin dNe (mIsi [.bool] (mVar 0)) (mIsi [.bool] (mVar 1)))))) (msRet (mAndV (mBin (dIsN false) (mVar 0) (mC .non)) (mBin (dIsN false) (mVar 1) (mC .non)))) msNil)
    (msRet (mAndV (mBin dEq (mIsi [.int] (mVar 0)) (mIsi [.int] (mVar 1))) (mAndV (mBin dEq (mIsi [.str] (mVar 0)) (mIsi [.str] (mVar 1))) (mBin dEq (mVar 0) (mVar 1)))))))
def F__law_like_ : Nat → PF
  | 0 => fun _ => none
  | t + 1 => runP N__law_like.length (m__law_like (F__law_like_ t))
def F__law_like : PF := F__law_like_ 30
def N__law_bounds : List Str := ["_law_rows", "_law_name", "_law_mid", "_law_names", "_law_best", "_law_left", "_law_right", "_law_k", "_law_way"]
def me__law_bounds_0 : M D :=
    (mBin dLt (mDixT (mVar 4) (mCons (mVar 1) (mCons (mVar 1) mNil))) (mC (.int 0)))
def mb__law_bounds_1 : MS :=
    (msIf (mAnd (mTst (mDinT false (mCons (mVar 5) (mCons (mVar 2) mNil)) (mVar 4))) (mTst (mDinT false (mCons (mVar 2) (mCons (mVar 6) mNil)) (mVar 4)))) (msSeq (msAsg (mBin dAdd (mDixT (mVar 4) (mCons (mVar 5) (mCons (mVar 2) mNil))) (mDixT (mVar 4) (mCons (mVar 2) (mCons (mVar 6) mNil)))) (mgName 8))
    (msDPutT (mVar 4) (mCons (mVar 5) (mCons (mVar 6) mNil)) (mCall dMin2 (mCons (mVar 8) (mCons (mDGet2T (mVar 4) (mCons (mVar 5) (mCons (mVar 6) mNil)) (mVar 8)) mNil))))) msNil)
def mb__law_bounds_2 : MS :=
    (msFor (miL (mVar 3)) (mgName 5) (msFor (miL (mVar 3)) (mgName 6) mb__law_bounds_1))
def mb__law_bounds_3 : MS :=
    (msDPutT (mVar 4) (mCons (mVar 5) (mCons (mVar 6) mNil)) (mCall dMin2 (mCons (mVar 7) (mCons (mDGet2T (mVar 4) (mCons (mVar 5) (mCons (mVar 6) mNil)) (mVar 7)) mNil))))
def mb__law_bounds_4 : MS :=
    (msDPutT (mVar 4) (mCons (mVar 1) (mCons (mVar 1) mNil)) (mC (.int 0)))
def m__law_bounds : MS :=
    (msSeq (msAsg (mTup (mCons (mLst (mCons (mC (.str [])) (mCons (mC (.str [97])) (mCons (mC (.str [98])) (mCons (mC (.str [49, 46, 107, 101, 121])) (mCons (mC (.str [50, 46, 101, 110, 100])) (mCons (mC (.str [122, 122])) mNil))))))) (mCons mDnewT mNil))) (mgTup 2 (mgCons (mgName 3) (mgCons (mgName 4) mgNil))))
    (msSeq (msFor (miL (mVar 3)) (mgName 1) mb__law_bounds_4)
    (msSeq (msFor (miL (mVar 0)) (mgTup 3 (mgCons (mgName 5) (mgCons (mgName 6) (mgCons (mgName 7) mgNil)))) mb__law_bounds_3)
    (msSeq (msFor (miL (mVar 3)) (mgName 2) mb__law_bounds_2)
    (msRet (mIf (mTst (mCall dAny (mCons (mLc [1] (miL (mVar 3)) (mgName 1) mYes me__law_bounds_0) mNil))) mDnewT (mVar 4)))))))
def F__law_bounds : PF := runP N__law_bounds.length m__law_bounds
def N_law : List Str := ["_law_script", "_law_bag", "_law_turn", "_law_alone", "_law_rows", "_law_system", "_law_ring", "_law_links", "_law_due", "_law_told", "_law_at", "_law_k", "_law_row"]
def me_law_0 : M D :=
    (mBin dEq (mBin dIx (mBin dIx (mVar 7) (mBin dSub (mVar 11) (mC (.int 1)))) (mC (.int 1))) (mBin dIx (mBin dIx (mVar 7) (mVar 11)) (mC (.int 0))))
def me_law_1 : M D :=
    (mChain dLe dLt (mC (.int 0)) (mVar 10) (mCall dLen (mCons (mVar 9) mNil)))
def mb_law_2 : MS :=
    (msSeq (msAsg (mCallI F__law_some_comparisons (mCons (mVar 1) (mCons (mBin dAdd (mC (.int 2)) (mCallI F__law_pull (mCons (mVar 1) (mCons (mC (.int 7)) mNil)))) mNil))) (mgName 4))
    (msSeq (msAsg (mMkP "System" [] F_System_init (mCons (mVar 4) mNil)) (mgName 5))
    (msSeq (msAsg (mTup (mCons (mBin dNeEmp (mCallP F__law_bounds (mCons (mVar 4) mNil)) mDnew) (mCons (mMeI "System" "comparisons" F_System_comparisons (mVar 5) mNil) mNil))) (mgTup 2 (mgCons (mgName 8) (mgCons (mgName 9) mgNil))))
    (msSeq (msIf (mNot (mTst (mCallP F__law_like (mCons (mLst (mCons (mPrp "System" F_System_is_open (mVar 5)) (mCons (mBin (dIsN false) (mMeP "System" "ring" F_System_ring (mVar 5) mNil) (mC .non)) mNil))) (mCons (mLst (mCons (mVar 8) (mCons (mVar 8) mNil))) mNil))))) (msRet (mC (.bl false))) msNil)
    (msSeq (msAsg (mMeP "System" "ring" F_System_ring (mVar 5) mNil) (mgName 6))
    (msSeq (msIf (mTst (mVar 8)) msCt msNil)
    (msSeq (msIf (mOr (mNot (mTst (mIsi [.tup] (mVar 6)))) (mOr (mTst (mBin dNe (mLenI (mVar 6)) (mCall dLen (mCons (mVar 6) mNil)))) (mOr (mNot (mTst (mCall dAll (mCons (mLc [10] (miT (mVar 6)) (mgName 10) mYes me_law_1) mNil)))) (mTst (mBin dEq (mVar 6) (mTup mNil)))))) (msRet (mC (.bl false))) msNil)
    (msSeq (msAsg (mLc [10] (miT (mVar 6)) (mgName 10) mYes (mBin dIx (mVar 9) (mVar 10))) (mgName 7))
    (msSeq (msIf (mOr (mTst (mBin dGe (mCall dSum (mCons (mLc [12] (miL (mVar 7)) (mgName 12) mYes (mBin dIx (mVar 12) (mC (.int 2)))) mNil)) (mC (.int 0)))) (mNot (mTst (mCallP F__law_like (mCons (mMeP "System" "ring" F_System_ring (mVar 5) mNil) (mCons (mVar 6) mNil)))))) (msRet (mC (.bl false))) msNil)
    (msIf (mNot (mTst (mCall dAll (mCons (mLc [11] (miR1 (mCons (mCall dLen (mCons (mVar 7) mNil)) mNil)) (mgName 11) mYes me_law_0) mNil)))) (msRet (mC (.bl false))) msNil))))))))))
def m_law : MS :=
    (msSeq (msAsg (mCallI F__law_draws (mCons (mVar 0) mNil)) (mgName 1))
    (msSeq (msFor (miR1 (mCons (mC (.int 8)) mNil)) (mgName 2) mb_law_2)
    (msSeq (msAsg (mMkP "System" [] F_System_init (mCons (mLst (mCons (mTup (mCons (mC (.str [97])) (mCons (mC (.str [97])) (mCons (mBin dSub (mC (.int 0)) (mC (.int 1))) mNil)))) mNil)) mNil)) (mgName 3))
    (msRet (mAndV (mBin dEq (mMeP "System" "ring" F_System_ring (mVar 3) mNil) (mTup (mCons (mC (.int 0)) mNil))) (mAndV (mNotV (mPrp "System" F_System_is_open (mVar 3))) (mAndV (mPrp "System" F_System_is_open (mMkP "System" [] F_System_init (mCons (mLst (mCons (mTup (mCons (mC (.str [97])) (mCons (mC (.str [97])) (mCons (mC (.int 0)) mNil)))) mNil)) mNil))) (mBin (dIsN false) (mMeP "System" "ring" F_System_ring (mMkP "System" [(.tup [])] F_System_init mNil) mNil) (mC .non)))))))))
def F_law : IF := runI N_law.length m_law
end SZ
namespace SZ
open PySem PD
theorem sq_then {a b : MS} {ε ε1 : Ev} {h h1 : EH} (e : a ε h = some (.nx ε1, h1)) : msSeq a b ε h = b ε1 h1 := by
  show sq (a ε h) b = _
  rw [e]
  exact sq_nx b
theorem forL_run {α σ : Type} {g : MG} {b : MS} (q : α → D) (f : σ → α → σ) (I : σ → Ev → EH → Prop) : ∀ (xs : List α), (∀ s x ε h, x ∈ xs → I s ε h → ∃ ε1 h1 ε2 h2, g (q x) ε h = some (ε1, h1) ∧ b ε1 h1 = some (.nx ε2, h2) ∧ I (f s x) ε2 h2) →
    ∀ s ε h, I s ε h → ∃ ε' h', forL g b (xs.map q) ε h = some (.nx ε', h') ∧ I (xs.foldl f s) ε' h'
  | [], _, s, ε, h, i => ⟨ε, h, rfl, i⟩
  | x :: xs, H, s, ε, h, i => by
    obtain ⟨ε1, h1, ε2, h2, e1, e2, i2⟩ := H s x ε h List.mem_cons_self i
    obtain ⟨ε', h', e3, i3⟩ := forL_run q f I xs (fun s y ε h hy => H s y ε h (List.mem_cons_of_mem _ hy)) _ _ _ i2
    refine ⟨ε', h', ?_, i3⟩
    rw [List.map_cons, forL_nx e1 e2, e3]
theorem lcL_mapf {α : Type} {g : MG} {t : M Bool} {e : M D} (q f : α → D) {ε : Ev} {h : EH} : ∀ {xs : List α}, (∀ x ∈ xs, ∃ ε1, g (q x) ε h = some (ε1, h) ∧ t ε1 h = some (.ok true, h) ∧ e ε1 h = some (.ok (f x), h)) → lcL g t e (xs.map q) ε h = some (xs.map f, h)
  | [], _ => rfl
  | x :: xs, H => by
    obtain ⟨ε1, h1, h2, h3⟩ := H x List.mem_cons_self
    have ih := lcL_mapf (xs := xs) q f fun x hx => H x (List.mem_cons_of_mem _ hx)
    rw [List.map_cons]
    unfold lcL
    simp only [h1, h2, h3, ih, List.map_cons]
theorem lcL_filf {α : Type} {g : MG} {t : M Bool} {e : M D} (q f : α → D) (p : α → Bool) {ε : Ev} {h : EH} : ∀ {xs : List α}, (∀ x ∈ xs, ∃ ε1, g (q x) ε h = some (ε1, h) ∧ t ε1 h = some (.ok (p x), h) ∧ (p x = true → e ε1 h = some (.ok (f x), h))) → lcL g t e (xs.map q) ε h = some ((xs.filter p).map f, h)
  | [], _ => rfl
  | x :: xs, H => by
    obtain ⟨ε1, h1, h2, h3⟩ := H x List.mem_cons_self
    have ih := lcL_filf (xs := xs) q f p fun x hx => H x (List.mem_cons_of_mem _ hx)
    rw [List.map_cons]
    unfold lcL
    cases z : p x with
    | true =>
      rw [z] at h2
      simp only [h1, h2, h3 z, ih, List.filter_cons, z, if_true, List.map_cons]
    | false =>
      rw [z] at h2
      simp only [h1, h2, ih, List.filter_cons, z, Bool.false_eq_true, if_false]
theorem lkK_none {k : List L2.Key} : ∀ {kvs : List (List L2.Key × D)}, (kvs.any fun p => decide (p.1 = k)) = false → lkK k kvs = none
  | [], _ => rfl
  | p :: r, h => by
    rw [List.any_cons, Bool.or_eq_false_iff] at h
    unfold lkK
    rw [if_neg (of_decide_eq_false h.1)]
    exact lkK_none h.2
theorem lkK_app {k k' : List L2.Key} {d : D} : ∀ {kvs : List (List L2.Key × D)}, lkK k (kvs ++ [(k', d)]) = (lkK k kvs).or (if k' = k then some d else none)
  | [] => by
    show (if k' = k then some d else none) = _
    rw [show lkK k ([] : List (List L2.Key × D)) = none from rfl]
    rfl
  | p :: r => by
    rw [List.cons_append]
    unfold lkK
    by_cases q : p.1 = k
    · rw [if_pos q, if_pos q]; rfl
    · rw [if_neg q, if_neg q]
      exact lkK_app
theorem lkK_map {k k' : List L2.Key} {d : D} : ∀ {kvs : List (List L2.Key × D)}, (kvs.any fun p => decide (p.1 = k')) = true → lkK k (kvs.map fun p => if p.1 = k' then (p.1, d) else p) = if k = k' then some d else lkK k kvs
  | [], h => by cases h
  | p :: r, h => by
    rw [List.map_cons]
    by_cases q : p.1 = k'
    · rw [if_pos q]
      unfold lkK
      by_cases z : p.1 = k
      · rw [if_pos z, if_pos z, if_pos (z.symm.trans q)]
      · have nk : k ≠ k' := fun e => z (q.trans e.symm)
        rw [if_neg z, if_neg z, if_neg nk]
        cases hr : (r.any fun p => decide (p.1 = k')) with
        | true => rw [lkK_map hr, if_neg nk]
        | false =>
          have : (r.map fun p => if p.1 = k' then (p.1, d) else p) = r := by
            conv => rhs; rw [← List.map_id r]
            refine List.map_congr_left fun p hp => ?_
            have := List.any_eq_false.mp hr p hp
            rw [if_neg (by simpa using this)]; rfl
          rw [this]
    · rw [if_neg q]
      rw [List.any_cons, decide_eq_false q, Bool.false_or] at h
      unfold lkK
      by_cases z : p.1 = k
      · have nk : k ≠ k' := fun e => q (z.trans e)
        rw [if_pos z, if_pos z, if_neg nk]
      · rw [if_neg z, if_neg z, lkK_map h]
theorem lkK_put {k k' : List L2.Key} {d : D} {kvs : List (List L2.Key × D)} : lkK k (putKD k' d kvs) = if k = k' then some d else lkK k kvs := by
  unfold putKD
  by_cases h : (kvs.any fun p => decide (p.1 = k')) = true
  · rw [if_pos h, lkK_map h]
  · rw [if_neg h, lkK_app]
    have hn : lkK k' kvs = none := lkK_none (Bool.of_not_eq_true h)
    by_cases e : k = k'
    · subst e
      rw [hn]; simp
    · rw [if_neg e, if_neg (Ne.symm e)]
      cases lkK k kvs <;> rfl
theorem keys_map {k' : List L2.Key} {d : D} (kvs : List (List L2.Key × D)) : (kvs.map fun p => if p.1 = k' then (p.1, d) else p).map (·.1) = kvs.map (·.1) := by
  rw [List.map_map]
  refine List.map_congr_left fun p _ => ?_
  show (if p.1 = k' then (p.1, d) else p).1 = p.1
  split <;> rfl
theorem put_nd {k' : List L2.Key} {d : D} {kvs : List (List L2.Key × D)} (h : (kvs.map (·.1)).Nodup) : ((putKD k' d kvs).map (·.1)).Nodup := by
  unfold putKD
  by_cases q : (kvs.any fun p => decide (p.1 = k')) = true
  · rw [if_pos q, keys_map]; exact h
  · rw [if_neg q, List.map_append]
    refine List.nodup_append.mpr ⟨h, List.nodup_cons.mpr ⟨List.not_mem_nil, List.nodup_nil⟩, fun a ha b hb e => ?_⟩
    rw [List.map_cons, List.map_nil, List.mem_singleton] at hb
    subst hb
    obtain ⟨p, hp, e2⟩ := List.mem_map.mp ha
    refine q (List.any_eq_true.mpr ⟨p, hp, decide_eq_true ?_⟩)
    exact e2.trans e
theorem put_mem {k' : List L2.Key} {d : D} {kvs : List (List L2.Key × D)} {p : List L2.Key × D} (h : p ∈ putKD k' d kvs) : p ∈ kvs ∨ p = (k', d) := by
  unfold putKD at h
  split at h
  · obtain ⟨z, hz, e⟩ := List.mem_map.mp h
    skip
    split at e
    · rename_i q; subst e; rw [q]; exact .inr rfl
    · subst e; exact .inl hz
  · rcases List.mem_append.mp h with h | h
    · exact .inl h
    · exact .inr (List.mem_singleton.mp h)
theorem lkK_mem {k : List L2.Key} {d : D} : ∀ {kvs : List (List L2.Key × D)}, lkK k kvs = some d → (k, d) ∈ kvs
  | [], h => nomatch h
  | p :: r, h => by
    unfold lkK at h
    split at h
    · rename_i q; cases h; rw [← q]; exact List.mem_cons_self
    · exact List.mem_cons_of_mem _ (lkK_mem h)
theorem lkK_of_mem {k : List L2.Key} {d : D} : ∀ {kvs : List (List L2.Key × D)}, (kvs.map (·.1)).Nodup → (k, d) ∈ kvs → lkK k kvs = some d
  | [], _, h => nomatch h
  | p :: r, nd, h => by
    unfold lkK
    rw [List.map_cons] at nd
    have nd := List.nodup_cons.mp nd
    rcases List.mem_cons.mp h with h | h
    · subst h; exact if_pos rfl
    · rw [if_neg (fun e => nd.1 (by rw [e]; exact List.mem_map_of_mem (f := (·.1)) h))]
      exact lkK_of_mem nd.2 h
theorem gp_mem : ∀ {kvs : List (List L2.Key × D)}, (∀ p ∈ kvs, PD.noRef p.2 = true) → PD.noRef.gp kvs = true
  | [], _ => rfl
  | (k, d) :: kvs, h => by
    show (PD.noRef d && PD.noRef.gp kvs) = true
    rw [h (k, d) List.mem_cons_self, gp_mem fun p hp => h p (List.mem_cons_of_mem _ hp)]
    rfl
abbrev Nm := List Nat
abbrev ky (z : Nm) : L2.Key := .inr (toS z)
theorem ky_inj {a b : Nm} : ky a = ky b ↔ a = b := ⟨fun h => toS_inj (Sum.inr.inj h), fun h => by rw [h]⟩
theorem ky2_inj {a b c d : Nm} : [ky a, ky b] = [ky c, ky d] ↔ a = c ∧ b = d := by
  constructor
  · intro h
    injection h with h1 h2
    injection h2 with h2 _
    exact ⟨ky_inj.mp h1, ky_inj.mp h2⟩
  · rintro ⟨rfl, rfl⟩; rfl
structure BdR (S : List Nm) (kvs : List (List L2.Key × D)) (b : SY.Bd Nm) : Prop where
  at_ : ∀ i j, lkK [ky i, ky j] kvs = (b i j).map .int
  nd : (kvs.map (·.1)).Nodup
  mem : ∀ p ∈ kvs, ∃ i ∈ S, ∃ j ∈ S, ∃ x, p = ([ky i, ky j], .int x)
section
variable {S : List Nm} {kvs : List (List L2.Key × D)} {b : SY.Bd Nm} {i j : Nm} {v : Int}
theorem bdr_nil : BdR S [] fun _ _ => none := ⟨fun _ _ => rfl, List.nodup_nil, fun _ h => nomatch h⟩
theorem BdR.len (R : BdR S kvs b) : kvs.length ≤ S.length * S.length := by
  have h := SY.nodup_sub (kvs.map (·.1)) (S.flatMap fun i => S.map fun j => [ky i, ky j]) R.nd fun k hk => by
    obtain ⟨p, hp, rfl⟩ := List.mem_map.mp hk
    obtain ⟨i, hi, j, hj, x, e⟩ := R.mem p hp
    rw [e]
    exact List.mem_flatMap.mpr ⟨i, hi, List.mem_map_of_mem hj⟩
  have hl : ∀ T : List Nm, (T.flatMap fun i => S.map fun j => [ky i, ky j]).length = T.length * S.length := by
    intro T
    induction T with
    | nil => simp
    | cons a T ih => rw [List.flatMap_cons, List.length_append, ih, List.length_map, List.length_cons, Nat.succ_mul]; omega
  rw [List.length_map, hl] at h
  exact h
theorem BdR.put (R : BdR S kvs b) (hi : i ∈ S) (hj : j ∈ S) : BdR S (putKD [ky i, ky j] (.int v) kvs) (SY.put b i j v) := by
  refine ⟨fun p q => ?_, put_nd R.nd, fun p hp => ?_⟩
  · rw [lkK_put]
    unfold SY.put
    by_cases e : p = i ∧ q = j
    · rw [if_pos (ky2_inj.mpr e), if_pos e]; rfl
    · rw [if_neg (fun z => e (ky2_inj.mp z)), if_neg e]; exact R.at_ p q
  · rcases put_mem hp with h | h
    · exact R.mem p h
    · exact ⟨i, hi, j, hj, v, h⟩
theorem BdR.in_ (R : BdR S kvs b) {x : Int} (e : b i j = some x) : i ∈ S ∧ j ∈ S := by
  have h := R.at_ i j
  rw [e] at h
  obtain ⟨p, hp, q, hq, y, e2⟩ := R.mem _ (lkK_mem h)
  have := ky2_inj.mp (congrArg Prod.fst e2)
  rw [this.1, this.2]
  exact ⟨hp, hq⟩
theorem BdR.no (R : BdR S kvs b) : PD.noRef.gp kvs = true := gp_mem fun p hp => by
  obtain ⟨i, _, j, _, x, e⟩ := R.mem p hp
  rw [e]; rfl
section
variable {ε : Ev} {h : EH} {n : Nat} {a o v' e : M D} {k : M (List D)}
theorem kz_run (ek : k ε h = some (.ok [.str i, .str j], h)) : mKz k ε h = some (.ok [ky i, ky j], h) := by
  unfold mKz
  rw [ek, bR_ok]
  rfl
theorem tget_run (hn : h[n]? = some (.dic true kvs)) (R : BdR S kvs b) : tGet h (.ref n) [ky i, ky j] = some ((b i j).map .int) := by
  unfold tGet asDicT
  dsimp only
  rw [hn]
  dsimp only
  rw [Option.map_some, R.at_]
theorem dixT_run (ea : a ε h = some (.ok (.ref n), h)) (ek : k ε h = some (.ok [.str i, .str j], h)) (hn : h[n]? = some (.dic true kvs)) (R : BdR S kvs b) {x : Int} (hx : b i j = some x) : mDixT a k ε h = some (.ok (.int x), h) := by
  unfold mDixT
  rw [ea, bR_ok, kz_run ek, bR_ok, tget_run hn R, hx]
  rfl
theorem dinT_run (ea : a ε h = some (.ok (.ref n), h)) (ek : k ε h = some (.ok [.str i, .str j], h)) (hn : h[n]? = some (.dic true kvs)) (R : BdR S kvs b) : mTst (mDinT false k a) ε h = some (.ok (b i j).isSome, h) := by
  rw [tst_ap]
  unfold mDinT
  rw [kz_run ek, bR_ok, ea, bR_ok, tget_run hn R]
  cases b i j <;> rfl
theorem dget2T_run (ea : a ε h = some (.ok (.ref n), h)) (ek : k ε h = some (.ok [.str i, .str j], h)) (hn : h[n]? = some (.dic true kvs)) (R : BdR S kvs b) {z : Int} (ez : e ε h = some (.ok (.int z), h)) : mDGet2T a k e ε h = some (.ok (.int ((b i j).getD z)), h) := by
  unfold mDGet2T
  rw [ea, bR_ok]
  have : asDicT h (.ref n) = some kvs := by unfold asDicT; dsimp only; rw [hn]
  rw [this]
  dsimp only
  rw [kz_run ek, bR_ok, ez, bR_ok, tget_run hn R]
  cases b i j <;> rfl
theorem dputT_run (ev : v' ε h = some (.ok (.int v), h)) (ea : a ε h = some (.ok (.ref n), h)) (ek : k ε h = some (.ok [.str i, .str j], h)) (hn : h[n]? = some (.dic true kvs)) (R : BdR S kvs b) (l : S.length ≤ 1000) : msDPutT a k v' ε h = some (.nx ε, h.set n (.dic true (putKD [ky i, ky j] (.int v) kvs))) := by
  unfold msDPutT
  rw [ev, bS_ok, ea, bS_ok, kz_run ek, bS_ok]
  unfold putDcT
  dsimp only
  rw [hn]
  dsimp only
  have := R.len
  have := Nat.mul_le_mul l l
  rw [if_pos (by omega)]
  rfl
end
end
theorem min2_int {h : EH} (i j : Int) : dMin2 h [.int i, .int j] = some (.int (min i j)) := by
  show some (D.int (if j < i then j else i)) = _
  by_cases q : j < i
  · rw [if_pos q, Int.min_eq_right (Int.le_of_lt q)]
  · rw [if_neg q, Int.min_eq_left (Int.not_lt.mp q)]
abbrev Row := Nm × Nm × Int
def rowC (r : Row) : D := .tup [.str r.1, .str r.2.1, .int r.2.2]
def dst (b : SY.Bd Nm) (i : Nm) : SY.Bd Nm := SY.put b i i 0
def est (b : SY.Bd Nm) (r : Row) : SY.Bd Nm := SY.put b r.1 r.2.1 (min r.2.2 ((b r.1 r.2.1).getD r.2.2))
def bd0 (ns : List Nm) (rows : List Row) : SY.Bd Nm := rows.foldl est (ns.foldl dst fun _ _ => none)
theorem dst_self {C : List Row} : ∀ (ns : List Nm) (b : SY.Bd Nm), SY.Sound C b → SY.Sound C (ns.foldl dst b) ∧ (∀ i, (i ∈ ns ∨ b i i = some 0) → ns.foldl dst b i i = some 0)
  | [], b, s => ⟨s, fun i h => h.elim (fun z => nomatch z) id⟩
  | n :: ns, b, s => by
    obtain ⟨h1, h2⟩ := dst_self ns (dst b n) (SY.put_sound s (.nil n))
    refine ⟨h1, fun i h => h2 i ?_⟩
    by_cases q : i = n
    · subst q; exact .inr SY.put_same
    · rcases h with h | h
      · exact .inl ((List.mem_cons.mp h).resolve_left q)
      · refine .inr ?_
        unfold dst SY.put
        rw [if_neg fun z => q z.1]; exact h
theorem est_mono (b : SY.Bd Nm) (r : Row) : SY.Mono b (est b r) := SY.put_mono fun x e => by
  rw [e]
  show min r.2.2 x ≤ x
  omega
theorem est_sound {C : List Row} {b : SY.Bd Nm} {r : Row} (s : SY.Sound C b) (h : r ∈ C) : SY.Sound C (est b r) := by
  refine SY.put_sound s ?_
  obtain ⟨i, j, k⟩ := r
  dsimp only
  cases e : b i j with
  | none => rw [show min k ((none : Option Int).getD k) = k from by simp]; exact .one h
  | some x =>
    rw [show (some x : Option Int).getD k = x from rfl]
    rcases Int.le_total k x with q | q
    · rw [Int.min_eq_left q]; exact .one h
    · rw [Int.min_eq_right q]; exact s _ _ _ e
theorem ests {C : List Row} : ∀ (rows : List Row) (b : SY.Bd Nm), (∀ r ∈ rows, r ∈ C) → SY.Sound C b → SY.Sound C (rows.foldl est b) ∧ SY.Mono b (rows.foldl est b) ∧ ∀ r ∈ rows, ∃ z, rows.foldl est b r.1 r.2.1 = some z ∧ z ≤ r.2.2
  | [], b, _, s => ⟨s, .refl b, fun _ h => nomatch h⟩
  | r :: rows, b, h, s => by
    obtain ⟨h1, h2, h3⟩ := ests rows (est b r) (fun x hx => h x (List.mem_cons_of_mem _ hx)) (est_sound s (h r List.mem_cons_self))
    refine ⟨h1, (est_mono b r).trans h2, fun x hx => ?_⟩
    rcases List.mem_cons.mp hx with rfl | hx
    · obtain ⟨y, e, l⟩ := h2 _ _ _ (show est b x x.1 x.2.1 = some _ from SY.put_same)
      exact ⟨y, e, by omega⟩
    · exact h3 x hx
theorem start_ok (ns : List Nm) (rows : List Row) : SY.Start rows ns (bd0 ns rows) := by
  obtain ⟨d1, d2⟩ := dst_self (C := rows) ns (fun _ _ => none) (fun _ _ _ e => nomatch e)
  obtain ⟨h1, h2, h3⟩ := ests (C := rows) rows _ (fun _ h => h) d1
  refine ⟨h1, fun i hi => ?_, fun i j c h => h3 _ h⟩
  obtain ⟨y, e, l⟩ := h2 i i 0 (d2 i (.inl hi))
  exact ⟨y, e, l⟩
end SZ
namespace SZ
open PySem PD
section
variable {ε : Ev} {h : EH} {a b m1 m2 : M D} {x y : Int}
theorem add_run (ea : a ε h = some (.ok (.int x), h)) (eb : b ε h = some (.ok (.int y), h)) : mBin dAdd a b ε h = some (.ok (.int (x + y)), h) := by
  rw [bin_ap, ea, bR_ok, binK1_ap, eb, bR_ok, binK2_ap, add_int]; rfl
theorem minget_run (e1 : m1 ε h = some (.ok (.int x), h)) (e2 : m2 ε h = some (.ok (.int y), h)) : mCall dMin2 (mCons m1 (mCons m2 mNil)) ε h = some (.ok (.int (min x y)), h) := by
  rw [call_ap, cons_ap, e1, bR_ok, consK1_ap, cons_ap, e2, bR_ok, consK1_ap, nil_ap, bR_ok, consK2_ap, bR_ok, consK2_ap, bR_ok, callK_ap, min2_int]; rfl
theorem asg_run {d : D} {i : Nat} (e : a ε h = some (.ok d, h)) : msAsg a (mgName i) ε h = some (.nx (ε.set i (some d)), h) := by
  rw [asg_ap, e, bS_ok, asgK_ap, gname_ap, bG_ok]
theorem for_run {mi : M (List D)} {g : MG} {bd : MS} {ds : List D} {r : Option (RS × EH)} (e : mi ε h = some (.ok ds, h)) (e2 : forL g bd ds ε h = r) : msFor mi g bd ε h = r := by
  rw [for_ap, e, bS_ok, forK_ap, e2]
end
theorem insU_le {x : Nm} : ∀ {l : List Nm}, (insU x l).length ≤ l.length + 1
  | [] => Nat.le_refl _
  | y :: l => by
    unfold insU
    have := insU_le (x := x) (l := l)
    repeat (first | split | (simp only [List.length_cons]; omega))
theorem srtU_le : ∀ {l : List Nm}, (srtU l).length ≤ l.length
  | [] => Nat.le_refl _
  | y :: l => by
    show (insU y (srtU l)).length ≤ _
    have := insU_le (x := y) (l := srtU l)
    have := srtU_le (l := l)
    rw [List.length_cons]; omega
theorem lpB_filf {α : Type} {g : MG} {t : M Bool} {b : MB} (q : α → D) (f : α → List D) (p : α → Bool) {ε : Ev} {h : EH} : ∀ {xs : List α}, (∀ x ∈ xs, ∃ ε1, g (q x) ε h = some (ε1, h) ∧ t ε1 h = some (.ok (p x), h) ∧ (p x = true → b ε1 h = some (f x, h))) → lpB g t b ε (xs.map q) h = some ((xs.filter p).flatMap f, h)
  | [], _ => rfl
  | x :: xs, H => by
    obtain ⟨ε1, h1, h2, h3⟩ := H x List.mem_cons_self
    have ih := lpB_filf (xs := xs) q f p fun y hy => H y (List.mem_cons_of_mem _ hy)
    rw [List.map_cons]
    unfold lpB
    cases z : p x with
    | true =>
      rw [z] at h2
      simp only [h1, h2, h3 z, ih, List.filter_cons, z, if_true, List.flatMap_cons]
    | false =>
      rw [z] at h2
      simp only [h1, h2, ih, List.filter_cons, z, Bool.false_eq_true, if_false]
theorem flat_sing (zs : List Nm) : (zs.flatMap fun z => [D.str z]) = zs.map .str := by
  induction zs with
  | nil => rfl
  | cons z zs ih => rw [List.flatMap_cons, ih]; rfl
/-- the names of rows, but the empty one where so told -/
def nz (p : Nm → Bool) (rows : List Row) : List Nm := rows.flatMap fun r => [r.1, r.2.1].filter p
theorem nz_mem {p : Nm → Bool} {rows : List Row} {z : Nm} : z ∈ nz p rows ↔ ∃ r ∈ rows, (z = r.1 ∨ z = r.2.1) ∧ p z = true := by
  unfold nz
  simp only [List.mem_flatMap, List.mem_filter, List.mem_cons, List.not_mem_nil, or_false]
theorem nz_len (p : Nm → Bool) : ∀ rows : List Row, (nz p rows).length ≤ 2 * rows.length
  | [] => Nat.le_refl _
  | r :: rows => by
    have := nz_len p rows
    have h2 : ([r.1, r.2.1].filter p).length ≤ 2 := List.length_filter_le p [r.1, r.2.1]
    unfold nz at this ⊢
    rw [List.flatMap_cons, List.length_append, List.length_cons]
    omega
theorem sortV_run {ε : Ev} {h : EH} {vs : List Nat} {mi : M (List D)} {g : MG} {b : MB} {ds : List D} {zs : List Nm} (e : mi ε h = some (.ok ds, h)) (q : lpB g mYes b (wipeE ε vs) ds h = some (zs.map .str, h)) (l : zs.length ≤ 4000) : mSortV vs mi g mYes b ε h = some (.ok (.lst ((srtU zs).map .str)), h) := by
  unfold mSortV
  rw [e, bR_ok, q]
  dsimp only
  rw [asTs_map]
  dsimp only
  rw [if_pos (by unfold scanBound; omega)]
theorem nz_map (p : Nm → Bool) (rows : List Row) : (rows.flatMap fun r => ([r.1, r.2.1].filter p).map D.str) = (nz p rows).map .str := by
  unfold nz
  rw [List.map_flatMap]
def ne0 (z : Nm) : Bool := !decide (z = [])
def nms (rows : List Row) : List Nm := [] :: srtU (nz ne0 rows)
theorem nms_len {rows : List Row} (l : rows.length ≤ 100) : (nms rows).length ≤ 201 := by
  unfold nms
  have := srtU_le (l := nz ne0 rows)
  have := nz_len ne0 rows
  rw [List.length_cons]; omega
theorem nms_in {rows : List Row} {i j : Nm} {c : Int} (h : (i, j, c) ∈ rows) : i ∈ nms rows ∧ j ∈ nms rows := by
  have key : ∀ z, (z = i ∨ z = j) → z ∈ nms rows := fun z hz => by
    by_cases q : z = []
    · rw [q]; exact List.mem_cons_self
    · exact List.mem_cons_of_mem _ (srtU_mem.mpr (nz_mem.mpr ⟨_, h, hz, by unfold ne0; rw [decide_eq_false q]; rfl⟩))
  exact ⟨key i (.inl rfl), key j (.inr rfl)⟩
/-- the ways through m -/
def prs (hs ts : List Nm) : List (Nm × Nm) := hs.flatMap fun i => ts.map fun j => (i, j)
def passP (ns : List Nm) (b : SY.Bd Nm) (m : Nm) : SY.Bd Nm := (prs (ns.filter fun i => (b i m).isSome) (ns.filter fun j => (b m j).isSome)).foldl (SY.rstep m) b
def passL (ns : List Nm) (b : SY.Bd Nm) (m : Nm) : SY.Bd Nm := (prs ns ns).foldl (SY.rstep m) b
theorem prs_mem {hs ts : List Nm} {i j : Nm} (hi : i ∈ hs) (hj : j ∈ ts) : (i, j) ∈ prs hs ts := List.mem_flatMap.mpr ⟨i, hi, List.mem_map_of_mem hj⟩
theorem passP_ok {C : List Row} {ns : List Nm} : ∀ (ms : List Nm) (b : SY.Bd Nm), SY.Passes C ns ms b (ms.foldl (passP ns) b)
  | [], b => .nil b
  | m :: ms, b => .cons (SY.pass_fold _ fun i hi j hj h1 h2 => prs_mem (List.mem_filter.mpr ⟨hi, Option.isSome_iff_ne_none.mpr h1⟩) (List.mem_filter.mpr ⟨hj, Option.isSome_iff_ne_none.mpr h2⟩)) (passP_ok ms _)
theorem passL_ok {C : List Row} {ns : List Nm} : ∀ (ms : List Nm) (b : SY.Bd Nm), SY.Passes C ns ms b (ms.foldl (passL ns) b)
  | [], b => .nil b
  | m :: ms, b => .cons (SY.pass_fold _ fun i hi j hj _ _ => prs_mem hi hj) (passL_ok ms _)
theorem prs_fold (g : SY.Bd Nm → Nm × Nm → SY.Bd Nm) (hs ts : List Nm) (b : SY.Bd Nm) : (prs hs ts).foldl g b = hs.foldl (fun b i => ts.foldl (fun b j => g b (i, j)) b) b := by
  unfold prs
  rw [List.foldl_flatMap]
  congr 1
  funext b i
  rw [List.foldl_map]
theorem rstep_some {b : SY.Bd Nm} {m i j : Nm} {x y : Int} (h1 : b i m = some x) (h2 : b m j = some y) : SY.rstep m b (i, j) = SY.put b i j (min (x + y) ((b i j).getD (x + y))) := by
  unfold SY.rstep
  simp only [h1, h2]
abbrev E13 (rd nd : D) (r : Ev) : Ev := some rd :: some (.ref 0) :: some nd :: r
def I13 (S : List Nm) (rd nd : D) (b : SY.Bd Nm) (ε : Ev) (h : EH) : Prop := (∃ r : Ev, ε = E13 rd nd r ∧ r.length = 10) ∧ ∃ kvs, h = [.dic true kvs] ∧ BdR S kvs b
def J13 (S : List Nm) (rd nd hd td : D) (m : Nm) (b0 b : SY.Bd Nm) (ε : Ev) (h : EH) : Prop := (∃ r3 r5 r6 r7 r10 r11 r12 : Option D, ε = [some rd, some (.ref 0), some nd, r3, some (.str m), r5, r6, r7, some hd, some td, r10, r11, r12]) ∧ SY.Mono b0 b ∧ ∃ kvs, h = [.dic true kvs] ∧ BdR S kvs b
theorem closed_in {S : List Nm} {rd nd hd td : D} {m i j : Nm} {b : SY.Bd Nm} {x y : Int} {r3 r5 r6 r7 r12 : Option D} {kvs : List (List L2.Key × D)} (hi : i ∈ S) (hj : j ∈ S) (l : S.length ≤ 1000) (h1 : b i m = some x) (h2 : b m j = some y) (R : BdR S kvs b) :
    mb_closed_0 [some rd, some (.ref 0), some nd, r3, some (.str m), r5, r6, r7, some hd, some td, some (.str i), some (.str j), r12] [.dic true kvs] = some (.nx [some rd, some (.ref 0), some nd, r3, some (.str m), r5, r6, r7, some hd, some td, some (.str i), some (.str j), some (.int (x + y))], [.dic true (putKD [ky i, ky j] (.int (min (x + y) ((b i j).getD (x + y)))) kvs)]) := by
  unfold mb_closed_0
  rw [sq_then (asg_run (add_run (dixT_run (n := 0) rfl rfl rfl R h1) (dixT_run (n := 0) rfl rfl rfl R h2)))]
  exact dputT_run (n := 0) (minget_run rfl (dget2T_run (n := 0) rfl rfl rfl R rfl)) rfl rfl rfl R l
theorem closed_pass {S : List Nm} {rd : D} {m : Nm} {b : SY.Bd Nm} {ε : Ev} {h : EH} (hm : m ∈ S) (l : S.length ≤ 1000) (I : I13 S rd (.lst (S.map .str)) b ε h) : ∃ ε1 h1 ε2 h2, mgName 4 (.str m) ε h = some (ε1, h1) ∧ mb_closed_3 ε1 h1 = some (.nx ε2, h2) ∧ I13 S rd (.lst (S.map .str)) (passP S b m) ε2 h2 := by
  obtain ⟨⟨r, rfl, hr⟩, kvs, rfl, R⟩ := I
  match r, hr with
  | [r3, r4, r5, r6, r7, r8, r9, r10, r11, r12], _ =>
  obtain ⟨hs, hhs⟩ : ∃ hs, hs = S.filter fun i => (b i m).isSome := ⟨_, rfl⟩
  obtain ⟨ts, hts⟩ : ∃ ts, ts = S.filter fun j => (b m j).isSome := ⟨_, rfl⟩
  have lh : hs.length ≤ 1000 := by rw [hhs]; exact Nat.le_trans (List.length_filter_le _ _) l
  have lt : ts.length ≤ 1000 := by rw [hts]; exact Nat.le_trans (List.length_filter_le _ _) l
  have k1 : ∀ x8 x9 : Option D, mLc [3] (miL (mVar 2)) (mgName 3) mt_closed_2 (mVar 3) [some rd, some (.ref 0), some (.lst (S.map .str)), r3, some (.str m), r5, r6, r7, x8, x9, r10, r11, r12] [.dic true kvs] = some (.ok (.lst (hs.map .str)), [.dic true kvs]) := fun x8 x9 => by
    rw [lc_ap]
    refine (congrArg (bR · _) (show miL (mVar 2) _ _ = some (.ok (S.map .str), [.dic true kvs]) from rfl)).trans ?_
    rw [bR_ok, hhs]
    refine lcK_ok (lcL_filf (xs := S) D.str D.str (fun i => (b i m).isSome) fun i hi => ⟨[some rd, some (.ref 0), some (.lst (S.map .str)), some (.str i), some (.str m), r5, r6, r7, x8, x9, r10, r11, r12], rfl, ?_, fun _ => rfl⟩) (by rw [List.length_map, ← hhs]; omega)
    exact dinT_run (n := 0) rfl rfl rfl R
  have k2 : ∀ x8 x9 : Option D, mLc [3] (miL (mVar 2)) (mgName 3) mt_closed_1 (mVar 3) [some rd, some (.ref 0), some (.lst (S.map .str)), r3, some (.str m), r5, r6, r7, x8, x9, r10, r11, r12] [.dic true kvs] = some (.ok (.lst (ts.map .str)), [.dic true kvs]) := fun x8 x9 => by
    rw [lc_ap]
    refine (congrArg (bR · _) (show miL (mVar 2) _ _ = some (.ok (S.map .str), [.dic true kvs]) from rfl)).trans ?_
    rw [bR_ok, hts]
    refine lcK_ok (lcL_filf (xs := S) D.str D.str (fun j => (b m j).isSome) fun i hi => ⟨[some rd, some (.ref 0), some (.lst (S.map .str)), some (.str i), some (.str m), r5, r6, r7, x8, x9, r10, r11, r12], rfl, ?_, fun _ => rfl⟩) (by rw [List.length_map, ← hts]; omega)
    exact dinT_run (n := 0) rfl rfl rfl R
  have inner : ∀ (s : SY.Bd Nm) (i : Nm) (ε : Ev) (h : EH), i ∈ hs → J13 S rd (.lst (S.map .str)) (.lst (hs.map .str)) (.lst (ts.map .str)) m b s ε h → ∃ ε1 h1 ε2 h2, mgName 10 (.str i) ε h = some (ε1, h1) ∧ msFor (miL (mVar 9)) (mgName 11) mb_closed_0 ε1 h1 = some (.nx ε2, h2) ∧ J13 S rd (.lst (S.map .str)) (.lst (hs.map .str)) (.lst (ts.map .str)) m b (ts.foldl (fun b j => SY.rstep m b (i, j)) s) ε2 h2 := fun s i ε h hi J => by
    obtain ⟨⟨r3, r5, r6, r7, r10, r11, r12, rfl⟩, M, kvs, rfl, R⟩ := J
    have hi' := List.mem_filter.mp (hhs ▸ hi)
    obtain ⟨x0, hx0⟩ := Option.isSome_iff_exists.mp hi'.2
    obtain ⟨ε', h', e, K⟩ := forL_run (g := mgName 11) (b := mb_closed_0) D.str (fun b j => SY.rstep m b (i, j)) (fun s ε h => (∃ r3 r5 r6 r7 r11 r12 : Option D, ε = [some rd, some (.ref 0), some (.lst (S.map .str)), r3, some (.str m), r5, r6, r7, some (.lst (hs.map .str)), some (.lst (ts.map .str)), some (.str i), r11, r12]) ∧ SY.Mono b s ∧ ∃ kvs, h = [.dic true kvs] ∧ BdR S kvs s) ts (fun s j ε h hj J => by
      obtain ⟨⟨r3, r5, r6, r7, r11, r12, rfl⟩, M, kvs, rfl, R⟩ := J
      have hj' := List.mem_filter.mp (hts ▸ hj)
      obtain ⟨y0, hy0⟩ := Option.isSome_iff_exists.mp hj'.2
      obtain ⟨x, hx, _⟩ := M _ _ _ hx0
      obtain ⟨y, hy, _⟩ := M _ _ _ hy0
      refine ⟨_, _, _, _, rfl, closed_in hi'.1 hj'.1 l hx hy R, ⟨_, _, _, _, _, _, rfl⟩, M.trans (SY.rstep_mono _), _, rfl, ?_⟩
      rw [rstep_some hx hy]
      exact R.put hi'.1 hj'.1) s [some rd, some (.ref 0), some (.lst (S.map .str)), r3, some (.str m), r5, r6, r7, some (.lst (hs.map .str)), some (.lst (ts.map .str)), some (.str i), r11, r12] [.dic true kvs] ⟨⟨_, _, _, _, _, _, rfl⟩, M, kvs, rfl, R⟩
    obtain ⟨⟨q3, q5, q6, q7, q11, q12, rfl⟩, M', kvs', rfl, R'⟩ := K
    exact ⟨_, _, _, _, rfl, for_run rfl e, ⟨_, _, _, _, _, _, _, rfl⟩, M', kvs', rfl, R'⟩
  obtain ⟨ε', h', e, ⟨q3, q5, q6, q7, q10, q11, q12, rfl⟩, M', kvs', rfl, R'⟩ := forL_run (g := mgName 10) (b := msFor (miL (mVar 9)) (mgName 11) mb_closed_0) D.str (fun b i => ts.foldl (fun b j => SY.rstep m b (i, j)) b) (J13 S rd (.lst (S.map .str)) (.lst (hs.map .str)) (.lst (ts.map .str)) m b) hs inner b [some rd, some (.ref 0), some (.lst (S.map .str)), r3, some (.str m), r5, r6, r7, some (.lst (hs.map .str)), some (.lst (ts.map .str)), r10, r11, r12] [.dic true kvs] ⟨⟨_, _, _, _, _, _, _, rfl⟩, .refl b, kvs, rfl, R⟩
  have run : mb_closed_3 [some rd, some (.ref 0), some (.lst (S.map .str)), r3, some (.str m), r5, r6, r7, r8, r9, r10, r11, r12] [.dic true kvs] = some (.nx [some rd, some (.ref 0), some (.lst (S.map .str)), q3, some (.str m), q5, q6, q7, some (.lst (hs.map .str)), some (.lst (ts.map .str)), q10, q11, q12], [.dic true kvs']) := by
    unfold mb_closed_3
    rw [sq_then (asg_run (k1 r8 r9))]
    show msSeq _ _ [some rd, some (.ref 0), some (.lst (S.map .str)), r3, some (.str m), r5, r6, r7, some (.lst (hs.map .str)), r9, r10, r11, r12] _ = _
    rw [sq_then (asg_run (k2 _ r9))]
    exact for_run rfl e
  refine ⟨_, _, _, _, rfl, run, ⟨_, rfl, rfl⟩, kvs', rfl, ?_⟩
  unfold passP
  rw [prs_fold, ← hhs, ← hts]
  exact R'
theorem endP_dic {kvs : List (List L2.Key × D)} (h : PD.noRef.gp kvs = true) : endP (some (.rt (.ref 0), [.dic true kvs])) = some (.ok (.dic true kvs)) := by
  show (frz1 [.dic true kvs] (.ref 0)).map R.ok = _
  have : frz1 [.dic true kvs] (.ref 0) = some (.dic true kvs) := by
    show (if PD.noRef.gp kvs = true then some (D.dic true kvs) else none) = _
    rw [if_pos h]
  rw [this]; rfl
theorem names_run {rows : List Row} {r : Ev} (hr : r.length = 11) (l : rows.length ≤ 100) {h : EH} : mLst (mCons (mC (.str [])) (mStar (mSortV [5, 6, 7, 3] (miL (mVar 0)) (mgTup 3 (mgCons (mgName 5) (mgCons (mgName 6) (mgCons (mgName 7) mgNil)))) mYes (mbFor (miT (mTup (mCons (mVar 5) (mCons (mVar 6) mNil)))) (mgName 3) (mTst (mBin dNe (mVar 3) (mC (.str [])))) [3] (mbS (mVar 3)))) mNil)) (some (.lst (rows.map rowC)) :: some (.ref 0) :: r) h = some (.ok (.lst ((nms rows).map .str)), h) := by
  match r, hr with
  | [r2, r3, r4, r5, r6, r7, r8, r9, r10, r11, r12], _ =>
  have k : lpB (mgTup 3 (mgCons (mgName 5) (mgCons (mgName 6) (mgCons (mgName 7) mgNil)))) mYes (mbFor (miT (mTup (mCons (mVar 5) (mCons (mVar 6) mNil)))) (mgName 3) (mTst (mBin dNe (mVar 3) (mC (.str [])))) [3] (mbS (mVar 3))) (wipeE [some (.lst (rows.map rowC)), some (.ref 0), r2, r3, r4, r5, r6, r7, r8, r9, r10, r11, r12] [5, 6, 7, 3]) (rows.map rowC) h = some ((nz ne0 rows).map .str, h) := by
    rw [← nz_map]
    refine lpB_flat rowC (fun r => ([r.1, r.2.1].filter ne0).map D.str) fun x hx => ⟨[some (.lst (rows.map rowC)), some (.ref 0), r2, none, r4, some (.str x.1), some (.str x.2.1), some (.int x.2.2), r8, r9, r10, r11, r12], rfl, rfl, ?_⟩
    refine mbFor_ok (ds := [x.1, x.2.1].map D.str) rfl ?_
    rw [← flat_sing ([x.1, x.2.1].filter ne0)]
    exact lpB_filf (g := mgName 3) (t := mTst (mBin dNe (mVar 3) (mC (.str [])))) (b := mbS (mVar 3)) (ε := [some (.lst (rows.map rowC)), some (.ref 0), r2, none, r4, some (.str x.1), some (.str x.2.1), some (.int x.2.2), r8, r9, r10, r11, r12]) (h := h) (xs := [x.1, x.2.1]) D.str (fun z => [D.str z]) ne0 fun z _ => ⟨[some (.lst (rows.map rowC)), some (.ref 0), r2, some (.str z), r4, some (.str x.1), some (.str x.2.1), some (.int x.2.2), r8, r9, r10, r11, r12], rfl, rfl, fun _ => rfl⟩
  have s := sortV_run (ε := [some (.lst (rows.map rowC)), some (.ref 0), r2, r3, r4, r5, r6, r7, r8, r9, r10, r11, r12]) (mi := miL (mVar 0)) (h := h) rfl k (by have := nz_len ne0 rows; omega)
  have ln := nms_len l
  rw [lst_ap, cons_ap, c_ap, bR_ok, consK1_ap]
  unfold mStar
  rw [s, bR_ok, show asS h (.lst ((srtU (nz ne0 rows)).map .str)) = some ((srtU (nz ne0 rows)).map .str) from rfl]
  dsimp only
  rw [nil_ap, bR_ok, List.append_nil, bR_ok, consK2_ap, bR_ok]
  refine lstK_ok (ds := (nms rows).map .str) ?_
  rw [List.length_map]; omega
theorem closed_ok {rows : List Row} (l : rows.length ≤ 100) : ∃ kvs b, F_closed [.lst (rows.map rowC)] = some (.ok (.dic true kvs)) ∧ BdR (nms rows) kvs b ∧ SY.Fin rows (nms rows) b := by
  obtain ⟨S, hS⟩ : ∃ S, S = nms rows := ⟨_, rfl⟩
  have lS : S.length ≤ 1000 := by rw [hS]; exact Nat.le_trans (nms_len l) (by decide)
  have h0 : ([] : Nm) ∈ S := by rw [hS]; exact List.mem_cons_self
  obtain ⟨rd, hrd⟩ : ∃ rd : D, rd = .lst (rows.map rowC) := ⟨_, rfl⟩
  obtain ⟨ε1, g1, e1, I1⟩ := forL_run (g := mgName 3) (b := mb_closed_5) D.str dst (I13 S rd (.lst (S.map .str))) S (fun s i ε h hi I => by
    obtain ⟨⟨r, rfl, hr⟩, kvs, rfl, R⟩ := I
    match r, hr with
    | [r3, r4, r5, r6, r7, r8, r9, r10, r11, r12], _ =>
    exact ⟨_, _, _, _, rfl, dputT_run (n := 0) (v := 0) rfl rfl rfl rfl R lS, ⟨_, rfl, rfl⟩, _, rfl, R.put hi hi⟩) (fun _ _ => none) (E13 rd (.lst (S.map .str)) [none, none, none, none, none, none, none, none, none, none]) [.dic true []] ⟨⟨_, rfl, rfl⟩, [], rfl, bdr_nil⟩
  obtain ⟨ε2, g2, e2, I2⟩ := forL_run (g := mgTup 3 (mgCons (mgName 5) (mgCons (mgName 6) (mgCons (mgName 7) mgNil)))) (b := mb_closed_4) rowC est (I13 S rd (.lst (S.map .str))) rows (fun s x ε h hx I => by
    obtain ⟨⟨r, rfl, hr⟩, kvs, rfl, R⟩ := I
    match r, hr with
    | [r3, r4, r5, r6, r7, r8, r9, r10, r11, r12], _ =>
    have hx' : (x.1, x.2.1, x.2.2) ∈ rows := hx
    obtain ⟨a1, a2⟩ := nms_in hx'
    rw [← hS] at a1 a2
    exact ⟨_, _, _, _, rfl, dputT_run (n := 0) (minget_run rfl (dget2T_run (n := 0) rfl rfl rfl R rfl)) rfl rfl rfl R lS, ⟨_, rfl, rfl⟩, _, rfl, R.put a1 a2⟩) _ _ _ I1
  obtain ⟨ε3, g3, e3, I3⟩ := forL_run (g := mgName 4) (b := mb_closed_3) D.str (passP S) (I13 S rd (.lst (S.map .str))) S (fun s i ε h hi I => closed_pass hi lS I) _ _ _ I2
  obtain ⟨⟨r1, rfl, l1⟩, kv1, rfl, R1⟩ := I1
  obtain ⟨⟨r2, rfl, l2⟩, kv2, rfl, R2⟩ := I2
  obtain ⟨⟨r3, rfl, l3⟩, kvs, rfl, R⟩ := I3
  refine ⟨kvs, _, ?_, hS ▸ R, ?_⟩
  · show endP (m_closed [some (.lst (rows.map rowC)), none, none, none, none, none, none, none, none, none, none, none, none] []) = _
    rw [← hrd]
    unfold m_closed
    rw [sq_then (show msAsg mDnewT (mgName 1) _ _ = some (.nx [some rd, some (.ref 0), none, none, none, none, none, none, none, none, none, none, none], [.dic true []]) from rfl)]
    have nr := names_run (rows := rows) (r := [none, none, none, none, none, none, none, none, none, none, none]) rfl l (h := [.dic true []])
    rw [← hS, ← hrd] at nr
    rw [sq_then (asg_run nr)]
    show endP (msSeq _ _ (E13 rd (.lst (S.map .str)) [none, none, none, none, none, none, none, none, none, none]) _) = _
    rw [sq_then (for_run rfl e1), sq_then (for_run (show miL (mVar 0) _ _ = some (.ok (rows.map rowC), _) from by rw [hrd]; rfl) e2), sq_then (for_run rfl e3)]
    exact endP_dic R.no
  · subst hS
    exact SY.fin_of (fun i j c h => nms_in h) (start_ok (nms rows) rows) (passP_ok _ _)
end SZ
namespace SZ
open PySem PD
def lns : List Nm := [[], [97], [98], [49, 46, 107, 101, 121], [50, 46, 101, 110, 100], [122, 122]]
abbrev lnD : D := .lst (lns.map .str)
def I9 (rd : D) (b : SY.Bd Nm) (ε : Ev) (h : EH) : Prop := (∃ r1 r2 r5 r6 r7 r8 : Option D, ε = [some rd, r1, r2, some lnD, some (.ref 0), r5, r6, r7, r8]) ∧ ∃ kvs, h = [.dic true kvs] ∧ BdR lns kvs b
theorem and_run {ε : Ev} {h : EH} {m1 m2 : M Bool} {x y : Bool} (e1 : m1 ε h = some (.ok x, h)) (e2 : m2 ε h = some (.ok y, h)) : mAnd m1 m2 ε h = some (.ok (x && y), h) := by
  rw [and_ap, e1, bR_ok]
  cases x
  · rfl
  · rw [andK_t, e2]; rfl
theorem bounds_in {rd : D} {m i j : Nm} {b : SY.Bd Nm} {r1 r7 r8 : Option D} {kvs : List (List L2.Key × D)} (hi : i ∈ lns) (hj : j ∈ lns) (R : BdR lns kvs b) :
    ∃ r8' kvs', mb__law_bounds_1 [some rd, r1, some (.str m), some lnD, some (.ref 0), some (.str i), some (.str j), r7, r8] [.dic true kvs] = some (.nx [some rd, r1, some (.str m), some lnD, some (.ref 0), some (.str i), some (.str j), r7, r8'], [.dic true kvs']) ∧ BdR lns kvs' (SY.rstep m b (i, j)) := by
  unfold mb__law_bounds_1
  rw [sif_ap, and_run (dinT_run (n := 0) (i := i) (j := m) rfl rfl rfl R) (dinT_run (n := 0) (i := m) (j := j) rfl rfl rfl R), bS_ok]
  cases h1 : b i m with
  | none => exact ⟨r8, kvs, rfl, by unfold SY.rstep; simp only [h1]; exact R⟩
  | some x =>
    cases h2 : b m j with
    | none => exact ⟨r8, kvs, rfl, by unfold SY.rstep; simp only [h1, h2]; exact R⟩
    | some y =>
      refine ⟨some (.int (x + y)), putKD [ky i, ky j] (.int (min (x + y) ((b i j).getD (x + y)))) kvs, ?_, by rw [rstep_some h1 h2]; exact R.put hi hj⟩
      show sifK _ _ _ true _ = _
      rw [sifK_t, sq_then (asg_run (add_run (dixT_run (n := 0) rfl rfl rfl R h1) (dixT_run (n := 0) rfl rfl rfl R h2)))]
      exact dputT_run (n := 0) (minget_run rfl (dget2T_run (n := 0) rfl rfl rfl R rfl)) rfl rfl rfl R (by decide)
theorem bounds_pass {rd : D} {m : Nm} {b : SY.Bd Nm} {ε : Ev} {h : EH} (I : I9 rd b ε h) : ∃ ε1 h1 ε2 h2, mgName 2 (.str m) ε h = some (ε1, h1) ∧ mb__law_bounds_2 ε1 h1 = some (.nx ε2, h2) ∧ I9 rd (passL lns b m) ε2 h2 := by
  obtain ⟨⟨r1, r2, r5, r6, r7, r8, rfl⟩, kvs, rfl, R⟩ := I
  have inner : ∀ (s : SY.Bd Nm) (i : Nm) (ε : Ev) (h : EH), i ∈ lns → ((∃ r1 r5 r6 r7 r8 : Option D, ε = [some rd, r1, some (.str m), some lnD, some (.ref 0), r5, r6, r7, r8]) ∧ ∃ kvs, h = [.dic true kvs] ∧ BdR lns kvs s) → ∃ ε1 h1 ε2 h2, mgName 5 (.str i) ε h = some (ε1, h1) ∧ msFor (miL (mVar 3)) (mgName 6) mb__law_bounds_1 ε1 h1 = some (.nx ε2, h2) ∧ ((∃ r1 r5 r6 r7 r8 : Option D, ε2 = [some rd, r1, some (.str m), some lnD, some (.ref 0), r5, r6, r7, r8]) ∧ ∃ kvs, h2 = [.dic true kvs] ∧ BdR lns kvs (lns.foldl (fun b j => SY.rstep m b (i, j)) s)) := fun s i ε h hi J => by
    obtain ⟨⟨r1, r5, r6, r7, r8, rfl⟩, kvs, rfl, R⟩ := J
    obtain ⟨ε', h', e, ⟨q1, q6, q7, q8, rfl⟩, kvs', rfl, R'⟩ := forL_run (g := mgName 6) (b := mb__law_bounds_1) D.str (fun b j => SY.rstep m b (i, j)) (fun s ε h => (∃ r1 r6 r7 r8 : Option D, ε = [some rd, r1, some (.str m), some lnD, some (.ref 0), some (.str i), r6, r7, r8]) ∧ ∃ kvs, h = [.dic true kvs] ∧ BdR lns kvs s) lns (fun s j ε h hj J => by
      obtain ⟨⟨r1, r6, r7, r8, rfl⟩, kvs, rfl, R⟩ := J
      obtain ⟨r8', kvs', e, R'⟩ := bounds_in (rd := rd) (m := m) (r1 := r1) (r7 := r7) (r8 := r8) hi hj R
      exact ⟨_, _, _, _, rfl, e, ⟨_, _, _, _, rfl⟩, _, rfl, R'⟩) s [some rd, r1, some (.str m), some lnD, some (.ref 0), some (.str i), r6, r7, r8] [.dic true kvs] ⟨⟨_, _, _, _, rfl⟩, kvs, rfl, R⟩
    exact ⟨_, _, _, _, rfl, for_run rfl e, ⟨_, _, _, _, _, rfl⟩, kvs', rfl, R'⟩
  obtain ⟨ε', h', e, ⟨q1, q5, q6, q7, q8, rfl⟩, kvs', rfl, R'⟩ := forL_run (g := mgName 5) (b := msFor (miL (mVar 3)) (mgName 6) mb__law_bounds_1) D.str (fun b i => lns.foldl (fun b j => SY.rstep m b (i, j)) b) (fun s ε h => (∃ r1 r5 r6 r7 r8 : Option D, ε = [some rd, r1, some (.str m), some lnD, some (.ref 0), r5, r6, r7, r8]) ∧ ∃ kvs, h = [.dic true kvs] ∧ BdR lns kvs s) lns inner b [some rd, r1, some (.str m), some lnD, some (.ref 0), r5, r6, r7, r8] [.dic true kvs] ⟨⟨_, _, _, _, _, rfl⟩, kvs, rfl, R⟩
  have run : mb__law_bounds_2 [some rd, r1, some (.str m), some lnD, some (.ref 0), r5, r6, r7, r8] [.dic true kvs] = some (.nx [some rd, q1, some (.str m), some lnD, some (.ref 0), q5, q6, q7, q8], [.dic true kvs']) := for_run rfl e
  refine ⟨_, _, _, _, rfl, run, ⟨_, _, _, _, _, _, rfl⟩, kvs', rfl, ?_⟩
  unfold passL
  rw [prs_fold]
  exact R'
/-- what the law takes for the bounds -/
theorem bounds_ok {rows : List Row} (hn : ∀ i j c, (i, j, c) ∈ rows → i ∈ lns ∧ j ∈ lns) : ∃ kvs b, F__law_bounds [.lst (rows.map rowC)] = some (.ok (.dic true (if (lns.any fun i => decide ((b i i).getD 0 < 0)) = true then [] else kvs))) ∧ BdR lns kvs b ∧ SY.Fin rows lns b ∧ kvs ≠ [] := by
  obtain ⟨rd, hrd⟩ : ∃ rd : D, rd = .lst (rows.map rowC) := ⟨_, rfl⟩
  obtain ⟨ε1, g1, e1, I1⟩ := forL_run (g := mgName 1) (b := mb__law_bounds_4) D.str dst (I9 rd) lns (fun s i ε h hi I => by
    obtain ⟨⟨r1, r2, r5, r6, r7, r8, rfl⟩, kvs, rfl, R⟩ := I
    exact ⟨_, _, _, _, rfl, dputT_run (n := 0) (v := 0) rfl rfl rfl rfl R (by decide), ⟨_, _, _, _, _, _, rfl⟩, _, rfl, R.put hi hi⟩) (fun _ _ => none) [some rd, none, none, some lnD, some (.ref 0), none, none, none, none] [.dic true []] ⟨⟨_, _, _, _, _, _, rfl⟩, [], rfl, bdr_nil⟩
  obtain ⟨ε2, g2, e2, I2⟩ := forL_run (g := mgTup 3 (mgCons (mgName 5) (mgCons (mgName 6) (mgCons (mgName 7) mgNil)))) (b := mb__law_bounds_3) rowC est (I9 rd) rows (fun s x ε h hx I => by
    obtain ⟨⟨r1, r2, r5, r6, r7, r8, rfl⟩, kvs, rfl, R⟩ := I
    have hx' : (x.1, x.2.1, x.2.2) ∈ rows := hx
    obtain ⟨a1, a2⟩ := hn _ _ _ hx'
    exact ⟨_, _, _, _, rfl, dputT_run (n := 0) (minget_run rfl (dget2T_run (n := 0) rfl rfl rfl R rfl)) rfl rfl rfl R (by decide), ⟨_, _, _, _, _, _, rfl⟩, _, rfl, R.put a1 a2⟩) _ _ _ I1
  obtain ⟨ε3, g3, e3, I3⟩ := forL_run (g := mgName 2) (b := mb__law_bounds_2) D.str (passL lns) (I9 rd) lns (fun s i ε h hi I => bounds_pass I) _ _ _ I2
  obtain ⟨⟨q1, q2, q5, q6, q7, q8, rfl⟩, kv1, rfl, R1⟩ := I1
  obtain ⟨⟨r1, r2, r5, r6, r7, r8, rfl⟩, kv2, rfl, R2⟩ := I2
  obtain ⟨⟨s1, s2, s5, s6, s7, s8, rfl⟩, kvs, rfl, R⟩ := I3
  have fin : SY.Fin rows lns (lns.foldl (passL lns) (rows.foldl est (lns.foldl dst fun _ _ => none))) := SY.fin_of hn (start_ok lns rows) (passL_ok _ _)
  generalize lns.foldl (passL lns) (rows.foldl est (lns.foldl dst fun _ _ => none)) = b at *
  have ne : kvs ≠ [] := fun z => by
    obtain ⟨x, e, _⟩ := fin.self [] (by decide)
    have := R.at_ [] []
    rw [z, e] at this
    cases this
  refine ⟨kvs, b, ?_, R, fin, ne⟩
  show endP (m__law_bounds [some (.lst (rows.map rowC)), none, none, none, none, none, none, none, none] []) = _
  rw [← hrd]
  unfold m__law_bounds
  rw [sq_then (show _ = some (RS.nx [some rd, none, none, some lnD, some (.ref 0), none, none, none, none], [Cell.dic true []]) from rfl)]
  rw [sq_then (for_run rfl e1), sq_then (for_run (show miL (mVar 0) _ _ = some (.ok (rows.map rowC), _) from by rw [hrd]; rfl) e2), sq_then (for_run rfl e3)]
  have lc := lcK_ok (vs := [1]) (ε := [some rd, s1, s2, some lnD, some (.ref 0), s5, s6, s7, s8]) (lcL_mapf (g := mgName 1) (t := mYes) (e := me__law_bounds_0) (h := [.dic true kvs]) (ε := [some rd, none, s2, some lnD, some (.ref 0), s5, s6, s7, s8]) D.str (fun i => D.bl (decide ((b i i).getD 0 < 0))) (xs := lns) fun i hi => ⟨[some rd, some (.str i), s2, some lnD, some (.ref 0), s5, s6, s7, s8], rfl, rfl, by
    obtain ⟨x, e, _⟩ := fin.self i hi
    unfold me__law_bounds_0
    rw [bin_ap, dixT_run (n := 0) rfl rfl rfl R e, bR_ok, binK1_ap, c_ap, bR_ok, binK2_ap, lt_int, e]
    rfl⟩) (by rw [List.length_map]; decide)
  have an : mTst (mCall dAny (mCons (mLc [1] (miL (mVar 3)) (mgName 1) mYes me__law_bounds_0) mNil)) [some rd, s1, s2, some lnD, some (.ref 0), s5, s6, s7, s8] [.dic true kvs] = some (.ok (lns.any fun i => decide ((b i i).getD 0 < 0)), [.dic true kvs]) := by
    rw [tst_ap, call_ap, cons_ap, lc_ap]
    rw [show miL (mVar 3) [some rd, s1, s2, some lnD, some (.ref 0), s5, s6, s7, s8] [.dic true kvs] = some (.ok (lns.map .str), [.dic true kvs]) from rfl, bR_ok, lc, bR_ok, consK1_ap, nil_ap, bR_ok, consK2_ap, bR_ok, callK_ap]
    show bR (rt ((asBs (lns.map fun i => D.bl (decide ((b i i).getD 0 < 0)))).map fun bs => D.bl (bs.any id)) _) _ = _
    rw [asBs_map]
    show some (PD.R.ok ((lns.map fun i => decide ((b i i).getD 0 < 0)).any id), _) = _
    rw [List.any_map]
    rfl
  rw [ret_ap, if_ap, an, bR_ok]
  cases lns.any fun i => decide ((b i i).getD 0 < 0) with
  | true => rfl
  | false =>
    rw [ifK_f]
    exact endP_dic R.no
theorem any_neg {rows : List Row} {b : SY.Bd Nm} (hn : ∀ i j c, (i, j, c) ∈ rows → i ∈ lns ∧ j ∈ lns) (f : SY.Fin rows lns b) : (lns.any fun i => decide ((b i i).getD 0 < 0)) = false ↔ SY.NoNeg rows := by
  rw [← f.open hn, List.any_eq_false]
  constructor
  · intro h i hi x e
    have := h i hi
    rw [e] at this
    have := of_decide_eq_false (Bool.of_not_eq_true this)
    exact Int.not_lt.mp this
  · intro h i hi
    obtain ⟨x, e, _⟩ := f.self i hi
    rw [e]
    have := h i hi x e
    rw [show ((some x : Option Int).getD 0) = x from rfl, decide_eq_false (Int.not_lt.mpr this)]
    decide
end SZ
namespace SZ
open PySem PD
structure DkR (S : List Nm) (kvs : List (List L2.Key × D)) (f : Nm → Option Int) : Prop where
  at_ : ∀ v, lkK [ky v] kvs = (f v).map .int
  nd : (kvs.map (·.1)).Nodup
  mem : ∀ p ∈ kvs, ∃ v ∈ S, ∃ x, p = ([ky v], .int x)
section
variable {S : List Nm} {kvs : List (List L2.Key × D)} {f : Nm → Option Int} {v : Nm} {x : Int}
theorem ky1_inj {a b : Nm} : [ky a] = [ky b] ↔ a = b := by
  constructor
  · intro h
    injection h with h1 _
    exact ky_inj.mp h1
  · rintro rfl; rfl
theorem dkr_nil : DkR S [] fun _ => none := ⟨fun _ => rfl, List.nodup_nil, fun _ h => nomatch h⟩
theorem DkR.len (R : DkR S kvs f) : kvs.length ≤ S.length := by
  have h := SY.nodup_sub (kvs.map (·.1)) (S.map fun i => [ky i]) R.nd fun k hk => by
    obtain ⟨p, hp, rfl⟩ := List.mem_map.mp hk
    obtain ⟨i, hi, x, e⟩ := R.mem p hp
    rw [e]
    exact List.mem_map_of_mem (f := fun i => [ky i]) hi
  rw [List.length_map, List.length_map] at h
  exact h
theorem DkR.put (R : DkR S kvs f) (hi : v ∈ S) : DkR S (putKD [ky v] (.int x) kvs) (fun u => if u = v then some x else f u) := by
  refine ⟨fun p => ?_, put_nd R.nd, fun p hp => ?_⟩
  · rw [lkK_put]
    by_cases e : p = v
    · rw [if_pos (ky1_inj.mpr e), if_pos e]; rfl
    · rw [if_neg (fun z => e (ky1_inj.mp z)), if_neg e]; exact R.at_ p
  · rcases put_mem hp with h | h
    · exact R.mem p h
    · exact ⟨v, hi, x, h⟩
theorem DkR.congr {g : Nm → Option Int} (R : DkR S kvs f) (h : ∀ v, f v = g v) : DkR S kvs g := by rw [← (funext h : f = g)]; exact R
theorem DkR.no (R : DkR S kvs f) : PD.noRef.gp kvs = true := gp_mem fun p hp => by
  obtain ⟨i, _, x, e⟩ := R.mem p hp
  rw [e]; rfl
variable {ε : Ev} {h : EH} {n : Nat} {a b m : M D}
end
theorem enum_rows (rows : List Row) : enumD (rows.map rowC) = rows.zipIdx.map fun p => .tup [.int (p.2 : Nat), rowC p.1] := by
  have : ∀ (rows : List Row) (k : Nat), ((rows.map rowC).zipIdx k).map (fun p => D.tup [.int (p.2 : Nat), p.1]) = (rows.zipIdx k).map fun p => D.tup [.int (p.2 : Nat), rowC p.1] := by
    intro rows
    induction rows with
    | nil => intro k; rfl
    | cons r rows ih => intro k; rw [List.map_cons, List.zipIdx_cons, List.zipIdx_cons, List.map_cons, List.map_cons, ih]
  exact this rows 0
/-- the rounds, one behind the other -/
def rndN (rows : List Row) (p : SY.BS Nm × Nat) (_ : Nat) : SY.BS Nm × Nat := (SY.rnd (p.2 + 1) 0 rows { p.1 with late := none }, p.2 + 1)
def RI (rows : List Row) (p : SY.BS Nm × Nat) : Prop := (p.2 = 0 ∧ p.1 = SY.s0) ∨ (1 ≤ p.2 ∧ SY.BI rows p.2 rows.length p.1 ∧ p.1.late ≠ none)
theorem RI.step {rows : List Row} {p : SY.BS Nm × Nat} (nn : ¬ SY.NoNeg rows) (h : RI rows p) (x : Nat) : RI rows (rndN rows p x) ∧ (rndN rows p x).1.late ≠ none := by
  have I : SY.BI rows (p.2 + 1) 0 { p.1 with late := none } := by
    rcases h with ⟨h1, h2⟩ | ⟨h1, h2, h3⟩
    · rw [h1, h2]; exact SY.s0_ok
    · exact SY.next_ok h2
  have J := SY.rnd_ok (r := p.2 + 1) (by omega) rows [] _ rfl I
  have hl : (rndN rows p x).1.late ≠ none := fun z => nn (SY.quiet J z)
  exact ⟨.inr ⟨Nat.le_add_left 1 p.2, J, hl⟩, hl⟩
end SZ
namespace SZ
open PySem PD
section
variable {rows : List Row} {s : SY.BS Nm} {r : Nat} {hh : Nm} {k : Nat} {nd : D} {r4 ld r8 r9 r10 r11 r12 : Option D} {kw kl : List (List L2.Key × D)}
def pre (C : List Row) (s : SY.BS Nm) (hh : Nm) (t : Nat) : List D := (List.range t).map fun i => D.int (SY.ixOf s (SY.it (SY.pOf C s) i hh) : Nat)
end
end SZ
namespace SZ
open PySem PD
def ded : List Row → List Row → List Row
  | dn, [] => dn
  | dn, r :: rs => ded (if r ∈ dn then dn else dn ++ [r]) rs
theorem ded_mem {x : Row} : ∀ {rs dn : List Row}, x ∈ ded dn rs ↔ x ∈ dn ∨ x ∈ rs
  | [], dn => by simp [ded]
  | r :: rs, dn => by
    rw [ded, ded_mem]
    by_cases q : r ∈ dn
    · rw [if_pos q, List.mem_cons]
      constructor
      · rintro (h | h)
        · exact .inl h
        · exact .inr (.inr h)
      · rintro (h | h | h)
        · exact .inl h
        · exact .inl (h ▸ q)
        · exact .inr h
    · rw [if_neg q, List.mem_append, List.mem_singleton, List.mem_cons]
      constructor
      · rintro ((h | h) | h)
        · exact .inl h
        · exact .inr (.inl h)
        · exact .inr (.inr h)
      · rintro (h | h | h)
        · exact .inl (.inl h)
        · exact .inl (.inr h)
        · exact .inr h
theorem ded_len : ∀ {rs dn : List Row}, (ded dn rs).length ≤ dn.length + rs.length
  | [], dn => by simp [ded]
  | r :: rs, dn => by
    rw [ded]
    have := ded_len (rs := rs) (dn := if r ∈ dn then dn else dn ++ [r])
    have h2 : (if r ∈ dn then dn else dn ++ [r]).length ≤ dn.length + 1 := by
      split
      · omega
      · simp
    rw [List.length_cons]
    omega
abbrev dd (rows : List Row) : List Row := ded [] rows
theorem dd_mem {x : Row} {rows : List Row} : x ∈ dd rows ↔ x ∈ rows := by
  rw [ded_mem]
  simp
theorem dd_len {rows : List Row} : (dd rows).length ≤ rows.length := by
  have := ded_len (rs := rows) (dn := [])
  simpa using this
theorem nn_dd {rows : List Row} : SY.NoNeg (dd rows) ↔ SY.NoNeg rows := SY.NoNeg.congr fun _ => dd_mem
def rk (r : Row) : List L2.Key := [ky r.1, ky r.2.1, .inl r.2.2]
theorem rk_inj {a b : Row} : rk a = rk b ↔ a = b := by
  constructor
  · intro h
    unfold rk at h
    injection h with h1 h
    injection h with h2 h
    injection h with h3 _
    obtain ⟨a1, a2, a3⟩ := a
    obtain ⟨b1, b2, b3⟩ := b
    have h1 := ky_inj.mp h1
    have h2 := ky_inj.mp h2
    have h3 := Sum.inl.inj h3
    dsimp only at h1 h2 h3
    rw [h1, h2, h3]
  · rintro rfl; rfl
theorem tupOf_row (r : Row) : tupOf (rowC r) = some (rk r) := rfl
def dk (r : Row) : List L2.Key × D := (rk r, rowC r)
theorem addK_row (r : Row) (dn : List Row) : addKD (rk r) (rowC r) (dn.map dk) = (if r ∈ dn then dn else dn ++ [r]).map dk := by
  unfold addKD
  have e : ((dn.map dk).find? fun q => decide (q.1 = rk r)).isSome = decide (r ∈ dn) := by
    by_cases q : r ∈ dn
    · rw [decide_eq_true q]
      exact List.find?_isSome.mpr ⟨dk r, List.mem_map_of_mem q, decide_eq_true rfl⟩
    · rw [decide_eq_false q]
      refine Bool.eq_false_iff.mpr fun z => ?_
      obtain ⟨x, hx, e⟩ := List.find?_isSome.mp z
      obtain ⟨y, hy, rfl⟩ := List.mem_map.mp hx
      exact q (rk_inj.mp (of_decide_eq_true e) ▸ hy)
  rw [e]
  by_cases q : r ∈ dn
  · rw [decide_eq_true q, if_pos rfl, if_pos q]
  · rw [decide_eq_false q, if_neg (by decide), if_neg q, List.map_append]; rfl
theorem dedL_ok {g : MG} {mk : M D} {ε : Ev} {h : EH} : ∀ (rs dn : List Row), dn.length + rs.length ≤ 10000 → (∀ r ∈ rs, ∃ ε1, g (rowC r) ε h = some (ε1, h) ∧ mk ε1 h = some (.ok (rowC r), h)) → dedL g mYes mk ε (rs.map rowC) (dn.map dk) h = some ((ded dn rs).map dk, h)
  | [], dn, _, _ => rfl
  | r :: rs, dn, l, H => by
    obtain ⟨ε1, h1, h2⟩ := H r List.mem_cons_self
    rw [List.length_cons] at l
    have hl : (if r ∈ dn then dn else dn ++ [r]).length ≤ dn.length + 1 := by
      split
      · omega
      · simp
    have ih := dedL_ok (g := g) (mk := mk) (ε := ε) (h := h) rs (if r ∈ dn then dn else dn ++ [r]) (by omega) fun x hx => H x (List.mem_cons_of_mem _ hx)
    rw [List.map_cons]
    unfold dedL
    rw [h1]
    dsimp only
    rw [yes_ap]
    dsimp only
    rw [h2]
    dsimp only
    rw [tupOf_row]
    dsimp only
    rw [if_pos (by rw [List.length_map]; omega), addK_row, ih, ded]
/-- a row whose names are unknowns -/
def okU (z : Nm) : Prop := F_is_unknown [.str z] = some (.ok (.bl true))
def okR (r : Row) : Prop := okU r.1 ∧ okU r.2.1
theorem comp_ok {r : Row} (h : okR r) : F_is_comparison [rowC r] = some (.ok (.bl true)) := by
  have h1 : ∀ (ε : Ev) (h' : EH), callPK F_is_unknown [.str r.1] h' = some (.ok (.bl true), h') := fun ε h' => callPK_ok h.1 rfl
  have h2 : ∀ (ε : Ev) (h' : EH), callPK F_is_unknown [.str r.2.1] h' = some (.ok (.bl true), h') := fun ε h' => callPK_ok h.2 rfl
  have h3 : ∀ (h' : EH), callPK F_is_integer [.int r.2.2] h' = some (.ok (.bl true), h') := fun h' => callPK_ok (by rfl) rfl
  show endP (m_is_comparison [some (rowC r)] []) = _
  unfold m_is_comparison rowC
  rw [sq_then (ε1 := [some (.tup [.str r.1, .str r.2.1, .int r.2.2])]) (h1 := []) rfl]
  rw [ret_ap, andv_ap, callP_ap, cons_ap, show mBin dIx (mVar 0) (mC (.int 0)) [some (.tup [.str r.1, .str r.2.1, .int r.2.2])] [] = some (.ok (.str r.1), []) from rfl, bR_ok, consK1_ap, nil_ap, bR_ok, consK2_ap, bR_ok, h1 [] [], bR_ok, andV_t]
  rw [andv_ap, callP_ap, cons_ap, show mBin dIx (mVar 0) (mC (.int 1)) [some (.tup [.str r.1, .str r.2.1, .int r.2.2])] [] = some (.ok (.str r.2.1), []) from rfl, bR_ok, consK1_ap, nil_ap, bR_ok, consK2_ap, bR_ok, h2 [] [], bR_ok, andV_t]
  rw [callP_ap, cons_ap, show mBin dIx (mVar 0) (mC (.int 2)) [some (.tup [.str r.1, .str r.2.1, .int r.2.2])] [] = some (.ok (.int r.2.2), []) from rfl, bR_ok, consK1_ap, nil_ap, bR_ok, consK2_ap, bR_ok, h3 []]
  rfl
/-- the object -/
def syF (rows : List Row) (kvs : List (List L2.Key × D)) (b : Bool) : List (Str × D) := [("own_rows", .lst (rows.map rowC)), ("own_bounds", .dic true kvs), ("has_solution", .bl b)]
def syO (rows : List Row) (kvs : List (List L2.Key × D)) (b : Bool) : D := .obj "System" (syF rows kvs b)
structure Sy (rows : List Row) (d : D) : Prop where
  ex : ∃ kvs bd b, d = syO (dd rows) kvs b ∧ BdR (nms (dd rows)) kvs bd ∧ SY.Fin (dd rows) (nms (dd rows)) bd ∧ (b = true ↔ SY.NoNeg rows)
theorem rows_no' (rows : List Row) : PD.noRef.go (rows.map rowC) = true := noRef_all fun d hd => by
  obtain ⟨r, _, rfl⟩ := List.mem_map.mp hd
  rfl
theorem syF_no {rows : List Row} {kvs : List (List L2.Key × D)} {b : Bool} (h : PD.noRef.gp kvs = true) : PD.noRef.gf (syF rows kvs b) = true := by
  show (PD.noRef.go (rows.map rowC) && (PD.noRef.gp kvs && (true && true))) = true
  rw [rows_no', h]; rfl
theorem Sy.no {rows : List Row} {d : D} (h : Sy rows d) : PD.noRef d = true := by
  obtain ⟨kvs, bd, b, rfl, R, _⟩ := h
  exact syF_no R.no
def isL (x : D) (rows : List Row) : Prop := x = .lst (rows.map rowC) ∨ x = .tup (rows.map rowC)
theorem back_kv {S : List Nm} {kvs : List (List L2.Key × D)} {b : SY.Bd Nm} (R : BdR S kvs b) : ∀ p ∈ itemsD true kvs, ∃ i ∈ S, ∃ j ∈ S, ∃ x, b i j = some x ∧ p = .tup [.tup [.str i, .str j], .int x] := fun p hp => by
  unfold itemsD at hp
  obtain ⟨q, hq, rfl⟩ := List.mem_map.mp hp
  obtain ⟨i, hi, j, hj, x, rfl⟩ := R.mem q hq
  refine ⟨i, hi, j, hj, x, ?_, ?_⟩
  · have h1 := lkK_of_mem R.nd hq
    rw [R.at_] at h1
    cases e : b i j with
    | none => rw [e] at h1; cases h1
    | some y => rw [e] at h1; cases h1; rfl
  · rfl
theorem items_has {S : List Nm} {kvs : List (List L2.Key × D)} {b : SY.Bd Nm} (R : BdR S kvs b) {i j : Nm} {x : Int} (e : b i j = some x) : D.tup [.tup [.str i, .str j], .int x] ∈ itemsD true kvs := by
  have h := R.at_ i j
  rw [e] at h
  exact List.mem_map.mpr ⟨_, lkK_mem h, rfl⟩
/-- has_solution -/
theorem sol_run {S : List Nm} {kvs : List (List L2.Key × D)} {bd : SY.Bd Nm} (R : BdR S kvs bd) (lS : S.length ≤ 1000) {x0 x1 r2 r3 r4 r5 r6 : Option D} {h : EH} {t : EH} {rows : List D} {n : Nat} (hx : x0 = some (.ref n)) (hn : h[n]? = some (.obj "System" [("own_rows", .lst rows), ("own_bounds", .dic true kvs)])) :
    ∃ c, mCall dAll (mCons (mLcIt [4, 5, 6] (mFld ["System"] "own_bounds" (mVar 0)) (mgTup 2 (mgCons (mgTup 2 (mgCons (mgName 5) (mgCons (mgName 6) mgNil))) (mgCons (mgName 4) mgNil))) (mTst (mBin dEq (mVar 5) (mVar 6))) (mBin dGe (mVar 4) (mC (.int 0)))) mNil) [x0, x1, r2, r3, r4, r5, r6] h = some (.ok (.bl c), h) ∧ (c = true ↔ ∀ i ∈ S, ∀ x, bd i i = some x → 0 ≤ x) := by
  subst hx
  obtain ⟨ps, hps⟩ : ∃ ps : List (Nm × Nm × Int), itemsD true kvs = ps.map fun p => .tup [.tup [.str p.1, .str p.2.1], .int p.2.2] := by
    have : ∀ l : List D, (∀ p ∈ l, ∃ i j x, p = D.tup [.tup [.str i, .str j], .int x]) → ∃ ps : List (Nm × Nm × Int), l = ps.map fun p => .tup [.tup [.str p.1, .str p.2.1], .int p.2.2] := by
      intro l
      induction l with
      | nil => exact fun _ => ⟨[], rfl⟩
      | cons d l ih =>
        intro H
        obtain ⟨i, j, x, rfl⟩ := H d List.mem_cons_self
        obtain ⟨ps, e⟩ := ih fun p hp => H p (List.mem_cons_of_mem _ hp)
        exact ⟨(i, j, x) :: ps, by rw [e]; rfl⟩
    exact this _ fun p hp => by
      obtain ⟨i, _, j, _, x, _, e⟩ := back_kv R p hp
      exact ⟨i, j, x, e⟩
  have fld : mFld ["System"] "own_bounds" (mVar 0) [some (.ref n), x1, r2, r3, r4, r5, r6] h = some (.ok (.dic true kvs), h) := by
    rw [fld_ap, var_ap]
    show fldK ["System"] "own_bounds" (.ref n) h = _
    rw [fldK_ap]
    have : dFld ["System"] "own_bounds" h (.ref n) = some (.dic true kvs) := by
      unfold dFld insD
      dsimp only
      rw [hn]
      rfl
    rw [this]; rfl
  have env : ∃ y1 y2 y3, wipeE (hidA [some (.ref n), x1, r2, r3, r4, r5, r6]) [4, 5, 6] = [none, y1, y2, y3, none, none, none] := ⟨_, _, _, rfl⟩
  obtain ⟨y1, y2, y3, env⟩ := env
  have lp : kvs.length ≤ 1000000 := Nat.le_trans R.len (Nat.mul_le_mul lS lS)
  have lps : ps.length = kvs.length := by
    have := congrArg List.length hps
    unfold itemsD at this
    rw [List.length_map, List.length_map] at this
    omega
  have lc : lcL (mgTup 2 (mgCons (mgTup 2 (mgCons (mgName 5) (mgCons (mgName 6) mgNil))) (mgCons (mgName 4) mgNil))) (mTst (mBin dEq (mVar 5) (mVar 6))) (mBin dGe (mVar 4) (mC (.int 0))) (itemsD true kvs) (wipeE (hidA [some (.ref n), x1, r2, r3, r4, r5, r6]) [4, 5, 6]) [] = some ((ps.filter fun p => decide (p.1 = p.2.1)).map fun p => .bl (decide (0 ≤ p.2.2)), []) := by
    rw [hps, env]
    exact lcL_filf (fun p : Nm × Nm × Int => D.tup [.tup [.str p.1, .str p.2.1], .int p.2.2]) (fun p => .bl (decide (0 ≤ p.2.2))) (fun p => decide (p.1 = p.2.1)) fun p _ => ⟨[none, y1, y2, y3, some (.int p.2.2), some (.str p.1), some (.str p.2.1)], rfl, rfl, fun _ => rfl⟩
  refine ⟨(ps.filter fun p => decide (p.1 = p.2.1)).all fun p => decide (0 ≤ p.2.2), ?_, ?_⟩
  · rw [call_ap, cons_ap]
    unfold mLcIt
    rw [fld, bR_ok]
    unfold dicOf
    dsimp only
    rw [if_pos (List.all_eq_true.mpr fun p hp => by
      obtain ⟨i, _, j, _, x, e⟩ := R.mem p hp
      rw [e]; rfl), lc]
    dsimp only
    rw [if_pos ⟨List.all_eq_true.mpr fun d hd => by
      obtain ⟨p, _, rfl⟩ := List.mem_map.mp hd
      rfl, by
      rw [List.length_map]
      have := List.length_filter_le (fun p : Nm × Nm × Int => decide (p.1 = p.2.1)) ps
      show _ ≤ 16777216
      omega⟩, bR_ok, consK1_ap, nil_ap, bR_ok, consK2_ap, bR_ok, callK_ap, all_lst (asBs_map _ _), List.all_map]
    rfl
  · rw [List.all_eq_true]
    constructor
    · intro H i hi x e
      have h1 := items_has R e
      rw [hps] at h1
      obtain ⟨p, hp, e2⟩ := List.mem_map.mp h1
      obtain ⟨p1, p2, p3⟩ := p
      injection e2 with e2
      injection e2 with e3 e2
      injection e2 with e4 _
      injection e3 with e3
      injection e3 with e5 e3
      injection e3 with e6 _
      injection e5 with e5
      injection e6 with e6
      injection e4 with e4
      dsimp only at e4 e5 e6
      subst e4 e5 e6
      exact of_decide_eq_true (H _ (List.mem_filter.mpr ⟨hp, decide_eq_true rfl⟩))
    · intro H p hp
      obtain ⟨hp, q⟩ := List.mem_filter.mp hp
      have q := of_decide_eq_true q
      have h1 : D.tup [.tup [.str p.1, .str p.2.1], .int p.2.2] ∈ itemsD true kvs := by
        rw [hps]; exact List.mem_map_of_mem (f := fun p : Nm × Nm × Int => D.tup [.tup [.str p.1, .str p.2.1], .int p.2.2]) hp
      obtain ⟨i, hi, j, hj, x, e, e2⟩ := back_kv R _ h1
      obtain ⟨p1, p2, p3⟩ := p
      injection e2 with e2
      injection e2 with e3 e2
      injection e2 with e4 _
      injection e3 with e3
      injection e3 with e5 e3
      injection e3 with e6 _
      injection e5 with e5
      injection e6 with e6
      injection e4 with e4
      dsimp only at e4 e5 e6 q
      subst e4 e5 e6 q
      exact decide_eq_true (H _ hi _ e)
end SZ
namespace SZ
open PySem PD
theorem forL_all {α : Type} {g : MG} {b : MS} (q : α → D) (I : Ev → EH → Prop) (xs : List α) (H : ∀ x ε h, x ∈ xs → I ε h → ∃ ε1 h1 ε2 h2, g (q x) ε h = some (ε1, h1) ∧ b ε1 h1 = some (.nx ε2, h2) ∧ I ε2 h2) (ε : Ev) (h : EH) (i : I ε h) : ∃ ε' h', forL g b (xs.map q) ε h = some (.nx ε', h') ∧ I ε' h' :=
  forL_run (σ := Unit) q (fun _ _ => ()) (fun _ => I) xs (fun _ x ε h hx i => H x ε h hx i) () ε h i
theorem ap_last {α : Type} (h : List α) (x : α) : (h ++ [x])[h.length]? = some x := by
  rw [List.getElem?_append_right (Nat.le_refl _), Nat.sub_self]; rfl
theorem set_last {α : Type} (h : List α) (x y : α) : (h ++ [x]).set h.length y = h ++ [y] := by
  rw [List.set_append_right _ _ (Nat.le_refl _), Nat.sub_self]; rfl
theorem putO_last {Cs : List Str} {C f : Str} {h : EH} {fs : List (Str × D)} {y : D} (hC : C ∈ Cs) (l : fs.length < 1000) : putO Cs f (h ++ [.obj C fs]) (.ref h.length) y = some (h ++ [.obj C (putD f y fs)]) := by
  unfold putO
  dsimp only
  rw [ap_last]
  dsimp only
  rw [if_pos ⟨hC, l⟩, set_last]
theorem fld_last {Cs : List Str} {C f : Str} {h : EH} {fs : List (Str × D)} {y : D} (hC : C ∈ Cs) (l : fs.lookup f = some y) : dFld Cs f (h ++ [.obj C fs]) (.ref h.length) = some y := by
  unfold dFld insD
  dsimp only
  rw [ap_last]
  dsimp only
  rw [if_pos hC, l]
/-- System(rows) -/
theorem init_ok {rows : List Row} {x : D} (hx : isL x rows) (l : rows.length ≤ 100) (hr : ∀ r ∈ rows, okR r) (h : EH) : ∃ kvs bd b, F_System_init [.ref h.length, x] (h ++ [.obj "System" []]) = some (.ok .non, h ++ [.obj "System" (syF (dd rows) kvs b)]) ∧ BdR (nms (dd rows)) kvs bd ∧ SY.Fin (dd rows) (nms (dd rows)) bd ∧ (b = true ↔ SY.NoNeg rows) := by
  have ld : (dd rows).length ≤ 100 := Nat.le_trans dd_len l
  obtain ⟨kvs, bd, ec, R, Fn⟩ := closed_ok ld
  have lS : (nms (dd rows)).length ≤ 1000 := Nat.le_trans (nms_len ld) (by decide)
  -- each row is a comparison
  obtain ⟨ε1, h1, e1, ⟨⟨r2, r3, r4, r5, r6, rfl⟩, rfl⟩⟩ := forL_all (g := mgTup 2 (mgCons (mgName 2) (mgCons (mgName 3) mgNil))) (b := mb_System_init_0) (fun p : Row × Nat => D.tup [.int (p.2 : Nat), rowC p.1]) (fun ε h1 => (∃ r2 r3 r4 r5 r6, ε = [some (.ref h.length), some x, r2, r3, r4, r5, r6]) ∧ h1 = h ++ [.obj "System" []]) rows.zipIdx (fun p ε h1 hp I => by
    obtain ⟨⟨r2, r3, r4, r5, r6, rfl⟩, rfl⟩ := I
    obtain ⟨y, k⟩ := p
    have hy : y ∈ rows := by
      have := List.mem_zipIdx hp
      rw [this.2.2]; exact List.getElem_mem _
    have run : mb_System_init_0 [some (D.ref h.length), some x, some (D.int (k : Nat)), some (rowC y), r4, r5, r6] (h ++ [.obj "System" []]) = some (.nx [some (D.ref h.length), some x, some (D.int (k : Nat)), some (rowC y), r4, r5, r6], h ++ [.obj "System" []]) := by
      unfold mb_System_init_0
      rw [sif_ap, not_ap, tst_ap, callP_ap, cons_ap, show mVar 3 [some (D.ref h.length), some x, some (D.int (k : Nat)), some (rowC y), r4, r5, r6] (h ++ [.obj "System" []]) = some (.ok (rowC y), _) from rfl, bR_ok, consK1_ap, nil_ap, bR_ok, consK2_ap, bR_ok, callPK_ok (comp_ok (hr y hy)) rfl]
      rfl
    exact ⟨_, _, _, _, rfl, run, ⟨⟨_, _, _, _, _, rfl⟩, rfl⟩⟩) [some (.ref h.length), some x, none, none, none, none, none] (h ++ [.obj "System" []]) ⟨⟨_, _, _, _, _, rfl⟩, rfl⟩
  obtain ⟨c, ea, hc⟩ := sol_run (n := h.length) (h := h ++ [Cell.obj "System" [("own_rows", .lst ((dd rows).map rowC)), ("own_bounds", .dic true kvs)]]) R lS (x0 := some (.ref h.length)) (x1 := some x) (r2 := r2) (r3 := r3) (r4 := r4) (r5 := r5) (r6 := r6) (t := []) rfl (ap_last _ _)
  refine ⟨kvs, bd, c, ?_, R, Fn, hc.trans ((Fn.open fun i j c hm => nms_in hm).trans nn_dd)⟩
  show endI (h ++ [Cell.obj "System" []]).length (m_System_init [some (.ref h.length), some x, none, none, none, none, none] (h ++ [.obj "System" []])) = _
  unfold m_System_init
  have s1 : msIf (mNot (mTst (mCallP F_is_listed (mCons (mVar 1) mNil)))) (msRaise "InvalidComparison" (some "index") [73, 110, 118, 97, 108, 105, 100, 67, 111, 109, 112, 97, 114, 105, 115, 111, 110] (mCons (mC (.int 0)) mNil)) msNil [some (.ref h.length), some x, none, none, none, none, none] (h ++ [.obj "System" []]) = some (.nx [some (.ref h.length), some x, none, none, none, none, none], h ++ [.obj "System" []]) := by
    have k : callPK F_is_listed [x] (h ++ [.obj "System" []]) = some (.ok (.bl true), h ++ [.obj "System" []]) := by
      rcases hx with rfl | rfl
      · exact callPK_ok (by rfl) (show (PD.noRef.go (rows.map rowC) && true) = true by rw [rows_no']; rfl)
      · exact callPK_ok (by rfl) (show (PD.noRef.go (rows.map rowC) && true) = true by rw [rows_no']; rfl)
    rw [sif_ap, not_ap, tst_ap, callP_ap, cons_ap, show mVar 1 [some (.ref h.length), some x, none, none, none, none, none] (h ++ [.obj "System" []]) = some (.ok x, _) from rfl, bR_ok, consK1_ap, nil_ap, bR_ok, consK2_ap, bR_ok, k]
    rfl
  rw [sq_then s1]
  have en : miEn (mCons (mVar 1) mNil) [some (.ref h.length), some x, none, none, none, none, none] (h ++ [.obj "System" []]) = some (.ok (rows.zipIdx.map fun p => D.tup [.int (p.2 : Nat), rowC p.1]), h ++ [.obj "System" []]) := by
    rw [← enum_rows]
    rcases hx with rfl | rfl <;> rfl
  rw [sq_then (for_run en e1)]
  -- own_rows
  have dl : mListDc [3] (miA (mVar 1)) (mgName 3) mYes (mVar 3) [some (.ref h.length), some x, r2, r3, r4, r5, r6] (h ++ [.obj "System" []]) = some (.ok (.lst ((dd rows).map rowC)), h ++ [.obj "System" []]) := by
    unfold mListDc
    rw [show miA (mVar 1) [some (.ref h.length), some x, r2, r3, r4, r5, r6] (h ++ [.obj "System" []]) = some (.ok (rows.map rowC), h ++ [.obj "System" []]) from by rcases hx with rfl | rfl <;> rfl, bR_ok]
    rw [show dedL (mgName 3) mYes (mVar 3) (wipeE [some (.ref h.length), some x, r2, r3, r4, r5, r6] [3]) (rows.map rowC) [] (h ++ [.obj "System" []]) = some ((dd rows).map dk, h ++ [.obj "System" []]) from dedL_ok (g := mgName 3) (mk := mVar 3) rows [] (by simp; omega) fun r _ => ⟨[some (.ref h.length), some x, r2, some (rowC r), r4, r5, r6], rfl, rfl⟩]
    show some (PD.R.ok (D.lst (((dd rows).map dk).map (·.2))), _) = _
    rw [List.map_map]; rfl
  rw [sq_then (show msFld ["System"] "own_rows" (mVar 0) _ _ _ = some (.nx [some (.ref h.length), some x, r2, r3, r4, r5, r6], h ++ [.obj "System" [("own_rows", .lst ((dd rows).map rowC))]]) from by
    rw [sfld_ap, dl, bS_ok, sfldK_ap, show mVar 0 [some (.ref h.length), some x, r2, r3, r4, r5, r6] _ = some (.ok (.ref h.length), _) from rfl, bS_ok, sfldK2_ap, putO_last (by simp) (by decide)]; rfl)]
  have cl : mCallP F_closed (mCons (mFld ["System"] "own_rows" (mVar 0)) mNil) [some (.ref h.length), some x, r2, r3, r4, r5, r6] (h ++ [.obj "System" [("own_rows", .lst ((dd rows).map rowC))]]) = some (.ok (.dic true kvs), h ++ [.obj "System" [("own_rows", .lst ((dd rows).map rowC))]]) := by
    rw [callP_ap, cons_ap, fld_ap, show mVar 0 [some (.ref h.length), some x, r2, r3, r4, r5, r6] _ = some (.ok (.ref h.length), _) from rfl, bR_ok, fldK_ap, fld_last (y := .lst ((dd rows).map rowC)) (by simp) rfl, rt_some, bR_ok, consK1_ap, nil_ap, bR_ok, consK2_ap, bR_ok]
    exact callPK_ok ec (show (PD.noRef.go ((dd rows).map rowC) && true) = true by rw [rows_no']; rfl)
  rw [sq_then (show msFld ["System"] "own_bounds" (mVar 0) _ _ _ = some (.nx [some (.ref h.length), some x, r2, r3, r4, r5, r6], h ++ [.obj "System" [("own_rows", .lst ((dd rows).map rowC)), ("own_bounds", .dic true kvs)]]) from by
    rw [sfld_ap, cl, bS_ok, sfldK_ap, show mVar 0 [some (.ref h.length), some x, r2, r3, r4, r5, r6] _ = some (.ok (.ref h.length), _) from rfl, bS_ok, sfldK2_ap, putO_last (by simp) (by show 1 < 1000; decide)]; rfl)]
  rw [sfld_ap, ea, bS_ok, sfldK_ap, show mVar 0 [some (.ref h.length), some x, r2, r3, r4, r5, r6] _ = some (.ok (.ref h.length), _) from rfl, bS_ok, sfldK2_ap, putO_last (by simp) (by show 2 < 1000; decide)]
  exact endI_nx (ε := [some (.ref h.length), some x, r2, r3, r4, r5, r6]) (by rw [List.length_append, List.length_append]; rfl)
theorem sys_mk {rows : List Row} {x : D} (hx : isL x rows) (l : rows.length ≤ 100) (hr : ∀ r ∈ rows, okR r) {h : EH} (hp : h.all pureC = true) : ∃ d, mkpK "System" [] F_System_init [x] h = some (.ok d, h) ∧ Sy rows d := by
  obtain ⟨kvs, bd, b, e, R, Fn, hb⟩ := init_ok hx l hr h
  exact ⟨_, mkpK_ok hp (syF_no R.no) e, kvs, bd, b, rfl, R, Fn, hb⟩
theorem open_m {rows : List Row} {d : D} (s : Sy rows d) {h : EH} : ∃ b, prpK "System" F_System_is_open d h = some (.ok (.bl b), h) ∧ (b = true ↔ SY.NoNeg rows) := by
  obtain ⟨kvs, bd, b, rfl, R, Fn, hb⟩ := s
  exact ⟨b, prpK_ok (syF_no R.no) (by rfl), hb⟩
end SZ
local macro_rules
  | `(tactic| dsimp! only [$xs,*] $[$l]?) => `(tactic| simp only [↓PD.seq_ap, ↓PD.var_ap, ↓PD.c_ap, ↓PD.bin_ap, ↓PD.tst_ap, ↓PD.not_ap, ↓PD.and_ap, ↓PD.or_ap, ↓PD.if_ap, ↓PD.andv_ap, ↓PD.orv_ap, ↓PD.notv_ap, ↓PD.nil_ap, ↓PD.cons_ap, ↓PD.tup_ap, ↓PD.lst_ap, ↓PD.call_ap, ↓PD.callP_ap, ↓PD.callI_ap, ↓PD.perm_ap, ↓PD.nop_ap, ↓PD.smp_ap, ↓PD.sl_ap, ↓PD.chain_ap, ↓PD.isi_ap, ↓PD.lc_ap, ↓PD.lstC_ap, ↓PD.mts_ap, ↓PD.yes_ap, ↓PD.il_ap, ↓PD.it_ap, ↓PD.is_ap, ↓PD.ir1_ap, ↓PD.iz_ap, ↓PD.snil_ap, ↓PD.ret_ap, ↓PD.sif_ap, ↓PD.sexpr_ap, ↓PD.bk_ap, ↓PD.ct_ap, ↓PD.asg_ap, ↓PD.for_ap, ↓PD.par_ap, ↓PD.gname_ap, ↓PD.gnil_ap, ↓PD.gcons_ap, ↓PD.gtup_ap, ↓PD.gsub_ap, PD.bR_ok, PD.bR_ex, PD.rt_some, PD.sq_nx, PD.sq_rt, PD.sq_bk, PD.sq_ct, PD.sq_ex, PD.bS_ok, PD.bS_ex, PD.binK1_ap, PD.binK2_ap, PD.tstK_b, PD.notK_ap, PD.andK_t, PD.andK_f, PD.orK_t, PD.orK_f, PD.ifK_t, PD.ifK_f, PD.andV_t, PD.andV_f, PD.orV_t, PD.orV_f, PD.notV_c, PD.consK1_ap, PD.consK2_ap, PD.tupK_ok, PD.lstK_ok, PD.callK_ap, PD.permK_ap, PD.smP_int, PD.slK1_ap, PD.slK2_ap, PD.slK3_ap, PD.sl_lst, PD.sl_scr, PD.sl_tup, PD.chK1_ap, PD.chK2_ap, PD.chK3_t, PD.chK3_f, PD.chK4_ap, PD.isiK_int, PD.isiK_str, PD.isiK_bl, PD.isiK_non, PD.isiK_tup, PD.isiK_lst, PD.mtsK_str, PD.mtsK2_ap, PD.ilK_lst, PD.ilK_scr, PD.itK_tup, PD.isK_str, PD.izK_l, PD.izK_t, PD.retK_ap, PD.sifK_t, PD.sifK_f, PD.sexprK_ap, PD.asgK_ap, PD.bG_ok, PD.forK_ap, PD.parK_ok, PD.gK_ok, PD.subK1_ok, PD.subK2_ok, PD.add_int, PD.sub_int, PD.mod_int, PD.lt_int, PD.le_int, PD.gt_int, PD.ge_int, PD.eq_int, PD.eq_str, PD.eq_bl, PD.eq_is, PD.eq_si, PD.eq_bs, PD.eq_sb, PD.eq_nn, PD.ne_int, PD.ne_str, PD.ne_bl, PD.isn_ap, PD.isN_int, PD.isN_str, PD.isN_bl, PD.isN_tup, PD.isN_lst, PD.isN_non, PD.ix_lst, PD.ix_tup, PD.ix_scr, PD.len_lst, PD.len_tup, PD.int_int, PD.list_lst, PD.list_tup, PD.tuple_lst, PD.tuple_tup, PD.asB_bl, PD.getD0, PD.getDS, PD.set0, PD.setS, PD.at0, PD.atS, PD.map_some', PD.bind_some', List.length_cons, List.length_nil, List.any_cons, List.any_nil, ↓PD.fld_ap, ↓PD.mei_ap, ↓PD.faug_ap, ↓PD.c1_ap, ↓PD.ir2_ap, ↓PD.sfld_ap, PD.fldK_ap, PD.meiK2_ap, PD.c1K_ap, PD.sfldK_ap, PD.sfldK2_ap, decide_true, decide_false, and_self, Nat.reduceLeDiff, Nat.reduceAdd, if_true, Int.reduceLT, Int.reduceNeg, Int.reducePow, Int.reduceToNat, Int.reduceLE, Nat.reduceLT, Int.reduceAdd, Int.reduceSub, Bool.not_true, Bool.not_false, Int.reduceEq, bne_self_eq_false, Bool.false_bne, Bool.true_bne, Int.reduceBNe, $xs,*] $[$l]?)
local macro_rules
  | `(tactic| simp! only [$xs,*] $[$l]?) => `(tactic| simp only [↓PD.seq_ap, ↓PD.var_ap, ↓PD.c_ap, ↓PD.bin_ap, ↓PD.tst_ap, ↓PD.not_ap, ↓PD.and_ap, ↓PD.or_ap, ↓PD.if_ap, ↓PD.andv_ap, ↓PD.orv_ap, ↓PD.notv_ap, ↓PD.nil_ap, ↓PD.cons_ap, ↓PD.tup_ap, ↓PD.lst_ap, ↓PD.call_ap, ↓PD.callP_ap, ↓PD.callI_ap, ↓PD.perm_ap, ↓PD.nop_ap, ↓PD.smp_ap, ↓PD.sl_ap, ↓PD.chain_ap, ↓PD.isi_ap, ↓PD.lc_ap, ↓PD.lstC_ap, ↓PD.mts_ap, ↓PD.yes_ap, ↓PD.il_ap, ↓PD.it_ap, ↓PD.is_ap, ↓PD.ir1_ap, ↓PD.iz_ap, ↓PD.snil_ap, ↓PD.ret_ap, ↓PD.sif_ap, ↓PD.sexpr_ap, ↓PD.bk_ap, ↓PD.ct_ap, ↓PD.asg_ap, ↓PD.for_ap, ↓PD.par_ap, ↓PD.gname_ap, ↓PD.gnil_ap, ↓PD.gcons_ap, ↓PD.gtup_ap, ↓PD.gsub_ap, PD.bR_ok, PD.bR_ex, PD.rt_some, PD.sq_nx, PD.sq_rt, PD.sq_bk, PD.sq_ct, PD.sq_ex, PD.bS_ok, PD.bS_ex, PD.binK1_ap, PD.binK2_ap, PD.tstK_b, PD.notK_ap, PD.andK_t, PD.andK_f, PD.orK_t, PD.orK_f, PD.ifK_t, PD.ifK_f, PD.andV_t, PD.andV_f, PD.orV_t, PD.orV_f, PD.notV_c, PD.consK1_ap, PD.consK2_ap, PD.tupK_ok, PD.lstK_ok, PD.callK_ap, PD.permK_ap, PD.smP_int, PD.slK1_ap, PD.slK2_ap, PD.slK3_ap, PD.sl_lst, PD.sl_scr, PD.sl_tup, PD.chK1_ap, PD.chK2_ap, PD.chK3_t, PD.chK3_f, PD.chK4_ap, PD.isiK_int, PD.isiK_str, PD.isiK_bl, PD.isiK_non, PD.isiK_tup, PD.isiK_lst, PD.mtsK_str, PD.mtsK2_ap, PD.ilK_lst, PD.ilK_scr, PD.itK_tup, PD.isK_str, PD.izK_l, PD.izK_t, PD.retK_ap, PD.sifK_t, PD.sifK_f, PD.sexprK_ap, PD.asgK_ap, PD.bG_ok, PD.forK_ap, PD.parK_ok, PD.gK_ok, PD.subK1_ok, PD.subK2_ok, PD.add_int, PD.sub_int, PD.mod_int, PD.lt_int, PD.le_int, PD.gt_int, PD.ge_int, PD.eq_int, PD.eq_str, PD.eq_bl, PD.eq_is, PD.eq_si, PD.eq_bs, PD.eq_sb, PD.eq_nn, PD.ne_int, PD.ne_str, PD.ne_bl, PD.isn_ap, PD.isN_int, PD.isN_str, PD.isN_bl, PD.isN_tup, PD.isN_lst, PD.isN_non, PD.ix_lst, PD.ix_tup, PD.ix_scr, PD.len_lst, PD.len_tup, PD.int_int, PD.list_lst, PD.list_tup, PD.tuple_lst, PD.tuple_tup, PD.asB_bl, PD.getD0, PD.getDS, PD.set0, PD.setS, PD.at0, PD.atS, PD.map_some', PD.bind_some', List.length_cons, List.length_nil, List.any_cons, List.any_nil, ↓PD.fld_ap, ↓PD.mei_ap, ↓PD.faug_ap, ↓PD.c1_ap, ↓PD.ir2_ap, ↓PD.sfld_ap, PD.fldK_ap, PD.meiK2_ap, PD.c1K_ap, PD.sfldK_ap, PD.sfldK2_ap, ↓PD.ia_ap, ↓PD.ien_ap, ↓PD.sort_ap, ↓PD.lenT_ap, ↓PD.cget_ap, ↓PD.append_ap, ↓PD.app2_ap, ↓PD.par3_ap, ↓PD.lc2_ap, ↓PD.prp_ap, ↓PD.mep_ap, ↓PD.mkp_ap, ↓PD.neg_ap, PD.iaK_lst, PD.iaK_tup, PD.ienK_lst, PD.ienK_tup, PD.cgetK_str, PD.cgetK2_ap, PD.apK2_ap, PD.app2K_ap, PD.app2K2_ap, PD.par3K_ok, PD.max2_ap, PD.augK_int, PD.negK_int, decide_true, decide_false, and_self, Nat.reduceLeDiff, Nat.reduceAdd, if_true, Int.reduceLT, Int.reduceNeg, Int.reducePow, Int.reduceToNat, Int.reduceLE, Nat.reduceLT, Int.reduceAdd, Int.reduceSub, Bool.not_true, Bool.not_false, Int.reduceEq, bne_self_eq_false, Bool.false_bne, Bool.true_bne, Int.reduceBNe, $xs,*] $[$l]?)
namespace SZ
open PySem PD
theorem bag_pure {k : Cell} (hk : BagI k) : pureC k = true := by
  obtain ⟨cs, i, b, s, c, rfl, h1, h2, h3, h4, h5⟩ := hk
  show (PD.noRef.go (cs.map _) && true) = true
  rw [noRef_all fun d hd => by
    obtain ⟨z, _, rfl⟩ := List.mem_map.mp hd
    rfl]
  rfl
theorem draws_lst {ns : List Int} (hl : ns.length ≤ 63) : ∃ k, F_draws [.lst (ns.map .int)] [] = some (.ok (.ref 0), [k]) ∧ BagI k := by
  obtain ⟨s', o', e, r0, r1⟩ := draws_loop (x := .lst (ns.map .int)) ns 5648 none (by decide) (by decide)
  refine ⟨bagC (ns.map .int) 0 0 s' 0, ?_, ⟨_, _, _, _, _, rfl, hl, by decide, by decide, r0, r1⟩⟩
  show endA _ (mDraws [some (.lst (ns.map .int)), none, none] []) = _
  have l : (ns.map D.int).length ≤ 63 := by simpa using hl
  simp? only [mDraws, cut63 l, e, lstCK_ok]
  rfl
theorem pull_v {k : Cell} (hk : BagI k) {n : Int} (hn : 0 < n) (hn2 : n < 1073741824) (t : EH) : ∃ d k', F__law_pull [.ref 0, .int n] (k :: t) = some (.ok (.int d), k' :: t) ∧ 0 ≤ d ∧ d < n ∧ BagI k' := pull_ok hk hn hn2 t
theorem any_v {k : Cell} (hk : BagI k) {ds : List D} (h0 : 0 < ds.length) (h1 : ds.length < 1073741824) (hr : ∀ d ∈ ds, PD.noRef d = true) (t : EH) : ∃ d k', F__law_any [.ref 0, .lst ds] (k :: t) = some (.ok d, k' :: t) ∧ d ∈ ds ∧ BagI k' := any_lst hk h0 h1 hr t
theorem like_ok {t : Nat} {d : D} {h : EH} (o : okD t d = true) (l : t ≤ 30) : callPK F__law_like [d, d] h = some (.ok (.bl true), h) := by
  refine callPK_ok (F := F__law_like) (like_refl (okD_le o l)) ?_
  rw [PD.noRef.go, PD.noRef.go, okD_noRef o]; rfl
theorem near_ok {k : Cell} (hk : BagI k) (t : EH) : ∃ (i : Int) (k' : Cell), F__law_near [.ref 0] (k :: t) = some (.ok (.int i), k' :: t) ∧ (-2 ≤ i ∧ i ≤ 3) ∧ BagI k' := by
  obtain ⟨d, k3, e3, hd, hk3⟩ := any_v hk (ds := [.int 0, .int 1, .int 1, .int 2, .int 3, .int (-1), .int (-2)]) (by simp) (by simp) (by simp [PD.noRef]) t
  have key : ∃ i : Int, d = .int i ∧ (-2 ≤ i ∧ i ≤ 3) := by
    simp only [List.mem_cons, List.not_mem_nil, or_false] at hd
    rcases hd with rfl | rfl | rfl | rfl | rfl | rfl | rfl <;> exact ⟨_, rfl, by omega⟩
  obtain ⟨i, rfl, hi⟩ := key
  refine ⟨i, k3, ?_, hi, hk3⟩
  show endI _ (m__law_near [some (.ref 0)] (k :: t)) = _
  dsimp! only [m__law_near, e3]
  exact endI_rt rfl rfl
def nm5 : List Nm := [[], [97], [98], [49, 46, 107, 101, 121], [50, 46, 101, 110, 100]]
theorem nm5_lns : ∀ z ∈ nm5, z ∈ lns := by decide
theorem okU5 : ∀ z ∈ nm5, okU z := by
  intro z hz
  simp only [nm5, List.mem_cons, List.not_mem_nil, or_false] at hz
  unfold okU
  rcases hz with rfl | rfl | rfl | rfl | rfl <;> kernel_rfl
def In5 (r : Row) : Prop := r.1 ∈ nm5 ∧ r.2.1 ∈ nm5
theorem names_any {k : Cell} (hk : BagI k) (t : EH) : ∃ z k', F__law_any [.ref 0, .lst (nm5.map .str)] (k :: t) = some (.ok (.str z), k' :: t) ∧ z ∈ nm5 ∧ BagI k' := by
  obtain ⟨d, k', e, hd, hk'⟩ := any_v hk (ds := nm5.map .str) (by decide) (by decide) (by decide) t
  obtain ⟨z, hz, rfl⟩ := List.mem_map.mp hd
  exact ⟨z, k', e, hz, hk'⟩
theorem some_comps {k : Cell} (hk : BagI k) {n : Nat} (hn : n ≤ 90) (t : EH) : ∃ (rows : List Row) (k' : Cell), F__law_some_comparisons [.ref 0, .int (n : Nat)] (k :: t) = some (.ok (.lst (rows.map rowC)), k' :: t) ∧ rows.length = n ∧ (∀ r ∈ rows, In5 r ∧ r.2.2.natAbs ≤ 3 * 10 ^ 29) ∧ BagI k' := by
  have p29 : ∀ h : EH, dPow h (.int 10) (.int 29) = some (.int 100000000000000000000000000000) := fun h => pow_c (by decide) (by decide)
  obtain ⟨d, k1, e1, hd, hk1⟩ := any_v hk (ds := [.int 1, .int 1, .int 1, .int 100000000000000000000000000000]) (by simp) (by simp) (by simp [PD.noRef]) t
  obtain ⟨g, rfl, hg⟩ : ∃ g : Int, d = .int g ∧ g.natAbs ≤ 10 ^ 29 := by
    simp only [List.mem_cons, List.not_mem_nil, or_false] at hd
    rcases hd with rfl | rfl | rfl | rfl <;> exact ⟨_, rfl, by decide⟩
  obtain ⟨ys, k2, e2, l2, p2, hk2⟩ := lcL_bag (g := mgName 4) (e := me__law_some_comparisons_0) (ε := [some (.ref 0), some (.int (n : Nat)), some (.lst (nm5.map .str)), some (.int g), none]) (fun y => ∃ r : Row, y = rowC r ∧ In5 r ∧ r.2.2.natAbs ≤ 3 * 10 ^ 29) (ds := rngD 0 n) (fun d _ k t hk => by
    obtain ⟨z1, k1, e1, h1, hk1⟩ := names_any hk t
    obtain ⟨z2, k2, e2, h2, hk2⟩ := names_any hk1 t
    obtain ⟨i, k3, e3, hi, hk3⟩ := near_ok hk2 t
    have mu : ∀ h : EH, dMul h (.int i) (.int g) = some (.int (i * g)) := fun h => mul_int (cmul_l ⟨by omega, by omega⟩)
    refine ⟨[some (.ref 0), some (.int (n : Nat)), some (.lst (nm5.map .str)), some (.int g), some d], rowC (z1, z2, i * g), k3, rfl, ?_, ⟨_, rfl, ⟨h1, h2⟩, ?_⟩, hk3⟩
    · unfold me__law_some_comparisons_0 rowC
      rw [tup_ap, cons_ap, callI_ap, cons_ap, show mVar 0 [some (.ref 0), some (.int (n : Nat)), some (.lst (nm5.map .str)), some (.int g), some d] (k :: t) = some (.ok (.ref 0), _) from rfl, bR_ok, consK1_ap, cons_ap, show mVar 2 [some (.ref 0), some (.int (n : Nat)), some (.lst (nm5.map .str)), some (.int g), some d] (k :: t) = some (.ok (.lst (nm5.map .str)), _) from rfl, bR_ok, consK1_ap, nil_ap, bR_ok, consK2_ap, bR_ok, consK2_ap, bR_ok, e1, bR_ok, consK1_ap]
      rw [cons_ap, callI_ap, cons_ap, show mVar 0 [some (.ref 0), some (.int (n : Nat)), some (.lst (nm5.map .str)), some (.int g), some d] (k1 :: t) = some (.ok (.ref 0), _) from rfl, bR_ok, consK1_ap, cons_ap, show mVar 2 [some (.ref 0), some (.int (n : Nat)), some (.lst (nm5.map .str)), some (.int g), some d] (k1 :: t) = some (.ok (.lst (nm5.map .str)), _) from rfl, bR_ok, consK1_ap, nil_ap, bR_ok, consK2_ap, bR_ok, consK2_ap, bR_ok, e2, bR_ok, consK1_ap]
      rw [cons_ap, bin_ap, callI_ap, cons_ap, show mVar 0 [some (.ref 0), some (.int (n : Nat)), some (.lst (nm5.map .str)), some (.int g), some d] (k2 :: t) = some (.ok (.ref 0), _) from rfl, bR_ok, consK1_ap, nil_ap, bR_ok, consK2_ap, bR_ok, e3, bR_ok, binK1_ap, show mVar 3 [some (.ref 0), some (.int (n : Nat)), some (.lst (nm5.map .str)), some (.int g), some d] (k3 :: t) = some (.ok (.int g), _) from rfl, bR_ok, binK2_ap, mu, rt_some, bR_ok, consK1_ap, nil_ap, bR_ok, consK2_ap, bR_ok, consK2_ap, bR_ok, consK2_ap, bR_ok]
      exact tupK_ok (by show 3 ≤ 16777216; omega)
    · show (i * g).natAbs ≤ _
      rw [Int.natAbs_mul]
      exact Nat.mul_le_mul (by omega) hg) k1 t hk1
  have hrows : ∃ rows : List Row, ys = rows.map rowC ∧ ∀ r ∈ rows, In5 r ∧ r.2.2.natAbs ≤ 3 * 10 ^ 29 := by
    have : ∀ l : List D, (∀ y ∈ l, ∃ r : Row, y = rowC r ∧ In5 r ∧ r.2.2.natAbs ≤ 3 * 10 ^ 29) → ∃ rows : List Row, l = rows.map rowC ∧ ∀ r ∈ rows, In5 r ∧ r.2.2.natAbs ≤ 3 * 10 ^ 29 := by
      intro l
      induction l with
      | nil => exact fun _ => ⟨[], rfl, fun _ h => nomatch h⟩
      | cons y l ih =>
        intro H
        obtain ⟨r, rfl, hr⟩ := H y List.mem_cons_self
        obtain ⟨rows, rfl, hrs⟩ := ih fun z hz => H z (List.mem_cons_of_mem _ hz)
        exact ⟨r :: rows, rfl, fun x hx => (List.mem_cons.mp hx).elim (fun e => e ▸ hr) (hrs x)⟩
    exact this ys p2
  obtain ⟨rows, rfl, hr⟩ := hrows
  have ln : rows.length = n := by
    rw [List.length_map] at l2
    rw [l2]
    unfold rngD
    rw [List.length_map, List.length_range]
  refine ⟨rows, k2, ?_, ln, hr, hk2⟩
  show endI _ (m__law_some_comparisons [some (.ref 0), some (.int (n : Nat)), none, none, none] (k :: t)) = _
  unfold m__law_some_comparisons
  rw [sq_then (asg_run (d := .lst (nm5.map .str)) rfl)]
  show endI _ (msSeq _ _ [some (.ref 0), some (.int (n : Nat)), some (.lst (nm5.map .str)), none, none] (k :: t)) = _
  rw [sq_then (show msAsg _ (mgName 3) [some (.ref 0), some (.int (n : Nat)), some (.lst (nm5.map .str)), none, none] (k :: t) = some (.nx [some (.ref 0), some (.int (n : Nat)), some (.lst (nm5.map .str)), some (.int g), none], k1 :: t) from by simp! only [p29, e1])]
  have lk := lcK_ok (vs := [4]) (ε := [some (.ref 0), some (.int (n : Nat)), some (.lst (nm5.map .str)), some (.int g), none]) e2 (by rw [List.length_map]; omega)
  have r1 : ir1K [.int (n : Nat)] (k1 :: t) = some (.ok (rngD 0 n), k1 :: t) := by
    have := ir1K_ok (h := k1 :: t) (j := (n : Int)) ⟨by omega, by omega⟩
    rw [Int.toNat_natCast] at this
    exact this
  simp! only [r1, lk]
  exact endI_rt rfl (frzIT (show PD.noRef.go (rows.map rowC) = true from rows_no' rows))
end SZ
namespace SZ
open PySem PySem.Spec PyProof.Rows L2 PD
def N_System_need_open : List Str := ["self"]
def m_System_need_open : MS :=
    (msIf (mNot (mTst (mFld ["System"] "has_solution" (mVar 0)))) (msRaise "NotOpen" none [78, 111, 116, 79, 112, 101, 110] mNil) msNil)
def F_System_need_open : PF := runP N_System_need_open.length m_System_need_open
def N_System_unknowns : List Str := ["self", "name", "left", "right", "k"]
def m_System_unknowns : MS :=
    (msRet (mSortV [2, 3, 4, 1] (miL (mFld ["System"] "own_rows" (mVar 0))) (mgTup 3 (mgCons (mgName 2) (mgCons (mgName 3) (mgCons (mgName 4) mgNil)))) mYes (mbFor (miT (mTup (mCons (mVar 2) (mCons (mVar 3) mNil)))) (mgName 1) (mTst (mBin dNe (mVar 1) (mC (.str [])))) [1] (mbS (mVar 1)))))
def F_System_unknowns : PF := runP N_System_unknowns.length m_System_unknowns
def N_System_on : List Str := ["self", "unknowns", "names", "left", "right", "name"]
def me_System_on_0 : M D :=
    (mTup (mCons (mVar 3) (mCons (mVar 4) (mCons (mDixT (mFld ["System"] "own_bounds" (mVar 0)) (mCons (mVar 3) (mCons (mVar 4) mNil))) mNil))))
def mt_System_on_1 : M Bool :=
    (mAnd (mTst (mBin dNe (mVar 3) (mVar 4))) (mTst (mDinT false (mCons (mVar 3) (mCons (mVar 4) mNil)) (mFld ["System"] "own_bounds" (mVar 0)))))
def m_System_on : MS :=
    (msSeq (msExpr (mMeP "System" "need_open" F_System_need_open (mVar 0) mNil))
    (msSeq (msAsg (mLst (mCons (mC (.str [])) (mStar (mLc [5] (miL (mMeP "System" "unknowns" F_System_unknowns (mVar 0) mNil)) (mgName 5) (mTst (mBin dInA (mVar 5) (mVar 1))) (mVar 5)) mNil))) (mgName 2))
    (msRet (mMkP "System" [] F_System_init (mCons (mLc2 [3, 4] (miL (mVar 2)) (mgName 3) mYes (miL (mVar 2)) (mgName 4) mt_System_on_1 me_System_on_0 [4]) mNil)))))
def F_System_on : PF := runP N_System_on.length m_System_on
def N_System_within : List Str := ["self", "other", "left", "right", "k"]
def me_System_within_0 : M D :=
    (mOrV (mAndV (mBin dEq (mVar 2) (mVar 3)) (mBin dGe (mVar 4) (mC (.int 0)))) (mBin dLe (mDGet2T (mFld ["System"] "own_bounds" (mVar 0)) (mCons (mVar 2) (mCons (mVar 3) mNil)) (mBin dAdd (mVar 4) (mC (.int 1)))) (mVar 4)))
def m_System_within : MS :=
    (msSeq (msIf (mNot (mTst (mFld ["System"] "has_solution" (mVar 0)))) (msRet (mC (.bl true))) msNil)
    (msRet (mCall dAll (mCons (mLc [2, 3, 4] (miL (mFld ["System"] "own_rows" (mVar 1))) (mgTup 3 (mgCons (mgName 2) (mgCons (mgName 3) (mgCons (mgName 4) mgNil)))) mYes me_System_within_0) mNil))))
def F_System_within : PF := runP N_System_within.length m_System_within
def N_System_eq : List Str := ["self", "other"]
def m_System_eq : MS :=
    (msRet (mAndV (mIsO "System" (mVar 1)) (mAndV (mMeP "System" "within" F_System_within (mVar 0) (mCons (mVar 1) mNil)) (mMeP "System" "within" F_System_within (mVar 1) (mCons (mVar 0) mNil)))))
def F_System_eq : PF := runP N_System_eq.length m_System_eq
def N_System_contains : List Str := ["self", "numbers", "worth", "name", "left", "right", "k"]
def me_System_contains_0 : M D :=
    (mBin dLe (mBin dDIx (mVar 2) (mVar 4)) (mBin dAdd (mBin dDIx (mVar 2) (mVar 5)) (mVar 6)))
def m_System_contains : MS :=
    (msSeq (msIf (mNot (mTst (mCall dAll (mCons (mLc [3] (miL (mMeP "System" "unknowns" F_System_unknowns (mVar 0) mNil)) (mgName 3) mYes (mBin (dDIn false) (mVar 3) (mVar 1))) mNil)))) (msRet (mC (.bl false))) msNil)
    (msSeq (msAsg (mDicS (mC (.str [])) (mC (.int 0)) (mDc [3] (miL (mMeP "System" "unknowns" F_System_unknowns (mVar 0) mNil)) (mgName 3) mYes (mVar 3) (mBin dDIx (mVar 1) (mVar 3)))) (mgName 2))
    (msRet (mCall dAll (mCons (mLc [4, 5, 6] (miL (mFld ["System"] "own_rows" (mVar 0))) (mgTup 3 (mgCons (mgName 4) (mgCons (mgName 5) (mgCons (mgName 6) mgNil)))) mYes me_System_contains_0) mNil)))))
def F_System_contains : PF := runP N_System_contains.length m_System_contains
end SZ
namespace SZ
open PySem PD
def uns (rows : List Row) : List Nm := srtU (nz ne0 rows)
theorem uns_mem {rows : List Row} {z : Nm} : z ∈ uns rows ↔ z ≠ [] ∧ ∃ r ∈ rows, z = r.1 ∨ z = r.2.1 := by
  unfold uns
  rw [srtU_mem, nz_mem]
  constructor
  · rintro ⟨r, hr, h, e⟩
    refine ⟨fun z => ?_, r, hr, h⟩
    rw [z] at e
    exact absurd e (by decide)
  · rintro ⟨h1, r, hr, h⟩
    exact ⟨r, hr, h, by unfold ne0; rw [decide_eq_false h1]; rfl⟩
theorem uns_nd (rows : List Row) : (uns rows).Nodup := (srtU_up (l := nz ne0 rows)).imp fun {a b} h e => by
  rw [e] at h
  exact absurd h (List.lt_irrefl b)
theorem uns_dd (rows : List Row) : uns (dd rows) = uns rows := up_unique srtU_up srtU_up fun z => by
  rw [uns_mem, uns_mem]
  simp only [dd_mem]
theorem uns_len {rows : List Row} (l : rows.length ≤ 100) : (uns rows).length ≤ 200 := by
  unfold uns
  have := srtU_le (l := nz ne0 rows)
  have := nz_len ne0 rows
  omega
theorem no_names (zs : List Nm) : PD.noRef.go (zs.map .str) = true := noRef_all fun d hd => by
  obtain ⟨z, _, rfl⟩ := List.mem_map.mp hd
  rfl
section
variable {rows : List Row} {d : D}
theorem uns_ok (s : Sy rows d) (l : rows.length ≤ 100) : F_System_unknowns [d] = some (.ok (.lst ((uns rows).map .str))) := by
  obtain ⟨kvs, bd, b, rfl, R, Fn, hb⟩ := s
  show endP (m_System_unknowns [some (syO (dd rows) kvs b), none, none, none, none] []) = _
  unfold m_System_unknowns
  have ld : (dd rows).length ≤ 100 := Nat.le_trans dd_len l
  have sv := sortV_run (ε := [some (syO (dd rows) kvs b), none, none, none, none]) (vs := [2, 3, 4, 1]) (h := []) (mi := miL (mFld ["System"] "own_rows" (mVar 0))) (g := mgTup 3 (mgCons (mgName 2) (mgCons (mgName 3) (mgCons (mgName 4) mgNil)))) (b := mbFor (miT (mTup (mCons (mVar 2) (mCons (mVar 3) mNil)))) (mgName 1) (mTst (mBin dNe (mVar 1) (mC (.str [])))) [1] (mbS (mVar 1))) (ds := (dd rows).map rowC) (zs := nz ne0 (dd rows)) rfl (by
    rw [← nz_map]
    refine lpB_flat rowC (fun r => ([r.1, r.2.1].filter ne0).map D.str) fun x hx => ⟨[some (syO (dd rows) kvs b), none, some (.str x.1), some (.str x.2.1), some (.int x.2.2)], rfl, rfl, ?_⟩
    refine mbFor_ok (ds := [x.1, x.2.1].map D.str) rfl ?_
    rw [← flat_sing ([x.1, x.2.1].filter ne0)]
    exact lpB_filf (g := mgName 1) (t := mTst (mBin dNe (mVar 1) (mC (.str [])))) (b := mbS (mVar 1)) (ε := [some (syO (dd rows) kvs b), none, some (.str x.1), some (.str x.2.1), some (.int x.2.2)]) (h := []) (xs := [x.1, x.2.1]) D.str (fun z => [D.str z]) ne0 fun z _ => ⟨[some (syO (dd rows) kvs b), some (.str z), some (.str x.1), some (.str x.2.1), some (.int x.2.2)], rfl, rfl, fun _ => rfl⟩) (by have := nz_len ne0 (dd rows); omega)
  rw [ret_ap, sv, bS_ok, retK_ap]
  rw [show srtU (nz ne0 (dd rows)) = uns rows from uns_dd rows]
  exact endP_ok (no_names _)
theorem uns_m (s : Sy rows d) (l : rows.length ≤ 100) {a : M (List D)} {ε : Ev} {h : EH} (ha : a ε h = some (.ok [], h)) : mepK "System" "unknowns" F_System_unknowns a ε d h = some (.ok (.lst ((uns rows).map .str)), h) := by
  have e := uns_ok s l
  have no := s.no
  obtain ⟨kvs, bd, b, rfl, R, Fn, hb⟩ := s
  unfold syO at *
  rw [mepK_ok (by rfl), ha, bR_ok]
  exact mepK2_ok (by show (PD.noRef _ && true) = true; rw [no]; rfl) e
/-- numbers[..] for names, as a dict comprehension -/
theorem dcf {T : List Nm} {ε : Ev} {g : MG} {mk mv : M D} {h : EH} (val : Nm → Int) (lS : T.length ≤ 1000) : ∀ (xs : List Nm) (kvs : List (List L2.Key × D)) (f : Nm → Option Int), (∀ x ∈ xs, x ∈ T ∧ ∃ ε1, g (.str x) ε h = some (ε1, h) ∧ mk ε1 h = some (.ok (.str x), h) ∧ mv ε1 h = some (.ok (.int (val x)), h)) → DkR T kvs f → ∃ kvs', dcL g mYes mk mv ε (xs.map .str) kvs h = some (kvs', h) ∧ DkR T kvs' fun v => if v ∈ xs then some (val v) else f v
  | [], kvs, f, _, R => ⟨kvs, rfl, R.congr fun v => by rw [if_neg (List.not_mem_nil)]⟩
  | x :: xs, kvs, f, H, R => by
    obtain ⟨hx, ε1, h1, h2, h3⟩ := H x List.mem_cons_self
    obtain ⟨kvs', e, R'⟩ := dcf (ε := ε) (g := g) (mk := mk) (mv := mv) (h := h) val lS xs _ _ (fun y hy => H y (List.mem_cons_of_mem _ hy)) (R.put (x := val x) hx)
    refine ⟨kvs', ?_, R'.congr fun v => ?_⟩
    · rw [List.map_cons]
      unfold dcL
      rw [h1]
      dsimp only
      rw [yes_ap]
      dsimp only
      rw [h2]
      dsimp only
      rw [h3]
      dsimp only
      rw [show keyD (.str x) = some (ky x) from rfl]
      dsimp only
      have := R.len
      rw [if_pos (by omega), e]
    · by_cases q : v ∈ xs
      · rw [if_pos q, if_pos (List.mem_cons_of_mem _ q)]
      · rw [if_neg q]
        by_cases z : v = x
        · rw [if_pos z, if_pos (by rw [z]; exact List.mem_cons_self), z]
        · rw [if_neg z, if_neg (fun w => (List.mem_cons.mp w).elim z q)]
theorem DkR.mrg {T : List Nm} : ∀ {more acc : List (List L2.Key × D)} {f : Nm → Option Int}, (∀ p ∈ more, ∃ v ∈ T, ∃ x, p = ([ky v], D.int x)) → (more.map (·.1)).Nodup → DkR T acc f → DkR T (mrgL acc more) fun u => match lkK [ky u] more with
    | some (.int x) => some x
    | _ => f u
  | [], acc, f, _, _, R => R.congr fun u => rfl
  | p :: more, acc, f, H, nd, R => by
    obtain ⟨v, hv, x, rfl⟩ := H p List.mem_cons_self
    rw [List.map_cons] at nd
    have nd := List.nodup_cons.mp nd
    have R' := DkR.mrg (more := more) (acc := putKD [ky v] (.int x) acc) (fun p hp => H p (List.mem_cons_of_mem _ hp)) nd.2 (R.put (x := x) hv)
    refine R'.congr fun u => ?_
    show (match lkK [ky u] more with
      | some (.int x) => some x
      | _ => if u = v then some x else f u) = match lkK [ky u] (([ky v], D.int x) :: more) with
      | some (.int x) => some x
      | _ => f u
    by_cases q : u = v
    · subst q
      have hn : lkK [ky u] more = none := by
        cases e : lkK [ky u] more with
        | none => rfl
        | some d => exact absurd (List.mem_map_of_mem (f := (·.1)) (lkK_mem e)) nd.1
      have h2 : lkK [ky u] (([ky u], D.int x) :: more) = some (.int x) := if_pos rfl
      rw [hn, h2]
      dsimp only
      rw [if_pos rfl]
    · have h2 : lkK [ky u] (([ky v], D.int x) :: more) = lkK [ky u] more := if_neg fun e => q (ky1_inj.mp e).symm
      rw [h2, if_neg q]
/-- a dict of integers by name -/
abbrev numV (f : Nm → Option Int) (v : Nm) : Int := if v = [] then 0 else (f v).getD 0
theorem cont_ok (s : Sy rows d) (l : rows.length ≤ 100) {T : List Nm} {kvs : List (List L2.Key × D)} {f : Nm → Option Int} (N : DkR T kvs f) (hT : T.length ≤ 700) : ∃ c, F_System_contains [d, .dic false kvs] = some (.ok (.bl c)) ∧ (c = true ↔ (∀ z ∈ uns rows, ∃ x, f z = some x) ∧ SY.Sat rows (numV f)) := by
  have su := fun h : EH => uns_m s l (a := mNil) (ε := [some d, some (.dic false kvs), none, none, none, none, none]) (h := h) rfl
  have lu := uns_len l
  have ld : (dd rows).length ≤ 100 := Nat.le_trans dd_len l
  have nod := s.no
  have own : mFld ["System"] "own_rows" (mVar 0) [some d, some (.dic false kvs), none, none, none, none, none] [] = some (.ok (.lst ((dd rows).map rowC)), []) := by
    obtain ⟨_, _, _, rfl, _⟩ := s
    rfl
  obtain ⟨U, hU⟩ : ∃ U, U = uns rows := ⟨_, rfl⟩
  rw [← hU] at su lu
  have vd : ∀ z : Nm, dDIn false [] (.str z) (.dic false kvs) = some (.bl (f z).isSome) := fun z => by
    show ((dDGet [] (.dic false kvs) (.str z)).map fun r => D.bl (false != r.isSome)) = _
    have : dDGet [] (.dic false kvs) (.str z) = some ((f z).map .int) := by
      show some (lkK [ky z] kvs) = _
      rw [N.at_]
    rw [this]
    cases f z <;> rfl
  have uit : miL (mMeP "System" "unknowns" F_System_unknowns (mVar 0) mNil) [some d, some (.dic false kvs), none, none, none, none, none] [] = some (.ok (U.map .str), []) := by
    rw [il_ap, mep_ap, show mVar 0 [some d, some (.dic false kvs), none, none, none, none, none] [] = some (.ok d, []) from rfl, bR_ok, su, bR_ok]
    rfl
  have lc := lcK_ok (vs := [3]) (ε := [some d, some (.dic false kvs), none, none, none, none, none]) (lcL_mapf (h := []) (g := mgName 3) (t := mYes) (e := mBin (dDIn false) (mVar 3) (mVar 1)) (ε := [some d, some (.dic false kvs), none, none, none, none, none]) D.str (fun z => D.bl (f z).isSome) (xs := U) fun z _ => ⟨[some d, some (.dic false kvs), none, some (.str z), none, none, none], rfl, rfl, by
    rw [bin_ap, show mVar 3 [some d, some (.dic false kvs), none, some (.str z), none, none, none] [] = some (.ok (.str z), []) from rfl, bR_ok, binK1_ap, show mVar 1 [some d, some (.dic false kvs), none, some (.str z), none, none, none] [] = some (.ok (.dic false kvs), []) from rfl, bR_ok, binK2_ap, vd]
    rfl⟩) (by rw [List.length_map]; omega)
  have al : mCall dAll (mCons (mLc [3] (miL (mMeP "System" "unknowns" F_System_unknowns (mVar 0) mNil)) (mgName 3) mYes (mBin (dDIn false) (mVar 3) (mVar 1))) mNil) [some d, some (.dic false kvs), none, none, none, none, none] [] = some (.ok (.bl (U.all fun z => (f z).isSome)), []) := by
    rw [call_ap, cons_ap, lc_ap, uit, bR_ok, lc, bR_ok, consK1_ap, nil_ap, bR_ok, consK2_ap, bR_ok, callK_ap, all_lst (asBs_map _ _), List.all_map]
    rfl
  show ∃ c, endP (m_System_contains [some d, some (.dic false kvs), none, none, none, none, none] []) = _ ∧ _
  unfold m_System_contains
  by_cases q : (U.all fun z => (f z).isSome) = true
  · have hz : ∀ z ∈ U, ∃ x, f z = some x := fun z hz => Option.isSome_iff_exists.mp (List.all_eq_true.mp q z hz)
    rw [q] at al
    rw [sq_then (show msIf _ _ _ _ _ = some (RS.nx [some d, some (.dic false kvs), none, none, none, none, none], []) from by rw [sif_ap, not_ap, tst_ap, al]; rfl)]
    -- worth
    obtain ⟨kw, ew, Rw⟩ := dcf (T := U) (ε := [some d, some (.dic false kvs), none, none, none, none, none]) (g := mgName 3) (mk := mVar 3) (mv := mBin dDIx (mVar 1) (mVar 3)) (h := []) (fun z => (f z).getD 0) (by omega) U [] (fun _ => none) (fun z hzm => ⟨hzm, [some d, some (.dic false kvs), none, some (.str z), none, none, none], rfl, rfl, by
      obtain ⟨x, hx⟩ := hz z hzm
      rw [bin_ap, show mVar 1 [some d, some (.dic false kvs), none, some (.str z), none, none, none] [] = some (.ok (.dic false kvs), []) from rfl, bR_ok, binK1_ap, show mVar 3 [some d, some (.dic false kvs), none, some (.str z), none, none, none] [] = some (.ok (.str z), []) from rfl, bR_ok, binK2_ap]
      have : dDIx [] (.dic false kvs) (.str z) = some (.int x) := by
        show (some (lkK [ky z] kvs)).bind id = _
        rw [N.at_, hx]; rfl
      rw [this, hx]
      rfl⟩) dkr_nil
    have R0 : DkR ([] :: U) [([ky []], D.int 0)] (fun v => if v = [] then some 0 else none) := ⟨fun v => by
      show (if [ky []] = [ky v] then some (D.int 0) else none) = _
      by_cases z : v = []
      · rw [if_pos (by rw [z]), if_pos z]; rfl
      · rw [if_neg (fun e => z (ky1_inj.mp e).symm), if_neg z]; rfl, List.nodup_cons.mpr ⟨List.not_mem_nil, List.nodup_nil⟩, fun p hp => ⟨[], List.mem_cons_self, 0, List.mem_singleton.mp hp⟩⟩
    obtain ⟨kz, hkz⟩ : ∃ kz, kz = mrgL [([ky []], D.int 0)] kw := ⟨_, rfl⟩
    have Rz : DkR ([] :: U) kz (fun v => if v ∈ U then some ((f v).getD 0) else if v = [] then some 0 else none) := by
      rw [hkz]
      refine (DkR.mrg (fun p hp => ?_) Rw.nd R0).congr fun u => ?_
      · obtain ⟨v, hv, x, e⟩ := Rw.mem p hp
        exact ⟨v, List.mem_cons_of_mem _ hv, x, e⟩
      · rw [Rw.at_]
        by_cases z : u ∈ U
        · rw [if_pos z, if_pos z]; rfl
        · rw [if_neg z, if_neg z]; rfl
    have dcr : mDc [3] (miL (mMeP "System" "unknowns" F_System_unknowns (mVar 0) mNil)) (mgName 3) mYes (mVar 3) (mBin dDIx (mVar 1) (mVar 3)) [some d, some (.dic false kvs), none, none, none, none, none] [] = some (.ok (.dic false kw), []) := by
      unfold mDc
      rw [uit, bR_ok]
      have ew' : dcL (mgName 3) mYes (mVar 3) (mBin dDIx (mVar 1) (mVar 3)) (wipeE [some d, some (.dic false kvs), none, none, none, none, none] [3]) (U.map .str) [] [] = some (kw, []) := ew
      rw [ew']; rfl
    have lkw : kw.length ≤ 1000000 := by have := Rw.len; omega
    have ds : mDicS (mC (.str [])) (mC (.int 0)) (mDc [3] (miL (mMeP "System" "unknowns" F_System_unknowns (mVar 0) mNil)) (mgName 3) mYes (mVar 3) (mBin dDIx (mVar 1) (mVar 3))) [some d, some (.dic false kvs), none, none, none, none, none] [] = some (.ok (.dic false kz), []) := by
      unfold mDicS
      rw [show mPairs [((mC (.str []) : M D), (mC (.int 0) : M D))] [some d, some (.dic false kvs), none, none, none, none, none] [] = some (.ok [(.str [], .int 0)], []) from rfl, bR_ok]
      dsimp only
      rw [show keyD (.str []) = some (ky []) from rfl]
      dsimp only
      rw [dcr, bR_ok]
      dsimp only
      rw [if_pos lkw, hkz]
    rw [sq_then (asg_run ds)]
    show ∃ c, endP (msRet _ [some d, some (.dic false kvs), some (.dic false kz), none, none, none, none] []) = _ ∧ _
    have own2 : miL (mFld ["System"] "own_rows" (mVar 0)) [some d, some (.dic false kvs), some (.dic false kz), none, none, none, none] [] = some (.ok ((dd rows).map rowC), []) := by
      obtain ⟨_, _, _, rfl, _⟩ := s
      rfl
    have wv : ∀ z, (∃ r ∈ dd rows, z = r.1 ∨ z = r.2.1) → dDIx [] (.dic false kz) (.str z) = some (.int (numV f z)) := fun z hzr => by
      show (some (lkK [ky z] kz)).bind id = _
      rw [Rz.at_]
      unfold numV
      by_cases q1 : z = []
      · have : z ∉ U := fun hm => by
          rw [hU] at hm
          exact (uns_mem.mp hm).1 q1
        rw [if_neg this, if_pos q1, if_pos q1]; rfl
      · have : z ∈ U := by
          rw [hU]
          obtain ⟨r, hr, h⟩ := hzr
          exact uns_mem.mpr ⟨q1, r, dd_mem.mp hr, h⟩
        rw [if_pos this, if_neg q1]; rfl
    have lc2 := lcK_ok (vs := [4, 5, 6]) (ε := [some d, some (.dic false kvs), some (.dic false kz), none, none, none, none]) (lcL_mapf (h := []) (g := mgTup 3 (mgCons (mgName 4) (mgCons (mgName 5) (mgCons (mgName 6) mgNil)))) (t := mYes) (e := me_System_contains_0) (ε := [some d, some (.dic false kvs), some (.dic false kz), none, none, none, none]) rowC (fun r => D.bl (decide (numV f r.1 ≤ numV f r.2.1 + r.2.2))) (xs := dd rows) fun r hr => ⟨[some d, some (.dic false kvs), some (.dic false kz), none, some (.str r.1), some (.str r.2.1), some (.int r.2.2)], rfl, rfl, by
      unfold me_System_contains_0
      have v2 : mVar 2 [some d, some (.dic false kvs), some (.dic false kz), none, some (.str r.1), some (.str r.2.1), some (.int r.2.2)] [] = some (.ok (.dic false kz), []) := rfl
      rw [bin_ap, bin_ap, v2, bR_ok, binK1_ap, show mVar 4 [some d, some (.dic false kvs), some (.dic false kz), none, some (.str r.1), some (.str r.2.1), some (.int r.2.2)] [] = some (.ok (.str r.1), []) from rfl, bR_ok, binK2_ap, wv r.1 ⟨r, hr, .inl rfl⟩, rt_some, bR_ok, binK1_ap, bin_ap, bin_ap, v2, bR_ok, binK1_ap, show mVar 5 [some d, some (.dic false kvs), some (.dic false kz), none, some (.str r.1), some (.str r.2.1), some (.int r.2.2)] [] = some (.ok (.str r.2.1), []) from rfl, bR_ok, binK2_ap, wv r.2.1 ⟨r, hr, .inr rfl⟩, rt_some, bR_ok, binK1_ap, show mVar 6 [some d, some (.dic false kvs), some (.dic false kz), none, some (.str r.1), some (.str r.2.1), some (.int r.2.2)] [] = some (.ok (.int r.2.2), []) from rfl, bR_ok, binK2_ap, add_int, rt_some, bR_ok, binK2_ap, le_int]
      rfl⟩) (by rw [List.length_map]; omega)
    refine ⟨(dd rows).all fun r => decide (numV f r.1 ≤ numV f r.2.1 + r.2.2), ?_, ?_⟩
    · rw [ret_ap, call_ap, cons_ap, lc_ap, own2, bR_ok, lc2, bR_ok, consK1_ap, nil_ap, bR_ok, consK2_ap, bR_ok, callK_ap, all_lst (asBs_map _ _), List.all_map]
      rfl
    · rw [List.all_eq_true]
      constructor
      · intro H
        refine ⟨by rw [← hU]; exact hz, fun i j c h => ?_⟩
        exact of_decide_eq_true (H (i, j, c) (dd_mem.mpr h))
      · intro ⟨_, H⟩ r hr
        exact decide_eq_true (H _ _ _ (dd_mem.mp hr))
  · have q' : (U.all fun z => (f z).isSome) = false := Bool.of_not_eq_true q
    rw [q'] at al
    refine ⟨false, ?_, ?_⟩
    · rw [seq_ap, show msIf _ _ _ _ _ = some (RS.rt (.bl false), []) from by rw [sif_ap, not_ap, tst_ap, al]; rfl, sq_rt]
      rfl
    · constructor
      · intro h; cases h
      · intro ⟨h, _⟩
        refine absurd (List.all_eq_true.mpr fun z hz => ?_) q
        obtain ⟨x, hx⟩ := h z (by rw [← hU]; exact hz)
        rw [hx]; rfl
end
end SZ
namespace SZ
open PySem PD
section
variable {rows other : List Row} {d e : D}
theorem wk_out {C : List Row} {ns : List Nm} {i j : Nm} {w : Int} (hC : ∀ i j c, (i, j, c) ∈ C → i ∈ ns ∧ j ∈ ns) (h : SY.Wk C i j w) (q : i ∉ ns) : i = j ∧ w = 0 := by
  cases h with
  | nil => exact ⟨rfl, rfl⟩
  | step hm _ => exact absurd (hC _ _ _ hm).1 q
theorem within_ok (s : Sy rows d) (s2 : Sy other e) (l2 : other.length ≤ 100) : ∃ c, F_System_within [d, e] = some (.ok (.bl c)) ∧ (c = true ↔ (SY.NoNeg rows → ∀ r ∈ other, SY.Imp rows r)) := by
  have ld : (dd other).length ≤ 100 := Nat.le_trans dd_len l2
  have own : ∀ h : EH, miL (mFld ["System"] "own_rows" (mVar 1)) [some d, some e, none, none, none] h = some (.ok ((dd other).map rowC), h) := fun h => by
    obtain ⟨_, _, _, rfl, _⟩ := s2
    rfl
  have noe := s2.no
  clear s2
  obtain ⟨kvs, bd, b, rfl, R, Fn, hb⟩ := s
  show ∃ c, endP (m_System_within [some (syO (dd rows) kvs b), some e, none, none, none] []) = _ ∧ _
  unfold m_System_within
  have hs : mFld ["System"] "has_solution" (mVar 0) [some (syO (dd rows) kvs b), some e, none, none, none] [] = some (.ok (.bl b), []) := rfl
  cases hbb : b with
  | false =>
    subst hbb
    refine ⟨true, ?_, fun _ n => ?_, fun _ => rfl⟩
    · rw [seq_ap, show msIf _ _ _ _ _ = some (RS.rt (.bl true), []) from by rw [sif_ap, not_ap, tst_ap, hs]; rfl, sq_rt]
      rfl
    · cases hb.mpr n
  | true =>
    subst hbb
    have nn := hb.mp rfl
    rw [sq_then (show msIf _ _ _ _ _ = some (RS.nx [some (syO (dd rows) kvs true), some e, none, none, none], []) from by rw [sif_ap, not_ap, tst_ap, hs]; rfl)]
    have lc := lcK_ok (vs := [2, 3, 4]) (ε := [some (syO (dd rows) kvs true), some e, none, none, none]) (lcL_mapf (h := []) (g := mgTup 3 (mgCons (mgName 2) (mgCons (mgName 3) (mgCons (mgName 4) mgNil)))) (t := mYes) (e := me_System_within_0) (ε := [some (syO (dd rows) kvs true), some e, none, none, none]) rowC (fun r => D.bl ((decide (r.1 = r.2.1) && decide (0 ≤ r.2.2)) || decide ((bd r.1 r.2.1).getD (r.2.2 + 1) ≤ r.2.2))) (xs := dd other) fun r hr => ⟨[some (syO (dd rows) kvs true), some e, some (.str r.1), some (.str r.2.1), some (.int r.2.2)], rfl, rfl, by
      unfold me_System_within_0
      have v4 : mVar 4 [some (syO (dd rows) kvs true), some e, some (.str r.1), some (.str r.2.1), some (.int r.2.2)] [] = some (.ok (.int r.2.2), []) := rfl
      have g : mBin dLe (mDGet2T (mFld ["System"] "own_bounds" (mVar 0)) (mCons (mVar 2) (mCons (mVar 3) mNil)) (mBin dAdd (mVar 4) (mC (.int 1)))) (mVar 4) [some (syO (dd rows) kvs true), some e, some (.str r.1), some (.str r.2.1), some (.int r.2.2)] [] = some (.ok (.bl (decide ((bd r.1 r.2.1).getD (r.2.2 + 1) ≤ r.2.2))), []) := by
        have gt : mDGet2T (mFld ["System"] "own_bounds" (mVar 0)) (mCons (mVar 2) (mCons (mVar 3) mNil)) (mBin dAdd (mVar 4) (mC (.int 1))) [some (syO (dd rows) kvs true), some e, some (.str r.1), some (.str r.2.1), some (.int r.2.2)] [] = some (.ok (.int ((bd r.1 r.2.1).getD (r.2.2 + 1))), []) := by
          unfold mDGet2T
          rw [show mFld ["System"] "own_bounds" (mVar 0) [some (syO (dd rows) kvs true), some e, some (.str r.1), some (.str r.2.1), some (.int r.2.2)] [] = some (.ok (.dic true kvs), []) from rfl, bR_ok]
          rw [show asDicT [] (.dic true kvs) = some kvs from rfl]
          dsimp only
          rw [kz_run (i := r.1) (j := r.2.1) rfl, bR_ok, add_run (x := r.2.2) (y := 1) rfl rfl, bR_ok]
          rw [show tGet [] (.dic true kvs) [ky r.1, ky r.2.1] = some ((bd r.1 r.2.1).map .int) from by
            show some (lkK _ kvs) = _
            rw [R.at_]]
          cases bd r.1 r.2.1 <;> rfl
        rw [bin_ap, gt, bR_ok, binK1_ap, v4, bR_ok, binK2_ap, le_int]
        rfl
      rw [orv_ap, andv_ap, show mBin dEq (mVar 2) (mVar 3) [some (syO (dd rows) kvs true), some e, some (.str r.1), some (.str r.2.1), some (.int r.2.2)] [] = some (.ok (.bl (decide (r.1 = r.2.1))), []) from rfl, bR_ok]
      have ge : mBin dGe (mVar 4) (mC (.int 0)) [some (syO (dd rows) kvs true), some e, some (.str r.1), some (.str r.2.1), some (.int r.2.2)] [] = some (.ok (.bl (decide (0 ≤ r.2.2))), []) := rfl
      cases decide (r.1 = r.2.1) with
      | true =>
        rw [andV_t, ge, bR_ok]
        cases decide (0 ≤ r.2.2) with
        | true => rw [orV_t]; rfl
        | false => rw [orV_f, g]; rfl
      | false => rw [andV_f, bR_ok, orV_f, g]; rfl⟩) (by rw [List.length_map]; omega)
    refine ⟨(dd other).all fun r => (decide (r.1 = r.2.1) && decide (0 ≤ r.2.2)) || decide ((bd r.1 r.2.1).getD (r.2.2 + 1) ≤ r.2.2), ?_, ?_⟩
    · rw [ret_ap, call_ap, cons_ap, lc_ap, own, bR_ok, lc, bR_ok, consK1_ap, nil_ap, bR_ok, consK2_ap, bR_ok, callK_ap, all_lst (asBs_map _ _), List.all_map]
      rfl
    · have key : ∀ r : Row, ((decide (r.1 = r.2.1) && decide (0 ≤ r.2.2)) || decide ((bd r.1 r.2.1).getD (r.2.2 + 1) ≤ r.2.2)) = true ↔ SY.Imp rows r := by
        intro r
        rw [Bool.or_eq_true, Bool.and_eq_true, decide_eq_true_iff, decide_eq_true_iff, decide_eq_true_iff]
        unfold SY.Imp
        have hC : ∀ i j c, (i, j, c) ∈ dd rows → i ∈ nms (dd rows) ∧ j ∈ nms (dd rows) := fun i j c h => nms_in h
        have op := (Fn.open hC).mpr (nn_dd.mpr nn)
        constructor
        · rintro (h | h)
          · exact .inl h
          · cases hx : bd r.1 r.2.1 with
            | none =>
              rw [hx] at h
              have : r.2.2 + 1 ≤ r.2.2 := h
              omega
            | some x =>
              rw [hx] at h
              exact .inr ⟨x, h, (Fn.sound _ _ _ hx).sub fun y hy => dd_mem.mp hy⟩
        · rintro (h | ⟨x, l, h⟩)
          · exact .inl h
          · have h' : SY.Wk (dd rows) r.1 r.2.1 x := h.sub fun y hy => dd_mem.mpr hy
            by_cases q1 : r.1 ∈ nms (dd rows)
            · by_cases q2 : r.2.1 ∈ nms (dd rows)
              · obtain ⟨z, hz, lz⟩ := Fn.least op _ q1 _ q2 _ h'
                rw [hz]
                exact .inr (show z ≤ r.2.2 by omega)
              · -- only the empty walk ends there
                have : r.1 = r.2.1 ∧ x = 0 := by
                  have : ∀ {i j w}, SY.Wk (dd rows) i j w → j ∉ nms (dd rows) → i = j ∧ w = 0 := by
                    intro i j w g
                    induction g with
                    | nil => exact fun _ => ⟨rfl, rfl⟩
                    | step hm _ ih =>
                      intro hj
                      obtain ⟨e, _⟩ := ih hj
                      exact absurd (e ▸ (hC _ _ _ hm).2) hj
                  exact this h' q2
                exact .inl ⟨this.1, by omega⟩
            · obtain ⟨e1, e2⟩ := wk_out hC h' q1
              exact .inl ⟨e1, by omega⟩
      rw [List.all_eq_true]
      constructor
      · exact fun H _ r hr => (key r).mp (H r (dd_mem.mpr hr))
      · exact fun H r hr => (key r).mpr (H nn r (dd_mem.mp hr))
theorem isO_sy (s : Sy rows d) {a b : Option D} {h : EH} : mIsO "System" (mVar 1) [a, some d] h = some (.ok (.bl true), h) := by
  obtain ⟨_, _, _, rfl, _⟩ := s
  rfl
theorem within_m (s : Sy rows d) (s2 : Sy other e) (l2 : other.length ≤ 100) {a : M (List D)} {ε : Ev} {h : EH} (ha : a ε h = some (.ok [e], h)) : ∃ c, mepK "System" "within" F_System_within a ε d h = some (.ok (.bl c), h) ∧ (c = true ↔ (SY.NoNeg rows → ∀ r ∈ other, SY.Imp rows r)) := by
  obtain ⟨c, e1, e2⟩ := within_ok s s2 l2
  refine ⟨c, ?_, e2⟩
  have n1 := s.no
  have n2 := s2.no
  obtain ⟨kvs, bd, b, rfl, R, Fn, hb⟩ := s
  unfold syO at *
  rw [mepK_ok (by rfl), ha, bR_ok]
  exact mepK2_ok (by show (PD.noRef _ && (PD.noRef _ && true)) = true; rw [n1, n2]; rfl) e1
theorem eq_ok (s : Sy rows d) (s2 : Sy other e) (l1 : rows.length ≤ 100) (l2 : other.length ≤ 100) : ∃ c, F_System_eq [d, e] = some (.ok (.bl c)) ∧ (c = true ↔ (SY.NoNeg rows → ∀ r ∈ other, SY.Imp rows r) ∧ (SY.NoNeg other → ∀ r ∈ rows, SY.Imp other r)) := by
  obtain ⟨c1, e1, h1⟩ := within_m s s2 l2 (a := mCons (mVar 1) mNil) (ε := [some d, some e]) (h := []) rfl
  obtain ⟨c2, e2, h2⟩ := within_m s2 s l1 (a := mCons (mVar 0) mNil) (ε := [some d, some e]) (h := []) rfl
  refine ⟨c1 && c2, ?_, by rw [Bool.and_eq_true, h1, h2]⟩
  show endP (m_System_eq [some d, some e] []) = _
  unfold m_System_eq
  rw [ret_ap, andv_ap, isO_sy s2 (b := none), bR_ok, andV_t, andv_ap, mep_ap, show mVar 0 [some d, some e] [] = some (.ok d, []) from rfl, bR_ok, e1, bR_ok]
  cases c1 with
  | false => rfl
  | true =>
    rw [andV_t, mep_ap, show mVar 1 [some d, some e] [] = some (.ok e, []) from rfl, bR_ok, e2]
    rfl
end
def prj (b : SY.Bd Nm) (P : List Nm) : List Row := P.flatMap fun i => (P.filter fun j => !decide (i = j) && (b i j).isSome).map fun j => (i, j, (b i j).getD 0)
theorem prj_mem {b : SY.Bd Nm} {P : List Nm} {r : Row} : r ∈ prj b P ↔ r.1 ∈ P ∧ r.2.1 ∈ P ∧ r.1 ≠ r.2.1 ∧ b r.1 r.2.1 = some r.2.2 := by
  unfold prj
  rw [List.mem_flatMap]
  constructor
  · rintro ⟨i, hi, h⟩
    obtain ⟨j, hj, rfl⟩ := List.mem_map.mp h
    obtain ⟨hj, q⟩ := List.mem_filter.mp hj
    rw [Bool.and_eq_true] at q
    obtain ⟨x, hx⟩ := Option.isSome_iff_exists.mp q.2
    refine ⟨hi, hj, fun z => ?_, by rw [hx]; rfl⟩
    have := q.1
    rw [decide_eq_true z] at this
    cases this
  · rintro ⟨h1, h2, h3, h4⟩
    obtain ⟨i, j, c⟩ := r
    dsimp only at h1 h2 h3 h4
    refine ⟨i, h1, List.mem_map.mpr ⟨j, List.mem_filter.mpr ⟨h2, ?_⟩, by rw [h4]; rfl⟩⟩
    rw [decide_eq_false h3, h4]; rfl
theorem prj_len {b : SY.Bd Nm} {P : List Nm} : (prj b P).length ≤ P.length * P.length := by
  unfold prj
  have : ∀ T : List Nm, (T.flatMap fun i => (P.filter fun j => !decide (i = j) && (b i j).isSome).map fun j => (i, j, (b i j).getD 0)).length ≤ T.length * P.length := by
    intro T
    induction T with
    | nil => simp
    | cons a T ih =>
      rw [List.flatMap_cons, List.length_append, List.length_map, List.length_cons, Nat.succ_mul]
      have := List.length_filter_le (fun j => !decide (a = j) && (b a j).isSome) P
      omega
  exact this P
/-- names that may be asked for -/
def own (rows : List Row) (us : List Nm) : List Nm := (uns rows).filter fun z => decide (z ∈ us)
theorem own_mem {rows : List Row} {us : List Nm} {z : Nm} : z ∈ own rows us ↔ z ∈ uns rows ∧ z ∈ us := by
  unfold own
  rw [List.mem_filter, decide_eq_true_iff]
/-- what System.on gives: the rows of least bounds among the names -/
structure Onr (rows : List Row) (P : List Nm) (rs : List Row) : Prop where
  at_ : ∀ r ∈ rs, r.1 ∈ P ∧ r.2.1 ∈ P ∧ SY.Wk rows r.1 r.2.1 r.2.2
  has : ∀ i ∈ P, ∀ j ∈ P, ∀ w, SY.Wk rows i j w → i ≠ j → ∃ c, (i, j, c) ∈ rs ∧ c ≤ w
theorem on_ok {rows : List Row} {d x : D} (s : Sy rows d) (l : rows.length ≤ 100) (nn : SY.NoNeg rows) {us : List Nm} (hx : x = .lst (us.map .str) ∨ x = .tup (us.map .str)) (hu : ∀ z ∈ uns rows, z ∈ nm5) : ∃ rs e, F_System_on [d, x] = some (.ok e) ∧ Sy rs e ∧ rs.length ≤ 100 ∧ Onr rows ([] :: own rows us) rs ∧ ∀ r ∈ rs, In5 r := by
  have su := fun (ε : Ev) (h : EH) => uns_m s l (a := mNil) (ε := ε) (h := h) rfl
  have nox : PD.noRef x = true := by rcases hx with rfl | rfl <;> exact no_names us
  obtain ⟨P, hP⟩ : ∃ P, P = ([] : Nm) :: own rows us := ⟨_, rfl⟩
  have P5 : ∀ z ∈ P, z ∈ nm5 := fun z hz => by
    rw [hP] at hz
    rcases List.mem_cons.mp hz with rfl | hz
    · decide
    · exact hu z (own_mem.mp hz).1
  have lo : (own rows us).length ≤ 5 := by
    have := SY.nodup_sub (own rows us) nm5 ((uns_nd rows).filter _) fun z hz => hu z (own_mem.mp hz).1
    exact this
  have lP : P.length ≤ 6 := by rw [hP, List.length_cons]; omega
  obtain ⟨kvs, bd, b, rfl, R, Fn, hb⟩ := s
  obtain rfl : b = true := hb.mpr nn
  have hC : ∀ i j c, (i, j, c) ∈ dd rows → i ∈ nms (dd rows) ∧ j ∈ nms (dd rows) := fun i j c h => nms_in h
  have op := (Fn.open hC).mpr (nn_dd.mpr nn)
  have Pn : ∀ z ∈ P, z ∈ nms (dd rows) := fun z hz => by
    rw [hP] at hz
    rcases List.mem_cons.mp hz with rfl | hz
    · exact List.mem_cons_self
    · have h1 := (own_mem.mp hz).1
      rw [← uns_dd] at h1
      exact List.mem_cons_of_mem _ h1
  have In : ∀ r ∈ prj bd P, In5 r := fun r hr => by
    have := prj_mem.mp hr
    exact ⟨P5 _ this.1, P5 _ this.2.1⟩
  have l36 : (prj bd P).length ≤ 100 := by
    have h1 := prj_len (b := bd) (P := P)
    have h2 := Nat.mul_le_mul lP lP
    omega
  obtain ⟨e, mk, sy⟩ := sys_mk (rows := prj bd P) (x := .lst ((prj bd P).map rowC)) (.inl rfl) l36 (fun r hr => ⟨okU5 _ (In r hr).1, okU5 _ (In r hr).2⟩) (h := []) rfl
  refine ⟨prj bd P, e, ?_, sy, l36, ⟨fun r hr => ?_, fun i hi j hj w h ne => ?_⟩, In⟩
  rotate_left
  · have h1 := prj_mem.mp hr
    rw [← hP]
    exact ⟨h1.1, h1.2.1, (Fn.sound _ _ _ h1.2.2.2).sub fun y hy => dd_mem.mp hy⟩
  · rw [← hP] at hi hj
    obtain ⟨z, hz, lz⟩ := Fn.least op _ (Pn i hi) _ (Pn j hj) _ (h.sub fun y hy => dd_mem.mpr hy)
    exact ⟨z, prj_mem.mpr ⟨hi, hj, ne, hz⟩, lz⟩
  · obtain ⟨d, hd⟩ : ∃ d, d = syO (dd rows) kvs true := ⟨_, rfl⟩
    have fb : ∀ (a1 a2 a3 a4 a5 : Option D) (h : EH), mFld ["System"] "own_bounds" (mVar 0) [some d, a1, a2, a3, a4, a5] h = some (.ok (.dic true kvs), h) := fun a1 a2 a3 a4 a5 h => by rw [hd]; rfl
    have tg : ∀ i j : Nm, tGet [] (.dic true kvs) [ky i, ky j] = some ((bd i j).map .int) := fun i j => by
      show some (lkK _ kvs) = _
      rw [R.at_]
    rw [← hd] at su ⊢
    have nod : PD.noRef d = true := by rw [hd]; exact syF_no R.no
    show endP (m_System_on [some d, some x, none, none, none, none] []) = _
    unfold m_System_on
    have no1 : mMeP "System" "need_open" F_System_need_open (mVar 0) mNil [some d, some x, none, none, none, none] [] = some (.ok .non, []) := by
      rw [mep_ap, show mVar 0 [some d, some x, none, none, none, none] [] = some (.ok d, []) from rfl, bR_ok]
      have e0 : F_System_need_open [d] = some (.ok .non) := by rw [hd]; rfl
      rw [hd] at e0 nod ⊢
      unfold syO at *
      rw [mepK_ok (by rfl), nil_ap, bR_ok]
      exact mepK2_ok (by show (PD.noRef _ && true) = true; rw [nod]; rfl) e0
    rw [sq_then (show msExpr _ [some d, some x, none, none, none, none] [] = some (RS.nx [some d, some x, none, none, none, none], []) from by rw [sexpr_ap, no1]; rfl)]
    have uit : miL (mMeP "System" "unknowns" F_System_unknowns (mVar 0) mNil) [some d, some x, none, none, none, none] [] = some (.ok ((uns rows).map .str), []) := by
      rw [il_ap, mep_ap, show mVar 0 [some d, some x, none, none, none, none] [] = some (.ok d, []) from rfl, bR_ok, su, bR_ok]
      rfl
    have inx : ∀ (z : Nm) (h : EH), dInA h (.str z) x = some (.bl (decide (z ∈ us))) := fun z h => by
      rcases hx with rfl | rfl
      · exact in_strsL us
      · exact in_strs us
    have lc := lcK_ok (vs := [5]) (ε := [some d, some x, none, none, none, none]) (lcL_filf (h := []) (g := mgName 5) (t := mTst (mBin dInA (mVar 5) (mVar 1))) (e := mVar 5) (ε := [some d, some x, none, none, none, none]) D.str D.str (fun z => decide (z ∈ us)) (xs := uns rows) fun z _ => ⟨[some d, some x, none, none, none, some (.str z)], rfl, by
      rw [tst_ap, bin_ap, show mVar 5 [some d, some x, none, none, none, some (.str z)] [] = some (.ok (.str z), []) from rfl, bR_ok, binK1_ap, show mVar 1 [some d, some x, none, none, none, some (.str z)] [] = some (.ok x, []) from rfl, bR_ok, binK2_ap, inx]
      rfl, fun _ => rfl⟩) (by rw [List.length_map]; exact Nat.le_trans lo (by decide))
    have nmr : mLst (mCons (mC (.str [])) (mStar (mLc [5] (miL (mMeP "System" "unknowns" F_System_unknowns (mVar 0) mNil)) (mgName 5) (mTst (mBin dInA (mVar 5) (mVar 1))) (mVar 5)) mNil)) [some d, some x, none, none, none, none] [] = some (.ok (.lst (P.map .str)), []) := by
      rw [lst_ap, cons_ap, c_ap, bR_ok, consK1_ap]
      unfold mStar
      rw [lc_ap, uit, bR_ok, lc, bR_ok, show asS ([] : EH) (.lst (((uns rows).filter fun z => decide (z ∈ us)).map .str)) = some (((uns rows).filter fun z => decide (z ∈ us)).map .str) from rfl]
      dsimp only
      rw [nil_ap, bR_ok, List.append_nil, bR_ok, consK2_ap, bR_ok]
      have : D.str [] :: ((uns rows).filter fun z => decide (z ∈ us)).map .str = P.map .str := by rw [hP]; rfl
      rw [this]
      exact lstK_ok (by rw [List.length_map]; omega)
    rw [sq_then (asg_run nmr)]
    show endP (msRet _ [some d, some x, some (.lst (P.map .str)), none, none, none] []) = _
    have pm : (P.map D.str).flatMap (fun dl => match dl with
        | .str i => ((P.filter fun j => !decide (i = j) && (bd i j).isSome).map fun j => rowC (i, j, (bd i j).getD 0))
        | _ => []) = (prj bd P).map rowC := by
      unfold prj
      rw [List.map_flatMap, List.flatMap_map]
      congr 1
      funext i
      rw [List.map_map]
      rfl
    have l2 := lc2K_ok (vs := [3, 4]) (ε := [some d, some x, some (.lst (P.map .str)), none, none, none]) (g := mgName 3) (t := mYes) (mi1 := miL (mVar 2)) (g1 := mgName 4) (t1 := mt_System_on_1) (e := me_System_on_0) (vs1 := [4]) (h := []) (h' := []) (ds := P.map .str) (ys := (prj bd P).map rowC) (by
      rw [← pm]
      refine lcL2_flat _ fun dl hdl => ?_
      obtain ⟨i, hi, rfl⟩ := List.mem_map.mp hdl
      refine ⟨[some d, some x, some (.lst (P.map .str)), some (.str i), none, none], rfl, .inr ⟨P.map .str, rfl, rfl, ?_⟩⟩
      refine lcL_filf D.str (fun j => rowC (i, j, (bd i j).getD 0)) (fun j => !decide (i = j) && (bd i j).isSome) fun j hj => ⟨[some d, some x, some (.lst (P.map .str)), some (.str i), some (.str j), none], rfl, ?_, fun q => ?_⟩
      · unfold mt_System_on_1
        rw [and_run (x := !decide (i = j)) (y := (bd i j).isSome) rfl]
        rw [tst_ap]
        unfold mDinT
        rw [kz_run (i := i) (j := j) rfl, bR_ok, fb, bR_ok, tg]
        cases bd i j <;> rfl
      · rw [Bool.and_eq_true] at q
        obtain ⟨z, hz⟩ := Option.isSome_iff_exists.mp q.2
        unfold me_System_on_0 rowC
        have dx : mDixT (mFld ["System"] "own_bounds" (mVar 0)) (mCons (mVar 3) (mCons (mVar 4) mNil)) [some d, some x, some (.lst (P.map .str)), some (.str i), some (.str j), none] [] = some (.ok (.int z), []) := by
          unfold mDixT
          rw [fb, bR_ok, kz_run (i := i) (j := j) rfl, bR_ok, tg, hz]
          rfl
        rw [tup_ap, cons_ap, show mVar 3 [some d, some x, some (.lst (P.map .str)), some (.str i), some (.str j), none] [] = some (.ok (.str i), []) from rfl, bR_ok, consK1_ap, cons_ap, show mVar 4 [some d, some x, some (.lst (P.map .str)), some (.str i), some (.str j), none] [] = some (.ok (.str j), []) from rfl, bR_ok, consK1_ap, cons_ap, dx, bR_ok, consK1_ap, nil_ap, bR_ok, consK2_ap, bR_ok, consK2_ap, bR_ok, consK2_ap, bR_ok, hz]
        exact tupK_ok (by show 3 ≤ 16777216; omega)) (by rw [List.length_map]; omega)
    have noe := sy.no
    rw [ret_ap, mkp_ap, cons_ap, lc2_ap, show miL (mVar 2) [some d, some x, some (.lst (P.map .str)), none, none, none] [] = some (.ok (P.map .str), []) from rfl, bR_ok, l2, bR_ok, consK1_ap, nil_ap, bR_ok, consK2_ap, bR_ok, mk, bS_ok, retK_ap]
    exact endP_ok noe
end SZ
namespace SZ
open PySem PD
section
variable {rows other : List Row} {d e : D}
theorem contO (s : Sy rows d) (l : rows.length ≤ 100) {T : List Nm} {kvs : List (List L2.Key × D)} {f : Nm → Option Int} (N : DkR T kvs f) (hT : T.length ≤ 700) : ∃ c, (∀ h, dInO "System" F_System_contains h (.dic false kvs) d = some (.bl c)) ∧ (c = true ↔ (∀ z ∈ uns rows, ∃ x, f z = some x) ∧ SY.Sat rows (numV f)) := by
  obtain ⟨c, e1, e2⟩ := cont_ok s l N hT
  refine ⟨c, fun h => ?_, e2⟩
  have n1 := s.no
  obtain ⟨k2, bd, b, rfl, R, Fn, hb⟩ := s
  unfold dInO
  rw [show insD h (syO (dd rows) k2 b) = some (("System" : Str), syF (dd rows) k2 b) from rfl]
  dsimp only
  rw [if_pos (by
    rw [decide_eq_true rfl]
    show (true && (PD.noRef _ && (PD.noRef _ && true))) = true
    rw [n1, show PD.noRef (.dic false kvs) = true from N.no]
    rfl), e1]
theorem eqO (s : Sy rows d) (s2 : Sy other e) (l1 : rows.length ≤ 100) (l2 : other.length ≤ 100) (neg : Bool) : ∃ c, (∀ h, eqOF "System" F_System_eq neg h d e = some (.bl (neg != c))) ∧ (c = true ↔ (SY.NoNeg rows → ∀ r ∈ other, SY.Imp rows r) ∧ (SY.NoNeg other → ∀ r ∈ rows, SY.Imp other r)) := by
  obtain ⟨c, e1, e2⟩ := eq_ok s s2 l1 l2
  refine ⟨c, fun h => ?_, e2⟩
  have n1 := s.no
  have n2 := s2.no
  obtain ⟨k1, bd1, b1, rfl, _⟩ := s
  obtain ⟨k2, bd2, b2, rfl, _⟩ := s2
  unfold eqOF
  rw [show insD h (syO (dd rows) k1 b1) = some (("System" : Str), syF (dd rows) k1 b1) from rfl, show insD h (syO (dd other) k2 b2) = some (("System" : Str), syF (dd other) k2 b2) from rfl]
  dsimp only
  rw [if_pos (by
    rw [decide_eq_true rfl]
    show (true && true && (PD.noRef _ && (PD.noRef _ && true))) = true
    rw [n1, n2]
    rfl), e1]
end
theorem asg_run' {ε : Ev} {h h1 : EH} {a : M D} {d : D} {i : Nat} (e : a ε h = some (.ok d, h1)) : msAsg a (mgName i) ε h = some (.nx (ε.set i (some d)), h1) := by
  rw [asg_ap, e, bS_ok, asgK_ap, gname_ap, bG_ok]
theorem lcL_pullF {α : Type} {g : MG} {t : M Bool} {e : M D} (q f : α → D) {ε : Ev} : ∀ (xs : List α), (∀ x ∈ xs, ∀ k t', BagI k → ∃ ε1 b k', g (q x) ε (k :: t') = some (ε1, k :: t') ∧ t ε1 (k :: t') = some (.ok b, k' :: t') ∧ e ε1 (k' :: t') = some (.ok (f x), k' :: t') ∧ BagI k') →
    ∀ k t', BagI k → ∃ (ys : List α) (k' : Cell), ys.Sublist xs ∧ lcL g t e (xs.map q) ε (k :: t') = some (ys.map f, k' :: t') ∧ BagI k'
  | [], _, k, t', hk => ⟨[], k, .slnil, rfl, hk⟩
  | x :: xs, H, k, t', hk => by
    obtain ⟨ε1, b, k1, e1, e2, e3, hk1⟩ := H x List.mem_cons_self k t' hk
    obtain ⟨ys, k2, sl, e4, hk2⟩ := lcL_pullF q f xs (fun y hy => H y (List.mem_cons_of_mem _ hy)) k1 t' hk1
    cases b with
    | true =>
      refine ⟨x :: ys, k2, sl.cons₂ x, ?_, hk2⟩
      rw [List.map_cons]
      unfold lcL
      simp only [e1, e2, e3, e4, List.map_cons]
    | false =>
      refine ⟨ys, k2, sl.cons x, ?_, hk2⟩
      rw [List.map_cons]
      unfold lcL
      simp only [e1, e2, e4]
abbrev prC (p : Nm × Int) : D := .tup [.str p.1, .int p.2]
theorem lcL_nums {g : MG} {e : M D} {ε : Ev} : ∀ (zs : List Nm), (∀ z ∈ zs, ∀ k t', BagI k → ∃ ε1 v k', g (.str z) ε (k :: t') = some (ε1, k :: t') ∧ e ε1 (k :: t') = some (.ok (prC (z, v)), k' :: t') ∧ BagI k') →
    ∀ k t', BagI k → ∃ (ps : List (Nm × Int)) (k' : Cell), ps.map (·.1) = zs ∧ lcL g mYes e (zs.map .str) ε (k :: t') = some (ps.map prC, k' :: t') ∧ BagI k'
  | [], _, k, t', hk => ⟨[], k, rfl, rfl, hk⟩
  | z :: zs, H, k, t', hk => by
    obtain ⟨ε1, v, k1, e1, e2, hk1⟩ := H z List.mem_cons_self k t' hk
    obtain ⟨ps, k2, ep, e3, hk2⟩ := lcL_nums zs (fun y hy => H y (List.mem_cons_of_mem _ hy)) k1 t' hk1
    refine ⟨(z, v) :: ps, k2, by rw [List.map_cons, ep], ?_, hk2⟩
    rw [List.map_cons]
    unfold lcL
    simp only [e1, yes_ap, e2, e3, List.map_cons]
theorem prsD_map : ∀ ps : List (Nm × Int), prsD (ps.map prC) = some (ps.map fun p => (ky p.1, D.int p.2))
  | [] => rfl
  | p :: ps => by
    rw [List.map_cons]
    unfold prsD
    rw [prsD_map ps]
    rfl
theorem mergeP_ok {T : List Nm} : ∀ (ps : List (Nm × Int)) (acc : List (List L2.Key × D)) (f : Nm → Option Int), (∀ p ∈ ps, p.1 ∈ T) → DkR T acc f → ∃ g, DkR T (mergeP acc (ps.map fun p => (ky p.1, D.int p.2))) g ∧ ∀ z, (∃ x, g z = some x) ↔ z ∈ ps.map (·.1) ∨ ∃ x, f z = some x
  | [], acc, f, _, R => ⟨f, R, fun z => by simp⟩
  | p :: ps, acc, f, H, R => by
    obtain ⟨g, R', hg⟩ := mergeP_ok ps _ _ (fun q hq => H q (List.mem_cons_of_mem _ hq)) (R.put (x := p.2) (H p List.mem_cons_self))
    refine ⟨g, R', fun z => ?_⟩
    rw [hg, List.map_cons, List.mem_cons]
    by_cases q : z = p.1
    · simp [q]
    · simp [q]
theorem dictP_ok (ps : List (Nm × Int)) : ∃ kvs f, (∀ h, dDictP h [.lst (ps.map prC)] = some (.dic false kvs)) ∧ DkR (ps.map (·.1)) kvs f ∧ ∀ z, (∃ x, f z = some x) ↔ z ∈ ps.map (·.1) := by
  obtain ⟨g, R, hg⟩ := mergeP_ok (T := ps.map (·.1)) ps [] (fun _ => none) (fun p hp => List.mem_map_of_mem hp) dkr_nil
  refine ⟨_, g, fun h => ?_, R, fun z => by rw [hg]; simp⟩
  show (prsD (ps.map prC)).map _ = _
  rw [prsD_map]
  rfl
/-- rows that fix the integers of names -/
def fxr (φ : Nm → Int) (zs : List Nm) : List Row := zs.flatMap fun z => [(z, [], φ z), ([], z, 0 - φ z)]
theorem fxr_mem {φ : Nm → Int} {zs : List Nm} {r : Row} : r ∈ fxr φ zs ↔ ∃ z ∈ zs, r = (z, [], φ z) ∨ r = ([], z, 0 - φ z) := by
  unfold fxr
  simp only [List.mem_flatMap, List.mem_cons, List.not_mem_nil, or_false]
theorem fxr_len (φ : Nm → Int) : ∀ zs : List Nm, (fxr φ zs).length = 2 * zs.length
  | [] => rfl
  | z :: zs => by
    have := fxr_len φ zs
    unfold fxr at this ⊢
    rw [List.flatMap_cons, List.length_append, this, List.length_cons, List.length_cons, List.length_cons, List.length_nil]
    omega
theorem fxr_wk {φ : Nm → Int} {zs : List Nm} (h0 : φ [] = 0) {i j : Nm} (hi : i ∈ [] :: zs) (hj : j ∈ [] :: zs) : SY.Wk (fxr φ zs) i j (φ i - φ j) := by
  have h1 : SY.Wk (fxr φ zs) i [] (φ i) := by
    rcases List.mem_cons.mp hi with rfl | hi
    · rw [h0]; exact .nil _
    · exact .one (fxr_mem.mpr ⟨i, hi, .inl rfl⟩)
  have h2 : SY.Wk (fxr φ zs) [] j (0 - φ j) := by
    rcases List.mem_cons.mp hj with rfl | hj
    · rw [h0]; exact .nil _
    · exact .one (fxr_mem.mpr ⟨j, hj, .inr rfl⟩)
  have := h1.cat h2
  rwa [show φ i + (0 - φ j) = φ i - φ j from by omega] at this
/-- numbers solve the projection exactly if the whole has a solution with them -/
theorem on_sat {rows rs : List Row} {us : List Nm} {φ : Nm → Int} (h0 : φ [] = 0) (nn : SY.NoNeg rows) (O : Onr rows ([] :: us) rs) : SY.Sat rs φ ↔ SY.NoNeg (rows ++ fxr φ us) := by
  rw [SY.proj (P := fun z => z ∈ ([] : Nm) :: us) (φ := φ) nn (fun i j c h => by
    obtain ⟨z, hz, e | e⟩ := fxr_mem.mp h
    · cases e
      exact ⟨List.mem_cons_of_mem _ hz, List.mem_cons_self, by rw [h0]; omega⟩
    · cases e
      exact ⟨List.mem_cons_self, List.mem_cons_of_mem _ hz, by rw [h0]⟩) fun i j hi hj => fxr_wk h0 hi hj]
  constructor
  · intro S i j x hi hj h
    by_cases q : i = j
    · subst q
      have := nn _ _ h
      omega
    · obtain ⟨c, hc, lc⟩ := O.has i hi j hj x h q
      have := S _ _ _ hc
      omega
  · intro H i j c h
    obtain ⟨h1, h2, h3⟩ := O.at_ _ h
    exact H _ _ _ h1 h2 h3
theorem on_nn {rows rs : List Row} {P : List Nm} (nn : SY.NoNeg rows) (O : Onr rows P rs) : SY.NoNeg rs := fun i w h => nn i w (h.over fun i j c hm => (O.at_ _ hm).2.2)
theorem on_uns {rows rs : List Row} {us : List Nm} (O : Onr rows ([] :: us) rs) : ∀ z ∈ uns rs, z ∈ us := fun z hz => by
  obtain ⟨h1, r, hr, h2⟩ := uns_mem.mp hz
  obtain ⟨a1, a2, _⟩ := O.at_ r hr
  rcases h2 with rfl | rfl
  · exact (List.mem_cons.mp a1).resolve_left h1
  · exact (List.mem_cons.mp a2).resolve_left h1
end SZ
namespace K12
open PySem PySem.Spec PyProof.Rows L2 PD
variable [LamTab]
def lams : Nat → LamD
  | _ => ⟨"", ⟨[], [], none, [], [], none, []⟩, .Constant .none 0 noPos, { kind := .function, names := [], isGenerator := false, isCoroutine := false }, [], false⟩
structure CtxT (P : Program) (K : PySem.W.Frag) (w : World) (mg : Str → Option Value) : Prop where
  d__law_draws : ∃ f fd, FunD K "_law_draws" "_law_draws" (defArgs (top 20)) (defBody (top 20)) (defScope (top 20)) [] [] f fd ∧ mg "_law_draws" = some (.ref f)
  d_closed : ∃ f fd, FunD K "closed" "closed" (defArgs (top 16)) (defBody (top 16)) (defScope (top 16)) [] [] f fd ∧ mg "closed" = some (.ref f)
  d_is_listed : ∃ f fd, FunD K "is_listed" "is_listed" (defArgs (top 11)) (defBody (top 11)) (defScope (top 11)) [] [] f fd ∧ mg "is_listed" = some (.ref f)
  d_is_name : ∃ f fd, FunD K "is_name" "is_name" (defArgs (top 9)) (defBody (top 9)) (defScope (top 9)) [] [] f fd ∧ mg "is_name" = some (.ref f)
  d_is_column : ∃ f fd, FunD K "is_column" "is_column" (defArgs (top 12)) (defBody (top 12)) (defScope (top 12)) [] [] f fd ∧ mg "is_column" = some (.ref f)
  d_is_unknown : ∃ f fd, FunD K "is_unknown" "is_unknown" (defArgs (top 14)) (defBody (top 14)) (defScope (top 14)) [] [] f fd ∧ mg "is_unknown" = some (.ref f)
  d_is_integer : ∃ f fd, FunD K "is_integer" "is_integer" (defArgs (top 10)) (defBody (top 10)) (defScope (top 10)) [] [] f fd ∧ mg "is_integer" = some (.ref f)
  d_is_comparison : ∃ f fd, FunD K "is_comparison" "is_comparison" (defArgs (top 15)) (defBody (top 15)) (defScope (top 15)) [] [] f fd ∧ mg "is_comparison" = some (.ref f)
  q_System_init_comparisons : dB K (.tup []) (.ref (He.dflAt ("System", some "__init__") 0 K)) = true
  d_System_init : ∃ Ca f fd, mg "System" = some (.ref Ca) ∧ Cls K Ca ∧ Mk K Ca f ∧ FunD K "__init__" "System.__init__" (defArgs s_System_init) (defBody s_System_init) (defScope s_System_init) [V.ref (He.dflAt ("System", some "__init__") 0 K)] [] f fd
  d_System_need_open : ∃ Ca f fd, mg "System" = some (.ref Ca) ∧ Cls K Ca ∧ Meth K Ca "need_open" f ∧ FunD K "need_open" "System.need_open" (defArgs s_System_need_open) (defBody s_System_need_open) (defScope s_System_need_open) [] [] f fd
  d_System_unknowns : ∃ Ca f fd, mg "System" = some (.ref Ca) ∧ Cls K Ca ∧ Meth K Ca "unknowns" f ∧ FunD K "unknowns" "System.unknowns" (defArgs s_System_unknowns) (defBody s_System_unknowns) (defScope s_System_unknowns) [] [] f fd
  d_System_on : ∃ Ca f fd, mg "System" = some (.ref Ca) ∧ Cls K Ca ∧ Meth K Ca "on" f ∧ FunD K "on" "System.on" (defArgs s_System_on) (defBody s_System_on) (defScope s_System_on) [] [] f fd
  d__law_pull : ∃ f fd, FunD K "_law_pull" "_law_pull" (defArgs (top 21)) (defBody (top 21)) (defScope (top 21)) [] [] f fd ∧ mg "_law_pull" = some (.ref f)
  d__law_any : ∃ f fd, FunD K "_law_any" "_law_any" (defArgs (top 22)) (defBody (top 22)) (defScope (top 22)) [] [] f fd ∧ mg "_law_any" = some (.ref f)
  d__law_near : ∃ f fd, FunD K "_law_near" "_law_near" (defArgs (top 24)) (defBody (top 24)) (defScope (top 24)) [] [] f fd ∧ mg "_law_near" = some (.ref f)
  d__law_some_comparisons : ∃ f fd, FunD K "_law_some_comparisons" "_law_some_comparisons" (defArgs (top 25)) (defBody (top 25)) (defScope (top 25)) [] [] f fd ∧ mg "_law_some_comparisons" = some (.ref f)
  d__law_bounds : ∃ f fd, FunD K "_law_bounds" "_law_bounds" (defArgs (top 26)) (defBody (top 26)) (defScope (top 26)) [] [] f fd ∧ mg "_law_bounds" = some (.ref f)
  d_System_is_open : ∃ Ca p f fd, mg "System" = some (.ref Ca) ∧ Cls K Ca ∧ PropOf K Ca "is_open" p f ∧ FunD K "is_open" "System.is_open" (defArgs s_System_is_open) (defBody s_System_is_open) (defScope s_System_is_open) [] [] f fd
  d__law_like : ∃ f fd, FunD K "_law_like" "_law_like" (defArgs (top 23)) (defBody (top 23)) (defScope (top 23)) [] [] f fd ∧ mg "_law_like" = some (.ref f)
  d_System_within : ∃ Ca f fd, mg "System" = some (.ref Ca) ∧ Cls K Ca ∧ Meth K Ca "within" f ∧ FunD K "within" "System.within" (defArgs s_System_within) (defBody s_System_within) (defScope s_System_within) [] [] f fd
  d_System_eq : ∃ Ca f fd, mg "System" = some (.ref Ca) ∧ Cls K Ca ∧ Meth K Ca "__eq__" f ∧ FunD K "__eq__" "System.__eq__" (defArgs s_System_eq) (defBody s_System_eq) (defScope s_System_eq) [] [] f fd
  d_System_contains : ∃ Ca f fd, mg "System" = some (.ref Ca) ∧ Cls K Ca ∧ Meth K Ca "__contains__" f ∧ FunD K "__contains__" "System.__contains__" (defArgs s_System_contains) (defBody s_System_contains) (defScope s_System_contains) [] [] f fd
  d_law : ∃ f fd, FunD K "law" "law" (defArgs (top 27)) (defBody (top 27)) (defScope (top 27)) [] [] f fd ∧ mg "law" = some (.ref f)
  n_list : mg "list" = none
  n_int : mg "int" = none
  n_min : mg "min" = none
  n_sorted : mg "sorted" = none
  n_isinstance : mg "isinstance" = none
  n_tuple : mg "tuple" = none
  n_all : mg "all" = none
  n_len : mg "len" = none
  n_str : mg "str" = none
  n_bool : mg "bool" = none
  n_enumerate : mg "enumerate" = none
  n_range : mg "range" = none
  n_any : mg "any" = none
  n_zip : mg "zip" = none
  n_dict : mg "dict" = none
  c_LETTERS : GlobC K mg "LETTERS" g_LETTERS
  c_RESERVED : GlobC K mg "RESERVED" g_RESERVED
  c_DIGITS : GlobC K mg "DIGITS" g_DIGITS
  a_System_own_bounds : ClsF K mg "System" "own_bounds"
  a_System_has_solution : ClsF K mg "System" "has_solution"
  a_System_own_rows : ClsF K mg "System" "own_rows"
  g_System : mg "System" = some (.ref (He.ga K "System"))
  g_InvalidComparison : mg "InvalidComparison" = some (.ref (He.ga K "InvalidComparison"))
  g_NotOpen : mg "NotOpen" = some (.ref (He.ga K "NotOpen"))
  g_TableError : mg "TableError" = some (.ref (He.ga K "TableError"))
  o_InvalidComparison : overB K (He.ga K "TableError") (He.ga K "InvalidComparison") = true
  i_InvalidComparison : initB K (He.ga K "InvalidComparison") = true
  na_InvalidComparison : noB K (He.ga K "InvalidComparison") "index" = true
  x_InvalidComparison : ∃ fd, FunD K "__init__" "InvalidComparison.__init__" (defArgs s_InvalidComparison_init) (defBody s_InvalidComparison_init) (defScope s_InvalidComparison_init) [] [] (He.ma K (He.ga K "InvalidComparison") "__init__") fd
  o_NotOpen : overB K (He.ga K "TableError") (He.ga K "NotOpen") = true
  i_NotOpen : initB K (He.ga K "NotOpen") = true
  x_NotOpen : ∃ fd, FunD K "__init__" "NotOpen.__init__" (defArgs s_NotOpen_init) (defBody s_NotOpen_init) (defScope s_NotOpen_init) [] [] (He.ma K (He.ga K "NotOpen") "__init__") fd
  su_TableError : supB K P.main.file sd_TableError = true
  sv_TableError : fnC K (sd_TableError.at_ K) = sd_TableError.val
  cf_TableError : clsvB K (He.ga K "TableError") = true
  top_ : (P.main.scope.names.lookup ("super" : Str)).isSome = false
  iso_System : IsoC K mg "System"
  lamE : LamTab.lam = lams
structure CtxB (K : PySem.W.Frag) (mg : Str → Option Value) (base : Heap) : Prop where
  ok : True
section
variable {P : Program} {w : World} {K : PySem.W.Frag} {mg : Str → Option Value} {base : Heap}
theorem supT_TableError (h : (P.main.scope.names.lookup ("super" : Str)).isSome = false) : SupT P sd_TableError := ⟨⟨_, _, _, _, _, _, _, _, _, _, fun _ => ⟨_, rfl⟩, rfl⟩, ⟨_, rfl, rfl⟩, by decide +kernel, by decide +kernel, rfl, rfl, rfl, rfl, rfl, rfl, rfl, h, fun _ _ _ _ _ _ us hl => match us, hl with | [_, _], _ => rfl⟩
theorem topI_TableError (C : CtxT P K w mg) : PX.TopI P w K mg base (L2.CX P w) "TableError" (He.ga K "TableError") := topI_of (d := sd_TableError) C.g_TableError C.su_TableError C.sv_TableError (supT_TableError C.top_) C.cf_TableError
theorem exc_InvalidComparison (C : CtxT P K w mg) : ExcC P w K mg base "InvalidComparison" (some "index") "InvalidComparison" := by
  obtain ⟨fd, F⟩ := C.x_InvalidComparison
  exact excC_of1 (prm := "index") C.g_InvalidComparison C.o_InvalidComparison C.i_InvalidComparison C.na_InvalidComparison (topI_TableError C) F ⟨rfl, rfl, rfl, by decide +kernel, rfl, by decide +kernel, by decide +kernel⟩ ⟨_, _, _, _, _, _, _, ⟨_, _, _, _, _, fun _ => ⟨_, rfl⟩, rfl⟩, rfl⟩ (F.bindsN (fun _ _ _ _ _ _ us hl => match us, hl with | [_, _], _ => rfl))
theorem exc_NotOpen (C : CtxT P K w mg) : ExcC P w K mg base "NotOpen" none "NotOpen" := by
  obtain ⟨fd, F⟩ := C.x_NotOpen
  exact excC_of0 C.g_NotOpen C.o_NotOpen C.i_NotOpen (topI_TableError C) F ⟨rfl, rfl, rfl, by decide +kernel, rfl, by decide +kernel, by decide +kernel⟩ ⟨_, _, _, ⟨_, _, _, _, _, fun _ => ⟨_, rfl⟩, rfl⟩, rfl⟩ (F.bindsN (fun _ _ _ _ _ _ us hl => match us, hl with | [_], _ => rfl))
def N__law_draws : List Str := ["_law_script", "_law_seed", "_law_cell"]
def mb__law_draws_0 : MS :=
    (msAsg (mBin dMod (mCall dInt (mCons (mBin dAdd (mBin dAdd (mBin dMul (mVar 1) (mC (.int 44021))) (mBin dMod (mCall dInt (mCons (mVar 2) mNil)) (mC (.int 2147483489)))) (mC (.int 53))) mNil)) (mC (.int 2147483549))) (mgName 1))
def m__law_draws : MS :=
    (msSeq (msAsg (mC (.int 5648)) (mgName 1))
    (msSeq (msFor (miL (mSl (mVar 0) mNoP (mSmP (mC (.int 63))))) (mgName 2) mb__law_draws_0)
    (msRet (mLstC (mCons (mCall dList (mCons (mSl (mVar 0) mNoP (mSmP (mC (.int 63)))) mNil)) (mCons (mC (.int 0)) (mCons (mC (.int 0)) (mCons (mVar 1) (mCons (mC (.int 0)) mNil)))))))))
theorem sc__law_draws : FnScope N__law_draws ["_law_script"] (defScope s__law_draws) := ⟨rfl, rfl, rfl, by decide +kernel, rfl, by decide +kernel, by decide +kernel⟩
def F__law_draws : IF := runA N__law_draws.length m__law_draws
theorem ok__law_draws (C : CtxT P K w mg) (B : CtxB K mg base) : FnI P w K mg base "_law_draws" (1) 1 (F__law_draws) := by
  have sc := sc__law_draws
  obtain ⟨f, fd, Fd, g⟩ := C.d__law_draws
  exact ⟨⟨f, fd, ["_law_script"], g, Fd.kp, Fd.bindsN (fun _ _ _ _ _ _ us hl => match us, hl with | [_], _ => rfl), rfl, fnA Fd sc fun cdv A outer s H E hr => (rss_cons (rs_set 1 sc.nd re_int)
    (rss_cons (rs_for poOf rfl (ri_list (re_slice (re_var 0) ro_none (ro_some re_int))) (rg_name 2 sc.nd) (rss_one (rs_set 1 sc.nd (re_mod (re_intc C.n_int (ra_cons (re_add (re_add (re_mul (re_var 1) re_int) (re_mod (re_intc C.n_int (ra_cons (re_var 2) ra_nil)) re_int)) re_int) ra_nil)) re_int))))
    (rss_one (rs_ret (re_lstC (ra_cons (re_listc C.n_list (ra_cons (re_slice (re_var 0) ro_none (ro_some re_int)) ra_nil)) (ra_cons re_int (ra_cons re_int (ra_cons (re_var 1) (ra_cons re_int ra_nil))))))))))⟩⟩
def N_closed : List Str := ["comparisons", "bounds", "names", "name", "mid", "left", "right", "k", "heads", "tails", "head", "tail", "way"]
def mb_closed_0 : MS :=
    (msSeq (msAsg (mBin dAdd (mDixT (mVar 1) (mCons (mVar 10) (mCons (mVar 4) mNil))) (mDixT (mVar 1) (mCons (mVar 4) (mCons (mVar 11) mNil)))) (mgName 12))
    (msDPutT (mVar 1) (mCons (mVar 10) (mCons (mVar 11) mNil)) (mCall dMin2 (mCons (mVar 12) (mCons (mDGet2T (mVar 1) (mCons (mVar 10) (mCons (mVar 11) mNil)) (mVar 12)) mNil)))))
def mt_closed_1 : M Bool :=
    (mTst (mDinT false (mCons (mVar 4) (mCons (mVar 3) mNil)) (mVar 1)))
def mt_closed_2 : M Bool :=
    (mTst (mDinT false (mCons (mVar 3) (mCons (mVar 4) mNil)) (mVar 1)))
def mb_closed_3 : MS :=
    (msSeq (msAsg (mLc [3] (miL (mVar 2)) (mgName 3) mt_closed_2 (mVar 3)) (mgName 8))
    (msSeq (msAsg (mLc [3] (miL (mVar 2)) (mgName 3) mt_closed_1 (mVar 3)) (mgName 9))
    (msFor (miL (mVar 8)) (mgName 10) (msFor (miL (mVar 9)) (mgName 11) mb_closed_0))))
def mb_closed_4 : MS :=
    (msDPutT (mVar 1) (mCons (mVar 5) (mCons (mVar 6) mNil)) (mCall dMin2 (mCons (mVar 7) (mCons (mDGet2T (mVar 1) (mCons (mVar 5) (mCons (mVar 6) mNil)) (mVar 7)) mNil))))
def mb_closed_5 : MS :=
    (msDPutT (mVar 1) (mCons (mVar 3) (mCons (mVar 3) mNil)) (mC (.int 0)))
def m_closed : MS :=
    (msSeq (msAsg mDnewT (mgName 1))
    (msSeq (msAsg (mLst (mCons (mC (.str [])) (mStar (mSortV [5, 6, 7, 3] (miL (mVar 0)) (mgTup 3 (mgCons (mgName 5) (mgCons (mgName 6) (mgCons (mgName 7) mgNil)))) mYes (mbFor (miT (mTup (mCons (mVar 5) (mCons (mVar 6) mNil)))) (mgName 3) (mTst (mBin dNe (mVar 3) (mC (.str [])))) [3] (mbS (mVar 3)))) mNil))) (mgName 2))
    (msSeq (msFor (miL (mVar 2)) (mgName 3) mb_closed_5)
    (msSeq (msFor (miL (mVar 0)) (mgTup 3 (mgCons (mgName 5) (mgCons (mgName 6) (mgCons (mgName 7) mgNil)))) mb_closed_4)
    (msSeq (msFor (miL (mVar 2)) (mgName 4) mb_closed_3)
    (msRet (mVar 1)))))))
theorem sc_closed : FnScope N_closed ["comparisons"] (defScope s_closed) := ⟨rfl, rfl, rfl, by decide +kernel, rfl, by decide +kernel, by decide +kernel⟩
def F_closed : PF := runP N_closed.length m_closed
theorem ok_closed (C : CtxT P K w mg) (B : CtxB K mg base) : FnP P w K mg base "closed" (1) 1 (F_closed) := by
  have sc := sc_closed
  obtain ⟨f, fd, Fd, g⟩ := C.d_closed
  exact ⟨⟨f, fd, ["comparisons"], g, Fd.kp, Fd.bindsN (fun _ _ _ _ _ _ us hl => match us, hl with | [_], _ => rfl), rfl, fnP Fd sc fun cdv A outer s H E hr => (rss_cons (rs_set 1 sc.nd re_dnewT)
    (rss_cons (rs_set 2 sc.nd (re_lst (ra_cons (re_str []) (ra_star (re_sortV2 (own := [("left", 5), ("right", 6), ("k", 7), ("name", 3)]) (vs1 := [3]) rfl sc.nd C.n_sorted (ri_list (re_var 0)) (blkOk_by (N := N_closed) (sc := defScope s_closed) (by decide +kernel)) (by decide) (by decide) (by decide) (fun _ _ _ _ _ => (rg_tup (n := 3) rfl (rgs_cons (rg_name 5 sc.nd) (rgs_cons (rg_name 6 sc.nd) (rgs_cons (rg_name 7 sc.nd) rgs_nil))))) (fun _ _ _ _ _ => rts_nil) (fun _ _ _ _ _ => (ri_tup (re_tup (ra_cons (re_var 5) (ra_cons (re_var 6) ra_nil))))) (fun _ _ _ _ _ => (rg_name 3 sc.nd)) (fun _ _ _ _ _ => (rts_one (rt_ne hr (re_var 3) (re_str [])))) (fun _ _ _ _ _ => (re_var 3))) ra_nil))))
    (rss_cons (rs_for poOf rfl (ri_list (re_var 2)) (rg_name 3 sc.nd) (rss_one (rs_dputT hr (re_var 1) (ra_cons (re_var 3) (ra_cons (re_var 3) ra_nil)) re_int)))
    (rss_cons (rs_for poOf rfl (ri_list (re_var 0)) (rg_tup (n := 3) rfl (rgs_cons (rg_name 5 sc.nd) (rgs_cons (rg_name 6 sc.nd) (rgs_cons (rg_name 7 sc.nd) rgs_nil)))) (rss_one (rs_dputT hr (re_var 1) (ra_cons (re_var 5) (ra_cons (re_var 6) ra_nil)) (re_min2 rfl C.n_min (ra_cons (re_var 7) (ra_cons (re_dget2T hr (re_var 1) (ra_cons (re_var 5) (ra_cons (re_var 6) ra_nil)) (re_var 7)) ra_nil))))))
    (rss_cons (rs_for poOf rfl (ri_list (re_var 2)) (rg_name 4 sc.nd) (rss_cons (rs_setLc (own := [("name", 3)]) 8 rfl sc.nd (ri_list (re_var 2)) (blkOk_by (N := N_closed) (sc := defScope s_closed) (by decide +kernel)) (fun _ _ _ _ _ => (rg_name 3 sc.nd)) (fun _ _ _ _ _ => (rts_one (rt_dinT hr (ra_cons (re_var 3) (ra_cons (re_var 4) ra_nil)) (re_var 1)))) (fun _ _ _ _ _ => (re_var 3)))
    (rss_cons (rs_setLc (own := [("name", 3)]) 9 rfl sc.nd (ri_list (re_var 2)) (blkOk_by (N := N_closed) (sc := defScope s_closed) (by decide +kernel)) (fun _ _ _ _ _ => (rg_name 3 sc.nd)) (fun _ _ _ _ _ => (rts_one (rt_dinT hr (ra_cons (re_var 4) (ra_cons (re_var 3) ra_nil)) (re_var 1)))) (fun _ _ _ _ _ => (re_var 3)))
    (rss_one (rs_for poOf rfl (ri_list (re_var 8)) (rg_name 10 sc.nd) (rss_one (rs_for poOf rfl (ri_list (re_var 9)) (rg_name 11 sc.nd) (rss_cons (rs_set 12 sc.nd (re_add (re_dixT hr (re_var 1) (ra_cons (re_var 10) (ra_cons (re_var 4) ra_nil))) (re_dixT hr (re_var 1) (ra_cons (re_var 4) (ra_cons (re_var 11) ra_nil)))))
    (rss_one (rs_dputT hr (re_var 1) (ra_cons (re_var 10) (ra_cons (re_var 11) ra_nil)) (re_min2 rfl C.n_min (ra_cons (re_var 12) (ra_cons (re_dget2T hr (re_var 1) (ra_cons (re_var 10) (ra_cons (re_var 11) ra_nil)) (re_var 12)) ra_nil)))))))))))))
    (rss_one (rs_ret (re_var 1))))))))⟩⟩
def N_is_listed : List Str := ["value"]
def m_is_listed : MS :=
    (msRet (mIsi [.lst, .tup] (mVar 0)))
theorem sc_is_listed : FnScope N_is_listed ["value"] (defScope s_is_listed) := ⟨rfl, rfl, rfl, by decide +kernel, rfl, by decide +kernel, by decide +kernel⟩
def F_is_listed : PF := runP N_is_listed.length m_is_listed
theorem ok_is_listed (C : CtxT P K w mg) (B : CtxB K mg base) : FnP P w K mg base "is_listed" (1) 1 (F_is_listed) := by
  have sc := sc_is_listed
  obtain ⟨f, fd, Fd, g⟩ := C.d_is_listed
  exact ⟨⟨f, fd, ["value"], g, Fd.kp, Fd.bindsN (fun _ _ _ _ _ _ us hl => match us, hl with | [_], _ => rfl), rfl, fnP Fd sc fun cdv A outer s H E hr => (rss_one (rs_ret (re_isi2 .lst .tup C.n_isinstance C.n_list C.n_tuple (re_var 0))))⟩⟩
def N_is_name : List Str := ["value", "letter"]
def m_is_name : MS :=
    (msSeq (msIf (mOr (mNot (mTst (mIsi [.str] (mVar 0)))) (mOr (mNot (mTst (mChain dLe dLe (mC (.int 1)) (mCall dLen (mCons (mVar 0) mNil)) (mC (.int 6))))) (mTst (mBin dInA (mVar 0) (mC g_RESERVED))))) (msRet (mC (.bl false))) msNil)
    (msRet (mCall dAll (mCons (mLc [1] (miS (mVar 0)) (mgName 1) mYes (mBin dInA (mVar 1) (mC g_LETTERS))) mNil))))
theorem sc_is_name : FnScope N_is_name ["value"] (defScope s_is_name) := ⟨rfl, rfl, rfl, by decide +kernel, rfl, by decide +kernel, by decide +kernel⟩
def F_is_name : PF := runP N_is_name.length m_is_name
theorem ok_is_name (C : CtxT P K w mg) (B : CtxB K mg base) : FnP P w K mg base "is_name" (1) 1 (F_is_name) := by
  have sc := sc_is_name
  obtain ⟨f, fd, Fd, g⟩ := C.d_is_name
  exact ⟨⟨f, fd, ["value"], g, Fd.kp, Fd.bindsN (fun _ _ _ _ _ _ us hl => match us, hl with | [_], _ => rfl), rfl, fnP Fd sc fun cdv A outer s H E hr => (rss_cons (rs_if (rt_bool (rw_or (rt_not (rt_val (re_isi .str C.n_isinstance C.n_str (re_var 0)))) (rw_or (rt_not (rt_lele re_int (re_len C.n_len (ra_cons (re_var 0) ra_nil)) re_int)) (rw_or1 (rt_in (re_var 0) (re_glob C.c_RESERVED)))))) (rss_one (rs_ret re_bl)) rss_nil)
    (rss_one (rs_ret (re_all rfl C.n_all (ra_cons (re_lc (own := [("letter", 1)]) rfl sc.nd (ri_str (re_var 0)) (blkOk_by (N := N_is_name) (sc := defScope s_is_name) (by decide +kernel)) (by decide) (fun _ _ _ _ _ => (rg_name 1 sc.nd)) (fun _ _ _ _ _ => rts_nil) (fun _ _ _ _ _ => (re_in (re_var 1) (re_glob C.c_LETTERS)))) ra_nil)))))⟩⟩
def N_is_column : List Str := ["value"]
def m_is_column : MS :=
    (msRet (mAndV (mIsi [.str] (mVar 0)) (mOrV (mBin dEq (mVar 0) (mC (.str [107, 101, 121]))) (mCallP F_is_name (mCons (mVar 0) mNil)))))
theorem sc_is_column : FnScope N_is_column ["value"] (defScope s_is_column) := ⟨rfl, rfl, rfl, by decide +kernel, rfl, by decide +kernel, by decide +kernel⟩
def F_is_column : PF := runP N_is_column.length m_is_column
theorem ok_is_column (C : CtxT P K w mg) (B : CtxB K mg base) : FnP P w K mg base "is_column" (2) 1 (F_is_column) := by
  have sc := sc_is_column
  have G_is_name := ok_is_name (P := P) (w := w) (base := base) C B
  obtain ⟨f, fd, Fd, g⟩ := C.d_is_column
  exact ⟨⟨f, fd, ["value"], g, Fd.kp, Fd.bindsN (fun _ _ _ _ _ _ us hl => match us, hl with | [_], _ => rfl), rfl, fnP Fd sc fun cdv A outer s H E hr => (rss_one (rs_ret (re_and (re_isi .str C.n_isinstance C.n_str (re_var 0)) (re_one (re_or (re_eq hr (re_var 0) (re_str [107, 101, 121])) (re_one (re_callP G_is_name hr tkOf (ra_cons (re_var 0) ra_nil))))))))⟩⟩
def N_is_unknown : List Str := ["value", "index", "dot", "column", "sign"]
def m_is_unknown : MS :=
    (msSeq (msIf (mNot (mTst (mIsi [.str] (mVar 0)))) (msRet (mC (.bl false))) msNil)
    (msSeq (msIf (mOr (mTst (mBin dEq (mVar 0) (mC (.str [])))) (mTst (mCallP F_is_name (mCons (mVar 0) mNil)))) (msRet (mC (.bl true))) msNil)
    (msSeq (msAsg (mMtS dPart (mVar 0) (mCons (mC (.str [46])) mNil)) (mgTup 3 (mgCons (mgName 1) (mgCons (mgName 2) (mgCons (mgName 3) mgNil)))))
    (msSeq (msIf (mOr (mTst (mBin dEq (mVar 2) (mC (.str [])))) (mOr (mTst (mBin dEq (mVar 1) (mC (.str [])))) (mNot (mTst (mCall dAll (mCons (mLc [4] (miS (mVar 1)) (mgName 4) mYes (mBin dInA (mVar 4) (mC g_DIGITS))) mNil)))))) (msRet (mC (.bl false))) msNil)
    (msRet (mAndV (mBin dEq (mCall dStr (mCons (mCall dInt (mCons (mVar 1) mNil)) mNil)) (mVar 1)) (mCallP F_is_column (mCons (mVar 3) mNil))))))))
theorem sc_is_unknown : FnScope N_is_unknown ["value"] (defScope s_is_unknown) := ⟨rfl, rfl, rfl, by decide +kernel, rfl, by decide +kernel, by decide +kernel⟩
def F_is_unknown : PF := runP N_is_unknown.length m_is_unknown
theorem ok_is_unknown (C : CtxT P K w mg) (B : CtxB K mg base) : FnP P w K mg base "is_unknown" (3) 1 (F_is_unknown) := by
  have sc := sc_is_unknown
  have G_is_column := ok_is_column (P := P) (w := w) (base := base) C B
  have G_is_name := ok_is_name (P := P) (w := w) (base := base) C B
  obtain ⟨f, fd, Fd, g⟩ := C.d_is_unknown
  exact ⟨⟨f, fd, ["value"], g, Fd.kp, Fd.bindsN (fun _ _ _ _ _ _ us hl => match us, hl with | [_], _ => rfl), rfl, fnP Fd sc fun cdv A outer s H E hr => (rss_cons (rs_if (rt_not (rt_val (re_isi .str C.n_isinstance C.n_str (re_var 0)))) (rss_one (rs_ret re_bl)) rss_nil)
    (rss_cons (rs_if (rt_bool (rw_or (rt_eq hr (re_var 0) (re_str [])) (rw_or1 (rt_val (re_callP G_is_name hr tkOf (ra_cons (re_var 0) ra_nil)))))) (rss_one (rs_ret re_bl)) rss_nil)
    (rss_cons (rs_asg (re_part (re_var 0) (ra_cons (re_str [46]) ra_nil)) (rg_tup (n := 3) rfl (rgs_cons (rg_name 1 sc.nd) (rgs_cons (rg_name 2 sc.nd) (rgs_cons (rg_name 3 sc.nd) rgs_nil)))))
    (rss_cons (rs_if (rt_bool (rw_or (rt_eq hr (re_var 2) (re_str [])) (rw_or (rt_eq hr (re_var 1) (re_str [])) (rw_or1 (rt_not (rt_val (re_all rfl C.n_all (ra_cons (re_lc (own := [("sign", 4)]) rfl sc.nd (ri_str (re_var 1)) (blkOk_by (N := N_is_unknown) (sc := defScope s_is_unknown) (by decide +kernel)) (by decide) (fun _ _ _ _ _ => (rg_name 4 sc.nd)) (fun _ _ _ _ _ => rts_nil) (fun _ _ _ _ _ => (re_in (re_var 4) (re_glob C.c_DIGITS)))) ra_nil)))))))) (rss_one (rs_ret re_bl)) rss_nil)
    (rss_one (rs_ret (re_and (re_eq hr (re_strc C.n_str (ra_cons (re_intc C.n_int (ra_cons (re_var 1) ra_nil)) ra_nil)) (re_var 1)) (re_one (re_callP G_is_column hr tkOf (ra_cons (re_var 3) ra_nil))))))))))⟩⟩
def N_is_integer : List Str := ["value"]
def m_is_integer : MS :=
    (msRet (mAndV (mIsi [.int] (mVar 0)) (mNotV (mIsi [.bool] (mVar 0)))))
theorem sc_is_integer : FnScope N_is_integer ["value"] (defScope s_is_integer) := ⟨rfl, rfl, rfl, by decide +kernel, rfl, by decide +kernel, by decide +kernel⟩
def F_is_integer : PF := runP N_is_integer.length m_is_integer
theorem ok_is_integer (C : CtxT P K w mg) (B : CtxB K mg base) : FnP P w K mg base "is_integer" (1) 1 (F_is_integer) := by
  have sc := sc_is_integer
  obtain ⟨f, fd, Fd, g⟩ := C.d_is_integer
  exact ⟨⟨f, fd, ["value"], g, Fd.kp, Fd.bindsN (fun _ _ _ _ _ _ us hl => match us, hl with | [_], _ => rfl), rfl, fnP Fd sc fun cdv A outer s H E hr => (rss_one (rs_ret (re_and (re_isi .int C.n_isinstance C.n_int (re_var 0)) (re_one (re_not (re_isi .bool C.n_isinstance C.n_bool (re_var 0)))))))⟩⟩
def N_is_comparison : List Str := ["value"]
def m_is_comparison : MS :=
    (msSeq (msIf (mOr (mNot (mTst (mIsi [.tup] (mVar 0)))) (mTst (mBin dNe (mCall dLen (mCons (mVar 0) mNil)) (mC (.int 3))))) (msRet (mC (.bl false))) msNil)
    (msRet (mAndV (mCallP F_is_unknown (mCons (mBin dIx (mVar 0) (mC (.int 0))) mNil)) (mAndV (mCallP F_is_unknown (mCons (mBin dIx (mVar 0) (mC (.int 1))) mNil)) (mCallP F_is_integer (mCons (mBin dIx (mVar 0) (mC (.int 2))) mNil))))))
theorem sc_is_comparison : FnScope N_is_comparison ["value"] (defScope s_is_comparison) := ⟨rfl, rfl, rfl, by decide +kernel, rfl, by decide +kernel, by decide +kernel⟩
def F_is_comparison : PF := runP N_is_comparison.length m_is_comparison
theorem ok_is_comparison (C : CtxT P K w mg) (B : CtxB K mg base) : FnP P w K mg base "is_comparison" (4) 1 (F_is_comparison) := by
  have sc := sc_is_comparison
  have G_is_integer := ok_is_integer (P := P) (w := w) (base := base) C B
  have G_is_unknown := ok_is_unknown (P := P) (w := w) (base := base) C B
  obtain ⟨f, fd, Fd, g⟩ := C.d_is_comparison
  exact ⟨⟨f, fd, ["value"], g, Fd.kp, Fd.bindsN (fun _ _ _ _ _ _ us hl => match us, hl with | [_], _ => rfl), rfl, fnP Fd sc fun cdv A outer s H E hr => (rss_cons (rs_if (rt_bool (rw_or (rt_not (rt_val (re_isi .tup C.n_isinstance C.n_tuple (re_var 0)))) (rw_or1 (rt_ne hr (re_len C.n_len (ra_cons (re_var 0) ra_nil)) re_int)))) (rss_one (rs_ret re_bl)) rss_nil)
    (rss_one (rs_ret (re_and (re_callP G_is_unknown hr tkOf (ra_cons (re_ix (re_var 0) re_int) ra_nil)) (re_and (re_callP G_is_unknown hr tkOf (ra_cons (re_ix (re_var 0) re_int) ra_nil)) (re_one (re_callP G_is_integer hr tkOf (ra_cons (re_ix (re_var 0) re_int) ra_nil))))))))⟩⟩
def N_System_init : List Str := ["self", "comparisons", "at", "comparison", "k", "left", "right"]
def mb_System_init_0 : MS :=
    (msIf (mNot (mTst (mCallP F_is_comparison (mCons (mVar 3) mNil)))) (msRaise "InvalidComparison" (some "index") [73, 110, 118, 97, 108, 105, 100, 67, 111, 109, 112, 97, 114, 105, 115, 111, 110] (mCons (mVar 2) mNil)) msNil)
def m_System_init : MS :=
    (msSeq (msIf (mNot (mTst (mCallP F_is_listed (mCons (mVar 1) mNil)))) (msRaise "InvalidComparison" (some "index") [73, 110, 118, 97, 108, 105, 100, 67, 111, 109, 112, 97, 114, 105, 115, 111, 110] (mCons (mC (.int 0)) mNil)) msNil)
    (msSeq (msFor (miEn (mCons (mVar 1) mNil)) (mgTup 2 (mgCons (mgName 2) (mgCons (mgName 3) mgNil))) mb_System_init_0)
    (msSeq (msFld ["System"] "own_rows" (mVar 0) (mListDc [3] (miA (mVar 1)) (mgName 3) mYes (mVar 3)))
    (msSeq (msFld ["System"] "own_bounds" (mVar 0) (mCallP F_closed (mCons (mFld ["System"] "own_rows" (mVar 0)) mNil)))
    (msFld ["System"] "has_solution" (mVar 0) (mCall dAll (mCons (mLcIt [4, 5, 6] (mFld ["System"] "own_bounds" (mVar 0)) (mgTup 2 (mgCons (mgTup 2 (mgCons (mgName 5) (mgCons (mgName 6) mgNil))) (mgCons (mgName 4) mgNil))) (mTst (mBin dEq (mVar 5) (mVar 6))) (mBin dGe (mVar 4) (mC (.int 0)))) mNil)))))))
theorem sc_System_init : FnScope N_System_init ["self", "comparisons"] (defScope s_System_init) := ⟨rfl, rfl, rfl, by decide +kernel, rfl, by decide +kernel, by decide +kernel⟩
def F_System_init : IF := runI N_System_init.length m_System_init
theorem okF_System_init_D1 (C : CtxT P K w mg) (B : CtxB K mg base) : MkI P w K mg base "System" (5) 1 [] F_System_init := by
  have sc := sc_System_init
  have G_closed := ok_closed (P := P) (w := w) (base := base) C B
  have G_is_comparison := ok_is_comparison (P := P) (w := w) (base := base) C B
  have G_is_listed := ok_is_listed (P := P) (w := w) (base := base) C B
  obtain ⟨Ca, f, fd, h1, h0, h2, Fd⟩ := C.d_System_init
  obtain ⟨ds, hv, hb⟩ := FunD.binds1 (ps := ["self", "comparisons"]) Fd 2 1 (by simp) rfl (fun T kV doc pm an cdv ct us its h1 h2 => match us, its, h1, h2 with | [_, _], [_], _, _ => ⟨_, rfl, rfl⟩)
  exact ⟨⟨Ca, f, fd, ["self", "comparisons"], ds, _, h1, h2, hb, hv, fun c hK _ => .nil, rfl, fnI Fd sc fun cdv A outer s H E hr => (rss_cons (rs_if (rt_not (rt_val (re_callP G_is_listed hr tkOf (ra_cons (re_var 1) ra_nil)))) (rss_one (rs_raise1 (exc_InvalidComparison C) (by decide +kernel) hr (by omega) rfl tkOf (ra_cons re_int ra_nil) rfl (by decide))) rss_nil)
    (rss_cons (rs_for poOf rfl (ri_en C.n_enumerate (ra_cons (re_var 1) ra_nil)) (rg_tup (n := 2) rfl (rgs_cons (rg_name 2 sc.nd) (rgs_cons (rg_name 3 sc.nd) rgs_nil))) (rss_one (rs_if (rt_not (rt_val (re_callP G_is_comparison hr tkOf (ra_cons (re_var 3) ra_nil)))) (rss_one (rs_raise1 (exc_InvalidComparison C) (by decide +kernel) hr (by omega) rfl tkOf (ra_cons (re_var 2) ra_nil) rfl (by decide))) rss_nil)))
    (rss_cons (rs_fld (ClsFs.cons C.a_System_own_rows ClsFs.nil) (re_var 0) (re_listDc (own := [("comparison", 3)]) hr C.n_list rfl rfl sc.nd (ri_any (re_var 1)) (blkOk_by (N := N_System_init) (sc := defScope s_System_init) (by decide +kernel)) (by decide) (fun _ _ _ _ _ => (rg_name 3 sc.nd)) (fun _ _ _ _ _ => rts_nil) (fun _ _ _ _ _ => (re_var 3))))
    (rss_cons (rs_fld (ClsFs.cons C.a_System_own_bounds ClsFs.nil) (re_var 0) (re_callP G_closed hr tkOf (ra_cons (re_fld (ClsFs.cons C.a_System_own_rows ClsFs.nil) (re_var 0)) ra_nil)))
    (rss_one (rs_fld (ClsFs.cons C.a_System_has_solution ClsFs.nil) (re_var 0) (re_all rfl C.n_all (ra_cons (re_lcItems (own := [("k", 4), ("left", 5), ("right", 6)]) rfl sc.nd (re_fld (ClsFs.cons C.a_System_own_bounds ClsFs.nil) (re_var 0)) (blkOk_by (N := N_System_init) (sc := defScope s_System_init) (by decide +kernel)) (by decide) (fun _ _ _ _ _ => (rg_tup (n := 2) rfl (rgs_cons (rg_tup (n := 2) rfl (rgs_cons (rg_name 5 sc.nd) (rgs_cons (rg_name 6 sc.nd) rgs_nil))) (rgs_cons (rg_name 4 sc.nd) rgs_nil)))) (fun _ _ _ _ _ => (rts_one (rt_eq hr (re_var 5) (re_var 6)))) (fun _ _ _ _ _ => (re_ge (re_var 4) re_int))) ra_nil))))))))⟩⟩
def N_System_need_open : List Str := ["self"]
def m_System_need_open : MS :=
    (msIf (mNot (mTst (mFld ["System"] "has_solution" (mVar 0)))) (msRaise "NotOpen" none [78, 111, 116, 79, 112, 101, 110] mNil) msNil)
theorem sc_System_need_open : FnScope N_System_need_open ["self"] (defScope s_System_need_open) := ⟨rfl, rfl, rfl, by decide +kernel, rfl, by decide +kernel, by decide +kernel⟩
def F_System_need_open : PF := runP N_System_need_open.length m_System_need_open
theorem ok_System_need_open (C : CtxT P K w mg) (B : CtxB K mg base) : MetP P w K mg base "System" "need_open" (4) 1 (F_System_need_open) := by
  have sc := sc_System_need_open
  obtain ⟨Ca, f, fd, h1, h0, h2, Fd⟩ := C.d_System_need_open
  exact ⟨⟨Ca, f, fd, ["self"], h1, h0, h2, Fd.bindsN (fun _ _ _ _ _ _ us hl => match us, hl with | [_], _ => rfl), rfl, fnP Fd sc fun cdv A outer s H E hr => (rss_one (rs_if (rt_not (rt_val (re_fld (ClsFs.cons C.a_System_has_solution ClsFs.nil) (re_var 0)))) (rss_one (rs_raise0 (exc_NotOpen C) (by decide +kernel) hr (by omega) rfl tkOf rfl (by decide))) rss_nil))⟩⟩
def N_System_unknowns : List Str := ["self", "name", "left", "right", "k"]
def m_System_unknowns : MS :=
    (msRet (mSortV [2, 3, 4, 1] (miL (mFld ["System"] "own_rows" (mVar 0))) (mgTup 3 (mgCons (mgName 2) (mgCons (mgName 3) (mgCons (mgName 4) mgNil)))) mYes (mbFor (miT (mTup (mCons (mVar 2) (mCons (mVar 3) mNil)))) (mgName 1) (mTst (mBin dNe (mVar 1) (mC (.str [])))) [1] (mbS (mVar 1)))))
theorem sc_System_unknowns : FnScope N_System_unknowns ["self"] (defScope s_System_unknowns) := ⟨rfl, rfl, rfl, by decide +kernel, rfl, by decide +kernel, by decide +kernel⟩
def F_System_unknowns : PF := runP N_System_unknowns.length m_System_unknowns
theorem ok_System_unknowns (C : CtxT P K w mg) (B : CtxB K mg base) : MetP P w K mg base "System" "unknowns" (1) 1 (F_System_unknowns) := by
  have sc := sc_System_unknowns
  obtain ⟨Ca, f, fd, h1, h0, h2, Fd⟩ := C.d_System_unknowns
  exact ⟨⟨Ca, f, fd, ["self"], h1, h0, h2, Fd.bindsN (fun _ _ _ _ _ _ us hl => match us, hl with | [_], _ => rfl), rfl, fnP Fd sc fun cdv A outer s H E hr => (rss_one (rs_ret (re_sortV2 (own := [("left", 2), ("right", 3), ("k", 4), ("name", 1)]) (vs1 := [1]) rfl sc.nd C.n_sorted (ri_list (re_fld (ClsFs.cons C.a_System_own_rows ClsFs.nil) (re_var 0))) (blkOk_by (N := N_System_unknowns) (sc := defScope s_System_unknowns) (by decide +kernel)) (by decide) (by decide) (by decide) (fun _ _ _ _ _ => (rg_tup (n := 3) rfl (rgs_cons (rg_name 2 sc.nd) (rgs_cons (rg_name 3 sc.nd) (rgs_cons (rg_name 4 sc.nd) rgs_nil))))) (fun _ _ _ _ _ => rts_nil) (fun _ _ _ _ _ => (ri_tup (re_tup (ra_cons (re_var 2) (ra_cons (re_var 3) ra_nil))))) (fun _ _ _ _ _ => (rg_name 1 sc.nd)) (fun _ _ _ _ _ => (rts_one (rt_ne hr (re_var 1) (re_str [])))) (fun _ _ _ _ _ => (re_var 1)))))⟩⟩
def N_System_on : List Str := ["self", "unknowns", "names", "left", "right", "name"]
def me_System_on_0 : M D :=
    (mTup (mCons (mVar 3) (mCons (mVar 4) (mCons (mDixT (mFld ["System"] "own_bounds" (mVar 0)) (mCons (mVar 3) (mCons (mVar 4) mNil))) mNil))))
def mt_System_on_1 : M Bool :=
    (mAnd (mTst (mBin dNe (mVar 3) (mVar 4))) (mTst (mDinT false (mCons (mVar 3) (mCons (mVar 4) mNil)) (mFld ["System"] "own_bounds" (mVar 0)))))
def m_System_on : MS :=
    (msSeq (msExpr (mMeP "System" "need_open" F_System_need_open (mVar 0) mNil))
    (msSeq (msAsg (mLst (mCons (mC (.str [])) (mStar (mLc [5] (miL (mMeP "System" "unknowns" F_System_unknowns (mVar 0) mNil)) (mgName 5) (mTst (mBin dInA (mVar 5) (mVar 1))) (mVar 5)) mNil))) (mgName 2))
    (msRet (mMkP "System" [] F_System_init (mCons (mLc2 [3, 4] (miL (mVar 2)) (mgName 3) mYes (miL (mVar 2)) (mgName 4) mt_System_on_1 me_System_on_0 [4]) mNil)))))
theorem sc_System_on : FnScope N_System_on ["self", "unknowns"] (defScope s_System_on) := ⟨rfl, rfl, rfl, by decide +kernel, rfl, by decide +kernel, by decide +kernel⟩
def F_System_on : PF := runP N_System_on.length m_System_on
theorem ok_System_on (C : CtxT P K w mg) (B : CtxB K mg base) : MetP P w K mg base "System" "on" (7) 2 (F_System_on) := by
  have sc := sc_System_on
  have GF_System_init_D1 := okF_System_init_D1 (P := P) (w := w) (base := base) C B
  have G_System_need_open := ok_System_need_open (P := P) (w := w) (base := base) C B
  have G_System_unknowns := ok_System_unknowns (P := P) (w := w) (base := base) C B
  obtain ⟨Ca, f, fd, h1, h0, h2, Fd⟩ := C.d_System_on
  exact ⟨⟨Ca, f, fd, ["self", "unknowns"], h1, h0, h2, Fd.bindsN (fun _ _ _ _ _ _ us hl => match us, hl with | [_, _], _ => rfl), rfl, fnP Fd sc fun cdv A outer s H E hr => (rss_cons (rs_expr (re_methP0 G_System_need_open hr tkOf flatE (re_var 0)))
    (rss_cons (rs_set 2 sc.nd (re_lst (ra_cons (re_str []) (ra_star (re_lc (own := [("name", 5)]) rfl sc.nd (ri_list (re_methP0 G_System_unknowns hr tkOf flatE (re_var 0))) (blkOk_by (N := N_System_on) (sc := defScope s_System_on) (by decide +kernel)) (by decide) (fun _ _ _ _ _ => (rg_name 5 sc.nd)) (fun _ _ _ _ _ => (rts_one (rt_in (re_var 5) (re_var 1)))) (fun _ _ _ _ _ => (re_var 5))) ra_nil))))
    (rss_one (rs_ret (re_mkP GF_System_init_D1 hr tkOf flatE (ra_cons (re_lc2 (own := [("left", 3), ("right", 4)]) (vs1 := [4]) rfl sc.nd (ri_list (re_var 2)) (blkOk_by (N := N_System_on) (sc := defScope s_System_on) (by decide +kernel)) (by decide) (by decide) (by decide) (fun _ _ _ _ _ => (rg_name 3 sc.nd)) (fun _ _ _ _ _ => rts_nil) (fun _ _ _ _ _ => (ri_list (re_var 2))) (fun _ _ _ _ _ => (rg_name 4 sc.nd)) (fun _ _ _ _ _ => (rts_one (rt_bool (rw_and (rt_ne hr (re_var 3) (re_var 4)) (rw_and1 (rt_dinT hr (ra_cons (re_var 3) (ra_cons (re_var 4) ra_nil)) (re_fld (ClsFs.cons C.a_System_own_bounds ClsFs.nil) (re_var 0)))))))) (fun _ _ _ _ _ => (re_tup (ra_cons (re_var 3) (ra_cons (re_var 4) (ra_cons (re_dixT hr (re_fld (ClsFs.cons C.a_System_own_bounds ClsFs.nil) (re_var 0)) (ra_cons (re_var 3) (ra_cons (re_var 4) ra_nil))) ra_nil)))))) ra_nil))))))⟩⟩
def N__law_pull : List Str := ["_law_bag", "_law_sides", "_law_seed", "_law_cell", "_law_digit"]
def m__law_pull : MS :=
    (msSeq (msAsg (mBin dAdd (mBin dIx (mVar 0) (mC (.int 4))) (mC (.int 1))) (mgSub (mVar 0) (mC (.int 4))))
    (msSeq (msIf (mAnd (mTst (mBin dEq (mBin dIx (mVar 0) (mC (.int 2))) (mC (.int 0)))) (mTst (mBin dLt (mBin dIx (mVar 0) (mC (.int 1))) (mCall dLen (mCons (mBin dIx (mVar 0) (mC (.int 0))) mNil))))) (msSeq (msAsg (mTup (mCons (mBin dIx (mBin dIx (mVar 0) (mC (.int 0))) (mBin dIx (mVar 0) (mC (.int 1)))) (mCons (mBin dAdd (mBin dIx (mVar 0) (mC (.int 1))) (mC (.int 1))) mNil))) (mgTup 2 (mgCons (mgName 3) (mgCons (mgSub (mVar 0) (mC (.int 1))) mgNil))))
    (msSeq (msIf (mTst (mBin dGe (mVar 3) (mBin dPow (mC (.int 10)) (mC (.int 18))))) (msAsg (mVar 3) (mgSub (mVar 0) (mC (.int 2)))) msNil)
    (msAsg (mBin dMod (mCall dInt (mCons (mBin dAdd (mBin dAdd (mBin dMul (mBin dIx (mVar 0) (mC (.int 3))) (mC (.int 38377))) (mBin dMul (mBin dMod (mCall dInt (mCons (mVar 3) mNil)) (mC (.int 2147483489))) (mC (.int 41143)))) (mC (.int 61))) mNil)) (mC (.int 2147483549))) (mgSub (mVar 0) (mC (.int 3)))))) msNil)
    (msSeq (msIf (mTst (mBin dGt (mBin dIx (mVar 0) (mC (.int 2))) (mC (.int 0)))) (msSeq (msAsg (mTup (mCons (mBin dMod (mCall dInt (mCons (mBin dIx (mVar 0) (mC (.int 2))) mNil)) (mVar 1)) (mCons (mBin dDiv (mBin dIx (mVar 0) (mC (.int 2))) (mVar 1)) mNil))) (mgTup 2 (mgCons (mgName 4) (mgCons (mgSub (mVar 0) (mC (.int 2))) mgNil))))
    (msRet (mVar 4))) msNil)
    (msSeq (msAsg (mBin dIx (mVar 0) (mC (.int 3))) (mgName 2))
    (msSeq (msAsg (mBin dMod (mCall dInt (mCons (mBin dAdd (mBin dAdd (mBin dAdd (mBin dPow (mVar 2) (mC (.int 3))) (mBin dMul (mVar 2) (mC (.int 37813)))) (mBin dMul (mBin dIx (mVar 0) (mC (.int 4))) (mC (.int 1299689)))) (mC (.int 65437))) mNil)) (mC (.int 2147483549))) (mgSub (mVar 0) (mC (.int 3))))
    (msRet (mBin dMod (mCall dInt (mCons (mBin dAdd (mBin dDiv (mBin dIx (mVar 0) (mC (.int 3))) (mC (.int 89))) (mBin dMul (mBin dMod (mCall dInt (mCons (mBin dIx (mVar 0) (mC (.int 3))) mNil)) (mC (.int 7919))) (mC (.int 71)))) mNil)) (mVar 1))))))))
theorem sc__law_pull : FnScope N__law_pull ["_law_bag", "_law_sides"] (defScope s__law_pull) := ⟨rfl, rfl, rfl, by decide +kernel, rfl, by decide +kernel, by decide +kernel⟩
def F__law_pull : IF := runI N__law_pull.length m__law_pull
theorem ok__law_pull (C : CtxT P K w mg) (B : CtxB K mg base) : FnI P w K mg base "_law_pull" (1) 2 (F__law_pull) := by
  have sc := sc__law_pull
  obtain ⟨f, fd, Fd, g⟩ := C.d__law_pull
  exact ⟨⟨f, fd, ["_law_bag", "_law_sides"], g, Fd.kp, Fd.bindsN (fun _ _ _ _ _ _ us hl => match us, hl with | [_, _], _ => rfl), rfl, fnI Fd sc fun cdv A outer s H E hr => (rss_cons (rs_asg (re_add (re_ix (re_var 0) re_int) re_int) (rg_sub (W := W0) (re_var 0) re_int))
    (rss_cons (rs_if (rt_bool (rw_and (rt_eq hr (re_ix (re_var 0) re_int) re_int) (rw_and1 (rt_lt (re_ix (re_var 0) re_int) (re_len C.n_len (ra_cons (re_ix (re_var 0) re_int) ra_nil)))))) (rss_cons (rs_asg (re_tup (ra_cons (re_ix (re_ix (re_var 0) re_int) (re_ix (re_var 0) re_int)) (ra_cons (re_add (re_ix (re_var 0) re_int) re_int) ra_nil))) (rg_tup (n := 2) rfl (rgs_cons (rg_name 3 sc.nd) (rgs_cons (rg_sub (W := W0) (re_var 0) re_int) rgs_nil))))
    (rss_cons (rs_if (rt_ge (re_var 3) (re_pow re_int re_int)) (rss_one (rs_asg (re_var 3) (rg_sub (W := W0) (re_var 0) re_int))) rss_nil)
    (rss_one (rs_asg (re_mod (re_intc C.n_int (ra_cons (re_add (re_add (re_mul (re_ix (re_var 0) re_int) re_int) (re_mul (re_mod (re_intc C.n_int (ra_cons (re_var 3) ra_nil)) re_int) re_int)) re_int) ra_nil)) re_int) (rg_sub (W := W0) (re_var 0) re_int))))) rss_nil)
    (rss_cons (rs_if (rt_gt (re_ix (re_var 0) re_int) re_int) (rss_cons (rs_asg (re_tup (ra_cons (re_mod (re_intc C.n_int (ra_cons (re_ix (re_var 0) re_int) ra_nil)) (re_var 1)) (ra_cons (re_div (re_ix (re_var 0) re_int) (re_var 1)) ra_nil))) (rg_tup (n := 2) rfl (rgs_cons (rg_name 4 sc.nd) (rgs_cons (rg_sub (W := W0) (re_var 0) re_int) rgs_nil))))
    (rss_one (rs_ret (re_var 4)))) rss_nil)
    (rss_cons (rs_set 2 sc.nd (re_ix (re_var 0) re_int))
    (rss_cons (rs_asg (re_mod (re_intc C.n_int (ra_cons (re_add (re_add (re_add (re_pow (re_var 2) re_int) (re_mul (re_var 2) re_int)) (re_mul (re_ix (re_var 0) re_int) re_int)) re_int) ra_nil)) re_int) (rg_sub (W := W0) (re_var 0) re_int))
    (rss_one (rs_ret (re_mod (re_intc C.n_int (ra_cons (re_add (re_div (re_ix (re_var 0) re_int) re_int) (re_mul (re_mod (re_intc C.n_int (ra_cons (re_ix (re_var 0) re_int) ra_nil)) re_int) re_int)) ra_nil)) (re_var 1)))))))))⟩⟩
def N__law_any : List Str := ["_law_bag", "_law_rows"]
def m__law_any : MS :=
    (msRet (mBin dIx (mVar 1) (mCallI F__law_pull (mCons (mVar 0) (mCons (mCall dLen (mCons (mVar 1) mNil)) mNil)))))
theorem sc__law_any : FnScope N__law_any ["_law_bag", "_law_rows"] (defScope s__law_any) := ⟨rfl, rfl, rfl, by decide +kernel, rfl, by decide +kernel, by decide +kernel⟩
def F__law_any : IF := runI N__law_any.length m__law_any
theorem ok__law_any (C : CtxT P K w mg) (B : CtxB K mg base) : FnI P w K mg base "_law_any" (2) 2 (F__law_any) := by
  have sc := sc__law_any
  have G__law_pull := ok__law_pull (P := P) (w := w) (base := base) C B
  obtain ⟨f, fd, Fd, g⟩ := C.d__law_any
  exact ⟨⟨f, fd, ["_law_bag", "_law_rows"], g, Fd.kp, Fd.bindsN (fun _ _ _ _ _ _ us hl => match us, hl with | [_, _], _ => rfl), rfl, fnI Fd sc fun cdv A outer s H E hr => (rss_one (rs_ret (re_ix (re_var 1) (re_callI G__law_pull hr tkOf (ra_cons (re_var 0) (ra_cons (re_len C.n_len (ra_cons (re_var 1) ra_nil)) ra_nil))))))⟩⟩
def N__law_near : List Str := ["_law_bag"]
def m__law_near : MS :=
    (msRet (mCallI F__law_any (mCons (mVar 0) (mCons (mLst (mCons (mC (.int 0)) (mCons (mC (.int 1)) (mCons (mC (.int 1)) (mCons (mC (.int 2)) (mCons (mC (.int 3)) (mCons (mBin dSub (mC (.int 0)) (mC (.int 1))) (mCons (mBin dSub (mC (.int 0)) (mC (.int 2))) mNil)))))))) mNil))))
theorem sc__law_near : FnScope N__law_near ["_law_bag"] (defScope s__law_near) := ⟨rfl, rfl, rfl, by decide +kernel, rfl, by decide +kernel, by decide +kernel⟩
def F__law_near : IF := runI N__law_near.length m__law_near
theorem ok__law_near (C : CtxT P K w mg) (B : CtxB K mg base) : FnI P w K mg base "_law_near" (3) 1 (F__law_near) := by
  have sc := sc__law_near
  have G__law_any := ok__law_any (P := P) (w := w) (base := base) C B
  obtain ⟨f, fd, Fd, g⟩ := C.d__law_near
  exact ⟨⟨f, fd, ["_law_bag"], g, Fd.kp, Fd.bindsN (fun _ _ _ _ _ _ us hl => match us, hl with | [_], _ => rfl), rfl, fnI Fd sc fun cdv A outer s H E hr => (rss_one (rs_ret (re_callI G__law_any hr tkOf (ra_cons (re_var 0) (ra_cons (re_lst (ra_cons re_int (ra_cons re_int (ra_cons re_int (ra_cons re_int (ra_cons re_int (ra_cons (re_sub re_int re_int) (ra_cons (re_sub re_int re_int) ra_nil)))))))) ra_nil)))))⟩⟩
def N__law_some_comparisons : List Str := ["_law_bag", "_law_many", "_law_names", "_law_great", "_law_k"]
def me__law_some_comparisons_0 : M D :=
    (mTup (mCons (mCallI F__law_any (mCons (mVar 0) (mCons (mVar 2) mNil))) (mCons (mCallI F__law_any (mCons (mVar 0) (mCons (mVar 2) mNil))) (mCons (mBin dMul (mCallI F__law_near (mCons (mVar 0) mNil)) (mVar 3)) mNil))))
def m__law_some_comparisons : MS :=
    (msSeq (msAsg (mLst (mCons (mC (.str [])) (mCons (mC (.str [97])) (mCons (mC (.str [98])) (mCons (mC (.str [49, 46, 107, 101, 121])) (mCons (mC (.str [50, 46, 101, 110, 100])) mNil)))))) (mgName 2))
    (msSeq (msAsg (mCallI F__law_any (mCons (mVar 0) (mCons (mLst (mCons (mC (.int 1)) (mCons (mC (.int 1)) (mCons (mC (.int 1)) (mCons (mBin dPow (mC (.int 10)) (mC (.int 29))) mNil))))) mNil))) (mgName 3))
    (msRet (mLc [4] (miR1 (mCons (mVar 1) mNil)) (mgName 4) mYes me__law_some_comparisons_0))))
theorem sc__law_some_comparisons : FnScope N__law_some_comparisons ["_law_bag", "_law_many"] (defScope s__law_some_comparisons) := ⟨rfl, rfl, rfl, by decide +kernel, rfl, by decide +kernel, by decide +kernel⟩
def F__law_some_comparisons : IF := runI N__law_some_comparisons.length m__law_some_comparisons
theorem ok__law_some_comparisons (C : CtxT P K w mg) (B : CtxB K mg base) : FnI P w K mg base "_law_some_comparisons" (4) 2 (F__law_some_comparisons) := by
  have sc := sc__law_some_comparisons
  have G__law_any := ok__law_any (P := P) (w := w) (base := base) C B
  have G__law_near := ok__law_near (P := P) (w := w) (base := base) C B
  obtain ⟨f, fd, Fd, g⟩ := C.d__law_some_comparisons
  exact ⟨⟨f, fd, ["_law_bag", "_law_many"], g, Fd.kp, Fd.bindsN (fun _ _ _ _ _ _ us hl => match us, hl with | [_, _], _ => rfl), rfl, fnI Fd sc fun cdv A outer s H E hr => (rss_cons (rs_set 2 sc.nd (re_lst (ra_cons (re_str []) (ra_cons (re_str [97]) (ra_cons (re_str [98]) (ra_cons (re_str [49, 46, 107, 101, 121]) (ra_cons (re_str [50, 46, 101, 110, 100]) ra_nil)))))))
    (rss_cons (rs_set 3 sc.nd (re_callI G__law_any hr tkOf (ra_cons (re_var 0) (ra_cons (re_lst (ra_cons re_int (ra_cons re_int (ra_cons re_int (ra_cons (re_pow re_int re_int) ra_nil))))) ra_nil))))
    (rss_one (rs_ret (re_lc (own := [("_law_k", 4)]) rfl sc.nd (ri_range1 C.n_range (ra_cons (re_var 1) ra_nil)) (blkOk_by (N := N__law_some_comparisons) (sc := defScope s__law_some_comparisons) (by decide +kernel)) (by decide) (fun _ _ _ _ _ => (rg_name 4 sc.nd)) (fun _ _ _ _ _ => rts_nil) (fun _ _ _ _ _ => (re_tup (ra_cons (re_callI G__law_any hr takes0 (ra_cons (re_var 0) (ra_cons (re_var 2) ra_nil))) (ra_cons (re_callI G__law_any hr takes0 (ra_cons (re_var 0) (ra_cons (re_var 2) ra_nil))) (ra_cons (re_mul (re_callI G__law_near hr takes0 (ra_cons (re_var 0) ra_nil)) (re_var 3)) ra_nil))))))))))⟩⟩
def N__law_bounds : List Str := ["_law_rows", "_law_name", "_law_mid", "_law_names", "_law_best", "_law_left", "_law_right", "_law_k", "_law_way"]
def me__law_bounds_0 : M D :=
    (mBin dLt (mDixT (mVar 4) (mCons (mVar 1) (mCons (mVar 1) mNil))) (mC (.int 0)))
def mb__law_bounds_1 : MS :=
    (msIf (mAnd (mTst (mDinT false (mCons (mVar 5) (mCons (mVar 2) mNil)) (mVar 4))) (mTst (mDinT false (mCons (mVar 2) (mCons (mVar 6) mNil)) (mVar 4)))) (msSeq (msAsg (mBin dAdd (mDixT (mVar 4) (mCons (mVar 5) (mCons (mVar 2) mNil))) (mDixT (mVar 4) (mCons (mVar 2) (mCons (mVar 6) mNil)))) (mgName 8))
    (msDPutT (mVar 4) (mCons (mVar 5) (mCons (mVar 6) mNil)) (mCall dMin2 (mCons (mVar 8) (mCons (mDGet2T (mVar 4) (mCons (mVar 5) (mCons (mVar 6) mNil)) (mVar 8)) mNil))))) msNil)
def mb__law_bounds_2 : MS :=
    (msFor (miL (mVar 3)) (mgName 5) (msFor (miL (mVar 3)) (mgName 6) mb__law_bounds_1))
def mb__law_bounds_3 : MS :=
    (msDPutT (mVar 4) (mCons (mVar 5) (mCons (mVar 6) mNil)) (mCall dMin2 (mCons (mVar 7) (mCons (mDGet2T (mVar 4) (mCons (mVar 5) (mCons (mVar 6) mNil)) (mVar 7)) mNil))))
def mb__law_bounds_4 : MS :=
    (msDPutT (mVar 4) (mCons (mVar 1) (mCons (mVar 1) mNil)) (mC (.int 0)))
def m__law_bounds : MS :=
    (msSeq (msAsg (mTup (mCons (mLst (mCons (mC (.str [])) (mCons (mC (.str [97])) (mCons (mC (.str [98])) (mCons (mC (.str [49, 46, 107, 101, 121])) (mCons (mC (.str [50, 46, 101, 110, 100])) (mCons (mC (.str [122, 122])) mNil))))))) (mCons mDnewT mNil))) (mgTup 2 (mgCons (mgName 3) (mgCons (mgName 4) mgNil))))
    (msSeq (msFor (miL (mVar 3)) (mgName 1) mb__law_bounds_4)
    (msSeq (msFor (miL (mVar 0)) (mgTup 3 (mgCons (mgName 5) (mgCons (mgName 6) (mgCons (mgName 7) mgNil)))) mb__law_bounds_3)
    (msSeq (msFor (miL (mVar 3)) (mgName 2) mb__law_bounds_2)
    (msRet (mIf (mTst (mCall dAny (mCons (mLc [1] (miL (mVar 3)) (mgName 1) mYes me__law_bounds_0) mNil))) mDnewT (mVar 4)))))))
theorem sc__law_bounds : FnScope N__law_bounds ["_law_rows"] (defScope s__law_bounds) := ⟨rfl, rfl, rfl, by decide +kernel, rfl, by decide +kernel, by decide +kernel⟩
def F__law_bounds : PF := runP N__law_bounds.length m__law_bounds
theorem ok__law_bounds (C : CtxT P K w mg) (B : CtxB K mg base) : FnP P w K mg base "_law_bounds" (1) 1 (F__law_bounds) := by
  have sc := sc__law_bounds
  obtain ⟨f, fd, Fd, g⟩ := C.d__law_bounds
  exact ⟨⟨f, fd, ["_law_rows"], g, Fd.kp, Fd.bindsN (fun _ _ _ _ _ _ us hl => match us, hl with | [_], _ => rfl), rfl, fnP Fd sc fun cdv A outer s H E hr => (rss_cons (rs_asg (re_tup (ra_cons (re_lst (ra_cons (re_str []) (ra_cons (re_str [97]) (ra_cons (re_str [98]) (ra_cons (re_str [49, 46, 107, 101, 121]) (ra_cons (re_str [50, 46, 101, 110, 100]) (ra_cons (re_str [122, 122]) ra_nil))))))) (ra_cons re_dnewT ra_nil))) (rg_tup (n := 2) rfl (rgs_cons (rg_name 3 sc.nd) (rgs_cons (rg_name 4 sc.nd) rgs_nil))))
    (rss_cons (rs_for poOf rfl (ri_list (re_var 3)) (rg_name 1 sc.nd) (rss_one (rs_dputT hr (re_var 4) (ra_cons (re_var 1) (ra_cons (re_var 1) ra_nil)) re_int)))
    (rss_cons (rs_for poOf rfl (ri_list (re_var 0)) (rg_tup (n := 3) rfl (rgs_cons (rg_name 5 sc.nd) (rgs_cons (rg_name 6 sc.nd) (rgs_cons (rg_name 7 sc.nd) rgs_nil)))) (rss_one (rs_dputT hr (re_var 4) (ra_cons (re_var 5) (ra_cons (re_var 6) ra_nil)) (re_min2 rfl C.n_min (ra_cons (re_var 7) (ra_cons (re_dget2T hr (re_var 4) (ra_cons (re_var 5) (ra_cons (re_var 6) ra_nil)) (re_var 7)) ra_nil))))))
    (rss_cons (rs_for poOf rfl (ri_list (re_var 3)) (rg_name 2 sc.nd) (rss_one (rs_for poOf rfl (ri_list (re_var 3)) (rg_name 5 sc.nd) (rss_one (rs_for poOf rfl (ri_list (re_var 3)) (rg_name 6 sc.nd) (rss_one (rs_if (rt_bool (rw_and (rt_dinT hr (ra_cons (re_var 5) (ra_cons (re_var 2) ra_nil)) (re_var 4)) (rw_and1 (rt_dinT hr (ra_cons (re_var 2) (ra_cons (re_var 6) ra_nil)) (re_var 4))))) (rss_cons (rs_set 8 sc.nd (re_add (re_dixT hr (re_var 4) (ra_cons (re_var 5) (ra_cons (re_var 2) ra_nil))) (re_dixT hr (re_var 4) (ra_cons (re_var 2) (ra_cons (re_var 6) ra_nil)))))
    (rss_one (rs_dputT hr (re_var 4) (ra_cons (re_var 5) (ra_cons (re_var 6) ra_nil)) (re_min2 rfl C.n_min (ra_cons (re_var 8) (ra_cons (re_dget2T hr (re_var 4) (ra_cons (re_var 5) (ra_cons (re_var 6) ra_nil)) (re_var 8)) ra_nil)))))) rss_nil)))))))
    (rss_one (rs_ret (re_if (rt_val (re_any rfl C.n_any (ra_cons (re_lc (own := [("_law_name", 1)]) rfl sc.nd (ri_list (re_var 3)) (blkOk_by (N := N__law_bounds) (sc := defScope s__law_bounds) (by decide +kernel)) (by decide) (fun _ _ _ _ _ => (rg_name 1 sc.nd)) (fun _ _ _ _ _ => rts_nil) (fun _ _ _ _ _ => (re_lt (re_dixT hr (re_var 4) (ra_cons (re_var 1) (ra_cons (re_var 1) ra_nil))) re_int))) ra_nil))) re_dnewT (re_var 4))))))))⟩⟩
def N_System_is_open : List Str := ["self"]
def m_System_is_open : MS :=
    (msRet (mFld ["System"] "has_solution" (mVar 0)))
theorem sc_System_is_open : FnScope N_System_is_open ["self"] (defScope s_System_is_open) := ⟨rfl, rfl, rfl, by decide +kernel, rfl, by decide +kernel, by decide +kernel⟩
def F_System_is_open : PF := runP N_System_is_open.length m_System_is_open
theorem ok_System_is_open (C : CtxT P K w mg) (B : CtxB K mg base) : PrpP P w K mg base "System" "is_open" (1) (F_System_is_open) := by
  have sc := sc_System_is_open
  obtain ⟨Ca, p, f, fd, h1, h0, h2, Fd⟩ := C.d_System_is_open
  exact ⟨⟨Ca, p, f, fd, ["self"], h1, h0, h2, Fd.bindsN (fun _ _ _ _ _ _ us hl => match us, hl with | [_], _ => rfl), fnP Fd sc fun cdv A outer s H E hr => (rss_one (rs_ret (re_fld (ClsFs.cons C.a_System_has_solution ClsFs.nil) (re_var 0))))⟩⟩
def N__law_like : List Str := ["_law_a", "_law_b", "_law_same", "_law_c", "_law_d"]
def m__law_like (F : PF) : MS :=
    (msSeq (msIf (mTst (mIsi [.lst, .tup] (mVar 1))) (msSeq (msAsg (mAndV (mBin dEq (mIsi [.lst] (mVar 0)) (mIsi [.lst] (mVar 1))) (mBin dEq (mIsi [.tup] (mVar 0)) (mIsi [.tup] (mVar 1)))) (mgName 2))
    (msRet (mAndV (mVar 2) (mAndV (mBin dEq (mCall dLen (mCons (mVar 0) mNil)) (mCall dLen (mCons (mVar 1) mNil))) (mCall dAll (mCons (mLc [3, 4] (miZip (mCons (mVar 0) (mCons (mVar 1) mNil))) (mgTup 2 (mgCons (mgName 3) (mgCons (mgName 4) mgNil))) mYes (mCallP F (mCons (mVar 3) (mCons (mVar 4) mNil)))) mNil)))))) msNil)
    (msSeq (msIf (mOr (mTst (mBin (dIsN false) (mVar 0) (mC .non))) (mOr (mTst (mBin (dIsN false) (mVar 1) (mC .non))) (mTst (mBin dNe (mIsi [.bool] (mVar 0)) (mIsi [.bool] (mVar 1)))))) (msRet (mAndV (mBin (dIsN false) (mVar 0) (mC .non)) (mBin (dIsN false) (mVar 1) (mC .non)))) msNil)
    (msRet (mAndV (mBin dEq (mIsi [.int] (mVar 0)) (mIsi [.int] (mVar 1))) (mAndV (mBin dEq (mIsi [.str] (mVar 0)) (mIsi [.str] (mVar 1))) (mBin dEq (mVar 0) (mVar 1)))))))
theorem sc__law_like : FnScope N__law_like ["_law_a", "_law_b"] (defScope s__law_like) := ⟨rfl, rfl, rfl, by decide +kernel, rfl, by decide +kernel, by decide +kernel⟩
def F__law_like_ : Nat → PF
  | 0 => fun _ => none
  | t + 1 => runP N__law_like.length (m__law_like (F__law_like_ t))
def F__law_like : PF := F__law_like_ 30
theorem okr__law_like (C : CtxT P K w mg) (B : CtxB K mg base) : ∀ t, FnP P w K mg base "_law_like" (0 + (t)) 2 (F__law_like_ t) := by
  have sc := sc__law_like
  obtain ⟨f, fd, Fd, g⟩ := C.d__law_like
  intro t
  induction t with
  | zero => exact ⟨⟨f, fd, ["_law_a", "_law_b"], g, Fd.kp, Fd.bindsN (fun _ _ _ _ _ _ us hl => match us, hl with | [_, _], _ => rfl), rfl, fnOk0⟩⟩
  | succ t G =>
    have Z : FnP P w K mg base "_law_like" (0 + t + 1) 2 (F__law_like_ (t + 1)) := ⟨⟨f, fd, ["_law_a", "_law_b"], g, Fd.kp, Fd.bindsN (fun _ _ _ _ _ _ us hl => match us, hl with | [_, _], _ => rfl), rfl, fnP Fd sc fun cdv A outer s H E hr => (rss_cons (rs_if (rt_val (re_isi2 .lst .tup C.n_isinstance C.n_list C.n_tuple (re_var 1))) (rss_cons (rs_set 2 sc.nd (re_and (re_eq hr (re_isi .lst C.n_isinstance C.n_list (re_var 0)) (re_isi .lst C.n_isinstance C.n_list (re_var 1))) (re_one (re_eq hr (re_isi .tup C.n_isinstance C.n_tuple (re_var 0)) (re_isi .tup C.n_isinstance C.n_tuple (re_var 1))))))
    (rss_one (rs_ret (re_and (re_var 2) (re_and (re_eq hr (re_len C.n_len (ra_cons (re_var 0) ra_nil)) (re_len C.n_len (ra_cons (re_var 1) ra_nil))) (re_one (re_all rfl C.n_all (ra_cons (re_lc (own := [("_law_c", 3), ("_law_d", 4)]) rfl sc.nd (ri_zip C.n_zip (ra_cons (re_var 0) (ra_cons (re_var 1) ra_nil))) (blkOk_by (N := N__law_like) (sc := defScope s__law_like) (by decide +kernel)) (by decide) (fun _ _ _ _ _ => (rg_tup (n := 2) rfl (rgs_cons (rg_name 3 sc.nd) (rgs_cons (rg_name 4 sc.nd) rgs_nil)))) (fun _ _ _ _ _ => rts_nil) (fun _ _ _ _ _ => (re_callP G hr takes0 (ra_cons (re_var 3) (ra_cons (re_var 4) ra_nil)) (hk := by omega)))) ra_nil)))))))) rss_nil)
    (rss_cons (rs_if (rt_bool (rw_or (rt_is (re_var 0) re_non) (rw_or (rt_is (re_var 1) re_non) (rw_or1 (rt_ne hr (re_isi .bool C.n_isinstance C.n_bool (re_var 0)) (re_isi .bool C.n_isinstance C.n_bool (re_var 1))))))) (rss_one (rs_ret (re_and (re_is (re_var 0) re_non) (re_one (re_is (re_var 1) re_non))))) rss_nil)
    (rss_one (rs_ret (re_and (re_eq hr (re_isi .int C.n_isinstance C.n_int (re_var 0)) (re_isi .int C.n_isinstance C.n_int (re_var 1))) (re_and (re_eq hr (re_isi .str C.n_isinstance C.n_str (re_var 0)) (re_isi .str C.n_isinstance C.n_str (re_var 1))) (re_one (re_eq hr (re_var 0) (re_var 1)))))))))⟩⟩
    exact FnP.mono Z (by omega)
theorem ok__law_like (C : CtxT P K w mg) (B : CtxB K mg base) : FnP P w K mg base "_law_like" (31) 2 (F__law_like) := FnP.mono (okr__law_like C B 30) (by decide)
def N_System_within : List Str := ["self", "other", "left", "right", "k"]
def me_System_within_0 : M D :=
    (mOrV (mAndV (mBin dEq (mVar 2) (mVar 3)) (mBin dGe (mVar 4) (mC (.int 0)))) (mBin dLe (mDGet2T (mFld ["System"] "own_bounds" (mVar 0)) (mCons (mVar 2) (mCons (mVar 3) mNil)) (mBin dAdd (mVar 4) (mC (.int 1)))) (mVar 4)))
def m_System_within : MS :=
    (msSeq (msIf (mNot (mTst (mFld ["System"] "has_solution" (mVar 0)))) (msRet (mC (.bl true))) msNil)
    (msRet (mCall dAll (mCons (mLc [2, 3, 4] (miL (mFld ["System"] "own_rows" (mVar 1))) (mgTup 3 (mgCons (mgName 2) (mgCons (mgName 3) (mgCons (mgName 4) mgNil)))) mYes me_System_within_0) mNil))))
theorem sc_System_within : FnScope N_System_within ["self", "other"] (defScope s_System_within) := ⟨rfl, rfl, rfl, by decide +kernel, rfl, by decide +kernel, by decide +kernel⟩
def F_System_within : PF := runP N_System_within.length m_System_within
theorem ok_System_within (C : CtxT P K w mg) (B : CtxB K mg base) : MetP P w K mg base "System" "within" (1) 2 (F_System_within) := by
  have sc := sc_System_within
  obtain ⟨Ca, f, fd, h1, h0, h2, Fd⟩ := C.d_System_within
  exact ⟨⟨Ca, f, fd, ["self", "other"], h1, h0, h2, Fd.bindsN (fun _ _ _ _ _ _ us hl => match us, hl with | [_, _], _ => rfl), rfl, fnP Fd sc fun cdv A outer s H E hr => (rss_cons (rs_if (rt_not (rt_val (re_fld (ClsFs.cons C.a_System_has_solution ClsFs.nil) (re_var 0)))) (rss_one (rs_ret re_bl)) rss_nil)
    (rss_one (rs_ret (re_all rfl C.n_all (ra_cons (re_lc (own := [("left", 2), ("right", 3), ("k", 4)]) rfl sc.nd (ri_list (re_fld (ClsFs.cons C.a_System_own_rows ClsFs.nil) (re_var 1))) (blkOk_by (N := N_System_within) (sc := defScope s_System_within) (by decide +kernel)) (by decide) (fun _ _ _ _ _ => (rg_tup (n := 3) rfl (rgs_cons (rg_name 2 sc.nd) (rgs_cons (rg_name 3 sc.nd) (rgs_cons (rg_name 4 sc.nd) rgs_nil))))) (fun _ _ _ _ _ => rts_nil) (fun _ _ _ _ _ => (re_or (re_and (re_eq hr (re_var 2) (re_var 3)) (re_one (re_ge (re_var 4) re_int))) (re_one (re_le (re_dget2T hr (re_fld (ClsFs.cons C.a_System_own_bounds ClsFs.nil) (re_var 0)) (ra_cons (re_var 2) (ra_cons (re_var 3) ra_nil)) (re_add (re_var 4) re_int)) (re_var 4)))))) ra_nil)))))⟩⟩
def N_System_eq : List Str := ["self", "other"]
def m_System_eq : MS :=
    (msRet (mAndV (mIsO "System" (mVar 1)) (mAndV (mMeP "System" "within" F_System_within (mVar 0) (mCons (mVar 1) mNil)) (mMeP "System" "within" F_System_within (mVar 1) (mCons (mVar 0) mNil)))))
theorem sc_System_eq : FnScope N_System_eq ["self", "other"] (defScope s_System_eq) := ⟨rfl, rfl, rfl, by decide +kernel, rfl, by decide +kernel, by decide +kernel⟩
def F_System_eq : PF := runP N_System_eq.length m_System_eq
theorem ok_System_eq (C : CtxT P K w mg) (B : CtxB K mg base) : MetP P w K mg base "System" "__eq__" (2) 2 (F_System_eq) := by
  have sc := sc_System_eq
  have G_System_within := ok_System_within (P := P) (w := w) (base := base) C B
  obtain ⟨Ca, f, fd, h1, h0, h2, Fd⟩ := C.d_System_eq
  exact ⟨⟨Ca, f, fd, ["self", "other"], h1, h0, h2, Fd.bindsN (fun _ _ _ _ _ _ us hl => match us, hl with | [_, _], _ => rfl), rfl, fnP Fd sc fun cdv A outer s H E hr => (rss_one (rs_ret (re_and (re_isO C.iso_System C.n_isinstance (re_var 1)) (re_and (re_methP G_System_within hr tkOf flatE (re_var 0) (ra_cons (re_var 1) ra_nil)) (re_one (re_methP G_System_within hr tkOf flatE (re_var 1) (ra_cons (re_var 0) ra_nil)))))))⟩⟩
def N_System_contains : List Str := ["self", "numbers", "worth", "name", "left", "right", "k"]
def me_System_contains_0 : M D :=
    (mBin dLe (mBin dDIx (mVar 2) (mVar 4)) (mBin dAdd (mBin dDIx (mVar 2) (mVar 5)) (mVar 6)))
def m_System_contains : MS :=
    (msSeq (msIf (mNot (mTst (mCall dAll (mCons (mLc [3] (miL (mMeP "System" "unknowns" F_System_unknowns (mVar 0) mNil)) (mgName 3) mYes (mBin (dDIn false) (mVar 3) (mVar 1))) mNil)))) (msRet (mC (.bl false))) msNil)
    (msSeq (msAsg (mDicS (mC (.str [])) (mC (.int 0)) (mDc [3] (miL (mMeP "System" "unknowns" F_System_unknowns (mVar 0) mNil)) (mgName 3) mYes (mVar 3) (mBin dDIx (mVar 1) (mVar 3)))) (mgName 2))
    (msRet (mCall dAll (mCons (mLc [4, 5, 6] (miL (mFld ["System"] "own_rows" (mVar 0))) (mgTup 3 (mgCons (mgName 4) (mgCons (mgName 5) (mgCons (mgName 6) mgNil)))) mYes me_System_contains_0) mNil)))))
theorem sc_System_contains : FnScope N_System_contains ["self", "numbers"] (defScope s_System_contains) := ⟨rfl, rfl, rfl, by decide +kernel, rfl, by decide +kernel, by decide +kernel⟩
def F_System_contains : PF := runP N_System_contains.length m_System_contains
theorem ok_System_contains (C : CtxT P K w mg) (B : CtxB K mg base) : MetP P w K mg base "System" "__contains__" (2) 2 (F_System_contains) := by
  have sc := sc_System_contains
  have G_System_unknowns := ok_System_unknowns (P := P) (w := w) (base := base) C B
  obtain ⟨Ca, f, fd, h1, h0, h2, Fd⟩ := C.d_System_contains
  exact ⟨⟨Ca, f, fd, ["self", "numbers"], h1, h0, h2, Fd.bindsN (fun _ _ _ _ _ _ us hl => match us, hl with | [_, _], _ => rfl), rfl, fnP Fd sc fun cdv A outer s H E hr => (rss_cons (rs_if (rt_not (rt_val (re_all rfl C.n_all (ra_cons (re_lc (own := [("name", 3)]) rfl sc.nd (ri_list (re_methP0 G_System_unknowns hr tkOf flatE (re_var 0))) (blkOk_by (N := N_System_contains) (sc := defScope s_System_contains) (by decide +kernel)) (by decide) (fun _ _ _ _ _ => (rg_name 3 sc.nd)) (fun _ _ _ _ _ => rts_nil) (fun _ _ _ _ _ => (re_din hr (re_var 3) (re_var 1)))) ra_nil)))) (rss_one (rs_ret re_bl)) rss_nil)
    (rss_cons (rs_set 2 sc.nd (re_dicS (re_str []) re_int (re_dc (own := [("name", 3)]) rfl sc.nd (ri_list (re_methP0 G_System_unknowns hr tkOf flatE (re_var 0))) (blkOk_by (N := N_System_contains) (sc := defScope s_System_contains) (by decide +kernel)) (by decide) (fun _ _ _ _ _ => (rg_name 3 sc.nd)) (fun _ _ _ _ _ => rts_nil) (fun _ _ _ _ _ => (re_var 3)) (fun _ _ _ _ _ => (re_dix hr (re_var 1) (re_var 3))))))
    (rss_one (rs_ret (re_all rfl C.n_all (ra_cons (re_lc (own := [("left", 4), ("right", 5), ("k", 6)]) rfl sc.nd (ri_list (re_fld (ClsFs.cons C.a_System_own_rows ClsFs.nil) (re_var 0))) (blkOk_by (N := N_System_contains) (sc := defScope s_System_contains) (by decide +kernel)) (by decide) (fun _ _ _ _ _ => (rg_tup (n := 3) rfl (rgs_cons (rg_name 4 sc.nd) (rgs_cons (rg_name 5 sc.nd) (rgs_cons (rg_name 6 sc.nd) rgs_nil))))) (fun _ _ _ _ _ => rts_nil) (fun _ _ _ _ _ => (re_le (re_dix hr (re_var 2) (re_var 4)) (re_add (re_dix hr (re_var 2) (re_var 5)) (re_var 6))))) ra_nil))))))⟩⟩
def N_law : List Str := ["_law_script", "_law_bag", "_law_turn", "_law_rows", "_law_system", "_law_some", "_law_own", "_law_found", "_law_again", "_law_numbers", "_law_fixed", "_law_name", "_law_due"]
def mb_law_0 : MS :=
    (msAsg (mBin dAdd (mVar 10) (mLst (mCons (mTup (mCons (mVar 11) (mCons (mC (.str [])) (mCons (mBin dDIx (mVar 9) (mVar 11)) mNil)))) (mCons (mTup (mCons (mC (.str [])) (mCons (mVar 11) (mCons (mBin dSub (mC (.int 0)) (mBin dDIx (mVar 9) (mVar 11))) mNil)))) mNil)))) (mgName 10))
def me_law_1 : M D :=
    (mTup (mCons (mVar 11) (mCons (mBin dMul (mCallI F__law_near (mCons (mVar 1) mNil)) (mCallI F__law_any (mCons (mVar 1) (mCons (mLst (mCons (mC (.int 1)) (mCons (mC (.int 1)) (mCons (mC (.int 2)) (mCons (mBin dPow (mC (.int 10)) (mC (.int 9))) mNil))))) mNil)))) mNil)))
def mb_law_2 : MS :=
    (msSeq (msAsg (mCall dDictP (mCons (mLc [11] (miL (mVar 6)) (mgName 11) mYes me_law_1) mNil)) (mgName 9))
    (msSeq (msAsg (mLst mNil) (mgName 10))
    (msSeq (msFor (miL (mVar 6)) (mgName 11) mb_law_0)
    (msSeq (msAsg (mBin dNeEmp (mCallP F__law_bounds (mCons (mBin dAdd (mVar 3) (mVar 10)) mNil)) mDnew) (mgName 12))
    (msIf (mNot (mTst (mCallP F__law_like (mCons (mLst (mCons (mBin (dInO "System" F_System_contains) (mVar 9) (mVar 7)) (mCons (mBin (dInO "System" F_System_contains) (mVar 9) (mMeP "System" "on" F_System_on (mVar 4) (mCons (mCall dTuple (mCons (mVar 6) mNil)) mNil))) mNil))) (mCons (mLst (mCons (mVar 12) (mCons (mVar 12) mNil))) mNil))))) (msRet (mC (.bl false))) msNil)))))
def mt_law_3 : M Bool :=
    (mTst (mBin dInA (mVar 11) (mMeP "System" "unknowns" F_System_unknowns (mVar 4) mNil)))
def mt_law_4 : M Bool :=
    (mTst (mBin dEq (mCallI F__law_pull (mCons (mVar 1) (mCons (mC (.int 2)) mNil))) (mC (.int 0))))
def mb_law_5 : MS :=
    (msSeq (msAsg (mCallI F__law_some_comparisons (mCons (mVar 1) (mCons (mBin dAdd (mC (.int 1)) (mCallI F__law_pull (mCons (mVar 1) (mCons (mC (.int 6)) mNil)))) mNil))) (mgName 3))
    (msSeq (msAsg (mMkP "System" [] F_System_init (mCons (mVar 3) mNil)) (mgName 4))
    (msSeq (msIf (mTst (mBin dEqEmp (mCallP F__law_bounds (mCons (mVar 3) mNil)) mDnew)) msCt msNil)
    (msSeq (msAsg (mLc [11] (miL (mLst (mCons (mC (.str [97])) (mCons (mC (.str [98])) (mCons (mC (.str [49, 46, 107, 101, 121])) (mCons (mC (.str [50, 46, 101, 110, 100])) (mCons (mC (.str [122, 122])) mNil))))))) (mgName 11) mt_law_4 (mVar 11)) (mgName 5))
    (msSeq (msAsg (mLc [11] (miL (mVar 5)) (mgName 11) mt_law_3 (mVar 11)) (mgName 6))
    (msSeq (msAsg (mMeP "System" "on" F_System_on (mVar 4) (mCons (mCall dList (mCons (mVar 6) mNil)) mNil)) (mgName 7))
    (msSeq (msIf (mOr (mNot (mTst (mPrp "System" F_System_is_open (mVar 7)))) (mNot (mTst (mCall dAll (mCons (mLc [11] (miL (mMeP "System" "unknowns" F_System_unknowns (mVar 7) mNil)) (mgName 11) mYes (mBin dInA (mVar 11) (mVar 6))) mNil))))) (msRet (mC (.bl false))) msNil)
    (msSeq (msFor (miR1 (mCons (mC (.int 6)) mNil)) (mgName 8) mb_law_2)
    (msIf (mOr (mNot (mTst (mBin (eqOF "System" F_System_eq false) (mMeP "System" "on" F_System_on (mVar 4) (mCons (mMeP "System" "unknowns" F_System_unknowns (mVar 4) mNil) mNil)) (mVar 4)))) (mTst (mBin dNe (mCall dLen (mCons (mMeP "System" "unknowns" F_System_unknowns (mMeP "System" "on" F_System_on (mVar 4) (mCons (mLst mNil) mNil)) mNil) mNil)) (mC (.int 0))))) (msRet (mC (.bl false))) msNil)))))))))
def m_law : MS :=
    (msSeq (msAsg (mCallI F__law_draws (mCons (mVar 0) mNil)) (mgName 1))
    (msSeq (msFor (miR1 (mCons (mC (.int 6)) mNil)) (mgName 2) mb_law_5)
    (msRet (mC (.bl true)))))
theorem sc_law : FnScope N_law ["_law_script"] (defScope s_law) := ⟨rfl, rfl, rfl, by decide +kernel, rfl, by decide +kernel, by decide +kernel⟩
def F_law : IF := runI N_law.length m_law
theorem ok_law (C : CtxT P K w mg) : ∃ f fd, mg "law" = some (.ref f) ∧ (∀ (s : Shared) (u : Value), BindsTo s fd ⟨[u], []⟩ [("_law_script", u)]) ∧ ∀ base : Heap, CtxB K mg base → FnOk P w K mg base (L2.CX P w) 32 f fd ["_law_script"] (SpI K mg 1 F_law) := by
  have sc := sc_law
  obtain ⟨f, fd, Fd, g⟩ := C.d_law
  refine ⟨f, fd, g, fun s u => FunD.bindsA (ps := ["_law_script"]) Fd (fun _ _ _ _ _ _ us hl => match us, hl with | [_], _ => rfl) s [u] rfl, fun base B => ?_⟩
  have GF_System_init_D1 := okF_System_init_D1 (P := P) (w := w) (base := base) C B
  have G_System_contains := ok_System_contains (P := P) (w := w) (base := base) C B
  have G_System_eq := ok_System_eq (P := P) (w := w) (base := base) C B
  have G_System_is_open := ok_System_is_open (P := P) (w := w) (base := base) C B
  have G_System_on := ok_System_on (P := P) (w := w) (base := base) C B
  have G_System_unknowns := ok_System_unknowns (P := P) (w := w) (base := base) C B
  have G__law_any := ok__law_any (P := P) (w := w) (base := base) C B
  have G__law_bounds := ok__law_bounds (P := P) (w := w) (base := base) C B
  have G__law_draws := ok__law_draws (P := P) (w := w) (base := base) C B
  have G__law_like := ok__law_like (P := P) (w := w) (base := base) C B
  have G__law_near := ok__law_near (P := P) (w := w) (base := base) C B
  have G__law_pull := ok__law_pull (P := P) (w := w) (base := base) C B
  have G__law_some_comparisons := ok__law_some_comparisons (P := P) (w := w) (base := base) C B
  exact fnI Fd sc fun cdv A outer s H E hr => (rss_cons (rs_set 1 sc.nd (re_callI G__law_draws hr tkOf (ra_cons (re_var 0) ra_nil)))
    (rss_cons (rs_for poOf rfl (ri_range1 C.n_range (ra_cons re_int ra_nil)) (rg_name 2 sc.nd) (rss_cons (rs_set 3 sc.nd (re_callI G__law_some_comparisons hr tkOf (ra_cons (re_var 1) (ra_cons (re_add re_int (re_callI G__law_pull hr tkOf (ra_cons (re_var 1) (ra_cons re_int ra_nil)))) ra_nil))))
    (rss_cons (rs_set 4 sc.nd (re_mkP GF_System_init_D1 hr tkOf flatE (ra_cons (re_var 3) ra_nil)))
    (rss_cons (rs_if (rt_eqEmp hr (re_callP G__law_bounds hr tkOf (ra_cons (re_var 3) ra_nil)) re_dnew) (rss_one rs_continue) rss_nil)
    (rss_cons (rs_setLc (own := [("_law_name", 11)]) 5 rfl sc.nd (ri_list (re_lst (ra_cons (re_str [97]) (ra_cons (re_str [98]) (ra_cons (re_str [49, 46, 107, 101, 121]) (ra_cons (re_str [50, 46, 101, 110, 100]) (ra_cons (re_str [122, 122]) ra_nil))))))) (blkOk_by (N := N_law) (sc := defScope s_law) (by decide +kernel)) (fun _ _ _ _ _ => (rg_name 11 sc.nd)) (fun _ _ _ _ _ => (rts_one (rt_eq hr (re_callI G__law_pull hr takes0 (ra_cons (re_var 1) (ra_cons re_int ra_nil))) re_int))) (fun _ _ _ _ _ => (re_var 11)))
    (rss_cons (rs_set 6 sc.nd (re_lc (own := [("_law_name", 11)]) rfl sc.nd (ri_list (re_var 5)) (blkOk_by (N := N_law) (sc := defScope s_law) (by decide +kernel)) (by decide) (fun _ _ _ _ _ => (rg_name 11 sc.nd)) (fun _ _ _ _ _ => (rts_one (rt_in (re_var 11) (re_methP0 G_System_unknowns hr takes0 flat0 (re_var 4))))) (fun _ _ _ _ _ => (re_var 11))))
    (rss_cons (rs_set 7 sc.nd (re_methP G_System_on hr tkOf flatE (re_var 4) (ra_cons (re_listc C.n_list (ra_cons (re_var 6) ra_nil)) ra_nil)))
    (rss_cons (rs_if (rt_bool (rw_or (rt_not (rt_val (re_prp G_System_is_open hr (re_var 7)))) (rw_or1 (rt_not (rt_val (re_all rfl C.n_all (ra_cons (re_lc (own := [("_law_name", 11)]) rfl sc.nd (ri_list (re_methP0 G_System_unknowns hr tkOf flatE (re_var 7))) (blkOk_by (N := N_law) (sc := defScope s_law) (by decide +kernel)) (by decide) (fun _ _ _ _ _ => (rg_name 11 sc.nd)) (fun _ _ _ _ _ => rts_nil) (fun _ _ _ _ _ => (re_in (re_var 11) (re_var 6)))) ra_nil))))))) (rss_one (rs_ret re_bl)) rss_nil)
    (rss_cons (rs_for poOf rfl (ri_range1 C.n_range (ra_cons re_int ra_nil)) (rg_name 8 sc.nd) (rss_cons (rs_set 9 sc.nd (re_dictP rfl C.n_dict (ra_cons (re_lc (own := [("_law_name", 11)]) rfl sc.nd (ri_list (re_var 6)) (blkOk_by (N := N_law) (sc := defScope s_law) (by decide +kernel)) (by decide) (fun _ _ _ _ _ => (rg_name 11 sc.nd)) (fun _ _ _ _ _ => rts_nil) (fun _ _ _ _ _ => (re_tup (ra_cons (re_var 11) (ra_cons (re_mul (re_callI G__law_near hr takes0 (ra_cons (re_var 1) ra_nil)) (re_callI G__law_any hr takes0 (ra_cons (re_var 1) (ra_cons (re_lst (ra_cons re_int (ra_cons re_int (ra_cons re_int (ra_cons (re_pow re_int re_int) ra_nil))))) ra_nil)))) ra_nil))))) ra_nil)))
    (rss_cons (rs_set 10 sc.nd (re_lst ra_nil))
    (rss_cons (rs_for poOf rfl (ri_list (re_var 6)) (rg_name 11 sc.nd) (rss_one (rs_set 10 sc.nd (re_add (re_var 10) (re_lst (ra_cons (re_tup (ra_cons (re_var 11) (ra_cons (re_str []) (ra_cons (re_dix hr (re_var 9) (re_var 11)) ra_nil)))) (ra_cons (re_tup (ra_cons (re_str []) (ra_cons (re_var 11) (ra_cons (re_sub re_int (re_dix hr (re_var 9) (re_var 11))) ra_nil)))) ra_nil)))))))
    (rss_cons (rs_set 12 sc.nd (re_neEmp hr (re_callP G__law_bounds hr tkOf (ra_cons (re_add (re_var 3) (re_var 10)) ra_nil)) re_dnew))
    (rss_one (rs_if (rt_not (rt_val (re_callP G__law_like hr tkOf (ra_cons (re_lst (ra_cons (re_inO G_System_contains hr (re_var 9) (re_var 7)) (ra_cons (re_inO G_System_contains hr (re_var 9) (re_methP G_System_on hr tkOf flatE (re_var 4) (ra_cons (re_tuplec C.n_tuple (ra_cons (re_var 6) ra_nil)) ra_nil))) ra_nil))) (ra_cons (re_lst (ra_cons (re_var 12) (ra_cons (re_var 12) ra_nil))) ra_nil))))) (rss_one (rs_ret re_bl)) rss_nil)))))))
    (rss_one (rs_if (rt_bool (rw_or (rt_not (rt_eqO G_System_eq hr (re_methP G_System_on hr tkOf flatE (re_var 4) (ra_cons (re_methP0 G_System_unknowns hr tkOf flatE (re_var 4)) ra_nil)) (re_var 4))) (rw_or1 (rt_ne hr (re_len C.n_len (ra_cons (re_methP0 G_System_unknowns hr tkOf flatE (re_methP G_System_on hr tkOf flatE (re_var 4) (ra_cons (re_lst ra_nil) ra_nil))) ra_nil)) re_int)))) (rss_one (rs_ret re_bl)) rss_nil)))))))))))
    (rss_one (rs_ret re_bl))))
end
end K12
namespace K12
open PySem PySem.Spec PyProof.Rows L2 PD
theorem ctx {K : PySem.W.Frag} {h : Heap} {mg : Str → Option Value} (X : K.In h) (G : h.Ns mainGlobals mg) {w : World} (c4 : SaysG4 fa fn gs dsL fxL xdL sdL tf R.prog.main.file w h K) : @CtxT ⟨lams, []⟩ R.prog K w mg :=
  letI : LamTab := ⟨lams, []⟩
  have c3 := c4.g3
  have c := c3.two
  have gl : ∀ x : Str, .glo x ∈ fa → mg x = some (.ref (He.ga K x)) := fun x hx => He.glo_ok X G (SaysD.facts' c.g.d hx)
  {
  d__law_draws := (fun ⟨fd, F⟩ => ⟨_, fd, F, gl "_law_draws" (by simp [fa])⟩) (SaysD.def' c.g.d (d := dd__law_draws) (by simp [fn]))
  d_closed := (fun ⟨fd, F⟩ => ⟨_, fd, F, gl "closed" (by simp [fa])⟩) (SaysD.def' c.g.d (d := dd_closed) (by simp [fn]))
  d_is_listed := (fun ⟨fd, F⟩ => ⟨_, fd, F, gl "is_listed" (by simp [fa])⟩) (SaysD.def' c.g.d (d := dd_is_listed) (by simp [fn]))
  d_is_name := (fun ⟨fd, F⟩ => ⟨_, fd, F, gl "is_name" (by simp [fa])⟩) (SaysD.def' c.g.d (d := dd_is_name) (by simp [fn]))
  d_is_column := (fun ⟨fd, F⟩ => ⟨_, fd, F, gl "is_column" (by simp [fa])⟩) (SaysD.def' c.g.d (d := dd_is_column) (by simp [fn]))
  d_is_unknown := (fun ⟨fd, F⟩ => ⟨_, fd, F, gl "is_unknown" (by simp [fa])⟩) (SaysD.def' c.g.d (d := dd_is_unknown) (by simp [fn]))
  d_is_integer := (fun ⟨fd, F⟩ => ⟨_, fd, F, gl "is_integer" (by simp [fa])⟩) (SaysD.def' c.g.d (d := dd_is_integer) (by simp [fn]))
  d_is_comparison := (fun ⟨fd, F⟩ => ⟨_, fd, F, gl "is_comparison" (by simp [fa])⟩) (SaysD.def' c.g.d (d := dd_is_comparison) (by simp [fn]))
  q_System_init_comparisons := c3.fact (f := fx_q_System_init_comparisons) (by simp [fxL])
  d_System_init := (fun ⟨fd, F⟩ => ⟨_, _, fd, gl "System" (by simp [fa]), He.cls_ok (SaysD.facts' c.g.d (f := .cls "System") (by simp [fa])), He.mkr_ok (SaysD.facts' c.g.d (f := .mkr "System") (by simp [fa])), F⟩) (SaysD.def' c.g.d (d := dd_System_init) (by simp [fn]))
  d_System_need_open := (fun ⟨fd, F⟩ => ⟨_, _, fd, gl "System" (by simp [fa]), He.cls_ok (SaysD.facts' c.g.d (f := .cls "System") (by simp [fa])), He.meth_ok (SaysD.facts' c.g.d (f := .meth "System" "need_open") (by simp [fa])), F⟩) (SaysD.def' c.g.d (d := dd_System_need_open) (by simp [fn]))
  d_System_unknowns := (fun ⟨fd, F⟩ => ⟨_, _, fd, gl "System" (by simp [fa]), He.cls_ok (SaysD.facts' c.g.d (f := .cls "System") (by simp [fa])), He.meth_ok (SaysD.facts' c.g.d (f := .meth "System" "unknowns") (by simp [fa])), F⟩) (SaysD.def' c.g.d (d := dd_System_unknowns) (by simp [fn]))
  d_System_on := (fun ⟨fd, F⟩ => ⟨_, _, fd, gl "System" (by simp [fa]), He.cls_ok (SaysD.facts' c.g.d (f := .cls "System") (by simp [fa])), He.meth_ok (SaysD.facts' c.g.d (f := .meth "System" "on") (by simp [fa])), F⟩) (SaysD.def' c.g.d (d := dd_System_on) (by simp [fn]))
  d__law_pull := (fun ⟨fd, F⟩ => ⟨_, fd, F, gl "_law_pull" (by simp [fa])⟩) (SaysD.def' c.g.d (d := dd__law_pull) (by simp [fn]))
  d__law_any := (fun ⟨fd, F⟩ => ⟨_, fd, F, gl "_law_any" (by simp [fa])⟩) (SaysD.def' c.g.d (d := dd__law_any) (by simp [fn]))
  d__law_near := (fun ⟨fd, F⟩ => ⟨_, fd, F, gl "_law_near" (by simp [fa])⟩) (SaysD.def' c.g.d (d := dd__law_near) (by simp [fn]))
  d__law_some_comparisons := (fun ⟨fd, F⟩ => ⟨_, fd, F, gl "_law_some_comparisons" (by simp [fa])⟩) (SaysD.def' c.g.d (d := dd__law_some_comparisons) (by simp [fn]))
  d__law_bounds := (fun ⟨fd, F⟩ => ⟨_, fd, F, gl "_law_bounds" (by simp [fa])⟩) (SaysD.def' c.g.d (d := dd__law_bounds) (by simp [fn]))
  d_System_is_open := (fun ⟨fd, F⟩ => ⟨_, _, _, fd, gl "System" (by simp [fa]), He.cls_ok (SaysD.facts' c.g.d (f := .cls "System") (by simp [fa])), propB_ok (c3.fact (f := fx_System_is_open) (by simp [fxL])), F⟩) (c3.defA (d := xd_System_is_open) (by simp [xdL]))
  d__law_like := (fun ⟨fd, F⟩ => ⟨_, fd, F, gl "_law_like" (by simp [fa])⟩) (SaysD.def' c.g.d (d := dd__law_like) (by simp [fn]))
  d_System_within := (fun ⟨fd, F⟩ => ⟨_, _, fd, gl "System" (by simp [fa]), He.cls_ok (SaysD.facts' c.g.d (f := .cls "System") (by simp [fa])), He.meth_ok (SaysD.facts' c.g.d (f := .meth "System" "within") (by simp [fa])), F⟩) (SaysD.def' c.g.d (d := dd_System_within) (by simp [fn]))
  d_System_eq := (fun ⟨fd, F⟩ => ⟨_, _, fd, gl "System" (by simp [fa]), He.cls_ok (SaysD.facts' c.g.d (f := .cls "System") (by simp [fa])), He.meth_ok (SaysD.facts' c.g.d (f := .meth "System" "__eq__") (by simp [fa])), F⟩) (SaysD.def' c.g.d (d := dd_System_eq) (by simp [fn]))
  d_System_contains := (fun ⟨fd, F⟩ => ⟨_, _, fd, gl "System" (by simp [fa]), He.cls_ok (SaysD.facts' c.g.d (f := .cls "System") (by simp [fa])), He.meth_ok (SaysD.facts' c.g.d (f := .meth "System" "__contains__") (by simp [fa])), F⟩) (SaysD.def' c.g.d (d := dd_System_contains) (by simp [fn]))
  d_law := (fun ⟨fd, F⟩ => ⟨_, fd, F, gl "law" (by simp [fa])⟩) (SaysD.def' c.g.d (d := dd_law) (by simp [fn]))
  n_list := He.free_ok X G (SaysD.facts' c.g.d (f := .free "list") (by simp [fa]))
  n_int := He.free_ok X G (SaysD.facts' c.g.d (f := .free "int") (by simp [fa]))
  n_min := He.free_ok X G (SaysD.facts' c.g.d (f := .free "min") (by simp [fa]))
  n_sorted := He.free_ok X G (SaysD.facts' c.g.d (f := .free "sorted") (by simp [fa]))
  n_isinstance := He.free_ok X G (SaysD.facts' c.g.d (f := .free "isinstance") (by simp [fa]))
  n_tuple := He.free_ok X G (SaysD.facts' c.g.d (f := .free "tuple") (by simp [fa]))
  n_all := He.free_ok X G (SaysD.facts' c.g.d (f := .free "all") (by simp [fa]))
  n_len := He.free_ok X G (SaysD.facts' c.g.d (f := .free "len") (by simp [fa]))
  n_str := He.free_ok X G (SaysD.facts' c.g.d (f := .free "str") (by simp [fa]))
  n_bool := He.free_ok X G (SaysD.facts' c.g.d (f := .free "bool") (by simp [fa]))
  n_enumerate := He.free_ok X G (SaysD.facts' c.g.d (f := .free "enumerate") (by simp [fa]))
  n_range := He.free_ok X G (SaysD.facts' c.g.d (f := .free "range") (by simp [fa]))
  n_any := He.free_ok X G (SaysD.facts' c.g.d (f := .free "any") (by simp [fa]))
  n_zip := He.free_ok X G (SaysD.facts' c.g.d (f := .free "zip") (by simp [fa]))
  n_dict := He.free_ok X G (SaysD.facts' c.g.d (f := .free "dict") (by simp [fa]))
  c_LETTERS := globC_of X G (c.g.glob (p := ("LETTERS", g_LETTERS)) (by simp [gs]))
  c_RESERVED := globC_of X G (c.g.glob (p := ("RESERVED", g_RESERVED)) (by simp [gs]))
  c_DIGITS := globC_of X G (c.g.glob (p := ("DIGITS", g_DIGITS)) (by simp [gs]))
  a_System_own_bounds := ⟨_, gl "System" (by simp [fa]), He.cls_ok (SaysD.facts' c.g.d (f := .cls "System") (by simp [fa])), He.noat_ok (SaysD.facts' c.g.d (f := .noat "System" "own_bounds") (by simp [fa]))⟩
  a_System_has_solution := ⟨_, gl "System" (by simp [fa]), He.cls_ok (SaysD.facts' c.g.d (f := .cls "System") (by simp [fa])), He.noat_ok (SaysD.facts' c.g.d (f := .noat "System" "has_solution") (by simp [fa]))⟩
  a_System_own_rows := ⟨_, gl "System" (by simp [fa]), He.cls_ok (SaysD.facts' c.g.d (f := .cls "System") (by simp [fa])), He.noat_ok (SaysD.facts' c.g.d (f := .noat "System" "own_rows") (by simp [fa]))⟩
  g_System := gl "System" (by simp [fa])
  g_InvalidComparison := gl "InvalidComparison" (by simp [fa])
  g_NotOpen := gl "NotOpen" (by simp [fa])
  g_TableError := gl "TableError" (by simp [fa])
  o_InvalidComparison := c3.fact (f := fx_o_InvalidComparison) (by simp [fxL])
  i_InvalidComparison := c3.fact (f := fx_i_InvalidComparison) (by simp [fxL])
  na_InvalidComparison := c3.fact (f := fx_na_InvalidComparison) (by simp [fxL])
  x_InvalidComparison := c3.defA (d := xd_InvalidComparison_init) (by simp [xdL])
  o_NotOpen := c3.fact (f := fx_o_NotOpen) (by simp [fxL])
  i_NotOpen := c3.fact (f := fx_i_NotOpen) (by simp [fxL])
  x_NotOpen := c3.defA (d := xd_NotOpen_init) (by simp [xdL])
  su_TableError := (c4.sup sd_TableError (by simp [sdL])).1
  sv_TableError := (c4.sup sd_TableError (by simp [sdL])).2
  cf_TableError := c3.fact (f := fx_cf_TableError) (by simp [fxL])
  top_ := by decide +kernel
  iso_System := isoC_of (gl "System" (by simp [fa])) (He.cls_ok (SaysD.facts' c.g.d (f := .cls "System") (by simp [fa]))) (c3.fact (f := fx_iso_System) (by simp [fxL]))
  lamE := rfl
  }
theorem fin (math : ∀ ns : List Int, ns.length ≤ 63 → (∀ z ∈ ns, Builtin.Int.intBits z ≤ 1048576) → (∃ h', F_law [.scr (ns.map .int)] [] = some (.ok (.bl true), h')) ∧ ∃ h', F_law [.lst (ns.map .int)] [] = some (.ok (.bl true), h')) :
    PySem.W.WalkO (PySem.W.view R.prog [27]) loose (PySem.W.XL (PySem.W.view R.prog [27]) []) hk.says R.toRowW (HandSHeadRun.topDef R.prog 27) [] (fun f vs => PySem.call f vs) := by
  refine walk_pdT (lams := lams) (l := PySem.Challenge.rw_lookedrows_k12_whole_projections) (n := 63) (k := 32) (x := "_law_script") rfl (by decide) (by kernel_rfl) ⟨rfl, by decide, by decide⟩ ?_ math
  intro w mg fa h Y G hmg0
  obtain ⟨K, KX, c⟩ := Y
  have hmg : mg ("law" : PySem.Str) = some (.ref fa) := by
    have e : (HandSHeadRun.topDef R.prog 27).name = ("law" : PySem.Str) := by kernel_rfl
    rw [← e]
    exact hmg0
  letI : LamTab := ⟨lams, []⟩
  obtain ⟨f, fd, g, hb, hF⟩ := ok_law (P := (PySem.Challenge.rw_lookedrows_k12_whole_projections).prog) (w := w) (ctx KX G c)
  have ef : fa = f := by
    have := hmg.symm.trans g
    cases this
    rfl
  subst ef
  refine ⟨K, fd, tf.map (He.cT K), [], KX, fun p hp => ?_, fun p hp => ?_, fun p hp => ?_, fun p hp => ?_, hb, fun base KB GB TB => hF base ⟨trivial⟩⟩
  · obtain ⟨q, hq, rfl⟩ := List.mem_map.mp hp
    exact c.empty q hq
  · obtain ⟨q, hq, rfl⟩ := List.mem_map.mp hp
    exact c.out q hq
  · obtain ⟨q, hq, rfl⟩ := List.mem_map.mp hp
    exact PySem.W.codeHd_of_K KX (c.hd q hq)
  cases hp
end K12
namespace K12
open PySem PD SZ
theorem e_pull : K12.F__law_pull = SZ.F__law_pull := rfl
theorem e_any : K12.F__law_any = SZ.F__law_any := rfl
theorem e_near : K12.F__law_near = SZ.F__law_near := rfl
theorem e_comps : K12.F__law_some_comparisons = SZ.F__law_some_comparisons := rfl
theorem e_init : K12.F_System_init = SZ.F_System_init := rfl
theorem e_open : K12.F_System_is_open = SZ.F_System_is_open := rfl
theorem e_uns : K12.F_System_unknowns = SZ.F_System_unknowns := rfl
theorem e_on : K12.F_System_on = SZ.F_System_on := rfl
theorem e_cont : K12.F_System_contains = SZ.F_System_contains := rfl
theorem e_eq : K12.F_System_eq = SZ.F_System_eq := rfl
theorem e_like : K12.F__law_like = SZ.F__law_like := rfl
theorem bu {ε : Ev} {h : EH} {d : D} : mDnew ε h = some (.ok (.ref h.length), h ++ [.dic false []]) := rfl
theorem neEmp {h : EH} {kvs : List (List L2.Key × D)} : dNeEmp (h ++ [.dic false []]) (.dic true kvs) (.ref h.length) = some (.bl (!kvs.isEmpty)) := by
  unfold dNeEmp asDicA
  dsimp only
  rw [ap_last]
theorem eqEmp {h : EH} {kvs : List (List L2.Key × D)} : dEqEmp (h ++ [.dic false []]) (.dic true kvs) (.ref h.length) = some (.bl kvs.isEmpty) := by
  unfold dEqEmp asDicA
  dsimp only
  rw [ap_last]
theorem bl2 (b : Bool) : okD 2 (.lst [.bl b, .bl b]) = true := by cases b <;> rfl
/-- the law's bounds, as a test -/
theorem bds {rows : List Row} (hn : ∀ i j c, (i, j, c) ∈ rows → i ∈ lns ∧ j ∈ lns) : ∃ kvs, (∀ h : EH, callPK F__law_bounds [.lst (rows.map rowC)] h = some (.ok (.dic true kvs), h)) ∧ ((!kvs.isEmpty) = true ↔ SY.NoNeg rows) := by
  obtain ⟨kvs, bd, eb, R, Fn, ne⟩ := bounds_ok hn
  have an := any_neg hn Fn
  refine ⟨_, fun h => callPK_ok (F := F__law_bounds) eb (show (PD.noRef.go (rows.map rowC) && true) = true by rw [rows_no']; rfl), ?_⟩
  rw [← an]
  cases (lns.any fun i => decide ((bd i i).getD 0 < 0)) with
  | true => rw [if_pos rfl]; exact ⟨fun z => (nomatch z), fun z => (nomatch z)⟩
  | false =>
    rw [if_neg (by decide)]
    refine ⟨fun _ => rfl, fun _ => ?_⟩
    cases kvs with
    | nil => exact absurd rfl ne
    | cons _ _ => rfl
theorem add_rows {h : EH} {a b : List Row} (l : a.length + b.length ≤ 1000) : dAdd h (.lst (a.map rowC)) (.lst (b.map rowC)) = some (.lst ((a ++ b).map rowC)) := by
  rw [add_lst (by rw [List.length_map, List.length_map]; omega), List.map_append]
abbrev E12 (x d : D) (rows : List Row) (sd : D) (us zs : List Nm) (fd : D) (r8 r9 r10 r11 r12 : Option D) : Ev := [some x, some (.ref 0), some d, some (.lst (rows.map rowC)), some sd, some (.lst (us.map .str)), some (.lst (zs.map .str)), some fd, r8, r9, r10, r11, r12]
section
variable {x d sd fd : D} {rows rs : List Row} {us zs : List Nm}
/-- the rows that fix the integers -/
theorem fix_loop {T : List Nm} {kvs : List (List L2.Key × D)} {f : Nm → Option Int} (N : DkR T kvs f) (hz : ∀ z ∈ zs, z ≠ [] ∧ ∃ y, f z = some y) (lz : zs.length ≤ 100) {r8 r11 r12 : Option D} {h : EH} :
    ∃ r11', forL (mgName 11) mb_law_0 (zs.map .str) (E12 x d rows sd us zs fd r8 (some (.dic false kvs)) (some (.lst [])) r11 r12) h = some (.nx (E12 x d rows sd us zs fd r8 (some (.dic false kvs)) (some (.lst ((fxr (numV f) zs).map rowC))) r11' r12), h) := by
  have key : ∀ (ys dn : List Nm) (r11 : Option D), (∀ z ∈ ys, z ∈ zs) → dn.length + ys.length ≤ 100 → ∃ r11', forL (mgName 11) mb_law_0 (ys.map .str) (E12 x d rows sd us zs fd r8 (some (.dic false kvs)) (some (.lst ((fxr (numV f) dn).map rowC))) r11 r12) h = some (.nx (E12 x d rows sd us zs fd r8 (some (.dic false kvs)) (some (.lst ((fxr (numV f) (dn ++ ys)).map rowC))) r11' r12), h) := by
    intro ys
    induction ys with
    | nil => intro dn r11 _ _; rw [List.append_nil]; exact ⟨r11, rfl⟩
    | cons y ys ih =>
      intro dn r11 hy l
      rw [List.length_cons] at l
      obtain ⟨hne, v, hv⟩ := hz y (hy y List.mem_cons_self)
      have nv : numV f y = v := by
        unfold numV
        rw [if_neg hne, hv]; rfl
      obtain ⟨r', e⟩ := ih (dn ++ [y]) (some (.str y)) (fun z hz => hy z (List.mem_cons_of_mem _ hz)) (by rw [List.length_append, List.length_singleton]; omega)
      refine ⟨r', ?_⟩
      rw [List.map_cons]
      have dx : ∀ h : EH, dDIx h (.dic false kvs) (.str y) = some (.int v) := fun h => by
        show (some (lkK [ky y] kvs)).bind id = _
        rw [N.at_, hv]; rfl
      have ad : ∀ h : EH, dAdd h (.lst ((fxr (numV f) dn).map rowC)) (.lst [.tup [.str y, .str [], .int v], .tup [.str [], .str y, .int (0 - v)]]) = some (.lst ((fxr (numV f) (dn ++ [y])).map rowC)) := fun h => by
        have e1 : fxr (numV f) (dn ++ [y]) = fxr (numV f) dn ++ [(y, [], v), ([], y, 0 - v)] := by
          unfold fxr
          rw [List.flatMap_append, List.flatMap_cons, List.flatMap_nil, List.append_nil, nv]
        rw [e1]
        exact add_rows (a := fxr (numV f) dn) (b := [(y, [], v), ([], y, 0 - v)]) (by rw [fxr_len]; show 2 * dn.length + 2 ≤ 1000; omega)
      have bd : mb_law_0 (E12 x d rows sd us zs fd r8 (some (.dic false kvs)) (some (.lst ((fxr (numV f) dn).map rowC))) (some (.str y)) r12) h = some (.nx (E12 x d rows sd us zs fd r8 (some (.dic false kvs)) (some (.lst ((fxr (numV f) (dn ++ [y])).map rowC))) (some (.str y)) r12), h) := by
        have t3 : ∀ a b c : D, tupK [a, b, c] h = some (.ok (.tup [a, b, c]), h) := fun a b c => tupK_ok (by show 3 ≤ 16777216; omega)
        have l2 : ∀ a b : D, lstK [a, b] h = some (.ok (.lst [a, b]), h) := fun a b => lstK_ok (by show 2 ≤ 16777216; omega)
        simp! only [mb_law_0, E12, dx, t3, l2, ad]
      rw [forL_nx (ε1 := E12 x d rows sd us zs fd r8 (some (.dic false kvs)) (some (.lst ((fxr (numV f) dn).map rowC))) (some (.str y)) r12) (h1 := h) rfl bd, e, List.append_assoc]
      rfl
  obtain ⟨r', e⟩ := key zs [] r11 (fun z hz => hz) (by simpa using lz)
  exact ⟨r', e⟩
theorem inner (sy : Sy rows sd) (l10 : rows.length ≤ 10) (nn : SY.NoNeg rows) (sf : Sy rs fd) (lrs : rs.length ≤ 100) (zu : ∀ z ∈ zs, z ∈ uns rows) (lz : zs.length ≤ 5) (own_zs : ∀ z, z ∈ own rows zs ↔ z ∈ zs) (un5 : ∀ z ∈ uns rows, z ∈ nm5) (r5 : ∀ r ∈ rows, In5 r) (O : Onr rows ([] :: zs) rs)
    (y : D) (k : Cell) (t : EH) (r8 r9 r10 r11 r12 : Option D) (hk : BagI k) (ht : t.all pureC = true) : ∃ (q9 q10 q11 q12 : Option D) (k' : Cell) (t' : EH), mb_law_2 (E12 x d rows sd us zs fd (some y) r9 r10 r11 r12) (k :: t) = some (.nx (E12 x d rows sd us zs fd (some y) q9 q10 q11 q12), k' :: t') ∧ BagI k' ∧ t'.all pureC = true := by
  have p9 : ∀ h : EH, dPow h (.int 10) (.int 9) = some (.int 1000000000) := fun h => pow_c (by decide) (by decide)
  obtain ⟨ps, k1, eps, e1, hk1⟩ := lcL_nums (g := mgName 11) (e := me_law_1) (ε := E12 x d rows sd us zs fd (some y) r9 r10 none r12) zs (fun z _ k t hk => by
    obtain ⟨i, k1, e1, hi, hk1⟩ := near_ok hk t
    obtain ⟨gd, k2, e2, hg, hk2⟩ := any_v hk1 (ds := [.int 1, .int 1, .int 2, .int 1000000000]) (by simp) (by simp) (by simp [PD.noRef]) t
    obtain ⟨g, rfl⟩ : ∃ g : Int, gd = .int g := by
      simp only [List.mem_cons, List.not_mem_nil, or_false] at hg
      rcases hg with rfl | rfl | rfl | rfl <;> exact ⟨_, rfl⟩
    have mu : ∀ h : EH, dMul h (.int i) (.int g) = some (.int (i * g)) := fun h => mul_int (cmul_l ⟨by omega, by omega⟩)
    refine ⟨E12 x d rows sd us zs fd (some y) r9 r10 (some (.str z)) r12, i * g, k2, rfl, ?_, hk2⟩
    have t2 : ∀ (a b : D) (h : EH), tupK [a, b] h = some (.ok (.tup [a, b]), h) := fun a b h => tupK_ok (by show 2 ≤ 16777216; omega)
    simp! only [me_law_1, E12, e_near, e_any, e1, p9, e2, mu, t2]) k t hk
  obtain ⟨kvs, f, dp, N, hf⟩ := dictP_ok ps
  rw [eps] at N hf
  obtain ⟨φ, hφ⟩ : ∃ φ, φ = numV f := ⟨_, rfl⟩
  have lk := lcK_ok (vs := [11]) (ε := E12 x d rows sd us zs fd (some y) r9 r10 r11 r12) (h := k :: t) (h' := k1 :: t) e1 (by
    have := congrArg List.length eps
    rw [List.length_map] at this
    rw [List.length_map]; omega)
  have zne : ∀ z ∈ zs, z ≠ [] := fun z hz => (uns_mem.mp (zu z hz)).1
  have s1 : msAsg (mCall dDictP (mCons (mLc [11] (miL (mVar 6)) (mgName 11) mYes me_law_1) mNil)) (mgName 9) (E12 x d rows sd us zs fd (some y) r9 r10 r11 r12) (k :: t) = some (.nx (E12 x d rows sd us zs fd (some y) (some (.dic false kvs)) r10 r11 r12), k1 :: t) := by
    refine asg_run' (i := 9) (d := .dic false kvs) ?_
    rw [call_ap, cons_ap, lc_ap, show miL (mVar 6) (E12 x d rows sd us zs fd (some y) r9 r10 r11 r12) (k :: t) = some (.ok (zs.map .str), _) from rfl, bR_ok, lk, bR_ok, consK1_ap, nil_ap, bR_ok, consK2_ap, bR_ok, callK_ap, dp]
    rfl
  obtain ⟨q11, e3⟩ := fix_loop (x := x) (d := d) (sd := sd) (fd := fd) (rows := rows) (us := us) (zs := zs) N (fun z hz => ⟨zne z hz, (hf z).mpr hz⟩) (by omega) (r8 := some y) (r11 := r11) (r12 := r12) (h := k1 :: t)
  rw [← hφ] at e3
  have lfx := fxr_len φ zs
  have hn : ∀ i j c, (i, j, c) ∈ rows ++ fxr φ zs → i ∈ lns ∧ j ∈ lns := fun i j c h => by
    rcases List.mem_append.mp h with h | h
    · exact ⟨nm5_lns _ (r5 _ h).1, nm5_lns _ (r5 _ h).2⟩
    · obtain ⟨z, hz, e⟩ := fxr_mem.mp h
      have hz5 := nm5_lns _ (un5 z (zu z hz))
      rcases e with e | e
      · cases e
        exact ⟨hz5, by decide⟩
      · cases e
        exact ⟨by decide, hz5⟩
  obtain ⟨kb, cb, hb⟩ := bds hn
  obtain ⟨due, hdue⟩ : ∃ due : Bool, due = !kb.isEmpty := ⟨_, rfl⟩
  rw [← hdue] at hb
  have sa := fun h : EH => add_rows (h := h) (a := rows) (b := fxr φ zs) (by omega)
  obtain ⟨H, hH⟩ : ∃ H : EH, H = k1 :: t := ⟨_, rfl⟩
  have hT : H ++ [.dic false []] = k1 :: (t ++ [.dic false []]) := by rw [hH]; rfl
  have pT : (t ++ [Cell.dic false []]).all pureC = true := by rw [List.all_append, ht]; rfl
  have s4 : msAsg (mBin dNeEmp (mCallP F__law_bounds (mCons (mBin dAdd (mVar 3) (mVar 10)) mNil)) mDnew) (mgName 12) (E12 x d rows sd us zs fd (some y) (some (.dic false kvs)) (some (.lst ((fxr φ zs).map rowC))) q11 r12) (k1 :: t) = some (.nx (E12 x d rows sd us zs fd (some y) (some (.dic false kvs)) (some (.lst ((fxr φ zs).map rowC))) q11 (some (.bl due))), k1 :: (t ++ [.dic false []])) := by
    rw [← hT]
    refine asg_run' ?_
    rw [bin_ap, callP_ap, cons_ap, bin_ap, show mVar 3 (E12 x d rows sd us zs fd (some y) (some (.dic false kvs)) (some (.lst ((fxr φ zs).map rowC))) q11 r12) (k1 :: t) = some (.ok (.lst (rows.map rowC)), _) from rfl, bR_ok, binK1_ap, show mVar 10 (E12 x d rows sd us zs fd (some y) (some (.dic false kvs)) (some (.lst ((fxr φ zs).map rowC))) q11 r12) (k1 :: t) = some (.ok (.lst ((fxr φ zs).map rowC)), _) from rfl, bR_ok, binK2_ap, sa, rt_some, bR_ok, consK1_ap, nil_ap, bR_ok, consK2_ap, bR_ok, cb, bR_ok, binK1_ap, ← hH, bu (d := .non), bR_ok, binK2_ap, neEmp, ← hdue]
    rfl
  obtain ⟨c1, d1, h1⟩ := contO sf lrs N (by omega)
  obtain ⟨rs2, e2, eo2, sy2, l2, O2, in2⟩ := on_ok (x := .tup (zs.map .str)) sy (by omega) nn (us := zs) (.inr rfl) un5
  obtain ⟨c2, d2, h2⟩ := contO sy2 l2 N (by omega)
  have O2' : Onr rows ([] :: zs) rs2 := ⟨fun r hr => by
    obtain ⟨a1, a2, a3⟩ := O2.at_ r hr
    have conv : ∀ z, z ∈ [] :: own rows zs → z ∈ [] :: zs := fun z hz => by
      rcases List.mem_cons.mp hz with rfl | hz
      · exact List.mem_cons_self
      · exact List.mem_cons_of_mem _ ((own_zs z).mp hz)
    exact ⟨conv _ a1, conv _ a2, a3⟩, fun i hi j hj w h ne => by
    have conv : ∀ z, z ∈ [] :: zs → z ∈ [] :: own rows zs := fun z hz => by
      rcases List.mem_cons.mp hz with rfl | hz
      · exact List.mem_cons_self
      · exact List.mem_cons_of_mem _ ((own_zs z).mpr hz)
    exact O2.has i (conv i hi) j (conv j hj) w h ne⟩
  have h0 : φ [] = 0 := by rw [hφ]; exact if_pos rfl
  have eqd : ∀ (c : Bool) (rr : List Row), Onr rows ([] :: zs) rr → (c = true ↔ (∀ z ∈ uns rr, ∃ x, f z = some x) ∧ SY.Sat rr (numV f)) → c = due := fun c rr O h => by
    have h3 := on_sat (φ := φ) h0 nn O
    have h4 : c = true ↔ due = true := by
      rw [h, hb, ← h3, ← hφ]
      exact ⟨fun z => z.2, fun z => ⟨fun v hv => (hf v).mpr (on_uns O v hv), z⟩⟩
    cases c <;> cases due <;> simp_all
  have c1d := eqd c1 rs O h1
  have c2d := eqd c2 rs2 O2' h2
  subst c1d
  subst c2d
  have nsd := sy.no
  have mo : ∀ (ε : Ev) (h : EH) (a : M (List D)), a ε h = some (.ok [.tup (zs.map .str)], h) → mepK "System" "on" SZ.F_System_on a ε sd h = some (.ok e2, h) := fun ε h a ha => by
    obtain ⟨k9, bd9, b9, rfl, _⟩ := sy
    unfold syO at *
    rw [mepK_ok (by rfl), ha, bR_ok]
    exact mepK2_ok (by show (PD.noRef _ && (PD.noRef.go (zs.map .str) && true)) = true; rw [nsd, no_names]; rfl) eo2
  refine ⟨some (.dic false kvs), some (.lst ((fxr φ zs).map rowC)), q11, some (.bl c2), k1, t ++ [.dic false []], ?_, hk1, pT⟩
  unfold mb_law_2
  rw [sq_then s1]
  rw [sq_then (show msAsg (mLst mNil) (mgName 10) _ _ = some (.nx (E12 x d rows sd us zs fd (some y) (some (.dic false kvs)) (some (.lst [])) r11 r12), k1 :: t) from rfl)]
  rw [sq_then (for_run (show miL (mVar 6) _ _ = some (.ok (zs.map .str), k1 :: t) from rfl) e3)]
  rw [sq_then s4]
  have lk2 := like_ok (h := k1 :: (t ++ [.dic false []])) (bl2 c2) (by decide)
  have m2 := mo (E12 x d rows sd us zs fd (some y) (some (.dic false kvs)) (some (.lst ((fxr φ zs).map rowC))) q11 (some (.bl c2))) (k1 :: (t ++ [.dic false []])) (mCons (mCall dTuple (mCons (mVar 6) mNil)) mNil) rfl
  simp only [E12] at m2
  simp! only [E12, e_on, e_cont, e_like, d1, m2, d2, lk2]
theorem inners (sy : Sy rows sd) (l10 : rows.length ≤ 10) (nn : SY.NoNeg rows) (sf : Sy rs fd) (lrs : rs.length ≤ 100) (zu : ∀ z ∈ zs, z ∈ uns rows) (lz : zs.length ≤ 5) (own_zs : ∀ z, z ∈ own rows zs ↔ z ∈ zs) (un5 : ∀ z ∈ uns rows, z ∈ nm5) (r5 : ∀ r ∈ rows, In5 r) (O : Onr rows ([] :: zs) rs) :
    ∀ (ds : List D) (k : Cell) (t : EH) (r8 r9 r10 r11 r12 : Option D), BagI k → t.all pureC = true → ∃ (q8 q9 q10 q11 q12 : Option D) (k' : Cell) (t' : EH), forL (mgName 8) mb_law_2 ds (E12 x d rows sd us zs fd r8 r9 r10 r11 r12) (k :: t) = some (.nx (E12 x d rows sd us zs fd q8 q9 q10 q11 q12), k' :: t') ∧ BagI k' ∧ t'.all pureC = true
  | [], k, t, r8, r9, r10, r11, r12, hk, ht => ⟨r8, r9, r10, r11, r12, k, t, rfl, hk, ht⟩
  | y :: ds, k, t, r8, r9, r10, r11, r12, hk, ht => by
    obtain ⟨q9, q10, q11, q12, k1, t1, e1, hk1, ht1⟩ := inner (x := x) (d := d) (us := us) sy l10 nn sf lrs zu lz own_zs un5 r5 O y k t r8 r9 r10 r11 r12 hk ht
    obtain ⟨p8, p9, p10, p11, p12, k2, t2, e2, hk2, ht2⟩ := inners sy l10 nn sf lrs zu lz own_zs un5 r5 O ds k1 t1 (some y) q9 q10 q11 q12 hk1 ht1
    exact ⟨p8, p9, p10, p11, p12, k2, t2, (forL_nx (ε1 := E12 x d rows sd us zs fd (some y) r9 r10 r11 r12) (h1 := k :: t) rfl e1).trans e2, hk2, ht2⟩
end
def lnm : List Nm := [[97], [98], [49, 46, 107, 101, 121], [50, 46, 101, 110, 100], [122, 122]]
theorem mepOn {rows : List Row} {sd x e : D} (sy : Sy rows sd) (nx : PD.noRef x = true) (eo : SZ.F_System_on [sd, x] = some (.ok e)) (ε : Ev) (h : EH) (a : M (List D)) (ha : a ε h = some (.ok [x], h)) : mepK "System" "on" SZ.F_System_on a ε sd h = some (.ok e, h) := by
  have nsd := sy.no
  obtain ⟨k9, bd9, b9, rfl, _⟩ := sy
  unfold syO at *
  rw [mepK_ok (by rfl), ha, bR_ok]
  exact mepK2_ok (by show (PD.noRef _ && (PD.noRef x && true)) = true; rw [nsd, nx]; rfl) eo
theorem lturn {x : D} (d : D) (k : Cell) (t : EH) (r : Ev) (hk : BagI k) (ht : t.all pureC = true) (hr : r.length = 11) : ∃ (ε1 r' : Ev) (k' : Cell) (t' : EH), mgName 2 d (some x :: some (.ref 0) :: r) (k :: t) = some (ε1, k :: t) ∧
    (mb_law_5 ε1 (k :: t) = some (.nx (some x :: some (.ref 0) :: r'), k' :: t') ∨ mb_law_5 ε1 (k :: t) = some (.ct (some x :: some (.ref 0) :: r'), k' :: t')) ∧ r'.length = 11 ∧ BagI k' ∧ t'.all pureC = true := by
  match r, hr with
  | [r2, r3, r4, r5, r6, r7, r8, r9, r10, r11, r12], _ =>
  obtain ⟨p, k1, e1, p0, p1, hk1⟩ := pull_v hk (n := 6) (by decide) (by decide) t
  obtain ⟨n, rfl⟩ : ∃ n : Nat, p = (n : Int) := ⟨p.toNat, by omega⟩
  obtain ⟨rows, k2, e2, lr, hr5, hk2⟩ := some_comps hk1 (n := 1 + n) (by omega) t
  rw [show ((1 + n : Nat) : Int) = 1 + (n : Int) from by omega] at e2
  have l10 : rows.length ≤ 10 := by omega
  have hp2 : (k2 :: t : EH).all pureC = true := by rw [List.all_cons, bag_pure hk2, ht]; rfl
  obtain ⟨sd, mk, sy⟩ := sys_mk (x := .lst (rows.map rowC)) (.inl rfl) (by omega) (fun r hr => ⟨okU5 _ (hr5 r hr).1.1, okU5 _ (hr5 r hr).1.2⟩) hp2
  have hn : ∀ i j c, (i, j, c) ∈ rows → i ∈ lns ∧ j ∈ lns := fun i j c h => ⟨nm5_lns _ (hr5 _ h).1.1, nm5_lns _ (hr5 _ h).1.2⟩
  obtain ⟨kb, cb, hb⟩ := bds hn
  have un5 : ∀ z ∈ uns rows, z ∈ nm5 := fun z hz => by
    obtain ⟨_, r, hr, h⟩ := uns_mem.mp hz
    rcases h with rfl | rfl
    · exact (hr5 r hr).1.1
    · exact (hr5 r hr).1.2
  obtain ⟨H, hH⟩ : ∃ H : EH, H = k2 :: t := ⟨_, rfl⟩
  obtain ⟨T, hTd⟩ : ∃ T : EH, T = t ++ [.dic false []] := ⟨_, rfl⟩
  have hT : H ++ [.dic false []] = k2 :: T := by rw [hH, hTd]; rfl
  have pT : T.all pureC = true := by rw [hTd, List.all_append, ht]; rfl
  have s1 : msAsg (mCallI F__law_some_comparisons (mCons (mVar 1) (mCons (mBin dAdd (mC (.int 1)) (mCallI F__law_pull (mCons (mVar 1) (mCons (mC (.int 6)) mNil)))) mNil))) (mgName 3) [some x, some (.ref 0), some d, r3, r4, r5, r6, r7, r8, r9, r10, r11, r12] (k :: t) = some (.nx [some x, some (.ref 0), some d, some (.lst (rows.map rowC)), r4, r5, r6, r7, r8, r9, r10, r11, r12], k2 :: t) := by
    simp! only [e_pull, e_comps, e1, e2]
  have s2 : msAsg (mMkP "System" [] F_System_init (mCons (mVar 3) mNil)) (mgName 4) [some x, some (.ref 0), some d, some (.lst (rows.map rowC)), r4, r5, r6, r7, r8, r9, r10, r11, r12] (k2 :: t) = some (.nx [some x, some (.ref 0), some d, some (.lst (rows.map rowC)), some sd, r5, r6, r7, r8, r9, r10, r11, r12], k2 :: t) := by
    simp! only [e_init, mk]
  have b3 : mBin dEqEmp (mCallP F__law_bounds (mCons (mVar 3) mNil)) mDnew [some x, some (.ref 0), some d, some (.lst (rows.map rowC)), some sd, r5, r6, r7, r8, r9, r10, r11, r12] (k2 :: t) = some (.ok (.bl kb.isEmpty), k2 :: T) := by
    rw [bin_ap, callP_ap, cons_ap, show mVar 3 [some x, some (.ref 0), some d, some (.lst (rows.map rowC)), some sd, r5, r6, r7, r8, r9, r10, r11, r12] (k2 :: t) = some (.ok (.lst (rows.map rowC)), _) from rfl, bR_ok, consK1_ap, nil_ap, bR_ok, consK2_ap, bR_ok, cb, bR_ok, binK1_ap, ← hH, bu (d := .non), bR_ok, binK2_ap, eqEmp, hT]
    rfl
  unfold mb_law_5
  by_cases nn : SY.NoNeg rows
  · have ke : kb.isEmpty = false := by
      have := hb.mpr nn
      cases h : kb.isEmpty with
      | false => rfl
      | true => rw [h] at this; cases this
    rw [ke] at b3
    have s3 : msIf (mTst (mBin dEqEmp (mCallP F__law_bounds (mCons (mVar 3) mNil)) mDnew)) msCt msNil [some x, some (.ref 0), some d, some (.lst (rows.map rowC)), some sd, r5, r6, r7, r8, r9, r10, r11, r12] (k2 :: t) = some (.nx [some x, some (.ref 0), some d, some (.lst (rows.map rowC)), some sd, r5, r6, r7, r8, r9, r10, r11, r12], k2 :: T) := by
      rw [sif_ap, tst_ap, b3]; rfl
    -- some
    obtain ⟨us, k3, sl, e3, hk3⟩ := lcL_pullF (g := mgName 11) (t := mt_law_4) (e := mVar 11) D.str D.str (ε := [some x, some (.ref 0), some d, some (.lst (rows.map rowC)), some sd, r5, r6, r7, r8, r9, r10, none, r12]) lnm (fun z _ k t hk => by
      obtain ⟨p, k1, e1, _, _, hk1⟩ := pull_v hk (n := 2) (by decide) (by decide) t
      refine ⟨[some x, some (.ref 0), some d, some (.lst (rows.map rowC)), some sd, r5, r6, r7, r8, r9, r10, some (.str z), r12], decide (p = 0), k1, rfl, ?_, rfl, hk1⟩
      simp! only [mt_law_4, e_pull, e1]) k2 T hk2
    have lus : us.length ≤ 5 := sl.length_le
    have lk3 := lcK_ok (vs := [11]) (ε := [some x, some (.ref 0), some d, some (.lst (rows.map rowC)), some sd, r5, r6, r7, r8, r9, r10, r11, r12]) (h := k2 :: T) (h' := k3 :: T) e3 (by rw [List.length_map]; omega)
    have s4 : msAsg (mLc [11] (miL (mLst (mCons (mC (.str [97])) (mCons (mC (.str [98])) (mCons (mC (.str [49, 46, 107, 101, 121])) (mCons (mC (.str [50, 46, 101, 110, 100])) (mCons (mC (.str [122, 122])) mNil))))))) (mgName 11) mt_law_4 (mVar 11)) (mgName 5) [some x, some (.ref 0), some d, some (.lst (rows.map rowC)), some sd, r5, r6, r7, r8, r9, r10, r11, r12] (k2 :: T) = some (.nx [some x, some (.ref 0), some d, some (.lst (rows.map rowC)), some sd, some (.lst (us.map .str)), r6, r7, r8, r9, r10, r11, r12], k3 :: T) := by
      refine asg_run' ?_
      rw [lc_ap, show miL (mLst (mCons (mC (.str [97])) (mCons (mC (.str [98])) (mCons (mC (.str [49, 46, 107, 101, 121])) (mCons (mC (.str [50, 46, 101, 110, 100])) (mCons (mC (.str [122, 122])) mNil)))))) [some x, some (.ref 0), some d, some (.lst (rows.map rowC)), some sd, r5, r6, r7, r8, r9, r10, r11, r12] (k2 :: T) = some (.ok (lnm.map .str), _) from rfl, bR_ok, lk3]
    -- own
    obtain ⟨zs, hzs⟩ : ∃ zs, zs = us.filter fun z => decide (z ∈ uns rows) := ⟨_, rfl⟩
    have su := fun (ε : Ev) (h : EH) => uns_m sy (by omega) (a := mNil) (ε := ε) (h := h) rfl
    have lc5 := lcK_ok (vs := [11]) (ε := [some x, some (.ref 0), some d, some (.lst (rows.map rowC)), some sd, some (.lst (us.map .str)), r6, r7, r8, r9, r10, r11, r12]) (lcL_filf (h := k3 :: T) (g := mgName 11) (t := mt_law_3) (e := mVar 11) (ε := [some x, some (.ref 0), some d, some (.lst (rows.map rowC)), some sd, some (.lst (us.map .str)), r6, r7, r8, r9, r10, none, r12]) D.str D.str (fun z => decide (z ∈ uns rows)) (xs := us) fun z _ => ⟨[some x, some (.ref 0), some d, some (.lst (rows.map rowC)), some sd, some (.lst (us.map .str)), r6, r7, r8, r9, r10, some (.str z), r12], rfl, by
      simp! only [mt_law_3, e_uns, su, in_strsL], fun _ => rfl⟩) (by rw [List.length_map]; exact Nat.le_trans (List.length_filter_le _ _) (Nat.le_trans lus (by decide)))
    rw [← hzs] at lc5
    have s5 : msAsg (mLc [11] (miL (mVar 5)) (mgName 11) mt_law_3 (mVar 11)) (mgName 6) [some x, some (.ref 0), some d, some (.lst (rows.map rowC)), some sd, some (.lst (us.map .str)), r6, r7, r8, r9, r10, r11, r12] (k3 :: T) = some (.nx [some x, some (.ref 0), some d, some (.lst (rows.map rowC)), some sd, some (.lst (us.map .str)), some (.lst (zs.map .str)), r7, r8, r9, r10, r11, r12], k3 :: T) := by
      refine asg_run' ?_
      rw [lc_ap, show miL (mVar 5) [some x, some (.ref 0), some d, some (.lst (rows.map rowC)), some sd, some (.lst (us.map .str)), r6, r7, r8, r9, r10, r11, r12] (k3 :: T) = some (.ok (us.map .str), _) from rfl, bR_ok, lc5]
    have zu : ∀ z ∈ zs, z ∈ uns rows := fun z hz => by
      rw [hzs] at hz
      exact of_decide_eq_true (List.mem_filter.mp hz).2
    have own_zs : ∀ z, z ∈ own rows zs ↔ z ∈ zs := fun z => by
      rw [own_mem]
      exact ⟨fun h => h.2, fun h => ⟨zu z h, h⟩⟩
    have lz : zs.length ≤ 5 := by
      rw [hzs]
      exact Nat.le_trans (List.length_filter_le _ _) lus
    -- found
    obtain ⟨rs, fd, eo, sf, lrs, O0, _⟩ := on_ok (x := .lst (zs.map .str)) sy (by omega) nn (us := zs) (.inl rfl) un5
    have O : Onr rows ([] :: zs) rs := ⟨fun r hr => by
      obtain ⟨a1, a2, a3⟩ := O0.at_ r hr
      have conv : ∀ z, z ∈ [] :: own rows zs → z ∈ [] :: zs := fun z hz => by
        rcases List.mem_cons.mp hz with rfl | hz
        · exact List.mem_cons_self
        · exact List.mem_cons_of_mem _ ((own_zs z).mp hz)
      exact ⟨conv _ a1, conv _ a2, a3⟩, fun i hi j hj w h ne => by
      have conv : ∀ z, z ∈ [] :: zs → z ∈ [] :: own rows zs := fun z hz => by
        rcases List.mem_cons.mp hz with rfl | hz
        · exact List.mem_cons_self
        · exact List.mem_cons_of_mem _ ((own_zs z).mpr hz)
      exact O0.has i (conv i hi) j (conv j hj) w h ne⟩
    have s6 : msAsg (mMeP "System" "on" F_System_on (mVar 4) (mCons (mCall dList (mCons (mVar 6) mNil)) mNil)) (mgName 7) [some x, some (.ref 0), some d, some (.lst (rows.map rowC)), some sd, some (.lst (us.map .str)), some (.lst (zs.map .str)), r7, r8, r9, r10, r11, r12] (k3 :: T) = some (.nx (E12 x d rows sd us zs fd r8 r9 r10 r11 r12), k3 :: T) := by
      refine asg_run' (d := fd) ?_
      rw [mep_ap, show mVar 4 [some x, some (.ref 0), some d, some (.lst (rows.map rowC)), some sd, some (.lst (us.map .str)), some (.lst (zs.map .str)), r7, r8, r9, r10, r11, r12] (k3 :: T) = some (.ok sd, _) from rfl, bR_ok]
      exact mepOn sy (x := .lst (zs.map .str)) (no_names zs) eo _ _ _ rfl
    -- open, its unknowns
    obtain ⟨bo, eop, hbo⟩ := open_m sf (h := k3 :: T)
    have hbt : bo = true := hbo.mpr (on_nn nn O)
    rw [hbt] at eop
    have suf := fun (ε : Ev) (h : EH) => uns_m sf lrs (a := mNil) (ε := ε) (h := h) rfl
    have lcu := lcK_ok (vs := [11]) (ε := E12 x d rows sd us zs fd r8 r9 r10 r11 r12) (lcL_mapf (h := k3 :: T) (g := mgName 11) (t := mYes) (e := mBin dInA (mVar 11) (mVar 6)) (ε := E12 x d rows sd us zs fd r8 r9 r10 none r12) D.str (fun z => D.bl (decide (z ∈ zs))) (xs := uns rs) fun z _ => ⟨E12 x d rows sd us zs fd r8 r9 r10 (some (.str z)) r12, rfl, rfl, by
      simp! only [E12, in_strsL]⟩) (by rw [List.length_map]; have := uns_len lrs; omega)
    have alu : ((uns rs).map fun z => decide (z ∈ zs)).all id = true := by
      rw [List.all_map]
      exact List.all_eq_true.mpr fun z hz => decide_eq_true (on_uns O z hz)
    have s7 : msIf (mOr (mNot (mTst (mPrp "System" F_System_is_open (mVar 7)))) (mNot (mTst (mCall dAll (mCons (mLc [11] (miL (mMeP "System" "unknowns" F_System_unknowns (mVar 7) mNil)) (mgName 11) mYes (mBin dInA (mVar 11) (mVar 6))) mNil))))) (msRet (mC (.bl false))) msNil (E12 x d rows sd us zs fd r8 r9 r10 r11 r12) (k3 :: T) = some (.nx (E12 x d rows sd us zs fd r8 r9 r10 r11 r12), k3 :: T) := by
      have v7 : mVar 7 (E12 x d rows sd us zs fd r8 r9 r10 r11 r12) (k3 :: T) = some (.ok fd, k3 :: T) := rfl
      rw [sif_ap, or_ap, not_ap, tst_ap, prp_ap, v7, bR_ok, e_open, eop, bR_ok, tstK_b, bR_ok, notK_ap, bR_ok, show (!true) = false from rfl, orK_f, not_ap, tst_ap, call_ap, cons_ap, lc_ap, il_ap, mep_ap, v7, bR_ok, e_uns, suf, bR_ok, ilK_lst, bR_ok, lcu, bR_ok, consK1_ap, nil_ap, bR_ok, consK2_ap, bR_ok, callK_ap, all_lst (asBs_map _ _), alu, rt_some, bR_ok, tstK_b, bR_ok, notK_ap, bS_ok, show (!true) = false from rfl, sifK_f]
      rfl
    obtain ⟨q8, q9, q10, q11, q12, k4, T4, e8, hk4, pT4⟩ := inners (x := x) (d := d) (us := us) sy l10 nn sf lrs zu lz own_zs un5 (fun r hr => (hr5 r hr).1) O (rngD 0 6) k3 T r8 r9 r10 r11 r12 hk3 pT
    have s8 : msFor (miR1 (mCons (mC (.int 6)) mNil)) (mgName 8) mb_law_2 (E12 x d rows sd us zs fd r8 r9 r10 r11 r12) (k3 :: T) = some (.nx (E12 x d rows sd us zs fd q8 q9 q10 q11 q12), k4 :: T4) := by
      refine for_run ?_ e8
      rw [ir1_ap, cons_ap, c_ap, bR_ok, consK1_ap, nil_ap, bR_ok, consK2_ap, bR_ok, ir1K_ok (j := 6) (by decide)]
      rfl
    -- the system over all its unknowns
    obtain ⟨rs3, d3, eo3, sy3, l3, O3, _⟩ := on_ok (x := .lst ((uns rows).map .str)) sy (by omega) nn (us := uns rows) (.inl rfl) un5
    obtain ⟨c3, eq3, hc3⟩ := eqO sy3 sy l3 (by omega) false
    have all_in : ∀ z, (z = [] ∨ z ∈ uns rows) → z ∈ [] :: own rows (uns rows) := fun z hz => by
      rcases hz with rfl | hz
      · exact List.mem_cons_self
      · exact List.mem_cons_of_mem _ (own_mem.mpr ⟨hz, hz⟩)
    have hc3t : c3 = true := hc3.mpr ⟨fun _ r hr => by
      obtain ⟨i, j, c⟩ := r
      have ip : ∀ z, (z = i ∨ z = j) → z ∈ [] :: own rows (uns rows) := fun z hz => all_in z (by
        by_cases q : z = []
        · exact .inl q
        · exact .inr (uns_mem.mpr ⟨q, _, hr, hz⟩))
      by_cases q : i = j
      · subst q
        exact .inl ⟨rfl, nn _ _ (.one hr)⟩
      · obtain ⟨c', hc', lc'⟩ := O3.has i (ip i (.inl rfl)) j (ip j (.inr rfl)) c (.one hr) q
        exact .inr ⟨c', lc', .one hc'⟩, fun _ r hr => .inr ⟨r.2.2, Int.le_refl _, (O3.at_ r hr).2.2⟩⟩
    rw [hc3t] at eq3
    obtain ⟨rs4, d4, eo4, sy4, l4, O4, _⟩ := on_ok (x := .lst []) sy (by omega) nn (us := []) (.inl rfl) un5
    have u4 : uns rs4 = [] := by
      cases h : uns rs4 with
      | nil => rfl
      | cons z zs' =>
        have := on_uns O4 z (by rw [h]; exact List.mem_cons_self)
        exact absurd (own_mem.mp this).2 List.not_mem_nil
    have su4 := fun (ε : Ev) (h : EH) => uns_m sy4 l4 (a := mNil) (ε := ε) (h := h) rfl
    have s9 : msIf (mOr (mNot (mTst (mBin (eqOF "System" F_System_eq false) (mMeP "System" "on" F_System_on (mVar 4) (mCons (mMeP "System" "unknowns" F_System_unknowns (mVar 4) mNil) mNil)) (mVar 4)))) (mTst (mBin dNe (mCall dLen (mCons (mMeP "System" "unknowns" F_System_unknowns (mMeP "System" "on" F_System_on (mVar 4) (mCons (mLst mNil) mNil)) mNil) mNil)) (mC (.int 0))))) (msRet (mC (.bl false))) msNil (E12 x d rows sd us zs fd q8 q9 q10 q11 q12) (k4 :: T4) = some (.nx (E12 x d rows sd us zs fd q8 q9 q10 q11 q12), k4 :: T4) := by
      have v4 : mVar 4 (E12 x d rows sd us zs fd q8 q9 q10 q11 q12) (k4 :: T4) = some (.ok sd, k4 :: T4) := rfl
      have a3 : mCons (mMeP "System" "unknowns" F_System_unknowns (mVar 4) mNil) mNil (E12 x d rows sd us zs fd q8 q9 q10 q11 q12) (k4 :: T4) = some (.ok [.lst ((uns rows).map .str)], k4 :: T4) := by
        rw [cons_ap, mep_ap, v4, bR_ok, e_uns, su, bR_ok, consK1_ap, nil_ap, bR_ok, consK2_ap]
      have o3 := mepOn sy (x := .lst ((uns rows).map .str)) (no_names (uns rows)) eo3 (E12 x d rows sd us zs fd q8 q9 q10 q11 q12) (k4 :: T4) _ a3
      have o4 := mepOn sy (show PD.noRef (.lst []) = true from rfl) eo4 (E12 x d rows sd us zs fd q8 q9 q10 q11 q12) (k4 :: T4) (mCons (mLst mNil) mNil) rfl
      rw [sif_ap, or_ap, not_ap, tst_ap, bin_ap, mep_ap, v4, bR_ok, e_on, o3, bR_ok, binK1_ap, v4, bR_ok, binK2_ap, e_eq, eq3, rt_some, bR_ok, show (false != true) = true from rfl, tstK_b, bR_ok, notK_ap, bR_ok, show (!true) = false from rfl, orK_f, tst_ap, bin_ap, call_ap, cons_ap, mep_ap, mep_ap, v4, bR_ok, o4, bR_ok, e_uns, su4, bR_ok, consK1_ap, nil_ap, bR_ok, consK2_ap, bR_ok, callK_ap, len_lst, u4]
      rfl
    refine ⟨_, [some d, some (.lst (rows.map rowC)), some sd, some (.lst (us.map .str)), some (.lst (zs.map .str)), some fd, q8, q9, q10, q11, q12], k4, T4, rfl, .inl ?_, rfl, hk4, pT4⟩
    show msSeq _ _ [some x, some (.ref 0), some d, r3, r4, r5, r6, r7, r8, r9, r10, r11, r12] (k :: t) = _
    rw [sq_then s1, sq_then s2, sq_then s3, sq_then s4, sq_then s5, sq_then s6, sq_then s7, sq_then s8, s9]
  · have ke : kb.isEmpty = true := by
      cases h : kb.isEmpty with
      | true => rfl
      | false => exact absurd (hb.mp (by rw [h]; rfl)) nn
    rw [ke] at b3
    refine ⟨_, [some d, some (.lst (rows.map rowC)), some sd, r5, r6, r7, r8, r9, r10, r11, r12], k2, T, rfl, .inr ?_, rfl, hk2, pT⟩
    show msSeq _ _ [some x, some (.ref 0), some d, r3, r4, r5, r6, r7, r8, r9, r10, r11, r12] (k :: t) = _
    rw [sq_then s1, sq_then s2, seq_ap, sif_ap, tst_ap, b3]
    rfl
theorem run_of {x : D} {k : Cell} (e0 : PD.F_draws [x] [] = some (.ok (.ref 0), [k])) (hk : BagI k) : ∃ h', F_law [x] [] = some (.ok (.bl true), h') := by
  obtain ⟨r, k1, T, el, hr, hk1, pT⟩ := forL_bagT (g := mgName 2) (b := mb_law_5) (n := 11) (x := x) lturn (rngD 0 6) k [] [none, none, none, none, none, none, none, none, none, none, none] hk rfl rfl
  have e0' : F__law_draws [x] [] = some (.ok (.ref 0), [k]) := e0
  have r8' : ∀ h : EH, ir1K [.int 6] h = some (.ok (rngD 0 6), h) := fun h => ir1K_ok (j := 6) (by decide)
  refine ⟨[], ?_⟩
  show endI 0 (m_law [some x, none, none, none, none, none, none, none, none, none, none, none, none] []) = _
  have run : m_law [some x, none, none, none, none, none, none, none, none, none, none, none, none] [] = some (.rt (.bl true), k1 :: T) := by
    unfold m_law
    rw [sq_then (show msAsg (mCallI F__law_draws (mCons (mVar 0) mNil)) (mgName 1) _ _ = some (.nx [some x, some (.ref 0), none, none, none, none, none, none, none, none, none, none, none], [k]) from by simp! only [e0'])]
    rw [sq_then (show msFor _ _ mb_law_5 _ _ = _ from by simp! only [r8']; exact el)]
    rfl
  rw [run]
  unfold endI trim frzI frz1I
  simp only [List.length_cons, Nat.add_one_ne_zero, if_false, List.take_zero, List.all_nil, if_true, PD.noRef]
theorem math (ns : List Int) (h1 : ns.length ≤ 63) (h2 : ∀ z ∈ ns, Builtin.Int.intBits z ≤ 1048576) : (∃ h', F_law [.scr (ns.map .int)] [] = some (.ok (.bl true), h')) ∧ ∃ h', F_law [.lst (ns.map .int)] [] = some (.ok (.bl true), h') := by
  obtain ⟨k, e, hk⟩ := draws_ok h1
  obtain ⟨k', e', hk'⟩ := draws_lst h1
  exact ⟨run_of e hk, run_of e' hk'⟩
end K12
theorem PySem.Challenge.cw_lookedrows_k12_whole_projections_holds : PySem.Challenge.rw_lookedrows_k12_whole_projections.Holds :=
  K12.topHolds (K12.fin K12.math)
