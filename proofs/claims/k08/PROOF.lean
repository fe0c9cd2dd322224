import PyProof.Rows.All
import Wide.All
import OpenK.AllK
import Wide.FinOn
import HandS.ForMost
import HandS.ForExc
import HandS.Head0
import HandS.Head1
import HandS.Head2
import HandS.HeadEnd
import HandS.HeadHook1
import HandS.HeadHook2
import HandS.HeadHook3
import HandS.HeadNt
import HandS.HeadHook4
import HandS.ExcField
import HandS.ExcInit
import KE.KSuper
import HandS.WordsExc
import PySem.Challenge.RW_lookedrows_k08_parts_and_values_of_condi
import KE.KDflt
import HandS.Lambda
import HandS.IsInst
import HandS.Deep
import HandS.Wide
import HandS.Codes
import HandS.TupAny
import HandS.Walk
import HandS.Zip
import HandS.RaiseMore
import HandS.CallSlots
import HandS.Defaults
import HandS.EndBits
import HandS.StrMore
import HandS.FStr
import HandS.TupLe
import HandS.Text
import HandS.Star
import HandS.Dict
import HandS.ListItems
import HandS.Property
import HandS.SetTxt0
import HandS.SetFor
import HandS.Strs
import HandS.SortInts
import PyProof.Rows.SortStr
import KE.KSortAsk
import KE.GoesNew
import HandS.Style
import KE.KExcSuper
import HandS.ExcSuper
import HandS.ClsMeth
import HandS.HotCalls
import KE.KTryMore
import HandS.EndTab
import PyProof.InstNe
import HandS.OwnEq
import HandS.TupMul
import PyProof.FactsLen
import PyProof.CallFns
import KE.KFmtOwn
import HandS.GenList
import HandS.SortKw
import HandS.MakeKwOnly
import KE.KSortKeyAny
import KE.KExcInit
import HandS.ExcIs
import KE.KExcIs
import PyProof.SeqRoads
import HandS.TupSets
import HandS.SetBool
import HandS.MakeKw
import KE.IntTextLaws
set_option Elab.async false
set_option linter.all false
set_option maxRecDepth 100000
set_option maxHeartbeats 4000000
namespace PD
open PySem PySem.Spec PyProof.Rows L2
/-- plain data -/
inductive D where
  | non | bl (b : Bool) | int (i : Int) | str (cs : List Nat)
  | tup (ds : List D) | lst (ds : List D)
  /-- a dict: keys of one sign or number (false), tuples of such (true) -/
  | dic (t : Bool) (kvs : List (List Key × D))
  | obj (C : Str) (fs : List (Str × D))
  | ref (n : Nat)
  /-- the law's script -/
  | scr (ds : List D)
  /-- a lambda of the text, with what it captured -/
  | fn (i : Nat) (caps : List D)
  /-- an exception -/
  | exc (C : Str) (fs : List (Str × D))
def clsBody : Stmt → List Stmt
  | .ClassDef _ _ _ body _ _ _ _ _ _ _ => body
  | _ => []
def toS (z : List Nat) : Str := ⟨z.toArray⟩
mutual
def dB (K : PySem.W.Frag) : D → Value → Bool
  | .non, .none => true
  | .bl b, .bool c => b == c
  | .int i, .int j _ => decide (i = j)
  | .str cs, .str y _ => decide (y.cps.toList = cs)
  | .tup ds, .ref a => (match K.lookup a with
    | some ⟨.type c, _, .seq its _, _⟩ => decide (c = "tuple") && (decide (its.size ≤ sizeLine) && dBs K ds its.toList)
    | _ => false)
  | .scr ds, .ref a => (match K.lookup a with
    | some ⟨.type c, none, .seq its _, _⟩ => decide (c = "list") && (decide (its.size ≤ sizeLine) && dBs K ds its.toList)
    | _ => false)
  | _, _ => false
def dBs (K : PySem.W.Frag) : List D → List Value → Bool
  | [], [] => true
  | d :: ds, u :: us => dB K d u && dBs K ds us
  | _, _ => false
end
def gloB (K : PySem.W.Frag) (x : Str) (d : D) : Bool := match PySem.W.nsIn K mainGlobals x with
  | some (some u) => dB K d u
  | _ => false
abbrev AlG : Type := He.AlD × Bool
def obsG (fa : List He.Fa) (fn : List He.DefD) (gs : List (Str × D)) (K : PySem.W.Frag) : AlG := (He.obsD fa fn K, gs.all fun p => gloB K p.1 p.2)
def valG (fn : List He.DefD) : AlG := (He.valD fn, true)
def SaysG (fa : List He.Fa) (fn : List He.DefD) (gs : List (Str × D)) (K : PySem.W.Frag) : Prop := obsG fa fn gs K = valG fn
def entB (K : PySem.W.Frag) : List (List Nat × D) → List DictEntry → Bool
  | [], [] => true
  | p :: r, e :: l => (match e.key with
    | .str y _ => decide (y.cps.toList = p.1)
    | _ => false) && (dB K p.2 e.val && entB K r l)
  | _, _ => false
def dicB (K : PySem.W.Frag) (x : Str) (kvs : List (List Nat × D)) : Bool := match PySem.W.nsIn K mainGlobals x with
  | some (some (.ref d)) => (match K.lookup d with
    | some ⟨_, _, .dict es _, _⟩ => entB K kvs es.toList
    | _ => false)
  | _ => false
abbrev DicD : Type := Str × List (List Nat × D)
abbrev AlG2 : Type := AlG × (Bool × List (Option (List (Option (Str × Int)))))
def obsG2 (fa : List He.Fa) (fn : List He.DefD) (gs : List (Str × D)) (ds : List DicD) (K : PySem.W.Frag) : AlG2 := (obsG fa fn gs K, ds.all (fun p => dicB K p.1 p.2), ds.map fun p => He.dicW K (He.ga K p.1))
def valG2 (fn : List He.DefD) (ds : List DicD) (w : World) : AlG2 := (valG fn, true, ds.map fun p => some (He.keysIn w.params (p.2.map fun q => toS q.1)))
def SaysG2 (fa : List He.Fa) (fn : List He.DefD) (gs : List (Str × D)) (ds : List DicD) (w : World) (K : PySem.W.Frag) : Prop := obsG2 fa fn gs ds K = valG2 fn ds w
abbrev AlG3 : Type := AlG2 × (Bool × List He.FnW)
abbrev FactB : Type := PySem.W.Frag → Bool
def obsG3 (fa : List He.Fa) (fn : List He.DefD) (gs : List (Str × D)) (ds : List DicD) (fx : List FactB) (xd : List He5.DefA) (K : PySem.W.Frag) : AlG3 := (obsG2 fa fn gs ds K, (fx.all (fun f => f K)) && xd.all (fun d => d.ok K), xd.map fun d => He5.fnA K (d.at_ K))
def valG3 (fn : List He.DefD) (ds : List DicD) (xd : List He5.DefA) (w : World) : AlG3 := (valG2 fn ds w, true, xd.map He5.DefA.val)
def SaysG3 (fa : List He.Fa) (fn : List He.DefD) (gs : List (Str × D)) (ds : List DicD) (fx : List FactB) (xd : List He5.DefA) (w : World) (K : PySem.W.Frag) : Prop := obsG3 fa fn gs ds fx xd K = valG3 fn ds xd w
def oexB (K : PySem.W.Frag) (C : Addr) : Bool := (match K.lookup C with
  | some ⟨.type t, _, .cls cd, sl⟩ => decide (t = "type") && (match cd.mro, sl.toList with
    | .ref C' :: bm, [_, _, _, _, some (.builtin n), _] => decide (C' = C) && (decide (n = "ValueError.__new__") && (!cd.hasDel && (cd.hasDict && PySem.HandSPX.refsVE bm)))
    | _, _ => false)
  | _ => false) && (decide (PySem.W.findIn K (.ref C) "__setattr__" = some (some (.builtin "object.__setattr__"))) && (decide (PySem.W.subIn K (.ref C) (.type "BaseException") = some true) && (decide (PySem.W.typeIn K (.ref C) = some (.type "type")) && PySem.W.keepIn K (.ref C))))
def overB (K : PySem.W.Frag) (T C : Addr) : Bool := oexB K C && (decide (PySem.W.ks_superIn K C T "__init__" = some (some (.builtin "ValueError.__init__"))) && (decide (PySem.W.mroIn K C (.ref T) = some true) && (decide (PySem.W.subIn K (.ref C) (.type "ValueError") = some true) && decide (PySem.W.findIn K (.ref C) "code" = some none))))
def initB (K : PySem.W.Frag) (C : Addr) : Bool := decide (PySem.W.findIn K (.ref C) "__init__" = some (some (.ref (He.ma K C "__init__")))) && decide (PySem.W.typeIn K (.ref (He.ma K C "__init__")) = some (.type "function"))
def noB (K : PySem.W.Frag) (C : Addr) (f : Str) : Bool := decide (PySem.W.findIn K (.ref C) f = some none)
/-- a def whose closure has names -/
abbrev FnC : Type := Option (Str × Str × Arguments × FuncBody × Scope × Addr × List Str × Addr)
def fnC (K : PySem.W.Frag) (a : Addr) : FnC := match K.lookup a with
  | some ⟨_, _, .func fd, _⟩ => some (fd.name, fd.qualname, fd.params, fd.body, fd.scope, fd.globals, fd.closure.map (·.1), fd.builtins)
  | _ => none
/-- an __init__ that says super(): its class, its text -/
structure SupD where
  C : Str
  qual : Str
  params : Arguments
  body : List Stmt
  scope : Scope
def SupD.at_ (K : PySem.W.Frag) (d : SupD) : Addr := He.ma K (He.ga K d.C) "__init__"
def SupD.val (d : SupD) : FnC := some ("__init__", d.qual, d.params, .stmts d.body, d.scope, mainGlobals, ["__class__"], builtinsNs)
def supB (K : PySem.W.Frag) (file0 : Str) (d : SupD) : Bool := (match K.lookup (d.at_ K) with
  | some ⟨_, _, .func fd, _⟩ => (match fd.code with
    | .ref cda => PySem.W.codeIn K (.ref cda) d.qual && (match K.lookup cda with
      | some ⟨_, _, .fields vs, _⟩ => (match (vs[2]? : Option Value) with
        | some (.str file _) => file0 == file
        | _ => false)
      | _ => false)
    | _ => false) && ((match fd.closure with
    | [(_, cc)] => (match K.lookup cc with
      | some ⟨_, _, .cell (some (.ref T)), _⟩ => decide (T = He.ga K d.C)
      | _ => false)
    | _ => false) && (match fd.defaults, fd.kwdefaults with
      | .none, .none => true
      | _, _ => false))
  | _ => false) && ((PySem.W.clsIn K (He.ga K d.C)).isSome && (decide (PySem.W.nsIn K mainGlobals "super" = some none) && decide (PySem.W.nsIn K cStatics "thirdparty.any" = some none)))
abbrev AlG4 : Type := AlG3 × (Bool × List FnC)
def obsG4 (fa : List He.Fa) (fn : List He.DefD) (gs : List (Str × D)) (ds : List DicD) (fx : List FactB) (xd : List He5.DefA) (sd : List SupD) (tf : List He.Defn) (file0 : Str) (g : Addr → Option Obj) (K : PySem.W.Frag) : AlG4 := (obsG3 fa fn gs ds fx xd K, (sd.all (fun d => supB K file0 d)) && He.tabsB g tf K, sd.map fun d => fnC K (d.at_ K))
def valG4 (fn : List He.DefD) (ds : List DicD) (xd : List He5.DefA) (sd : List SupD) (w : World) : AlG4 := (valG3 fn ds xd w, true, sd.map SupD.val)
structure SaysG4 (fa : List He.Fa) (fn : List He.DefD) (gs : List (Str × D)) (ds : List DicD) (fx : List FactB) (xd : List He5.DefA) (sd : List SupD) (tf : List He.Defn) (file0 : Str) (w : World) (h : Heap) (K : PySem.W.Frag) : Prop where
  g3 : SaysG3 fa fn gs ds fx xd w K
  sup : ∀ d ∈ sd, supB K file0 d = true ∧ fnC K (d.at_ K) = d.val
  hd : ∀ p ∈ tf, PySem.W.codeHdIn K (He.cT K p).1 (He.cT K p).2 = true
  out : ∀ p ∈ tf, K.lookup (He.cT K p).2 = none
  empty : ∀ p ∈ tf, h.get? (He.cT K p).2 = some { cls := .none, data := .fields #[] }
end PD
namespace PD
open PySem PySem.Spec PyProof.Rows L2
/-- T.__init__ as T's own -/
def clsvB (K : PySem.W.Frag) (T : Addr) : Bool := PySem.W.readsIn K T (.type "type") && (decide (PySem.W.specialIn K (.ref T) "__getattribute__" = some (some (.builtin "type.__getattribute__"))) &&
  ((match PySem.W.findCls K (.ref T) (.type "type") "__init__" with
    | some (.val (.ref f)) => decide (f = He.ma K T "__init__")
    | _ => false) && (decide (PySem.W.typeIn K (.ref (He.ma K T "__init__")) = some (.type "function")) && PySem.W.keepIn K (.ref (He.ma K T "__init__")))))
end PD
namespace PD
open PySem PySem.Spec PyProof.Rows L2
end PD
namespace PD
open PySem PySem.Spec PyProof.Rows L2
def noPos : Pos := ⟨0, 0, 0, 0⟩
theorem run_join3 {α β β' γ γ' δ : Type} {X : Option α} {p : α → β} {q : α → β'} {a : α → γ} {b : α → γ'} {c : α → δ} {z : β} {y : β'} {u : γ} {v : γ'} {t : δ} (h1 : X.map (fun s => (p s, q s, a s)) = some (z, y, u)) (h2 : X.map (fun s => (p s, q s, b s)) = some (z, y, v)) (hc : ∀ s, a s = u → b s = v → c s = t) :
    X.map (fun s => (p s, q s, c s)) = some (z, y, t) := by
  cases X with
  | none => cases h1
  | some s =>
    have e1 := Option.some.inj h1
    have e2 := Option.some.inj h2
    have g1 : p s = z := congrArg (fun r => r.1) e1
    have g2 : q s = y := congrArg (fun r => r.2.1) e1
    have g3 : a s = u := congrArg (fun r => r.2.2) e1
    have g4 : b s = v := congrArg (fun r => r.2.2) e2
    show some (p s, q s, c s) = _
    rw [g1, g2, hc s g3 g4]
end PD
namespace PD
open PySem PySem.Spec PyProof.Rows L2
def plainO (g : Addr → Option Obj) : Value → Bool
  | .ref a => (match g a with
    | some ⟨_, _, .func _, _⟩ => false
    | some ⟨_, _, .cls _, _⟩ => false
    | some ⟨_, _, .fields _, _⟩ => false
    | _ => true)
  | _ => false
def entS (ok : List Str) (g : Addr → Option Obj) (e : DictEntry) : List Addr := match e.key with
  | .str y _ => if ok.contains y || plainO g e.val then He.refV e.val else []
  | _ => He.refV e.val
def refsS (ok : List Str) (g : Addr → Option Obj) (o : Obj) : List Addr := match o.data with
  | .dict es _ => es.toList.flatMap (entS ok g)
  | _ => He.refsD o
def growS (ok : List Str) (g : Addr → Option Obj) (as : List Addr) : List Addr := (as ++ as.flatMap fun a => match g a with
  | some o => refsS ok g o
  | none => []).eraseDups
def asS_ (ok : List Str) (g : Addr → Option Obj) : Nat → List Addr
  | 0 => [mainGlobals]
  | n + 1 => growS ok g (asS_ ok g n)
def asX (ok : List Str) (n : Nat) (g : Addr → Option Obj) : List Addr := asS_ ok g n ++ [cStatics]
section
variable {L : (Addr → Option Obj) → List Addr} {fa : List He.Fa} {fn : List He.DefD} {gs : List (Str × D)} {ds : List DicD} {fx : List FactB} {xd : List He5.DefA} {sd : List SupD} {tf : List He.Defn} {file0 : Str} {w : World} {h : Heap}
def obsGG6 (L : (Addr → Option Obj) → List Addr) (fa : List He.Fa) (fn : List He.DefD) (gs : List (Str × D)) (ds : List DicD) (fx : List FactB) (xd : List He5.DefA) (sd : List SupD) (tf : List He.Defn) (file0 : Str) (g : Addr → Option Obj) : AlG4 := obsG4 fa fn gs ds fx xd sd tf file0 g (He.frT g (L g))
theorem saysG6_of (e : obsGG6 L fa fn gs ds fx xd sd tf file0 h.get? = valG4 fn ds xd sd w) : SaysG4 fa fn gs ds fx xd sd tf file0 w h (He.frT h.get? (L h.get?)) := by
  have e1 : obsG3 fa fn gs ds fx xd (He.frT h.get? (L h.get?)) = valG3 fn ds xd w := congrArg (fun z : AlG4 => z.1) e
  have e2 : ((sd.all (fun d => supB (He.frT h.get? (L h.get?)) file0 d)) && He.tabsB h.get? tf (He.frT h.get? (L h.get?))) = true := congrArg (fun z : AlG4 => z.2.1) e
  have e3 : (sd.map fun d => fnC (He.frT h.get? (L h.get?)) (d.at_ (He.frT h.get? (L h.get?)))) = sd.map SupD.val := congrArg (fun z : AlG4 => z.2.2) e
  obtain ⟨h1, h2⟩ := Bool.and_eq_true_iff.mp e2
  have key : ∀ p ∈ tf, PySem.W.codeHdIn (He.frT h.get? (L h.get?)) (He.cT (He.frT h.get? (L h.get?)) p).1 (He.cT (He.frT h.get? (L h.get?)) p).2 = true ∧ ∃ o, h.get? (He.cT (He.frT h.get? (L h.get?)) p).2 = some o ∧ He.emptyTab o = true := fun p hp => by
    obtain ⟨h3, h4⟩ := Bool.and_eq_true_iff.mp (List.all_eq_true.mp h2 p hp)
    refine ⟨h3, ?_⟩
    cases q : h.get? (He.cT (He.frT h.get? (L h.get?)) p).2 with
    | none => rw [q] at h4; cases h4
    | some o => rw [q] at h4; exact ⟨o, rfl, h4⟩
  exact ⟨e1, fun d hd => ⟨List.all_eq_true.mp h1 d hd, List.map_inj_left.mp e3 d hd⟩, fun p hp => (key p hp).1, fun p hp => by
    obtain ⟨_, o, q, z⟩ := key p hp
    exact He.frT_none q z, fun p hp => by
    obtain ⟨_, o, q, z⟩ := key p hp
    rw [q, He.emptyTab_eq z]⟩
def hookG6 (L : (Addr → Option Obj) → List Addr) (fa : List He.Fa) (fn : List He.DefD) (gs : List (Str × D)) (ds : List DicD) (fx : List FactB) (xd : List He5.DefA) (sd : List SupD) (tf : List He.Defn) (file0 : Str) : PySem.W.Hook where
  α := AlG4
  obs := fun s => obsGG6 L fa fn gs ds fx xd sd tf file0 s.heap.get?
  val := fun w => valG4 fn ds xd sd w
  says := fun w h => ∃ K : PySem.W.Frag, K.In h ∧ SaysG4 fa fn gs ds fx xd sd tf file0 w h K
  of := fun _ _ e => ⟨_, He.frT_in, saysG6_of e⟩
  keeps := fun _ _ _ ⟨K, hK, c⟩ k => ⟨K, PySem.W.Frag.In.keeps hK k, ⟨c.g3, c.sup, c.hd, c.out, fun p hp => k _ _ (c.empty p hp)⟩⟩
theorem obsGG6_eq {g : Addr → Option Obj} {s : Shared} (h : ∀ a, g a = s.heap.get? a) : obsGG6 L fa fn gs ds fx xd sd tf file0 g = (hookG6 L fa fn gs ds fx xd sd tf file0).obs s := by
  have e : g = s.heap.get? := funext h
  rw [e] <;> rfl
end
theorem obs_join6 {L : (Addr → Option Obj) → List Addr} {fa : List He.Fa} {fn : List He.DefD} {gs : List (Str × D)} {ds : List DicD} {fx : List FactB} {xd : List He5.DefA} {sd : List SupD} {tf : List He.Defn} {f : Str} {w : World} {g : Addr → Option Obj}
    (h1 : obsGG6 L fa fn gs ds [] [] [] [] f g = valG4 fn ds [] [] w) (h2 : obsGG6 L [] [] [] [] fx xd sd tf f g = valG4 [] [] xd sd w) : obsGG6 L fa fn gs ds fx xd sd tf f g = valG4 fn ds xd sd w := by
  have e1 := congrArg (fun z : AlG4 => z.1.1) h1
  have e2 := congrArg (fun z : AlG4 => z.1.2) h2
  have e3 := congrArg (fun z : AlG4 => z.2) h2
  exact Prod.ext (Prod.ext e1 e2) e3
end PD
namespace PX
open PySem PySem.Spec PyProof.Rows L2
end PX
namespace PD
open PySem PySem.Spec PyProof.Rows L2 PX
end PD
namespace PD
open PySem
end PD
namespace PD
open PySem PySem.Spec PyProof.Rows L2
end PD
namespace PD
open PySem PySem.Spec PyProof.Rows L2
end PD
namespace K08
open PySem PySem.Spec PyProof.Rows L2 PD
def top (i : Nat) : Stmt := PySem.Challenge.pw_lookedrows_k08_parts_and_values_of_condi.main.body.getD i (.Pass ⟨0, 0, 0, 0⟩)
def g_GREATEST : D := (.int 1000000000000000000000000000000)
def g_LETTERS : D := (.str [97, 98, 99, 100, 101, 102, 103, 104, 105, 106, 107, 108, 109, 110, 111, 112, 113, 114, 115, 116, 117, 118, 119, 120, 121, 122])
def g_RESERVED : D := (.tup [(.str [97, 110, 100]), (.str [102, 111, 117, 110, 100]), (.str [107, 101, 121]), (.str [110, 101, 120, 116]), (.str [110, 111, 116]), (.str [111, 114]), (.str [111, 119, 110]), (.str [115, 101, 116]), (.str [116, 114, 117, 101]), (.str [119, 104, 101, 114, 101])])
def g_MOST_DEPTH : D := (.int 6)
def kv_SIGNS : List (List Nat × D) := [([97, 116, 109, 111, 115, 116], (.str [60, 61])), ([98, 101, 108, 111, 119], (.str [60])), ([115, 97, 109, 101], (.str [61]))]
abbrev s__law_draws : Stmt := top 25
abbrev s__law_pull : Stmt := top 26
abbrev s__law_any : Stmt := top 27
abbrev s__law_reserved : Stmt := top 29
abbrev s__law_new_names : Stmt := top 30
abbrev s__law_near : Stmt := top 31
abbrev s__law_some_value : Stmt := top 32
abbrev s__law_some_compared : Stmt := top 33
abbrev s__law_some_condition : Stmt := top 34
abbrev s_all_of : Stmt := top 23
abbrev s__law_like : Stmt := top 28
abbrev s_inner_parts : Stmt := top 17
abbrev s_is_integer : Stmt := top 8
abbrev s_is_constant : Stmt := top 9
abbrev s_is_name : Stmt := top 7
abbrev s_is_column : Stmt := top 10
abbrev s_is_plain : Stmt := top 11
abbrev s_is_value : Stmt := top 12
abbrev s_has_form : Stmt := top 16
abbrev s_wrong_path : Stmt := top 18
abbrev s_check_condition : Stmt := top 19
abbrev s_all_parts : Stmt := top 20
abbrev s_parts : Stmt := top 21
abbrev s_values_in : Stmt := top 22
abbrev s__law_all_parts : Stmt := top 36
abbrev s__law_values : Stmt := top 35
abbrev s_law : Stmt := top 37
abbrev s_InvalidCondition_init : Stmt := (clsBody (top 2)).getD 0 (.Pass ⟨0, 0, 0, 0⟩)
abbrev s_TableError_init : Stmt := (clsBody (top 1)).getD 0 (.Pass ⟨0, 0, 0, 0⟩)
def dd__law_draws : He.DefD := ⟨("_law_draws", none), "_law_draws", "_law_draws", defArgs s__law_draws, defBody s__law_draws, defScope s__law_draws, [], []⟩
def dd__law_pull : He.DefD := ⟨("_law_pull", none), "_law_pull", "_law_pull", defArgs s__law_pull, defBody s__law_pull, defScope s__law_pull, [], []⟩
def dd__law_any : He.DefD := ⟨("_law_any", none), "_law_any", "_law_any", defArgs s__law_any, defBody s__law_any, defScope s__law_any, [], []⟩
def dd__law_reserved : He.DefD := ⟨("_law_reserved", none), "_law_reserved", "_law_reserved", defArgs s__law_reserved, defBody s__law_reserved, defScope s__law_reserved, [], []⟩
def dd__law_new_names : He.DefD := ⟨("_law_new_names", none), "_law_new_names", "_law_new_names", defArgs s__law_new_names, defBody s__law_new_names, defScope s__law_new_names, [], []⟩
def dd__law_near : He.DefD := ⟨("_law_near", none), "_law_near", "_law_near", defArgs s__law_near, defBody s__law_near, defScope s__law_near, [], []⟩
def dd__law_some_value : He.DefD := ⟨("_law_some_value", none), "_law_some_value", "_law_some_value", defArgs s__law_some_value, defBody s__law_some_value, defScope s__law_some_value, [], []⟩
def dd__law_some_compared : He.DefD := ⟨("_law_some_compared", none), "_law_some_compared", "_law_some_compared", defArgs s__law_some_compared, defBody s__law_some_compared, defScope s__law_some_compared, [], []⟩
def dd__law_some_condition : He.DefD := ⟨("_law_some_condition", none), "_law_some_condition", "_law_some_condition", defArgs s__law_some_condition, defBody s__law_some_condition, defScope s__law_some_condition, [], []⟩
def dd_all_of : He.DefD := ⟨("all_of", none), "all_of", "all_of", defArgs s_all_of, defBody s_all_of, defScope s_all_of, [], []⟩
def dd__law_like : He.DefD := ⟨("_law_like", none), "_law_like", "_law_like", defArgs s__law_like, defBody s__law_like, defScope s__law_like, [], []⟩
def dd_inner_parts : He.DefD := ⟨("inner_parts", none), "inner_parts", "inner_parts", defArgs s_inner_parts, defBody s_inner_parts, defScope s_inner_parts, [], []⟩
def dd_is_integer : He.DefD := ⟨("is_integer", none), "is_integer", "is_integer", defArgs s_is_integer, defBody s_is_integer, defScope s_is_integer, [], []⟩
def dd_is_constant : He.DefD := ⟨("is_constant", none), "is_constant", "is_constant", defArgs s_is_constant, defBody s_is_constant, defScope s_is_constant, [], []⟩
def dd_is_name : He.DefD := ⟨("is_name", none), "is_name", "is_name", defArgs s_is_name, defBody s_is_name, defScope s_is_name, [], []⟩
def dd_is_column : He.DefD := ⟨("is_column", none), "is_column", "is_column", defArgs s_is_column, defBody s_is_column, defScope s_is_column, [], []⟩
def dd_is_plain : He.DefD := ⟨("is_plain", none), "is_plain", "is_plain", defArgs s_is_plain, defBody s_is_plain, defScope s_is_plain, [], []⟩
def dd_is_value : He.DefD := ⟨("is_value", none), "is_value", "is_value", defArgs s_is_value, defBody s_is_value, defScope s_is_value, [], []⟩
def dd_has_form : He.DefD := ⟨("has_form", none), "has_form", "has_form", defArgs s_has_form, defBody s_has_form, defScope s_has_form, [], []⟩
def dd_wrong_path : He.DefD := ⟨("wrong_path", none), "wrong_path", "wrong_path", defArgs s_wrong_path, defBody s_wrong_path, defScope s_wrong_path, [], []⟩
def dd_check_condition : He.DefD := ⟨("check_condition", none), "check_condition", "check_condition", defArgs s_check_condition, defBody s_check_condition, defScope s_check_condition, [], []⟩
def dd_all_parts : He.DefD := ⟨("all_parts", none), "all_parts", "all_parts", defArgs s_all_parts, defBody s_all_parts, defScope s_all_parts, [], []⟩
def dd_parts : He.DefD := ⟨("parts", none), "parts", "parts", defArgs s_parts, defBody s_parts, defScope s_parts, [], []⟩
def dd_values_in : He.DefD := ⟨("values_in", none), "values_in", "values_in", defArgs s_values_in, defBody s_values_in, defScope s_values_in, [], []⟩
def dd__law_all_parts : He.DefD := ⟨("_law_all_parts", none), "_law_all_parts", "_law_all_parts", defArgs s__law_all_parts, defBody s__law_all_parts, defScope s__law_all_parts, [], []⟩
def dd__law_values : He.DefD := ⟨("_law_values", none), "_law_values", "_law_values", defArgs s__law_values, defBody s__law_values, defScope s__law_values, [], []⟩
def dd_law : He.DefD := ⟨("law", none), "law", "law", defArgs s_law, defBody s_law, defScope s_law, [], []⟩
def xd_InvalidCondition_init : He5.DefA := { at_ := fun K => He.ma K (He.ga K "InvalidCondition") "__init__", name := "__init__", qual := "InvalidCondition.__init__", params := defArgs s_InvalidCondition_init, body := defBody s_InvalidCondition_init, scope := defScope s_InvalidCondition_init }
def fx_o_InvalidCondition : FactB := fun K => overB K (He.ga K "TableError") (He.ga K "InvalidCondition")
def fx_i_InvalidCondition : FactB := fun K => initB K (He.ga K "InvalidCondition")
def fx_na_InvalidCondition : FactB := fun K => noB K (He.ga K "InvalidCondition") "path"
def sd_TableError : SupD := ⟨"TableError", "TableError.__init__", defArgs s_TableError_init, defBody s_TableError_init, defScope s_TableError_init⟩
def fx_cf_TableError : FactB := fun K => clsvB K (He.ga K "TableError")
def fn : List He.DefD := [dd__law_draws, dd__law_pull, dd__law_any, dd__law_reserved, dd__law_new_names, dd__law_near, dd__law_some_value, dd__law_some_compared, dd__law_some_condition, dd_all_of, dd__law_like, dd_inner_parts, dd_is_integer, dd_is_constant, dd_is_name, dd_is_column, dd_is_plain, dd_is_value, dd_has_form, dd_wrong_path, dd_check_condition, dd_all_parts, dd_parts, dd_values_in, dd__law_all_parts, dd__law_values, dd_law]
def fa : List He.Fa := [.glo "_law_draws", .glo "_law_pull", .glo "_law_any", .glo "_law_reserved", .glo "_law_new_names", .glo "_law_near", .glo "_law_some_value", .glo "_law_some_compared", .glo "_law_some_condition", .glo "all_of", .glo "_law_like", .glo "inner_parts", .glo "is_integer", .glo "is_constant", .glo "is_name", .glo "is_column", .glo "is_plain", .glo "is_value", .glo "has_form", .glo "wrong_path", .glo "check_condition", .glo "all_parts", .glo "parts", .glo "values_in", .glo "_law_all_parts", .glo "_law_values", .glo "law", .glo "InvalidCondition", .glo "TableError", .free "list", .free "int", .free "len", .free "range", .free "isinstance", .free "str", .free "bool", .free "tuple", .free "zip", .free "all"]
def gs : List (Str × D) := [("GREATEST", g_GREATEST), ("LETTERS", g_LETTERS), ("RESERVED", g_RESERVED), ("MOST_DEPTH", g_MOST_DEPTH)]
def dsL : List DicD := [("SIGNS", kv_SIGNS)]
def fxL : List FactB := [fx_o_InvalidCondition, fx_i_InvalidCondition, fx_na_InvalidCondition, fx_cf_TableError]
def xdL : List He5.DefA := [xd_InvalidCondition_init]
def sdL : List SupD := [sd_TableError]
def tf : List He.Defn := []
abbrev R : PySem.W.OpenRow := PySem.W.OpenLaw.row PySem.Challenge.rw_lookedrows_k08_parts_and_values_of_condi
def okn0 : List Str := ["_law_draws", "_law_pull", "_law_any", "_law_reserved", "_law_new_names", "_law_near", "_law_some_value", "_law_some_compared", "_law_some_condition", "all_of", "_law_like", "inner_parts", "is_integer", "is_constant", "is_name", "is_column", "is_plain", "is_value", "has_form", "wrong_path", "check_condition", "all_parts", "parts", "values_in", "_law_all_parts", "_law_values", "law", "InvalidCondition", "TableError", "GREATEST"]
def okn1 : List Str := ["LETTERS", "RESERVED", "MOST_DEPTH", "SIGNS", "__init__", "__eq__", "__ne__", "super"]
def L6 : (Addr → Option Obj) → List Addr := asX (okn0 ++ okn1) 6
def hk : PySem.W.Hook := hookG6 L6 fa fn gs dsL fxL xdL sdL tf R.prog.main.file
def ob (s : PySem.W.SharedT) : AlG4 := obsGG6 L6 fa fn gs dsL fxL xdL sdL tf R.prog.main.file (HandSHeadRun.getT s)
theorem ob_eq (s : PySem.W.SharedT) : ob s = hk.obs s.abs := obsGG6_eq (HandSHeadRun.getT_eq s)
def loose0 : List Str := ["TableError", "InvalidCondition", "LETTERS", "RESERVED", "GREATEST", "is_name", "is_integer", "is_constant", "is_column", "is_plain", "is_value", "MOST_DEPTH", "SIGNS", "has_form", "inner_parts", "wrong_path", "check_condition", "all_parts", "parts", "values_in", "all_of", "_law_draws", "_law_pull", "_law_any", "_law_like", "_law_reserved", "_law_new_names", "_law_near", "_law_some_value", "_law_some_compared"]
def loose1 : List Str := ["_law_some_condition", "_law_values", "_law_all_parts"]
abbrev loose : List Str := loose0 ++ loose1
def hkA : PySem.W.Hook := hookG6 L6 fa fn gs dsL [] [] [] [] R.prog.main.file
def obA (s : PySem.W.SharedT) : AlG4 := obsGG6 L6 fa fn gs dsL [] [] [] [] R.prog.main.file (HandSHeadRun.getT s)
def hkB : PySem.W.Hook := hookG6 L6 [] [] [] [] fxL xdL sdL tf R.prog.main.file
def obB (s : PySem.W.SharedT) : AlG4 := obsGG6 L6 [] [] [] [] fxL xdL sdL tf R.prog.main.file (HandSHeadRun.getT s)
end K08
namespace K08
open PySem PySem.Spec PyProof.Rows L2 PD
theorem run0A (w : World) : HandSHeadRun.RunEq R (PySem.W.view R.prog [37]) hkA obA 6000 loose (w.withFollow "special-get-raises" false) := fun os => by kernel_rfl
theorem run0B (w : World) : HandSHeadRun.RunEq R (PySem.W.view R.prog [37]) hkB obB 6000 loose (w.withFollow "special-get-raises" false) := fun os => by kernel_rfl
theorem run1A (w : World) : HandSHeadRun.RunEq R (PySem.W.view R.prog [37]) hkA obA 6000 loose (w.withFollow "special-get-raises" true) := fun os => by kernel_rfl
theorem run1B (w : World) : HandSHeadRun.RunEq R (PySem.W.view R.prog [37]) hkB obB 6000 loose (w.withFollow "special-get-raises" true) := fun os => by kernel_rfl
theorem runJ {w : World} (h1 : HandSHeadRun.RunEq R (PySem.W.view R.prog [37]) hkA obA 6000 loose w) (h2 : HandSHeadRun.RunEq R (PySem.W.view R.prog [37]) hkB obB 6000 loose w) : HandSHeadRun.RunEq R (PySem.W.view R.prog [37]) hk ob 6000 loose w := fun os => run_join3 (h1 os) (h2 os) fun s ha hb => obs_join6 ha hb
theorem run (w : World) : HandSHeadRun.RunEq R (PySem.W.view R.prog [37]) hk ob 6000 loose w := PySem.W.byRow2 "special-get-raises" (P := fun w => HandSHeadRun.RunEq R (PySem.W.view R.prog [37]) hk ob 6000 loose w) (fun w => runJ (run0A w) (run0B w)) (fun w => runJ (run1A w) (run1B w)) w
end K08
namespace PD
open PySem PySem.Spec PyProof.Rows L2
/-- the text of a lambda; caps: the names that it captures -/
structure LamD where
  qual : Str
  params : Arguments
  body : Expr
  scope : Scope
  caps : List Str
  /-- it has a parameter with the default 0 -/
  df : Bool
/-- the law's lambdas; the tables of code objects of the defs that make them, with the name of what they make -/
class LamTab where
  lam : Nat → LamD
  T : List (Addr × Str)
variable [LamTab]
/-- where one stands: the written part, the module's names, what is not to be touched, the cells' addresses, the heap -/
structure RC where
  K : PySem.W.Frag
  mg : Str → Option Value
  B : Addr → Prop
  ρ : List Addr
  H : Hp
def RC.fr (c : RC) (a : Addr) : Prop := ¬ c.B a ∧ a ∉ c.ρ
/-- the tables are right -/
def RC.tabs (c : RC) : Prop := ∀ p ∈ LamTab.T, LamX.TabS c.H p.1 p.2
structure MgX where
  mg : Str → Option Value
  tabs : Prop
structure MgX.Le (a b : MgX) : Prop where
  e : a.mg = b.mg
  t : b.tabs → a.tabs
theorem MgX.Le.trans {a b d : MgX} (x : MgX.Le a b) (y : MgX.Le b d) : MgX.Le a d := ⟨x.e.trans y.e, fun h => x.t (y.t h)⟩
def RC.mgx (c : RC) : MgX := ⟨c.mg, c.tabs⟩
/-- the module's names are mg, the tables are right -/
abbrev MgE (c : RC) (mg : Str → Option Value) : Prop := MgX.Le c.mgx ⟨mg, True⟩
theorem MgX.Le.e' {c c' : RC} (h : MgX.Le c'.mgx c.mgx) : c'.mg = c.mg := h.e
theorem MgX.Le.mge {c : RC} {mg : Str → Option Value} (h : MgE c mg) : c.mg = mg := h.e
abbrev RC.put (c : RC) (p : Addr) (o : HO) : RC := { c with H := upd c.H p o }
/-- a list that stands locked, or in the written part -/
def ScrL (K : PySem.W.Frag) (H : Hp) (a : Addr) (xs : List V) : Prop := (∃ o, H a = some (.frz o (.lst xs))) ∨
    ∃ (o : Obj) (its : Array Value) (n : Nat), K.lookup a = some o ∧ o.cls = .type "list" ∧ o.dict = none ∧ o.data = .seq its n ∧ its.size ≤ sizeLine ∧ Vals xs its.toList
theorem ScrL.sq {K : PySem.W.Frag} {H : Hp} {a : Addr} {xs : List V} (h : ScrL K H a xs) : SqL K H a xs := by
  rcases h with h | h
  · exact .inl (.inr h)
  · exact .inr h
/-- the dict's pairs -/
def isDic (t : Bool) (o : HO) (zs : List (List Key × V)) : Prop := (t = false ∧ ∃ ys : List (Key × V), o = .dK ys ∧ zs = ys.map fun p => ([p.1], p.2)) ∨ (t = true ∧ o = .dT zs)
theorem isDic.tbl {t : Bool} {o : HO} {zs : List (List Key × V)} (h : isDic t o zs) : ∀ ps, o ≠ .tbl ps := fun ps e => by
  subst e
  rcases h with ⟨_, _, e, _⟩ | ⟨_, e⟩ <;> cases e
theorem isDic.tup {t : Bool} {o : HO} {zs : List (List Key × V)} (h : isDic t o zs) : ∀ xs, o ≠ .tup xs := fun ps e => by
  subst e
  rcases h with ⟨_, _, e, _⟩ | ⟨_, e⟩ <;> cases e
theorem isDic.frz {t : Bool} {o : HO} {zs : List (List Key × V)} (h : isDic t o zs) : ∀ a b, o ≠ .frz a b := fun a b e => by
  subst e
  rcases h with ⟨_, _, e, _⟩ | ⟨_, e⟩ <;> cases e
theorem isDic.lst {t : Bool} {o : HO} {zs : List (List Key × V)} (h : isDic t o zs) : ∀ xs, o ≠ .lst xs := fun ps e => by
  subst e
  rcases h with ⟨_, _, e, _⟩ | ⟨_, e⟩ <;> cases e
/-- the closure has the captured names alone, each with a cell of its own -/
def ClOk (caps : List Str) (cl : List (Str × Addr)) : Prop := (∀ y b, cl.lookup y = some b → y ∈ caps) ∧ ∀ y y' b, cl.lookup y = some b → cl.lookup y' = some b → y = y'
def lamHO (l : LamD) (cl : List (Str × Addr)) (dV : Value) (c' f : Addr) : HO := .ext fun h => ClOk l.caps cl ∧ ∃ doc pm ctv, h.get? f = some (PySem.W.kdv_obj "<lambda>" l.qual l.params (.expr l.body) l.scope cl dV doc pm c' ctv)
def celHO (b : Addr) (o : Obj) : HO := .ext fun h => h.get? b = some o
/-- the tuple of the default -/
def DfR (H : Hp) (fr : Addr → Prop) (df : Bool) (dV : Value) : Prop := (df = false ∧ dV = .none) ∨ (df = true ∧ ∃ (dt : Addr) (t : Tok), dV = .ref dt ∧ H dt = some (celHO dt (PySem.W.kdv_tup [.int 0 t])) ∧ fr dt)
/-- the captured cells -/
inductive CapsR (H : Hp) (cl : List (Str × Addr)) (fr : Addr → Prop) (df : Bool) (dV : Value) : List Str → List V → Prop
  | nil : DfR H fr df dV → CapsR H cl fr df dV [] []
  | cons {y : Str} {ys : List Str} {b : Addr} {o : Obj} {u : Value} {v : V} {vs : List V} : cl.lookup y = some b → H b = some (celHO b o) → fr b → o.data = .cell (some u) → RelV v u → CapsR H cl fr df dV ys vs → CapsR H cl fr df dV (y :: ys) (v :: vs)
theorem CapsR.imp {H H' : Hp} {cl : List (Str × Addr)} {fr fr' : Addr → Prop} {df : Bool} {dV : Value} (k : ∀ b o, H b = some (celHO b o) → fr b → H' b = some (celHO b o) ∧ fr' b) : ∀ {ys : List Str} {vs : List V}, CapsR H cl fr df dV ys vs → CapsR H' cl fr' df dV ys vs
  | _, _, .nil (.inl h) => .nil (.inl h)
  | _, _, .nil (.inr ⟨h, dt, t, e, h1, h2⟩) => .nil (.inr ⟨h, dt, t, e, (k _ _ h1 h2).1, (k _ _ h1 h2).2⟩)
  | _, _, .cons h1 h2 h3 h4 h5 t => .cons h1 (k _ _ h2 h3).1 (k _ _ h2 h3).2 h4 h5 (t.imp k)
/-- an exception's object -/
def excHO (a Ca d : Addr) : HO := .ext fun h => ∃ o vs, h.get? a = some o ∧ o.cls = .ref Ca ∧ o.dict = some d ∧ o.data = .fields vs
theorem lamHO_tbl {l : LamD} {cl : List (Str × Addr)} {dV : Value} {c' f : Addr} (ps : Array Value) : lamHO l cl dV c' f ≠ .tbl ps := fun z => by
  unfold lamHO at z
  cases z
theorem celHO_tbl {b : Addr} {o : Obj} (ps : Array Value) : celHO b o ≠ .tbl ps := fun z => by
  unfold celHO at z
  cases z
theorem excHO_tbl {a Ca d : Addr} (ps : Array Value) : excHO a Ca d ≠ .tbl ps := fun z => by
  unfold excHO at z
  cases z
mutual
inductive Rep (c : RC) : D → V → Prop
  | non : Rep c .non .non
  | bl (b : Bool) : Rep c (.bl b) (.bl b)
  | int (i : Int) : Rep c (.int i) (.int i)
  | str (cs : List Nat) : Rep c (.str cs) (.str ⟨cs.toArray⟩)
  | tup {a : Addr} {ds : List D} {xs : List V} : SqT c.K c.H a xs → Reps c ds xs → Rep c (.tup ds) (.ref a)
  | lst {a : Addr} {ds : List D} {xs : List V} : c.H a = some (.lst xs) → c.fr a → Reps c ds xs → Rep c (.lst ds) (.ref a)
  | scr {a : Addr} {ds : List D} {xs : List V} : ScrL c.K c.H a xs → Reps c ds xs → Rep c (.scr ds) (.ref a)
  | obj {a Ca dx : Addr} {C : Str} {fs : List (Str × D)} {vs : List (Str × V)} : c.mg C = some (.ref Ca) → c.H a = some (.ins Ca dx vs) → c.fr a → RepF c fs vs → Rep c (.obj C fs) (.ref a)
  | ref {n : Nat} {a : Addr} : c.ρ[n]? = some a → Rep c (.ref n) (.ref a)
  | fn {f c' : Addr} {i : Nat} {cl : List (Str × Addr)} {dV : Value} {caps : List D} {vs : List V} : c.H f = some (lamHO (LamTab.lam i) cl dV c' f) → c.fr f → c.H c' = some (LamX.CodeO c' (LamTab.lam i).qual) → c.fr c' → CapsR c.H cl c.fr (LamTab.lam i).df dV (LamTab.lam i).caps vs → Reps c caps vs → Rep c (.fn i caps) (.ref f)
  | exc {a Ca dx : Addr} {C : Str} {fs : List (Str × D)} {vs : List (Str × V)} : c.mg C = some (.ref Ca) → c.H a = some (excHO a Ca dx) → c.fr a → c.H dx = some (.xd vs) → c.fr dx → RepF c fs vs → Rep c (.exc C fs) (.ref a)
  | dic {a : Addr} {t : Bool} {o : HO} {kvs : List (List Key × D)} {zs : List (List Key × V)} : c.H a = some o → isDic t o zs → c.fr a → RepP c kvs zs → Rep c (.dic t kvs) (.ref a)
inductive Reps (c : RC) : List D → List V → Prop
  | nil : Reps c [] []
  | cons {d : D} {ds : List D} {v : V} {vs : List V} : Rep c d v → Reps c ds vs → Reps c (d :: ds) (v :: vs)
inductive RepP (c : RC) : List (List Key × D) → List (List Key × V) → Prop
  | nil : RepP c [] []
  | cons {f : List Key} {d : D} {ds : List (List Key × D)} {v : V} {vs : List (List Key × V)} : Rep c d v → RepP c ds vs → RepP c ((f, d) :: ds) ((f, v) :: vs)
inductive RepF (c : RC) : List (Str × D) → List (Str × V) → Prop
  | nil : RepF c [] []
  | cons {f : Str} {d : D} {ds : List (Str × D)} {v : V} {vs : List (Str × V)} : Rep c d v → RepF c ds vs → RepF c ((f, d) :: ds) ((f, v) :: vs)
end
/-- later: what is not a cell stays -/
structure RC.Le (c c' : RC) : Prop where
  K : c'.K = c.K
  mg : MgX.Le c'.mgx c.mgx
  B : ∀ a, c.B a → c'.B a
  Bn : ∀ a, c'.B a → c.B a ∨ c.H a = none
  dom : ∀ a o, c.H a = some o → ∃ o', c'.H a = some o'
  pre : ∀ (n : Nat) (a : Addr), c.ρ[n]? = some a → c'.ρ[n]? = some a
  keep : ∀ a o, c.H a = some o → (∀ ps, o ≠ .tbl ps) → a ∉ c.ρ → c'.H a = some o ∧ a ∉ c'.ρ
  tup : ∀ a xs, Rd c.H a (.tup xs) → Rd c'.H a (.tup xs)
  frz : ∀ a o u, c.H a = some (.frz o u) → c'.H a = some (.frz o u)
theorem RC.Le.refl (c : RC) : c.Le c := ⟨rfl, ⟨rfl, fun h => h⟩, fun _ h => h, fun _ h => .inl h, fun _ o h => ⟨o, h⟩, fun _ _ h => h, fun _ _ h _ n => ⟨h, n⟩, fun _ _ h => h, fun _ _ _ h => h⟩
theorem RC.Le.trans {a b c : RC} (x : a.Le b) (y : b.Le c) : a.Le c :=
  ⟨y.K.trans x.K, y.mg.trans x.mg, fun p h => y.B p (x.B p h), fun p h => (by
    rcases y.Bn p h with h | h
    · exact x.Bn p h
    · cases q : a.H p with
      | none => exact .inr rfl
      | some o =>
        obtain ⟨o', e⟩ := x.dom p o q
        rw [h] at e
        cases e), fun p o h => let ⟨o', e⟩ := x.dom p o h; y.dom p o' e, fun n p h => y.pre n p (x.pre n p h), fun p o h t n => let ⟨h1, n1⟩ := x.keep p o h t n; y.keep p o h1 t n1, fun p xs h => y.tup p xs (x.tup p xs h), fun p o u h => y.frz p o u (x.frz p o u h)⟩
theorem RC.Le.fr {c c' : RC} (l : c.Le c') {a : Addr} {o : HO} (h : c.H a = some o) (ht : ∀ ps, o ≠ .tbl ps) (f : c.fr a) : c'.fr a :=
  ⟨fun z => (l.Bn a z).elim f.1 fun q => (by rw [h] at q; cases q), (l.keep a o h ht f.2).2⟩
theorem RC.Le.lstH {c c' : RC} (l : c.Le c') {a : Addr} {xs : List V} (h : c.H a = some (.lst xs)) (f : c.fr a) : c'.H a = some (.lst xs) ∧ c'.fr a :=
  ⟨(l.keep a _ h (fun _ z => by cases z) f.2).1, l.fr h (fun _ z => by cases z) f⟩
theorem RC.Le.scrL {c c' : RC} (l : c.Le c') {a : Addr} {xs : List V} (h : ScrL c.K c.H a xs) : ScrL c'.K c'.H a xs := by
  rcases h with ⟨o, h⟩ | h
  · exact .inl ⟨o, l.frz a o _ h⟩
  · rw [l.K]; exact .inr h
theorem RC.Le.sqT {c c' : RC} (l : c.Le c') {a : Addr} {xs : List V} (h : SqT c.K c.H a xs) : SqT c'.K c'.H a xs := by
  rcases h with h | h
  · exact .inl (l.tup a xs h)
  · rw [l.K]; exact .inr h
/-- later, but for what is not to be touched -/
structure RC.LeW (c c' : RC) : Prop where
  K : c'.K = c.K
  mg : c'.mg = c.mg
  Bn : ∀ a, c'.B a → c.B a ∨ c.H a = none
  pre : ∀ (n : Nat) (a : Addr), c.ρ[n]? = some a → c'.ρ[n]? = some a
  dom : ∀ a o, c.H a = some o → ∃ o', c'.H a = some o'
  keep : ∀ a o, c.H a = some o → (∀ ps, o ≠ .tbl ps) → ¬ c.B a → a ∉ c.ρ → c'.H a = some o ∧ a ∉ c'.ρ
  tup : ∀ a xs, Rd c.H a (.tup xs) → Rd c'.H a (.tup xs)
  frz : ∀ a o u, c.H a = some (.frz o u) → c'.H a = some (.frz o u)
theorem RC.Le.toW {c c' : RC} (l : c.Le c') : c.LeW c' := ⟨l.K, l.mg.e, l.Bn, l.pre, l.dom, fun a o h t _ n => l.keep a o h t n, l.tup, l.frz⟩
theorem RC.LeW.trans {a b c : RC} (x : a.LeW b) (y : b.LeW c) : a.LeW c :=
  ⟨y.K.trans x.K, y.mg.trans x.mg, fun p h => (by
    rcases y.Bn p h with h | h
    · exact x.Bn p h
    · cases q : a.H p with
      | none => exact .inr rfl
      | some o =>
        obtain ⟨o', e⟩ := x.dom p o q
        rw [h] at e
        cases e), fun n p h => y.pre n p (x.pre n p h), fun p o h => let ⟨o', e⟩ := x.dom p o h; y.dom p o' e, fun p o h t nb n => (by
    obtain ⟨h1, n1⟩ := x.keep p o h t nb n
    refine y.keep p o h1 t (fun z => ?_) n1
    rcases x.Bn p z with q | q
    · exact nb q
    · rw [h] at q; cases q), fun p xs h => y.tup p xs (x.tup p xs h), fun p o u h => y.frz p o u (x.frz p o u h)⟩
theorem RC.LeW.fr {c c' : RC} (l : c.LeW c') {a : Addr} {o : HO} (h : c.H a = some o) (ht : ∀ ps, o ≠ .tbl ps) (f : c.fr a) : c'.fr a :=
  ⟨fun z => (l.Bn a z).elim f.1 fun q => (by rw [h] at q; cases q), (l.keep a o h ht f.1 f.2).2⟩
theorem RC.LeW.lstH {c c' : RC} (l : c.LeW c') {a : Addr} {xs : List V} (h : c.H a = some (.lst xs)) (f : c.fr a) : c'.H a = some (.lst xs) ∧ c'.fr a :=
  ⟨(l.keep a _ h (fun _ z => by cases z) f.1 f.2).1, l.fr h (fun _ z => by cases z) f⟩
theorem RC.LeW.scrL {c c' : RC} (l : c.LeW c') {a : Addr} {xs : List V} (h : ScrL c.K c.H a xs) : ScrL c'.K c'.H a xs := by
  rcases h with ⟨o, h⟩ | h
  · exact .inl ⟨o, l.frz a o _ h⟩
  · rw [l.K]; exact .inr h
theorem RC.LeW.sqT {c c' : RC} (l : c.LeW c') {a : Addr} {xs : List V} (h : SqT c.K c.H a xs) : SqT c'.K c'.H a xs := by
  rcases h with h | h
  · exact .inl (l.tup a xs h)
  · rw [l.K]; exact .inr h
mutual
theorem Rep.leW {c c' : RC} (l : c.LeW c') : ∀ {d : D} {v : V}, Rep c d v → Rep c' d v
  | _, _, .non => .non
  | _, _, .bl b => .bl b
  | _, _, .int i => .int i
  | _, _, .str cs => .str cs
  | _, _, .tup h r => .tup (l.sqT h) (Reps.leW l r)
  | _, _, .lst h f r => .lst (l.lstH h f).1 (l.lstH h f).2 (Reps.leW l r)
  | _, _, .scr h r => .scr (l.scrL h) (Reps.leW l r)
  | _, _, .obj m h f r => .obj (by rw [l.mg]; exact m) (l.keep _ _ h (fun _ z => by cases z) f.1 f.2).1 (l.fr h (fun _ z => by cases z) f) (RepF.leW l r)
  | _, _, .ref h => .ref (l.pre _ _ h)
  | _, _, .dic h i f r => .dic (l.keep _ _ h i.tbl f.1 f.2).1 i (l.fr h i.tbl f) (RepP.leW l r)
  | _, _, .fn h f h2 f2 cr r => .fn (l.keep _ _ h lamHO_tbl f.1 f.2).1 (l.fr h lamHO_tbl f) (l.keep _ _ h2 LamX.codeO_ne f2.1 f2.2).1 (l.fr h2 LamX.codeO_ne f2) (cr.imp fun b o hb fb => ⟨(l.keep _ _ hb celHO_tbl fb.1 fb.2).1, l.fr hb celHO_tbl fb⟩) (Reps.leW l r)
  | _, _, .exc m h f h2 f2 r => .exc (by rw [l.mg]; exact m) (l.keep _ _ h excHO_tbl f.1 f.2).1 (l.fr h excHO_tbl f) (l.keep _ _ h2 (fun _ z => by cases z) f2.1 f2.2).1 (l.fr h2 (fun _ z => by cases z) f2) (RepF.leW l r)
theorem Reps.leW {c c' : RC} (l : c.LeW c') : ∀ {ds : List D} {vs : List V}, Reps c ds vs → Reps c' ds vs
  | _, _, .nil => .nil
  | _, _, .cons h t => .cons (Rep.leW l h) (Reps.leW l t)
theorem RepP.leW {c c' : RC} (l : c.LeW c') : ∀ {ds : List (List Key × D)} {vs : List (List Key × V)}, RepP c ds vs → RepP c' ds vs
  | _, _, .nil => .nil
  | _, _, .cons h t => .cons (Rep.leW l h) (RepP.leW l t)
theorem RepF.leW {c c' : RC} (l : c.LeW c') : ∀ {ds : List (Str × D)} {vs : List (Str × V)}, RepF c ds vs → RepF c' ds vs
  | _, _, .nil => .nil
  | _, _, .cons h t => .cons (Rep.leW l h) (RepF.leW l t)
end
mutual
theorem Rep.le {c c' : RC} (l : c.Le c') : ∀ {d : D} {v : V}, Rep c d v → Rep c' d v
  | _, _, .non => .non
  | _, _, .bl b => .bl b
  | _, _, .int i => .int i
  | _, _, .str cs => .str cs
  | _, _, .tup h r => .tup (l.sqT h) (Reps.le l r)
  | _, _, .lst h f r => .lst (l.lstH h f).1 (l.lstH h f).2 (Reps.le l r)
  | _, _, .scr h r => .scr (l.scrL h) (Reps.le l r)
  | _, _, .obj m h f r => .obj (by rw [l.mg.e']; exact m) (l.keep _ _ h (fun _ z => by cases z) f.2).1 (l.fr h (fun _ z => by cases z) f) (RepF.le l r)
  | _, _, .ref h => .ref (l.pre _ _ h)
  | _, _, .dic h i f r => .dic (l.keep _ _ h i.tbl f.2).1 i (l.fr h i.tbl f) (RepP.le l r)
  | _, _, .fn h f h2 f2 cr r => .fn (l.keep _ _ h lamHO_tbl f.2).1 (l.fr h lamHO_tbl f) (l.keep _ _ h2 LamX.codeO_ne f2.2).1 (l.fr h2 LamX.codeO_ne f2) (cr.imp fun b o hb fb => ⟨(l.keep _ _ hb celHO_tbl fb.2).1, l.fr hb celHO_tbl fb⟩) (Reps.le l r)
  | _, _, .exc m h f h2 f2 r => .exc (by rw [l.mg.e']; exact m) (l.keep _ _ h excHO_tbl f.2).1 (l.fr h excHO_tbl f) (l.keep _ _ h2 (fun _ z => by cases z) f2.2).1 (l.fr h2 (fun _ z => by cases z) f2) (RepF.le l r)
theorem Reps.le {c c' : RC} (l : c.Le c') : ∀ {ds : List D} {vs : List V}, Reps c ds vs → Reps c' ds vs
  | _, _, .nil => .nil
  | _, _, .cons h t => .cons (Rep.le l h) (Reps.le l t)
theorem RepP.le {c c' : RC} (l : c.Le c') : ∀ {ds : List (List Key × D)} {vs : List (List Key × V)}, RepP c ds vs → RepP c' ds vs
  | _, _, .nil => .nil
  | _, _, .cons h t => .cons (Rep.le l h) (RepP.le l t)
theorem RepF.le {c c' : RC} (l : c.Le c') : ∀ {ds : List (Str × D)} {vs : List (Str × V)}, RepF c ds vs → RepF c' ds vs
  | _, _, .nil => .nil
  | _, _, .cons h t => .cons (Rep.le l h) (RepF.le l t)
end
theorem Reps.length {c : RC} : ∀ {ds : List D} {vs : List V}, Reps c ds vs → ds.length = vs.length
  | _, _, .nil => rfl
  | _, _, .cons _ t => by rw [List.length_cons, List.length_cons, t.length]
theorem Reps.get {c : RC} : ∀ {ds : List D} {vs : List V} {i : Nat} {d : D}, Reps c ds vs → ds[i]? = some d → ∃ v, vs[i]? = some v ∧ Rep c d v
  | _, _, _, _, .nil, e => by simp at e
  | _, _, 0, d, .cons h _, e => by simp at e; subst e; exact ⟨_, rfl, h⟩
  | _, _, i + 1, d, .cons _ t, e => by
    obtain ⟨v, h1, h2⟩ := Reps.get (i := i) t (by simpa using e)
    exact ⟨v, by simpa using h1, h2⟩
theorem Reps.getV {c : RC} : ∀ {ds : List D} {vs : List V} {i : Nat} {v : V}, Reps c ds vs → vs[i]? = some v → ∃ d, ds[i]? = some d ∧ Rep c d v
  | _, _, _, _, .nil, e => by simp at e
  | _, _, 0, d, .cons h _, e => by simp at e; subst e; exact ⟨_, rfl, h⟩
  | _, _, i + 1, d, .cons _ t, e => by
    obtain ⟨v, h1, h2⟩ := Reps.getV (i := i) t (by simpa using e)
    exact ⟨v, by simpa using h1, h2⟩
theorem Reps.append {c : RC} : ∀ {ds es : List D} {vs us : List V}, Reps c ds vs → Reps c es us → Reps c (ds ++ es) (vs ++ us)
  | _, _, _, _, .nil, s => s
  | _, _, _, _, .cons h t, s => .cons h (t.append s)
theorem Reps.take {c : RC} : ∀ {ds : List D} {vs : List V} (n : Nat), Reps c ds vs → Reps c (ds.take n) (vs.take n)
  | _, _, 0, _ => .nil
  | _, _, _ + 1, .nil => .nil
  | _, _, n + 1, .cons h t => .cons h (t.take n)
theorem Reps.drop {c : RC} : ∀ {ds : List D} {vs : List V} (n : Nat), Reps c ds vs → Reps c (ds.drop n) (vs.drop n)
  | _, _, 0, r => r
  | _, _, _ + 1, .nil => .nil
  | _, _, n + 1, .cons _ t => t.drop n
theorem Reps.set {c : RC} {d : D} {v : V} (r : Rep c d v) : ∀ {ds : List D} {vs : List V} (n : Nat), Reps c ds vs → Reps c (ds.set n d) (vs.set n v)
  | _, _, _, .nil => .nil
  | _, _, 0, .cons _ t => .cons r t
  | _, _, n + 1, .cons h t => .cons h (t.set r n)
theorem RepF.length {c : RC} : ∀ {ds : List (Str × D)} {vs : List (Str × V)}, RepF c ds vs → ds.length = vs.length
  | _, _, .nil => rfl
  | _, _, .cons _ t => by rw [List.length_cons, List.length_cons, t.length]
/-- a field is stored -/
def putD (f : Str) (d : D) : List (Str × D) → List (Str × D)
  | [] => [(f, d)]
  | (g, e) :: r => if g = f then (g, d) :: r else (g, e) :: putD f d r
inductive Cell where
  | lst (ds : List D)
  | dic (t : Bool) (kvs : List (List Key × D))
  | obj (C : Str) (fs : List (Str × D))
abbrev EH := List Cell
def CellR (c : RC) : Cell → Addr → Prop
  | .lst ds, a => ∃ xs, c.H a = some (.lst xs) ∧ Reps c ds xs
  | .dic t kvs, a => ∃ o zs, c.H a = some o ∧ isDic t o zs ∧ RepP c kvs zs
  | .obj C fs, a => ∃ Ca dx vs, c.mg C = some (.ref Ca) ∧ c.H a = some (.ins Ca dx vs) ∧ RepF c fs vs
structure SR (c : RC) (h : EH) : Prop where
  len : c.ρ.length = h.length
  nd : c.ρ.Nodup
  cells : ∀ (n : Nat) (a : Addr) (k : Cell), c.ρ[n]? = some a → h[n]? = some k → CellR c k a
  nb : ∀ a ∈ c.ρ, ¬ c.B a
  bt : ∀ a, c.B a → ∃ o, c.H a = some o
theorem CellR.le {c c' : RC} (l : c.Le c') {k : Cell} {a : Addr} (h : c'.H a = c.H a) (r : CellR c k a) : CellR c' k a := by
  cases k with
  | lst ds => obtain ⟨xs, e, q⟩ := r; exact ⟨xs, h.trans e, q.le l⟩
  | dic t kvs => obtain ⟨o, zs, e, i, q⟩ := r; exact ⟨o, zs, h.trans e, i, q.le l⟩
  | obj C fs => obtain ⟨Ca, dx, vs, m, e, q⟩ := r; exact ⟨Ca, dx, vs, by rw [l.mg.e']; exact m, h.trans e, q.le l⟩
theorem CellR.ex {c : RC} {k : Cell} {a : Addr} (r : CellR c k a) : ∃ o, c.H a = some o := by
  cases k with
  | lst ds => obtain ⟨xs, e, q⟩ := r; exact ⟨_, e⟩
  | dic t kvs => obtain ⟨o, zs, e, i, q⟩ := r; exact ⟨_, e⟩
  | obj C fs => obtain ⟨Ca, dx, vs, m, e, q⟩ := r; exact ⟨_, e⟩
theorem SR.ex {c : RC} {h : EH} (s : SR c h) {a : Addr} (ha : a ∈ c.ρ) : ∃ o, c.H a = some o := by
  obtain ⟨n, hn, e⟩ := List.mem_iff_getElem.mp ha
  have h1 : c.ρ[n]? = some a := by rw [List.getElem?_eq_getElem hn, e]
  have hn' : n < h.length := by rw [← s.len]; exact hn
  exact (s.cells n a _ h1 (List.getElem?_eq_getElem hn')).ex
theorem codeO_ext {H H' : Hp} {P : Addr} {q : Str} (t : LamX.TabS H P q) (h1 : H' P = H P) (h2 : ∀ a, H a = some (LamX.CodeO a q) → H' a = some (LamX.CodeO a q)) : LamX.TabS H' P q := by
  obtain ⟨ps, k1, k2, k3⟩ := t
  refine ⟨ps, h1.trans k1, k2, fun pos cv hc => ?_⟩
  obtain ⟨c, e1, e2⟩ := k3 pos cv hc
  exact ⟨c, e1, h2 c e2⟩
/-- at a stands no table, no code object -/
def NoTab (H : Hp) (a : Addr) : Prop := (∀ ps, H a ≠ some (.tbl ps)) ∧ ∀ q, H a ≠ some (LamX.CodeO a q)
theorem tabs_upd {c : RC} {p : Addr} {o : HO} {ρ : List Addr} {B : Addr → Prop} (h : NoTab c.H p) : c.tabs → ({ c with ρ := ρ, B := B, H := upd c.H p o } : RC).tabs := fun t q hq =>
  codeO_ext (t q hq) (by
    obtain ⟨ps, k1, _⟩ := t q hq
    exact upd_ne (fun z => h.1 ps (by rw [← z]; exact k1))) fun a e => (upd_ne (fun z => h.2 q.2 (by rw [← z]; exact e))).trans e
theorem noTab_none {H : Hp} {a : Addr} (h : H a = none) : NoTab H a := ⟨fun _ z => (by rw [h] at z; cases z), fun _ z => (by rw [h] at z; cases z)⟩
theorem noTab_of {H : Hp} {a : Addr} {o : HO} (h : H a = some o) (h1 : ∀ ps, o ≠ .tbl ps) (h2 : ∀ φ, o ≠ .ext φ) : NoTab H a := ⟨fun ps z => (by rw [h] at z; exact h1 ps (Option.some.inj z)), fun q z => (by rw [h] at z; exact h2 _ (Option.some.inj z))⟩
theorem CellR.noTab {c : RC} {k : Cell} {a : Addr} (r : CellR c k a) : NoTab c.H a := by
  cases k with
  | lst ds => obtain ⟨xs, e, q⟩ := r; exact noTab_of e (fun _ z => by cases z) (fun _ z => by cases z)
  | dic t kvs =>
    obtain ⟨o, zs, e, i, q⟩ := r
    refine noTab_of e i.tbl fun φ z => ?_
    subst z
    rcases i with ⟨_, _, z, _⟩ | ⟨_, z⟩ <;> cases z
  | obj C fs => obtain ⟨Ca, dx, vs, m, e, q⟩ := r; exact noTab_of e (fun _ z => by cases z) (fun _ z => by cases z)
theorem SR.noTab {c : RC} {h : EH} (s : SR c h) {n : Nat} {a : Addr} (hn : c.ρ[n]? = some a) : NoTab c.H a := by
  have hn' : n < h.length := by rw [← s.len]; exact (List.getElem?_eq_some_iff.mp hn).1
  exact (s.cells n a _ hn (List.getElem?_eq_getElem hn')).noTab
/-- a new object -/
theorem SR.new {c : RC} {h : EH} {p : Addr} {o : HO} (s : SR c h) (hp : c.H p = none) : c.Le (c.put p o) ∧ SR (c.put p o) h ∧ (c.put p o).fr p := by
  have np : p ∉ c.ρ := fun z => by
    obtain ⟨o, e⟩ := s.ex z
    rw [hp] at e; cases e
  have ne : ∀ a o, c.H a = some o → a ≠ p := fun a o e z => by rw [z, hp] at e; cases e
  have l : c.Le (c.put p o) := by
    refine ⟨rfl, ⟨rfl, tabs_upd (noTab_none hp)⟩, fun _ h => h, fun _ h => .inl h, fun a u e => ⟨u, (upd_ne (ne a u e)).trans e⟩, fun _ _ h => h, fun a u e _ n => ⟨(upd_ne (ne a u e)).trans e, n⟩, fun a xs e => ?_, fun a o u e => (upd_ne (ne a _ e)).trans e⟩
    rcases e with e | ⟨u, e⟩
    · exact .inl ((upd_ne (ne a _ e)).trans e)
    · exact .inr ⟨u, (upd_ne (ne a _ e)).trans e⟩
  refine ⟨l, ⟨s.len, s.nd, fun n a k e1 e2 => ?_, s.nb, fun a b => ?_⟩, fun b => ?_, np⟩
  · have r := s.cells n a k e1 e2
    obtain ⟨u, e⟩ := r.ex
    exact r.le l (upd_ne (ne a u e))
  · obtain ⟨u, e⟩ := s.bt a b
    exact ⟨u, (upd_ne (ne a u e)).trans e⟩
  · obtain ⟨u, e⟩ := s.bt p b
    rw [hp] at e; cases e
/-- the cell n is written -/
theorem SR.write {c : RC} {h : EH} {n : Nat} {a : Addr} {o : HO} {k : Cell} (s : SR c h) (hn : c.ρ[n]? = some a) (hnt : ∀ xs, ¬ Rd c.H a (.tup xs)) (hnf : ∀ o u, c.H a ≠ some (.frz o u)) (hk : ∀ c', c.Le c' → c'.H a = some o → CellR c' k a) :
    c.Le (c.put a o) ∧ SR (c.put a o) (h.set n k) := by
  have ha : a ∈ c.ρ := List.mem_of_getElem? hn
  have l : c.Le (c.put a o) := by
    refine ⟨rfl, ⟨rfl, tabs_upd (s.noTab hn)⟩, fun _ h => h, fun _ h => .inl h, fun b u e => ?_, fun _ _ h => h, fun b u e _ nb => ⟨?_, nb⟩, fun b xs e => ?_, fun b o u e => (upd_ne (show b ≠ a from fun z => hnf o u (by rw [← z]; exact e))).trans e⟩
    · by_cases z : b = a
      · exact ⟨o, by rw [z]; exact upd_same⟩
      · exact ⟨u, (upd_ne z).trans e⟩
    · exact (upd_ne (show b ≠ a from fun z => nb (by rw [z]; exact ha))).trans e
    · have nb : b ≠ a := fun z => hnt xs (z ▸ e)
      rcases e with e | ⟨u, e⟩
      · exact .inl ((upd_ne nb).trans e)
      · exact .inr ⟨u, (upd_ne nb).trans e⟩
  refine ⟨l, ⟨by rw [List.length_set]; exact s.len, s.nd, fun m b k' e1 e2 => ?_, s.nb, fun b hb => ?_⟩⟩
  · by_cases hm : m = n
    · subst hm
      have : b = a := by
        have e1' : c.ρ[m]? = some b := e1
        rw [hn] at e1'
        exact (Option.some.inj e1').symm
      subst this
      have hlt : m < h.length := by
        rw [← s.len]; exact (List.getElem?_eq_some_iff.mp hn).1
      rw [List.getElem?_set_self hlt] at e2
      cases e2
      exact hk _ l upd_same
    · rw [List.getElem?_set_ne (Ne.symm hm)] at e2
      have nb : b ≠ a := fun z => hm (by
        subst z
        obtain ⟨h1, e1'⟩ := List.getElem?_eq_some_iff.mp e1
        obtain ⟨h2, e2'⟩ := List.getElem?_eq_some_iff.mp hn
        exact (List.getElem_inj s.nd).mp (e1'.trans e2'.symm))
      exact (s.cells m b k' e1 e2).le l (upd_ne nb)
  · obtain ⟨u, e⟩ := s.bt b hb
    exact ⟨u, (upd_ne (show b ≠ a from fun z => s.nb a ha (by rw [← z]; exact hb))).trans e⟩
abbrev Ev := List (Option D)
structure EnvR (c : RC) (ε : Ev) (σ : L2.St) : Prop where
  len : ε.length = σ.length
  at_ : ∀ (i : Nat) (d : D), ε[i]? = some (some d) → ∃ v, σ[i]? = some (some v) ∧ Rep c d v
theorem EnvR.le {c c' : RC} (l : c.Le c') {ε : Ev} {σ : L2.St} (r : EnvR c ε σ) : EnvR c' ε σ :=
  ⟨r.len, fun i d e => let ⟨v, h1, h2⟩ := r.at_ i d e; ⟨v, h1, h2.le l⟩⟩
theorem EnvR.set {c : RC} {ε : Ev} {σ : L2.St} (r : EnvR c ε σ) {d : D} {v : V} (rv : Rep c d v) (i : Nat) : EnvR c (ε.set i (some d)) (σ.set i (some v)) := by
  refine ⟨by rw [List.length_set, List.length_set]; exact r.len, fun j e h => ?_⟩
  by_cases hj : i = j
  · subst hj
    have hi : i < ε.length := by
      have := (List.getElem?_eq_some_iff.mp h).1
      rwa [List.length_set] at this
    rw [List.getElem?_set_self hi] at h
    cases h
    exact ⟨v, by rw [List.getElem?_set_self (by rw [← r.len]; exact hi)], rv⟩
  · rw [List.getElem?_set_ne hj] at h
    obtain ⟨w, h1, h2⟩ := r.at_ j e h
    exact ⟨w, by rw [List.getElem?_set_ne hj]; exact h1, h2⟩
end PD
namespace PD
open PySem PySem.Spec PyProof.Rows L2
variable [LamTab]
structure Ex where
  cls : Str
  fs : List (Str × D)
inductive R (α : Type) where
  | ok (a : α)
  | ex (e : Ex)
abbrev O (α : Type) := Option (R α × EH)
def ExR (c : RC) (e : Ex) (cls : Value) (dx : Option Addr) : Prop := ∃ Ca d vs, cls = .ref Ca ∧ c.mg e.cls = some (.ref Ca) ∧ dx = some d ∧ c.H d = some (.xd vs) ∧ c.fr d ∧ RepF c e.fs vs
def bR {α β : Type} (x : O α) (f : α → EH → O β) : O β := match x with
  | some (.ok a, h) => f a h
  | some (.ex e, h) => some (.ex e, h)
  | none => none
theorem bR_ok {α β : Type} (a : α) (h : EH) (f : α → EH → O β) : bR (some (.ok a, h)) f = f a h := (rfl)
theorem bR_ex {α β : Type} (e : Ex) (h : EH) (f : α → EH → O β) : bR (some (.ex e, h)) f = some (.ex e, h) := (rfl)
/-- a value, the cells as they are -/
def rt {α : Type} (x : Option α) (h : EH) : O α := match x with
  | some a => some (.ok a, h)
  | none => none
theorem rt_some {α : Type} (a : α) (h : EH) : rt (some a) h = some (.ok a, h) := (rfl)
abbrev M (α : Type) := Ev → EH → O α
/-- what is wanted of an exception -/
def Px {α : Type} (W : WX) (c : RC) (σ : L2.St) (r : R α) (h' : EH) : Prop := ∀ x, r = .ex x → ∀ c' cls dx, c.Le c' → SR c' h' → ExR c' x cls dx → W cls dx σ c'.H
theorem Px.le {α : Type} {W : WX} {c c1 : RC} {σ : L2.St} {r : R α} {h' : EH} (p : Px W c σ r h') (l : c.Le c1) : Px W c1 σ r h' := fun x e c' cls dx l' s q => p x e c' cls dx (l.trans l') s q
theorem Px.ok {α : Type} {W : WX} {c : RC} {σ : L2.St} {a : α} {h' : EH} : Px W c σ (.ok a) h' := fun _ e => nomatch e
/-- the reading of a mirror -/
def tX {α β : Type} (Rl : RC → α → β → Prop) (K : PySem.W.Frag) (mg : Str → Option Value) (W : WX) (m : M α) : L2.St → Hp → (β → Hp → Prop) → Prop := fun σ H Q =>
  ∃ (c : RC) (ε : Ev) (h : EH) (r : R α) (h' : EH), c.K = K ∧ MgE c mg ∧ c.H = H ∧ SR c h ∧ EnvR c ε σ ∧ m ε h = some (r, h') ∧ Px W c σ r h' ∧
    ∀ a, r = .ok a → ∀ c' b, c.Le c' → SR c' h' → Rl c' a b → Q b c'.H
theorem tX.bind {α β γ : Type} {Rl : RC → α → β → Prop} {K : PySem.W.Frag} {mg : Str → Option Value} {W : WX} {m : M α} {k : α → EH → O γ} {c : RC} {ε : Ev} {h h' : EH} {r : R γ} {σ : L2.St} {Q : β → Hp → Prop}
    (hK : c.K = K) (hm : MgE c mg) (sr : SR c h) (er : EnvR c ε σ) (e : bR (m ε h) k = some (r, h')) (px : Px W c σ r h')
    (go : ∀ a h1 c1 b, k a h1 = some (r, h') → c.Le c1 → SR c1 h1 → Rl c1 a b → Q b c1.H) : tX Rl K mg W m σ c.H Q := by
  cases q : m ε h with
  | none => rw [q] at e; cases e
  | some z =>
    obtain ⟨r1, h1⟩ := z
    cases r1 with
    | ok a =>
      rw [q] at e
      exact ⟨c, ε, h, .ok a, h1, hK, hm, rfl, sr, er, q, Px.ok, fun a' ea c1 b l s rb => by cases ea; exact go a h1 c1 b e l s rb⟩
    | ex x =>
      rw [q] at e
      cases e
      exact ⟨c, ε, h, .ex x, _, hK, hm, rfl, sr, er, q, fun y ey => px y (by cases ey; rfl), fun a' ea => nomatch ea⟩
/-- the last step -/
theorem tX.last {α β : Type} {Rl : RC → α → β → Prop} {K : PySem.W.Frag} {mg : Str → Option Value} {W : WX} {m : M α} {c : RC} {ε : Ev} {h h' : EH} {r : R α} {σ : L2.St} {Q : β → Hp → Prop}
    (hK : c.K = K) (hm : MgE c mg) (sr : SR c h) (er : EnvR c ε σ) (e : m ε h = some (r, h')) (px : Px W c σ r h')
    (go : ∀ a, r = .ok a → ∀ c' b, c.Le c' → SR c' h' → Rl c' a b → Q b c'.H) : tX Rl K mg W m σ c.H Q := ⟨c, ε, h, r, h', hK, hm, rfl, sr, er, e, px, go⟩
abbrev tE := tX Rep
abbrev tT := tX (fun (_ : RC) (a b : Bool) => a = b)
abbrev tA := tX Reps
abbrev RE (X : Cx) (W : WX) (e : Expr) (m : M D) : Prop := PE X e (tE X.K X.mg W m)
abbrev RT (X : Cx) (W : WX) (e : Expr) (m : M Bool) : Prop := PT X e (tT X.K X.mg W m)
abbrev RW (X : Cx) (W : WX) (e : Expr) (m : M Bool) : Prop := PW X e (tT X.K X.mg W m)
abbrev RA (X : Cx) (W : WX) (es : List Expr) (m : M (List D)) : Prop := PA X es (tA X.K X.mg W m)
theorem pe_imp {X : Cx} {e : Expr} {t t' : TE} (h : PE X e t) (k : ∀ σ H Q, t' σ H Q → t σ H Q) : PE X e t' := ⟨fun pins s σ H Q I q => h.run pins s σ H Q I (k σ H Q q)⟩
theorem pt_imp {X : Cx} {e : Expr} {t t' : TT} (h : PT X e t) (k : ∀ σ H Q, t' σ H Q → t σ H Q) : PT X e t' := ⟨fun pins s σ H Q I q => h.run pins s σ H Q I (k σ H Q q)⟩
theorem pw_imp {X : Cx} {e : Expr} {t t' : TT} (h : PW X e t) (k : ∀ σ H Q, t' σ H Q → t σ H Q) : PW X e t' := ⟨fun wh pins s σ H Q I q => h.run wh pins s σ H Q I (k σ H Q q)⟩
theorem pa_imp {X : Cx} {es : List Expr} {t t' : TA} (h : PA X es t) (k : ∀ σ H Q, t' σ H Q → t σ H Q) : PA X es t' := ⟨fun pos pins s σ H Q I q => h.run pos pins s σ H Q I (k σ H Q q)⟩
def mVar (i : Nat) : M D := fun ε h => rt (ε.getD i none) h
def mC (d : D) : M D := fun _ h => some (.ok d, h)
section
variable {X : Cx} {W : WX}
theorem re_var (i : Nat) {x : Str} {pos : Pos} (hN : X.N[i]? = some x := by rfl) (hv : Vis X.env.scope x := by first | exact Or.inl rfl | exact Or.inr (Or.inl rfl) | exact Or.inr (Or.inr rfl)) (hd : (x == ("__debug__" : Str)) = false := by decide)
    (hcd : (x == ("__classdict__" : Str)) = false := by decide) : RE X W (.Name x pos) (mVar i) := by
  refine pe_imp (pe_var hN hv hd hcd) fun σ H Q h => ?_
  obtain ⟨c, ε, h, r, h', hK, hm, rfl, sr, er, e, px, go⟩ := h
  cases q : ε.getD i none with
  | none => rw [mVar, q] at e; cases e
  | some d =>
    rw [mVar, q] at e
    cases e
    have q2 : ε[i]? = some (some d) := by
      rw [List.getD_eq_getElem?_getD] at q
      cases z : ε[i]? with
      | none => rw [z] at q; cases q
      | some y => rw [z] at q; exact congrArg some q
    obtain ⟨v, h1, h2⟩ := er.at_ i d q2
    exact ⟨v, h1, go d rfl c v (.refl c) sr h2⟩
theorem re_c {e : Expr} {d : D} {v : V} (h : PE X e (tC v)) (r : ∀ c : RC, c.K = X.K → MgE c X.mg → Rep c d v) : RE X W e (mC d) := by
  refine pe_imp h fun σ H Q h => ?_
  obtain ⟨c, ε, h, r', h', hK, hm, rfl, sr, er, e, px, go⟩ := h
  cases e
  exact go d rfl c v (.refl c) sr (r c hK hm)
theorem re_int {i j pos} : RE X W (.Constant (.int i) j pos) (mC (.int i)) := re_c pe_int fun _ _ _ => .int i
theorem re_bl {b j pos} : RE X W (.Constant (.bool b) j pos) (mC (.bl b)) := re_c pe_bl fun _ _ _ => .bl b
theorem re_non {j pos} : RE X W (.Constant .none j pos) (mC .non) := re_c pe_non fun _ _ _ => .non
theorem re_str (cs : List Nat) {x j pos} (e : x.cps.toList = cs := by decide +kernel) : RE X W (.Constant (.str x) j pos) (mC (.str cs)) := re_c pe_str fun _ _ _ => by
  subst e
  exact .str x.cps.toList
/-- a constant of the module -/
def GlobC (K : PySem.W.Frag) (mg : Str → Option Value) (x : Str) (d : D) : Prop := ∃ u v, mg x = some u ∧ RelV v u ∧ ∀ c : RC, c.K = K → MgE c mg → Rep c d v
theorem re_glob {x : Str} {d : D} {pos : Pos} (g : GlobC X.K X.mg x d) (hg : Gl X x := by rfl) (hd : (x == ("__debug__" : Str)) = false := by decide) : RE X W (.Name x pos) (mC d) := by
  obtain ⟨u, v, hm, r, rp⟩ := g
  exact re_c (pe_glob hg hm r hd) rp
def OpS (K : PySem.W.Frag) (mg : Str → Option Value) (r : R2) (f : EH → D → D → Option D) : Prop := ∀ (c : RC) (h : EH) (x y : V) (dx dy d : D) (Q : VK), c.K = K → MgE c mg → SR c h → Rep c dx x → Rep c dy y → f h dx dy = some d →
  (∀ c' v, c.Le c' → SR c' h → Rep c' d v → Q v c'.H) → r x y c.H Q
def mBin (f : EH → D → D → Option D) (a b : M D) : M D := fun ε h => bR (a ε h) fun x h1 => bR (b ε h1) fun y h2 => rt (f h2 x y) h2
theorem top_of {K : PySem.W.Frag} {mg : Str → Option Value} {r : R2} {f : EH → D → D → Option D} {a b : M D} (hs : OpS K mg r f) {σ : L2.St} {H : Hp} {Q : VK} (h : tE K mg W (mBin f a b) σ H Q) : tOp r (tE K mg W a) (tE K mg W b) σ H Q := by
  obtain ⟨c, ε, h, r', h', hK, hm, rfl, sr, er, e, px, go⟩ := h
  unfold tOp
  refine tX.bind hK hm sr er e px fun dx h1 c1 x e1 l1 s1 r1 => ?_
  refine tX.bind (l1.K.trans hK) (l1.mg.trans hm) s1 (er.le l1) e1 (px.le l1) fun dy h2 c2 y e2 l2 s2 r2 => ?_
  cases q : f h2 dx dy with
  | none => rw [q] at e2; cases e2
  | some d =>
    rw [q] at e2
    cases e2
    exact hs c2 _ x y dx dy d Q ((l2.K.trans l1.K).trans hK) ((l2.mg.trans l1.mg).trans hm) s2 (r1.le l2) r2 q fun c' v l3 s3 r3 => go d rfl c' v ((l1.trans l2).trans l3) s3 r3
theorem re_bin {op : Operator} {r : R2} {f : EH → D → D → Option D} {a b : Expr} {ma mb : M D} {pos : Pos} (ho : OpR X (binaryOp op) r) (hs : OpS X.K X.mg r f) (ha : RE X W a ma) (hb : RE X W b mb) : RE X W (.BinOp a op b pos) (mBin f ma mb) :=
  pe_imp (pe_op ho ha hb) fun _ _ _ h => top_of hs h
theorem re_cmp {op : CmpOp} {r : R2} {f : EH → D → D → Option D} {a b : Expr} {ma mb : M D} {pos : Pos} (ho : OpR X (compareOp op) r) (hs : OpS X.K X.mg r f) (ha : RE X W a ma) (hb : RE X W b mb) (hmk : behindInMarks op b = false) : RE X W (.Compare a [op] [b] pos) (mBin f ma mb) :=
  pe_imp (pe_cmpR ho ha hb hmk) fun _ _ _ h => top_of hs h
/-- a bool as a test -/
def asB (d : D) : Option Bool := match d with
  | .bl b => some b
  | _ => none
def mTst (m : M D) : M Bool := fun ε h => bR (m ε h) fun x h1 => rt (asB x) h1
theorem tB_of {K : PySem.W.Frag} {mg : Str → Option Value} {m : M D} {σ : L2.St} {H : Hp} {Q : Bool → Hp → Prop} (h : tT K mg W (mTst m) σ H Q) : tE K mg W m σ H fun x H1 => ∃ c, x = .bl c ∧ Q c H1 := by
  obtain ⟨c, ε, h, r', h', hK, hm, rfl, sr, er, e, px, go⟩ := h
  refine tX.bind hK hm sr er e px fun dx h1 c1 x e1 l1 s1 r1 => ?_
  cases r1 with
  | bl b => cases e1; exact ⟨b, rfl, go b rfl c1 b l1 s1 rfl⟩
  | _ => cases e1
theorem rt_cmp {op : CmpOp} {r : R2} {f : EH → D → D → Option D} {a b : Expr} {ma mb : M D} {pos : Pos} (ho : OpR X (compareOp op) r) (hs : OpS X.K X.mg r f) (ha : RE X W a ma) (hb : RE X W b mb) (hmk : behindInMarks op b = false) : RT X W (.Compare a [op] [b] pos) (mTst (mBin f ma mb)) :=
  pt_imp (pt_cmpR ho ha hb hmk) fun σ H Q h => top_of hs (tB_of h)
theorem rt_val {e : Expr} {m : M D} (h : RE X W e m) (he : ∀ whole, isTrue e X.env whole = (do let v ← whole; standAt e.pos; holding [v] (truthy v)) := by intro _; rfl) : RT X W e (mTst m) :=
  pt_imp (pt_val h he) fun σ H Q h => tB_of h
def mNot (a : M Bool) : M Bool := fun ε h => bR (a ε h) fun b h1 => some (.ok (!b), h1)
def mAnd (a b : M Bool) : M Bool := fun ε h => bR (a ε h) fun x h1 => if x = true then b ε h1 else some (.ok false, h1)
def mOr (a b : M Bool) : M Bool := fun ε h => bR (a ε h) fun x h1 => if x = true then some (.ok true, h1) else b ε h1
def mIf {α : Type} (t : M Bool) (a b : M α) : M α := fun ε h => bR (t ε h) fun x h1 => if x = true then a ε h1 else b ε h1
theorem rt_not {a : Expr} {ma : M Bool} {pos : Pos} (ha : RT X W a ma) : RT X W (.UnaryOp .Not a pos) (mNot ma) := by
  refine pt_imp (pt_not ha) fun σ H Q h => ?_
  obtain ⟨c, ε, h, r', h', hK, hm, rfl, sr, er, e, px, go⟩ := h
  unfold tNot
  refine tX.bind hK hm sr er e px fun x h1 c1 b e1 l1 s1 r1 => ?_
  cases e1
  subst r1
  exact go _ rfl c1 _ l1 s1 rfl
theorem rw_and1 {a : Expr} {ma : M Bool} {pos : Pos} (ha : RT X W a ma) : RW X W (.BoolOp .And [a] pos) ma := pw_and1 ha
theorem rw_or1 {a : Expr} {ma : M Bool} {pos : Pos} (ha : RT X W a ma) : RW X W (.BoolOp .Or [a] pos) ma := pw_or1 ha
theorem rw_and {a b : Expr} {rest : List Expr} {ma mb : M Bool} {pos : Pos} (ha : RT X W a ma) (hb : RW X W (.BoolOp .And (b :: rest) pos) mb) : RW X W (.BoolOp .And (a :: b :: rest) pos) (mAnd ma mb) := by
  refine pw_imp (pw_and ha hb) fun σ H Q h => ?_
  obtain ⟨c, ε, h, r', h', hK, hm, rfl, sr, er, e, px, go⟩ := h
  unfold tAnd
  refine tX.bind hK hm sr er e px fun x h1 c1 b e1 l1 s1 r1 => ?_
  subst r1
  cases x with
  | true => exact tX.last (l1.K.trans hK) (l1.mg.trans hm) s1 (er.le l1) e1 (px.le l1) fun a ea c' b l s r => go a ea c' b (l1.trans l) s r
  | false => cases e1; exact go _ rfl c1 _ l1 s1 rfl
theorem rw_or {a b : Expr} {rest : List Expr} {ma mb : M Bool} {pos : Pos} (ha : RT X W a ma) (hb : RW X W (.BoolOp .Or (b :: rest) pos) mb) : RW X W (.BoolOp .Or (a :: b :: rest) pos) (mOr ma mb) := by
  refine pw_imp (pw_or ha hb) fun σ H Q h => ?_
  obtain ⟨c, ε, h, r', h', hK, hm, rfl, sr, er, e, px, go⟩ := h
  unfold tOr
  refine tX.bind hK hm sr er e px fun x h1 c1 b e1 l1 s1 r1 => ?_
  subst r1
  cases x with
  | false => exact tX.last (l1.K.trans hK) (l1.mg.trans hm) s1 (er.le l1) e1 (px.le l1) fun a ea c' b l s r => go a ea c' b (l1.trans l) s r
  | true => cases e1; exact go _ rfl c1 _ l1 s1 rfl
theorem rt_bool {e : Expr} {m : M Bool} (h : RW X W e m) : RT X W e m := PW.pt h
/-- .. as values -/
def mAndV (a b : M D) : M D := fun ε h => bR (a ε h) fun x h1 => match x with
  | .bl true => b ε h1
  | .bl false => some (.ok (.bl false), h1)
  | _ => none
def mOrV (a b : M D) : M D := fun ε h => bR (a ε h) fun x h1 => match x with
  | .bl true => some (.ok (.bl true), h1)
  | .bl false => b ε h1
  | _ => none
def mNotV (a : M D) : M D := fun ε h => bR (a ε h) fun x h1 => match x with
  | .bl b => some (.ok (.bl (!b)), h1)
  | _ => none
theorem re_one {op} {a : Expr} {ma : M D} {pos : Pos} (ha : RE X W a ma) : RE X W (.BoolOp op [a] pos) ma := pe_one ha
theorem re_and {a b : Expr} {rest : List Expr} {ma mb : M D} {pos : Pos} (ha : RE X W a ma) (hb : RE X W (.BoolOp .And (b :: rest) pos) mb) : RE X W (.BoolOp .And (a :: b :: rest) pos) (mAndV ma mb) := by
  refine pe_imp (pe_and ha hb) fun σ H Q h => ?_
  obtain ⟨c, ε, h, r', h', hK, hm, rfl, sr, er, e, px, go⟩ := h
  unfold tAndV
  refine tX.bind hK hm sr er e px fun x h1 c1 b e1 l1 s1 r1 => ?_
  cases r1 with
  | bl k =>
    cases k with
    | true => exact ⟨true, rfl, tX.last (l1.K.trans hK) (l1.mg.trans hm) s1 (er.le l1) e1 (px.le l1) fun a ea c' b l s r => go a ea c' b (l1.trans l) s r⟩
    | false => cases e1; exact ⟨false, rfl, go _ rfl c1 _ l1 s1 (.bl false)⟩
  | _ => cases e1
theorem re_or {a b : Expr} {rest : List Expr} {ma mb : M D} {pos : Pos} (ha : RE X W a ma) (hb : RE X W (.BoolOp .Or (b :: rest) pos) mb) : RE X W (.BoolOp .Or (a :: b :: rest) pos) (mOrV ma mb) := by
  refine pe_imp (pe_or ha hb) fun σ H Q h => ?_
  obtain ⟨c, ε, h, r', h', hK, hm, rfl, sr, er, e, px, go⟩ := h
  unfold tOrV
  refine tX.bind hK hm sr er e px fun x h1 c1 b e1 l1 s1 r1 => ?_
  cases r1 with
  | bl k =>
    cases k with
    | false => exact ⟨false, rfl, tX.last (l1.K.trans hK) (l1.mg.trans hm) s1 (er.le l1) e1 (px.le l1) fun a ea c' b l s r => go a ea c' b (l1.trans l) s r⟩
    | true => cases e1; exact ⟨true, rfl, go _ rfl c1 _ l1 s1 (.bl true)⟩
  | _ => cases e1
theorem re_not {a : Expr} {ma : M D} {pos : Pos} (ha : RE X W a ma) : RE X W (.UnaryOp .Not a pos) (mNotV ma) := by
  refine pe_imp (pe_not ha) fun σ H Q h => ?_
  obtain ⟨c, ε, h, r', h', hK, hm, rfl, sr, er, e, px, go⟩ := h
  unfold tNotV
  refine tX.bind hK hm sr er e px fun x h1 c1 b e1 l1 s1 r1 => ?_
  cases r1 with
  | bl k => cases e1; exact ⟨k, rfl, go _ rfl c1 _ l1 s1 (.bl _)⟩
  | _ => cases e1
theorem re_if {t a b : Expr} {mt : M Bool} {ma mb : M D} {pos : Pos} (ht : RT X W t mt) (ha : RE X W a ma) (hb : RE X W b mb) : RE X W (.IfExp t a b pos) (mIf mt ma mb) := by
  refine pe_imp (pe_ifExp ht ha hb) fun σ H Q h => ?_
  obtain ⟨c, ε, h, r', h', hK, hm, rfl, sr, er, e, px, go⟩ := h
  unfold tIf
  refine tX.bind hK hm sr er e px fun x h1 c1 b e1 l1 s1 r1 => ?_
  subst r1
  cases x with
  | true => exact tX.last (l1.K.trans hK) (l1.mg.trans hm) s1 (er.le l1) e1 (px.le l1) fun a ea c' b l s r => go a ea c' b (l1.trans l) s r
  | false => exact tX.last (l1.K.trans hK) (l1.mg.trans hm) s1 (er.le l1) e1 (px.le l1) fun a ea c' b l s r => go a ea c' b (l1.trans l) s r
def mNil : M (List D) := fun _ h => some (.ok [], h)
def mCons (a : M D) (b : M (List D)) : M (List D) := fun ε h => bR (a ε h) fun x h1 => bR (b ε h1) fun xs h2 => some (.ok (x :: xs), h2)
theorem ra_nil : RA X W [] mNil := by
  refine pa_imp pa_nil fun σ H Q h => ?_
  obtain ⟨c, ε, h, r', h', hK, hm, rfl, sr, er, e, px, go⟩ := h
  cases e
  exact go _ rfl c _ (.refl c) sr .nil
theorem ra_cons {e : Expr} {es : List Expr} {me : M D} {m : M (List D)} (ha : RE X W e me) (hr : RA X W es m) (hs : starEach (e :: es) X.env = (false, eval e X.env) :: starEach es X.env := by rfl) : RA X W (e :: es) (mCons me m) := by
  refine pa_imp (pa_cons ha hr hs) fun σ H Q h => ?_
  obtain ⟨c, ε, h, r', h', hK, hm, rfl, sr, er, e, px, go⟩ := h
  unfold tCons
  refine tX.bind hK hm sr er e px fun x h1 c1 b e1 l1 s1 r1 => ?_
  refine tX.bind (l1.K.trans hK) (l1.mg.trans hm) s1 (er.le l1) e1 (px.le l1) fun xs h2 c2 ys e2 l2 s2 r2 => ?_
  cases e2
  exact go _ rfl c2 _ (l1.trans l2) s2 (.cons (r1.le l2) r2)
def szL {α : Type} (ds : List α) (d : D) : Option D := if ds.length ≤ sizeLine then some d else none
def mTup (m : M (List D)) : M D := fun ε h => bR (m ε h) fun ds h1 => rt (szL ds (.tup ds)) h1
def mLst (m : M (List D)) : M D := fun ε h => bR (m ε h) fun ds h1 => rt (szL ds (.lst ds)) h1
theorem szL_some {α : Type} {ds : List α} {d e : D} (h : szL ds d = some e) : ds.length ≤ sizeLine ∧ e = d := by
  unfold szL at h
  split at h
  · exact ⟨by assumption, (Option.some.inj h).symm⟩
  · cases h
theorem re_tup {es : List Expr} {m : M (List D)} {x1 pos} (h : RA X W es m) : RE X W (.Tuple es x1 pos) (mTup m) := by
  refine pe_imp (pe_tup h) fun σ H Q h => ?_
  obtain ⟨c, ε, h, r', h', hK, hm, rfl, sr, er, e, px, go⟩ := h
  unfold tTup
  refine tX.bind hK hm sr er e px fun ds h1 c1 xs e1 l1 s1 r1 => ?_
  cases q : szL ds (.tup ds) with
  | none => rw [q] at e1; cases e1
  | some d =>
    rw [q] at e1
    cases e1
    obtain ⟨hz, rfl⟩ := szL_some q
    refine ⟨by rw [← r1.length]; exact hz, fun p hp => ?_⟩
    obtain ⟨l2, s2, f2⟩ := s1.new (o := .tup xs) hp
    exact go _ rfl _ _ (l1.trans l2) s2 (.tup (.inl (.inl upd_same)) (r1.le l2))
theorem re_lst {es : List Expr} {m : M (List D)} {pos} (h : RA X W es m) : RE X W (.List es pos) (mLst m) := by
  refine pe_imp (pe_lst h) fun σ H Q h => ?_
  obtain ⟨c, ε, h, r', h', hK, hm, rfl, sr, er, e, px, go⟩ := h
  unfold tLst
  refine tX.bind hK hm sr er e px fun ds h1 c1 xs e1 l1 s1 r1 => ?_
  cases q : szL ds (.lst ds) with
  | none => rw [q] at e1; cases e1
  | some d =>
    rw [q] at e1
    cases e1
    obtain ⟨hz, rfl⟩ := szL_some q
    refine ⟨by rw [← r1.length]; exact hz, fun p hp => ?_⟩
    obtain ⟨l2, s2, f2⟩ := s1.new (o := .lst xs) hp
    exact go _ rfl _ _ (l1.trans l2) s2 (.lst upd_same f2 (r1.le l2))
end
end PD
namespace PD
open PySem PySem.Spec PyProof.Rows L2
variable [LamTab]
/-- one's own list -/
def asO (h : EH) (d : D) : Option (List D) := match d with
  | .lst ds => some ds
  | .ref n => match h[n]? with
    | some (.lst ds) => some ds
    | _ => none
  | _ => none
/-- a list -/
def asL (h : EH) (d : D) : Option (List D) := match d with
  | .scr ds => some ds
  | d => asO h d
/-- a list or a tuple -/
def asS (h : EH) (d : D) : Option (List D) := match d with
  | .tup ds => some ds
  | d => asL h d
theorem asO_ok {c : RC} {h : EH} {d : D} {ds : List D} {v : V} (s : SR c h) (r : Rep c d v) (e : asO h d = some ds) : ∃ a xs, v = .ref a ∧ c.H a = some (.lst xs) ∧ Reps c ds xs := by
  cases r with
  | lst h1 f r => cases e; exact ⟨_, _, rfl, h1, r⟩
  | @ref n a hn =>
    unfold asO at e
    cases q : h[n]? with
    | none => simp only [q] at e; cases e
    | some k =>
      have cr := s.cells n a k hn q
      cases k with
      | lst es =>
        simp only [q] at e
        cases e
        obtain ⟨xs, e1, e2⟩ := cr
        exact ⟨a, xs, rfl, e1, e2⟩
      | _ => simp only [q] at e; cases e
  | _ => cases e
theorem asL_ok {c : RC} {h : EH} {d : D} {ds : List D} {v : V} (s : SR c h) (r : Rep c d v) (e : asL h d = some ds) : ∃ a xs, v = .ref a ∧ SqL c.K c.H a xs ∧ Reps c ds xs := by
  cases r with
  | scr h1 r => cases e; exact ⟨_, _, rfl, h1.sq, r⟩
  | lst h1 f r => cases e; exact ⟨_, _, rfl, .inl (.inl h1), r⟩
  | ref hn => obtain ⟨a, xs, e1, e2, e3⟩ := asO_ok s (.ref hn) e; exact ⟨a, xs, e1, .inl (.inl e2), e3⟩
  | _ => cases e
theorem asS_ok {c : RC} {h : EH} {d : D} {ds : List D} {v : V} (s : SR c h) (r : Rep c d v) (e : asS h d = some ds) : ∃ a xs, v = .ref a ∧ (SqL c.K c.H a xs ∨ SqT c.K c.H a xs) ∧ Reps c ds xs := by
  cases r with
  | tup h1 r => cases e; exact ⟨_, _, rfl, .inr h1, r⟩
  | scr h1 r => cases e; exact ⟨_, _, rfl, .inl h1.sq, r⟩
  | lst h1 f r => obtain ⟨a, xs, e1, e2, e3⟩ := asL_ok s (.lst h1 f r) e; exact ⟨a, xs, e1, .inl e2, e3⟩
  | ref hn => obtain ⟨a, xs, e1, e2, e3⟩ := asL_ok s (.ref hn) e; exact ⟨a, xs, e1, .inl e2, e3⟩
  | _ => cases e
/-- a new object's place: what one may say behind it -/
theorem put_ok {c : RC} {h : EH} (s : SR c h) {Q : VK} {d : D} {o : HO} (go : ∀ c' v, c.Le c' → SR c' h → Rep c' d v → Q v c'.H) (r : ∀ p, c.H p = none → c.Le (c.put p o) → (c.put p o).fr p → Rep (c.put p o) d (.ref p)) : ∀ p, c.H p = none → Q (.ref p) (upd c.H p o) := fun p hp => by
  obtain ⟨l, s', f⟩ := s.new (o := o) hp
  exact go _ _ l s' (r p hp l f)
theorem put_lst {c : RC} {h : EH} (s : SR c h) {Q : VK} {ds : List D} {xs : List V} (go : ∀ c' v, c.Le c' → SR c' h → Rep c' (.lst ds) v → Q v c'.H) (r : Reps c ds xs) : ∀ p, c.H p = none → Q (.ref p) (upd c.H p (.lst xs)) :=
  put_ok s go fun _ _ l f => .lst upd_same f (r.le l)
theorem put_tup {c : RC} {h : EH} (s : SR c h) {Q : VK} {ds : List D} {xs : List V} (go : ∀ c' v, c.Le c' → SR c' h → Rep c' (.tup ds) v → Q v c'.H) (r : Reps c ds xs) : ∀ p, c.H p = none → Q (.ref p) (upd c.H p (.tup xs)) :=
  put_ok s go fun _ _ l f => .tup (.inl (.inl upd_same)) (r.le l)
section
variable {K : PySem.W.Frag} {mg : Str → Option Value}
theorem OpS.or {r r' : R2} {f g : EH → D → D → Option D} (h : OpS K mg r f) (h' : OpS K mg r' g) : OpS K mg (fun x y H Q => r x y H Q ∨ r' x y H Q) (fun h x y => (f h x y).or (g h x y)) := by
  intro c eh x y dx dy d Q hK hm sr rx ry e go
  dsimp only at e
  cases q : f eh dx dy with
  | some z => rw [q] at e; cases e; exact .inl (h c eh x y dx dy _ Q hK hm sr rx ry q go)
  | none => rw [q] at e; exact .inr (h' c eh x y dx dy d Q hK hm sr rx ry e go)
theorem OpS.weak {r : R2} {f g : EH → D → D → Option D} (h : OpS K mg r f) (w : ∀ eh x y d, g eh x y = some d → f eh x y = some d) : OpS K mg r g := fun c eh x y dx dy d Q hK hm sr rx ry e go => h c eh x y dx dy d Q hK hm sr rx ry (w _ _ _ _ e) go
def dI2 (f : Int → Int → Option D) : EH → D → D → Option D := fun _ x y => match x, y with
  | .int i, .int j => f i j
  | _, _ => none
theorem ops_I0 (g : Int → Int → Int) : OpS K mg (rI0 fun i j => .int (g i j)) (dI2 fun i j => some (.int (g i j))) := by
  intro c eh x y dx dy d Q hK hm sr rx ry e go
  cases rx with
  | int i =>
    cases ry with
    | int j => cases e; exact ⟨i, j, rfl, rfl, go c _ (.refl c) sr (.int _)⟩
    | _ => cases e
  | _ => cases e
theorem ops_B0 (g : Int → Int → Bool) : OpS K mg (rI0 fun i j => .bl (g i j)) (dI2 fun i j => some (.bl (g i j))) := by
  intro c eh x y dx dy d Q hK hm sr rx ry e go
  cases rx with
  | int i =>
    cases ry with
    | int j => cases e; exact ⟨i, j, rfl, rfl, go c _ (.refl c) sr (.bl _)⟩
    | _ => cases e
  | _ => cases e
theorem ops_IC (C : Int → Int → Prop) [∀ i j, Decidable (C i j)] (g : Int → Int → Int) : OpS K mg (rI C fun i j => .int (g i j)) (dI2 fun i j => if C i j then some (.int (g i j)) else none) := by
  intro c eh x y dx dy d Q hK hm sr rx ry e go
  cases rx with
  | int i =>
    cases ry with
    | int j =>
      have e' : (if C i j then some (D.int (g i j)) else none) = some d := e
      by_cases hc : C i j
      · rw [if_pos hc] at e'; cases e'; exact ⟨i, j, rfl, rfl, hc, go c _ (.refl c) sr (.int _)⟩
      · rw [if_neg hc] at e'; cases e'
    | _ => cases e
  | _ => cases e
instance (i j : Int) : Decidable (CMul i j) := by unfold CMul; infer_instance
instance (i j : Int) : Decidable (CDiv i j) := by unfold CDiv; infer_instance
instance (i j : Int) : Decidable (CPow i j) := by unfold CPow; infer_instance
def dCatS (_ : EH) (x y : D) : Option D := match x, y with
  | .str a, .str b => if a.length + b.length ≤ sizeLine then some (.str (a ++ b)) else none
  | _, _ => none
theorem ops_catS : OpS K mg (fun x y H Q => ∃ i j, x = V.str i ∧ y = V.str j ∧ i.length + j.length ≤ sizeLine ∧ Q (.str (i ++ j)) H) dCatS := by
  intro c eh x y dx dy d Q hK hm sr rx ry e go
  cases rx with
  | str a =>
    cases ry with
    | str b =>
      have e' : (if a.length + b.length ≤ sizeLine then some (D.str (a ++ b)) else none) = some d := e
      by_cases hc : a.length + b.length ≤ sizeLine
      · rw [if_pos hc] at e'
        cases e'
        refine ⟨_, _, rfl, rfl, by simpa [Str.length] using hc, ?_⟩
        have ee : (⟨a.toArray⟩ : Str) ++ (⟨b.toArray⟩ : Str) = ⟨(a ++ b).toArray⟩ := by
          show (⟨a.toArray ++ b.toArray⟩ : Str) = _
          simp
        rw [ee]
        exact go c _ (.refl c) sr (.str _)
      · rw [if_neg hc] at e'; cases e'
    | _ => cases e
  | _ => cases e
def dCatL (h : EH) (x y : D) : Option D := match asO h x with
  | some a => (match asO h y with
    | some b => if a.length + b.length ≤ sizeLine then some (.lst (a ++ b)) else none
    | none => none)
  | none => none
theorem ops_catL : OpS K mg rCat dCatL := by
  intro c eh x y dx dy d Q hK hm sr rx ry e go
  unfold dCatL at e
  cases q : asO eh dx with
  | none => rw [q] at e; cases e
  | some a =>
    rw [q] at e
    dsimp only at e
    cases q2 : asO eh dy with
    | none => rw [q2] at e; cases e
    | some b =>
      rw [q2] at e
      dsimp only at e
      by_cases hc : a.length + b.length ≤ sizeLine
      · rw [if_pos hc] at e
        cases e
        obtain ⟨l, xs, rfl, h1, r1⟩ := asO_ok sr rx q
        obtain ⟨m, ys, rfl, h2, r2⟩ := asO_ok sr ry q2
        exact ⟨l, m, xs, ys, rfl, rfl, h1, h2, by rw [← r1.length, ← r2.length]; exact hc, put_lst sr go (r1.append r2)⟩
      · rw [if_neg hc] at e; cases e
def dCatT (_ : EH) (x y : D) : Option D := match x, y with
  | .tup a, .tup b => if a.length + b.length ≤ sizeLine then some (.tup (a ++ b)) else none
  | _, _ => none
theorem ops_catT : OpS K mg (rCatA K) dCatT := by
  intro c eh x y dx dy d Q hK hm sr rx ry e go
  subst hK
  cases rx with
  | @tup a1 ds1 xs1 h1 r1 =>
    cases ry with
    | @tup a2 ds2 xs2 h2 r2 =>
      have e' : (if ds1.length + ds2.length ≤ sizeLine then some (D.tup (ds1 ++ ds2)) else none) = some d := e
      by_cases hc : ds1.length + ds2.length ≤ sizeLine
      · rw [if_pos hc] at e'
        cases e'
        have q1 := r1.length
        have q2 := r2.length
        refine ⟨_, _, _, _, rfl, rfl, h1, h2, by omega, fun z => ?_, fun _ z => ?_, fun _ _ => put_tup sr go (r1.append r2)⟩
        · subst z
          cases r1
          exact go c _ (.refl c) sr (.tup h2 r2)
        · subst z
          cases r2
          rw [List.append_nil] at go
          exact go c _ (.refl c) sr (.tup h1 r1)
      · rw [if_neg hc] at e'; cases e'
    | _ => cases e
  | _ => cases e
end
def toPD : D → Option PyData
  | .non => some .none
  | .bl b => some (.bool b)
  | .int i => some (.int i)
  | .str cs => some (.str ⟨cs.toArray⟩)
  | .tup ds => (go ds).map .tuple
  | .lst ds => (go ds).map .list
  | _ => none
where go : List D → Option (List PyData)
  | [] => some []
  | d :: ds => match toPD d, go ds with
    | some x, some xs => some (x :: xs)
    | _, _ => none
mutual
theorem toPD_ok {c : RC} : ∀ {d : D} {v : V} {p : PyData}, Rep c d v → toPD d = some p → Dp c.K c.H v p
  | _, _, p, .non, e => by cases e; exact .non
  | _, _, p, .bl b, e => by cases e; exact .bl b
  | _, _, p, .int i, e => by cases e; exact .int i
  | _, _, p, .str cs, e => by cases e; exact .str _
  | .tup ds, _, p, .tup h r, e => by
    rw [toPD] at e
    cases q : toPD.go ds with
    | none => rw [q] at e; cases e
    | some ps => rw [q] at e; cases e; exact .tup h (toPDs_ok r q)
  | .lst ds, _, p, .lst h f r, e => by
    rw [toPD] at e
    cases q : toPD.go ds with
    | none => rw [q] at e; cases e
    | some ps => rw [q] at e; cases e; exact .lst (.inl (.inl h)) (toPDs_ok r q)
  | _, _, p, .obj _ _ _ _, e => by cases e
  | _, _, p, .dic _ _ _ _, e => by cases e
  | _, _, p, .ref _, e => by cases e
  | _, _, p, .scr _ _, e => by cases e
theorem toPDs_ok {c : RC} : ∀ {ds : List D} {vs : List V} {ps : List PyData}, Reps c ds vs → toPD.go ds = some ps → DpAll c.K c.H vs ps
  | _, _, ps, .nil, e => by cases e; exact .nil
  | d :: ds, _, ps, .cons h t, e => by
    rw [toPD.go] at e
    cases q1 : toPD d with
    | none => rw [q1] at e; cases e
    | some x =>
      cases q2 : toPD.go ds with
      | none => rw [q1, q2] at e; cases e
      | some xs => rw [q1, q2] at e; cases e; exact .cons (toPD_ok h q1) (toPDs_ok t q2)
end
/-- two data compared -/
def dEqv (x y : D) : Option Bool := match toPD x, toPD y with
  | some p, some q => if SeqAt.shaped p = true ∧ SeqAt.shaped q = true then some (PyData.eqv p q) else none
  | _, _ => none
def dEqD (neg : Bool) : EH → D → D → Option D := fun _ x y => (dEqv x y).map fun b => .bl (neg != b)
section
variable {K : PySem.W.Frag} {mg : Str → Option Value}
theorem dEqv_ok {c : RC} {x y : D} {v u : V} {b : Bool} (rx : Rep c x v) (ry : Rep c y u) (e : dEqv x y = some b) : ∃ d e, Dp c.K c.H v d ∧ Dp c.K c.H u e ∧ SeqAt.shaped d = true ∧ SeqAt.shaped e = true ∧ PyData.eqv d e = b := by
  unfold dEqv at e
  cases q1 : toPD x with
  | none => rw [q1] at e; cases e
  | some p =>
    cases q2 : toPD y with
    | none => rw [q1, q2] at e; cases e
    | some q =>
      rw [q1, q2] at e
      have e' : (if SeqAt.shaped p = true ∧ SeqAt.shaped q = true then some (PyData.eqv p q) else none) = some b := e
      by_cases hc : SeqAt.shaped p = true ∧ SeqAt.shaped q = true
      · rw [if_pos hc] at e'
        exact ⟨p, q, toPD_ok rx q1, toPD_ok ry q2, hc.1, hc.2, Option.some.inj e'⟩
      · rw [if_neg hc] at e'; cases e'
theorem ops_eqD : OpS K mg (rEqD K) (dEqD false) := by
  intro c eh x y dx dy d Q hK hm sr rx ry e go
  subst hK
  unfold dEqD at e
  cases q : dEqv dx dy with
  | none => rw [q] at e; cases e
  | some b =>
    rw [q] at e
    obtain ⟨p, r, h1, h2, h3, h4, h5⟩ := dEqv_ok rx ry q
    cases e
    exact ⟨p, r, h1, h2, h3, h4, by rw [h5]; exact go c _ (.refl c) sr (by cases b <;> exact .bl _)⟩
theorem ops_neD : OpS K mg (rNeD K) (dEqD true) := by
  intro c eh x y dx dy d Q hK hm sr rx ry e go
  subst hK
  unfold dEqD at e
  cases q : dEqv dx dy with
  | none => rw [q] at e; cases e
  | some b =>
    rw [q] at e
    obtain ⟨p, r, h1, h2, h3, h4, h5⟩ := dEqv_ok rx ry q
    cases e
    exact ⟨p, r, h1, h2, h3, h4, by rw [h5]; exact go c _ (.refl c) sr (by cases b <;> exact .bl _)⟩
/-- scalars, without a look at their signs -/
def scalD : D → D → Option Bool
  | .non, .non => some true | .non, .int _ => some false | .int _, .non => some false | .non, .bl _ => some false | .bl _, .non => some false | .non, .str _ => some false | .str _, .non => some false
  | .int a, .int b => some (decide (a = b)) | .bl a, .bl b => some (decide (a = b)) | .str a, .str b => some (decide (a = b))
  | .int _, .str _ => some false | .str _, .int _ => some false | .bl _, .str _ => some false | .str _, .bl _ => some false
  | _, _ => none
theorem scalD_ok {c : RC} {x y : D} {v u : V} {b : Bool} (rx : Rep c x v) (ry : Rep c y u) (e : scalD x y = some b) : scal v u = true ∧ decide (v = u) = b := by
  cases rx <;> cases ry <;> first
    | (cases e; done)
    | (cases e; exact ⟨rfl, by simp⟩)
theorem ops_eqS : OpS K mg rEq (fun _ x y => (scalD x y).map D.bl) := by
  intro c eh x y dx dy d Q hK hm sr rx ry e go
  dsimp only at e
  cases q : scalD dx dy with
  | none => rw [q] at e; cases e
  | some b =>
    rw [q] at e
    cases e
    obtain ⟨h1, h2⟩ := scalD_ok rx ry q
    exact ⟨h1, by rw [h2]; exact go c _ (.refl c) sr (.bl b)⟩
theorem ops_neS : OpS K mg rNe (fun _ x y => (scalD x y).map fun b => D.bl (!b)) := by
  intro c eh x y dx dy d Q hK hm sr rx ry e go
  dsimp only at e
  cases q : scalD dx dy with
  | none => rw [q] at e; cases e
  | some b =>
    rw [q] at e
    cases e
    obtain ⟨h1, h2⟩ := scalD_ok rx ry q
    exact ⟨h1, by rw [h2]; exact go c _ (.refl c) sr (.bl _)⟩
def dEq : EH → D → D → Option D := fun h x y => ((scalD x y).map D.bl).or (dEqD false h x y)
def dNe : EH → D → D → Option D := fun h x y => ((scalD x y).map fun b => D.bl (!b)).or (dEqD true h x y)
end
end PD
namespace PD
open PySem PySem.Spec PyProof.Rows L2
variable [LamTab]
def flatD : D → Bool
  | .non => true
  | .bl _ => true
  | .int _ => true
  | .str _ => true
  | _ => false
def eqF : D → D → Bool
  | .non, .non => true
  | .bl a, .bl b => a == b
  | .bl a, .int b => (if a then 1 else 0) == b
  | .int a, .bl b => a == (if b then 1 else 0)
  | .int a, .int b => a == b
  | .str a, .str b => a == b
  | _, _ => false
theorem flat_ok {c : RC} {d : D} {v : V} (r : Rep c d v) : flatV v = flatD d := by cases r <;> rfl
theorem eqF_ok {c : RC} {d e : D} {v u : V} (r : Rep c d v) (q : Rep c e u) : eqV v u = eqF d e := by
  cases r <;> cases q <;> first
    | rfl
    | (rename_i a b
       show ((⟨a.toArray⟩ : Str) == ⟨b.toArray⟩) = (a == b)
       rw [Bool.eq_iff_iff]
       simp)
theorem flats_ok {c : RC} : ∀ {ds : List D} {vs : List V}, Reps c ds vs → vs.all flatV = ds.all flatD
  | _, _, .nil => rfl
  | _, _, .cons h t => by rw [List.all_cons, List.all_cons, flat_ok h, flats_ok t]
theorem inV_ok {c : RC} {x : D} {v : V} (r : Rep c x v) : ∀ {ds : List D} {vs : List V}, Reps c ds vs → inV v vs = ds.any fun y => eqF y x
  | _, _, .nil => rfl
  | _, _, .cons h t => by
    have ih := inV_ok r t
    unfold inV at ih ⊢
    rw [List.any_cons, List.any_cons, ih, eqF_ok h r]
def dIn (neg : Bool) (h : EH) (x y : D) : Option D := match asS h y with
  | some ds => if flatD x = true ∧ ds.all flatD = true then some (.bl (neg != ds.any fun z => eqF z x)) else none
  | none => none
def dInS (neg : Bool) (_ : EH) (x y : D) : Option D := match x, y with
  | .str a, .str z => (match a with
    | [c] => some (.bl (neg != decide (c ∈ z)))
    | _ => none)
  | _, _ => none
section
variable {K : PySem.W.Frag} {mg : Str → Option Value}
theorem ops_in (neg : Bool) : OpS K mg (rIn K neg) (dIn neg) := by
  intro c eh x y dx dy d Q hK hm sr rx ry e go
  subst hK
  unfold dIn at e
  cases q : asS eh dy with
  | none => rw [q] at e; cases e
  | some ds =>
    rw [q] at e
    dsimp only at e
    obtain ⟨a, xs, rfl, h1, r1⟩ := asS_ok sr ry q
    by_cases hc : flatD dx = true ∧ ds.all flatD = true
    · rw [if_pos hc] at e
      cases e
      refine ⟨a, xs, rfl, h1, (flat_ok rx).trans hc.1, (flats_ok r1).trans hc.2, ?_⟩
      rw [inV_ok rx r1]
      cases neg
      · exact go c _ (.refl c) sr (by simpa using Rep.bl _)
      · exact go c _ (.refl c) sr (by simpa using Rep.bl _)
    · rw [if_neg hc] at e; cases e
theorem ops_inS : OpS K mg (fun x y H Q => ∃ (c : Nat) (z : Str), x = V.str ⟨#[c]⟩ ∧ y = V.str z ∧ Q (.bl (decide (c ∈ z.cps.toList))) H) (dInS false) := by
  intro c eh x y dx dy d Q hK hm sr rx ry e go
  cases rx with
  | str a =>
    cases ry with
    | str b =>
      match a, e with
      | [k], e =>
        cases e
        exact ⟨k, _, rfl, rfl, go c _ (.refl c) sr (by simpa using Rep.bl _)⟩
    | _ => cases e
  | _ => cases e
theorem ops_ninS : OpS K mg (fun x y H Q => ∃ (c : Nat) (z : Str), x = V.str ⟨#[c]⟩ ∧ y = V.str z ∧ Q (.bl (!decide (c ∈ z.cps.toList))) H) (dInS true) := by
  intro c eh x y dx dy d Q hK hm sr rx ry e go
  cases rx with
  | str a =>
    cases ry with
    | str b =>
      match a, e with
      | [k], e =>
        cases e
        exact ⟨k, _, rfl, rfl, go c _ (.refl c) sr (by simpa using Rep.bl _)⟩
    | _ => cases e
  | _ => cases e
/-- is None, is not None -/
def isNon : D → Bool
  | .non => true
  | _ => false
def dIsN (neg : Bool) (_ : EH) (x y : D) : Option D := match y with
  | .non => some (.bl (neg != isNon x))
  | _ => none
theorem isNon_ok {c : RC} {d : D} {v : V} (r : Rep c d v) : decide (v = .non) = isNon d := by cases r <;> simp [isNon]
theorem ops_isN : OpS K mg (fun x y H Q => y = .non ∧ Q (.bl (decide (x = .non))) H) (dIsN false) := by
  intro c eh x y dx dy d Q hK hm sr rx ry e go
  cases ry with
  | non => cases e; exact ⟨rfl, by rw [isNon_ok rx]; exact go c _ (.refl c) sr (by simpa using Rep.bl _)⟩
  | _ => cases e
theorem ops_isnN : OpS K mg (fun x y H Q => y = .non ∧ Q (.bl (!decide (x = .non))) H) (dIsN true) := by
  intro c eh x y dx dy d Q hK hm sr rx ry e go
  cases ry with
  | non => cases e; exact ⟨rfl, by rw [isNon_ok rx]; exact go c _ (.refl c) sr (by simpa using Rep.bl _)⟩
  | _ => cases e
theorem atI_map {c : RC} {ds : List D} {xs : List V} {i : Int} {d : D} (r : Reps c ds xs) (e : atI ds i = some d) : ∃ v, atI xs i = some v ∧ Rep c d v := by
  unfold atI at e ⊢
  rw [← r.length]
  cases q : ixN ds.length i with
  | none => rw [q] at e; cases e
  | some j => rw [q] at e; exact r.get e
def dIx (h : EH) (x y : D) : Option D := match y with
  | .int i => (match x with
    | .str z => if z.length ≤ sizeLine then (atI z i).map fun k => .str [k] else none
    | x => match asS h x with
      | some ds => atI ds i
      | none => none)
  | _ => none
theorem ops_ix : OpS K mg (rIx K) dIx := by
  intro c eh x y dx dy d Q hK hm sr rx ry e go
  subst hK
  cases ry with
  | int i =>
    have fin : ∀ ds, asS eh dx = some ds → atI ds i = some d → rIx c.K x (.int i) c.H Q := fun ds q e => by
      obtain ⟨a, xs, rfl, h1, r1⟩ := asS_ok sr rx q
      obtain ⟨v, h2, r2⟩ := atI_map r1 e
      rcases h1 with h1 | h1
      · exact .inl ⟨a, xs, i, v, rfl, rfl, h1, h2, go c v (.refl c) sr r2⟩
      · exact .inr (.inl ⟨a, xs, i, v, rfl, rfl, h1, h2, go c v (.refl c) sr r2⟩)
    cases rx with
    | str z =>
      have e' : (if z.length ≤ sizeLine then (atI z i).map fun k => D.str [k] else none) = some d := e
      by_cases hc : z.length ≤ sizeLine
      · rw [if_pos hc] at e'
        cases q : atI z i with
        | none => rw [q] at e'; cases e'
        | some k =>
          rw [q] at e'
          cases e'
          exact .inr (.inr ⟨_, i, k, rfl, rfl, by simpa [Str.length] using hc, by simpa using q, go c _ (.refl c) sr (.str [k])⟩)
      · rw [if_neg hc] at e'; cases e'
    | @tup a ds xs h1 r1 => exact fin ds rfl e
    | @lst a ds xs h1 f r1 => exact fin ds rfl e
    | @scr a ds xs h1 r1 => exact fin ds rfl e
    | @ref n a hn =>
      cases q : asS eh (.ref n) with
      | none => unfold dIx at e; simp only [q] at e; cases e
      | some ds => unfold dIx at e; simp only [q] at e; exact fin ds q e
    | _ => cases e
  | _ => cases e
end
def cutD {α : Type} (xs : List α) (lo hi : Option Int) : List α := (xs.drop (HT.sIx xs.length 0 lo)).take (HT.sIx xs.length xs.length hi - HT.sIx xs.length 0 lo)
def mNoP : M (Option Int) := fun _ h => some (.ok none, h)
def mSmP (m : M D) : M (Option Int) := fun ε h => bR (m ε h) fun x h1 => match x with
  | .int i => some (.ok (some i), h1)
  | _ => none
def tO (K : PySem.W.Frag) (mg : Str → Option Value) (W : WX) := tX (α := Option Int) (fun (_ : RC) a b => a = b) K mg W
abbrev RO (X : Cx) (W : WX) (e : Option Expr) (m : M (Option Int)) : Prop := PO X e (tO X.K X.mg W m)
theorem po_imp {X : Cx} {e : Option Expr} {t t' : TO} (h : PO X e t) (k : ∀ σ H Q, t' σ H Q → t σ H Q) : PO X e t' := ⟨fun pins s σ H Q I q => h.run pins s σ H Q I (k σ H Q q)⟩
def dSl (h : EH) (x : D) (lo hi : Option Int) : Option D := match x with
  | .str z => if z.length ≤ sizeLine then some (.str (cutD z lo hi)) else none
  | .tup ds => some (.tup (cutD ds lo hi))
  | x => match asL h x with
    | some ds => some (.lst (cutD ds lo hi))
    | none => none
def mSl (a : M D) (lo hi : M (Option Int)) : M D := fun ε h => bR (a ε h) fun x h1 => bR (lo ε h1) fun l h2 => bR (hi ε h2) fun u h3 => rt (dSl h3 x l u) h3
section
variable {X : Cx} {W : WX}
theorem ro_none : RO X W none mNoP := by
  refine po_imp po_none fun σ H Q h => ?_
  obtain ⟨c, ε, h, r', h', hK, hm, rfl, sr, er, e, px, go⟩ := h
  cases e
  exact go _ rfl c _ (.refl c) sr rfl
theorem ro_some {e : Expr} {m : M D} (h : RE X W e m) : RO X W (some e) (mSmP m) := by
  refine po_imp (po_some h) fun σ H Q h => ?_
  obtain ⟨c, ε, h, r', h', hK, hm, rfl, sr, er, e, px, go⟩ := h
  unfold tPart
  refine tX.bind hK hm sr er e px fun x h1 c1 b e1 l1 s1 r1 => ?_
  cases r1 with
  | int i => cases e1; exact ⟨i, rfl, go _ rfl c1 _ l1 s1 rfl⟩
  | _ => cases e1
end
end PD
namespace PD
open PySem PySem.Spec PyProof.Rows L2
variable [LamTab]
section
variable {X : Cx} {W : WX}
theorem cutV_reps {c : RC} {ds : List D} {xs : List V} (r : Reps c ds xs) (lo hi : Option Int) : Reps c (cutD ds lo hi) (cutV xs lo hi) := by
  unfold cutD cutV
  rw [← r.length]
  exact (r.drop _).take _
theorem cutS_cutD (z : List Nat) (lo hi : Option Int) : cutS ⟨z.toArray⟩ lo hi = ⟨(cutD z lo hi).toArray⟩ := by
  unfold cutS cutD
  simp [Str.length]
theorem re_slice {a : Expr} {lo hi : Option Expr} {ma : M D} {ml mh : M (Option Int)} {p2 pos : Pos} (ha : RE X W a ma) (hl : RO X W lo ml) (hh : RO X W hi mh) : RE X W (.Subscript a (.Slice lo hi none p2) pos) (mSl ma ml mh) := by
  refine pe_imp (pe_slice (sl_list.or (sl_tupA.or sl_str)) ha hl hh) fun σ H Q h => ?_
  obtain ⟨c, ε, h, r', h', hK, hm, rfl, sr, er, e, px, go⟩ := h
  unfold tSl
  refine tX.bind hK hm sr er e px fun x h1 c1 v e1 l1 s1 r1 => ?_
  refine tX.bind (l1.K.trans hK) (l1.mg.trans hm) s1 (er.le l1) e1 (px.le l1) fun lo' h2 c2 lo2 e2 l2 s2 r2 => ?_
  refine tX.bind ((l2.K.trans l1.K).trans hK) ((l2.mg.trans l1.mg).trans hm) s2 ((er.le l1).le l2) e2 ((px.le l1).le l2) fun hi' h3 c3 hi2 e3 l3 s3 r3 => ?_
  subst r2 r3
  have r1' := (r1.le l2).le l3
  have hK3 : c3.K = X.K := ((l3.K.trans l2.K).trans l1.K).trans hK
  cases q : dSl h3 x lo' hi' with
  | none => rw [q] at e3; cases e3
  | some d =>
    rw [q] at e3
    cases e3
    have go' : ∀ c' v, c3.Le c' → SR c' _ → Rep c' d v → Q v c'.H := fun c' v l s r => go d rfl c' v (((l1.trans l2).trans l3).trans l) s r
    have fin : ∀ ds, asL _ x = some ds → some (D.lst (cutD ds lo' hi')) = some d → rSlL X.K v lo' hi' c3.H Q := fun ds q e => by
      cases e
      obtain ⟨a, xs, rfl, h1, r1⟩ := asL_ok s3 r1' q
      exact ⟨a, xs, rfl, (by rw [← hK3]; exact h1), put_lst s3 go' (cutV_reps r1 lo' hi')⟩
    cases r1' with
    | str z =>
      have e' : (if z.length ≤ sizeLine then some (D.str (cutD z lo' hi')) else none) = some d := q
      by_cases hc : z.length ≤ sizeLine
      · rw [if_pos hc] at e'
        cases e'
        exact .inr (.inr ⟨_, rfl, by simpa [Str.length] using hc, by rw [cutS_cutD]; exact go' c3 _ (.refl c3) s3 (.str _)⟩)
      · rw [if_neg hc] at e'; cases e'
    | @tup a ds xs k1 k2 =>
      cases q
      refine .inr (.inl ⟨a, xs, rfl, by rw [← hK3]; exact k1, fun hw => ?_, fun _ => put_tup s3 go' (cutV_reps k2 lo' hi')⟩)
      have ez : cutD ds lo' hi' = ds := by
        unfold cutD
        rw [k2.length, hw.1, hw.2, List.drop_zero, Nat.sub_zero, List.take_of_length_le (by rw [k2.length]; exact Nat.le_refl _)]
      exact go' c3 _ (.refl c3) s3 (by rw [ez]; exact .tup k1 k2)
    | @lst a ds xs k1 k2 k3 => exact .inl (fin ds rfl q)
    | @scr a ds xs k1 k2 => exact .inl (fin ds rfl q)
    | @ref n a hn =>
      have q' : (match asL h' (D.ref n) with
        | some ds => some (D.lst (cutD ds lo' hi'))
        | none => none) = some d := q
      cases q2 : asL h' (D.ref n) with
      | none => rw [q2] at q'; cases q'
      | some ds => rw [q2] at q'; exact .inl (fin ds q2 q')
    | _ => cases q
def CallS (K : PySem.W.Frag) (mg : Str → Option Value) (r : List V → Hp → VK → Prop) (f : EH → List D → Option D) : Prop := ∀ (c : RC) (h : EH) (xs : List V) (ds : List D) (d : D) (Q : VK), c.K = K → MgE c mg → SR c h → Reps c ds xs → f h ds = some d →
  (∀ c' v, c.Le c' → SR c' h → Rep c' d v → Q v c'.H) → r xs c.H Q
def mCall (f : EH → List D → Option D) (a : M (List D)) : M D := fun ε h => bR (a ε h) fun xs h1 => rt (f h1 xs) h1
theorem tcb_of {K : PySem.W.Frag} {mg : Str → Option Value} {r : List V → Hp → VK → Prop} {f : EH → List D → Option D} {a : M (List D)} (hs : CallS K mg r f) {σ : L2.St} {H : Hp} {Q : VK} (h : tE K mg W (mCall f a) σ H Q) : tCB r (tA K mg W a) σ H Q := by
  obtain ⟨c, ε, h, r', h', hK, hm, rfl, sr, er, e, px, go⟩ := h
  unfold tCB
  refine tX.bind hK hm sr er e px fun ds h1 c1 xs e1 l1 s1 r1 => ?_
  cases q : f h1 ds with
  | none => rw [q] at e1; cases e1
  | some d =>
    rw [q] at e1
    cases e1
    exact hs c1 _ xs ds d Q (l1.K.trans hK) (l1.mg.trans hm) s1 r1 q fun c' v l s r => go d rfl c' v (l1.trans l) s r
variable {e : Expr} {es : List Expr} {x : Str} {p pos : Pos} {ma : M (List D)} {id : String} {T : String} {r : List V → Hp → VK → Prop} {f : EH → List D → Option D}
theorem re_callB (hc : CallR X (.builtin id) r) (hs : CallS X.K X.mg r f) (hm : X.mg x = none) (ha : RA X W (e :: es) ma) (hv : bootBuiltins x = some (.builtin id) := by decide +kernel) (hg : Gl X x := by rfl) (hn : x ≠ "__name__" := by decide) (hdb : (x == ("__debug__" : Str)) = false := by decide)
    (he : starEach (e :: es) X.env = (false, eval e X.env) :: starEach es X.env := by rfl) (hpl : (backTo pos (starEach es X.env)).any (·.1) = false := by rfl) : RE X W (.Call (.Name x p) (e :: es) [] pos) (mCall f ma) :=
  pe_imp (pe_callB hc hg hm hv ha hn hdb he hpl) fun _ _ _ h => tcb_of hs h
theorem re_callTy (hc : CallR X (.type T) r) (hs : CallS X.K X.mg r f) (hm : X.mg x = none) (ha : RA X W (e :: es) ma) (hv : bootBuiltins x = some (.type T) := by decide +kernel) (hg : Gl X x := by rfl) (hn : x ≠ "__name__" := by decide) (hdb : (x == ("__debug__" : Str)) = false := by decide)
    (he : starEach (e :: es) X.env = (false, eval e X.env) :: starEach es X.env := by rfl) (hpl : (backTo pos (starEach es X.env)).any (·.1) = false := by rfl) : RE X W (.Call (.Name x p) (e :: es) [] pos) (mCall f ma) :=
  pe_imp (pe_callTy hc hg hm hv ha hn hdb he hpl) fun _ _ _ h => tcb_of hs h
end
section
variable {K : PySem.W.Frag} {mg : Str → Option Value}
def dLen1 (h : EH) (d : D) : Option D := match d with
  | .str z => if z.length ≤ sizeLine then some (.int z.length) else none
  | d => (match asS h d with
    | some xs => some (.int xs.length)
    | none => none)
def dLen (h : EH) (ds : List D) : Option D := match ds with
  | [d] => dLen1 h d
  | _ => none
theorem cs_len : CallS K mg (fun xs H Q => ∃ x n, xs = [x] ∧ LenV K x H n ∧ Q (.int n) H) dLen := by
  intro c eh xs ds d Q hK hm sr rx e go
  subst hK
  match ds, rx, e with
  | [d0], .cons r0 .nil, e =>
    have fin : ∀ v xs, Rep c d0 v → asS eh d0 = some xs → d = .int xs.length → ∃ x n, [v] = [x] ∧ LenV c.K x c.H n ∧ Q (.int n) c.H := fun v xs r0 q eq => by
      subst eq
      obtain ⟨a, ys, rfl, h1, r1⟩ := asS_ok sr r0 q
      refine ⟨_, ys.length, rfl, ?_, ?_⟩
      · rcases h1 with h1 | h1
        · exact .inl ⟨ys, h1, rfl⟩
        · exact .inr ⟨ys, h1, rfl⟩
      · rw [← r1.length]; exact go c _ (.refl c) sr (.int _)
    cases r0 with
    | str z =>
      have e' : (if z.length ≤ sizeLine then some (D.int z.length) else none) = some d := e
      by_cases hc : z.length ≤ sizeLine
      · rw [if_pos hc] at e'
        cases e'
        exact ⟨_, z.length, rfl, ⟨by simpa [Str.length] using hc, by simp [Str.length]⟩, go c _ (.refl c) sr (.int _)⟩
      · rw [if_neg hc] at e'; cases e'
    | @tup a ds xs h1 r1 => exact fin _ ds (.tup h1 r1) rfl (by cases e; rfl)
    | @lst a ds xs h1 f r1 => exact fin _ ds (.lst h1 f r1) rfl (by cases e; rfl)
    | @scr a ds xs h1 r1 => exact fin _ ds (.scr h1 r1) rfl (by cases e; rfl)
    | @ref n a hn =>
      have e' : (match asS eh (D.ref n) with
        | some xs => some (D.int xs.length)
        | none => none) = some d := e
      cases q : asS eh (.ref n) with
      | none => rw [q] at e'; cases e'
      | some ds => rw [q] at e'; exact fin _ ds (.ref hn) q (by cases e'; rfl)
    | _ => cases e
  | [], _, e => cases e
  | _ :: _ :: _, _, e => cases e
def dInt1 (d : D) : Option D := match d with
  | .int i => some (.int i)
  | .bl k => some (.int (if k then 1 else 0))
  | .str z => if z.length ≤ 640 then (PySem.intText? ⟨z.toArray⟩).map .int else none
  | _ => none
def dInt (_ : EH) (ds : List D) : Option D := match ds with
  | [d] => dInt1 d
  | _ => none
theorem cs_int : CallS K mg (fun xs H Q => ((∃ i, xs = [.int i] ∧ Q (.int i) H) ∨ ∃ k, xs = [.bl k] ∧ Q (.int (if k then 1 else 0)) H) ∨ (∃ a n, xs = [.str a] ∧ PySem.intText? a = some n ∧ a.length ≤ 640 ∧ Q (.int n) H)) dInt := by
  intro c eh xs ds d Q hK hm sr rx e go
  match ds, rx, e with
  | [d0], .cons r0 .nil, e =>
    cases r0 with
    | int i => cases e; exact .inl (.inl ⟨i, rfl, go c _ (.refl c) sr (.int _)⟩)
    | bl k => cases e; exact .inl (.inr ⟨k, rfl, go c _ (.refl c) sr (.int _)⟩)
    | str z =>
      have e' : (if z.length ≤ 640 then (PySem.intText? ⟨z.toArray⟩).map D.int else none) = some d := e
      by_cases hc : z.length ≤ 640
      · rw [if_pos hc] at e'
        cases q : PySem.intText? ⟨z.toArray⟩ with
        | none => rw [q] at e'; cases e'
        | some n => rw [q] at e'; cases e'; exact .inr ⟨_, n, rfl, q, by simpa [Str.length] using hc, go c _ (.refl c) sr (.int _)⟩
      · rw [if_neg hc] at e'; cases e'
    | _ => cases e
  | [], _, e => cases e
  | _ :: _ :: _, _, e => cases e
def dList (h : EH) (ds : List D) : Option D := match ds with
  | [d] => (match asS h d with
    | some xs => some (.lst xs)
    | none => none)
  | _ => none
theorem cs_list : CallS K mg (fun xs H Q => ∃ p ys, xs = [.ref p] ∧ (SqL K H p ys ∨ SqT K H p ys) ∧ ∀ l, H l = none → Q (.ref l) (upd H l (.lst ys))) dList := by
  intro c eh xs ds d Q hK hm sr rx e go
  subst hK
  match ds, rx, e with
  | [d0], .cons r0 .nil, e =>
    cases q : asS eh d0 with
    | none => unfold dList at e; simp only [q] at e; cases e
    | some xs =>
      unfold dList at e
      simp only [q] at e
      cases e
      obtain ⟨a, ys, rfl, h1, r1⟩ := asS_ok sr r0 q
      exact ⟨a, ys, rfl, h1, put_lst sr go r1⟩
  | [], _, e => cases e
  | _ :: _ :: _, _, e => cases e
def dTuple (h : EH) (ds : List D) : Option D := match ds with
  | [d] => (match asS h d with
    | some xs => some (.tup xs)
    | none => none)
  | _ => none
def asBs : List D → Option (List Bool)
  | [] => some []
  | .bl b :: ds => (asBs ds).map (b :: ·)
  | _ :: _ => none
theorem asBs_ok {c : RC} : ∀ {ds : List D} {xs : List V} {bs : List Bool}, Reps c ds xs → asBs ds = some bs → xs = bs.map V.bl
  | _, _, bs, .nil, e => by cases e; rfl
  | _, _, bs, .cons h t, e => by
    cases h with
    | bl b =>
      unfold asBs at e
      rename_i ds vs
      cases q : asBs ds with
      | none => rw [q] at e; cases e
      | some cs => rw [q] at e; cases e; rw [asBs_ok t q]; rfl
    | _ => cases e
def dAll (h : EH) (ds : List D) : Option D := match ds with
  | [d] => (match asL h d with
    | some xs => (asBs xs).map fun bs => .bl (bs.all id)
    | none => none)
  | _ => none
theorem cs_all : CallS K mg (rAll K) dAll := by
  intro c eh xs ds d Q hK hm sr rx e go
  subst hK
  match ds, rx, e with
  | [d0], .cons r0 .nil, e =>
    cases q : asL eh d0 with
    | none => unfold dAll at e; simp only [q] at e; cases e
    | some xs =>
      unfold dAll at e
      simp only [q] at e
      obtain ⟨a, ys, rfl, h1, r1⟩ := asL_ok sr r0 q
      cases q2 : asBs xs with
      | none => rw [q2] at e; cases e
      | some bs => rw [q2] at e; cases e; exact ⟨a, bs, rfl, by rw [← asBs_ok r1 q2]; exact h1, go c _ (.refl c) sr (.bl _)⟩
  | [], _, e => cases e
  | _ :: _ :: _, _, e => cases e
end
end PD
namespace PD
open PySem PySem.Spec PyProof.Rows L2
variable [LamTab]
inductive RS where
  | nx (ε : Ev)
  | rt (d : D)
  | bk (ε : Ev)
  | ct (ε : Ev)
  | ex (e : Ex) (ε : Ev)
abbrev MS := Ev → EH → Option (RS × EH)
/-- what is wanted of a statement's end -/
def Fin (W : WX) (D : Ends) (c : RC) (r : RS) (h' : EH) : Prop := match r with
  | .nx ε' => ∀ c' σ', c.Le c' → SR c' h' → EnvR c' ε' σ' → D.nx σ' c'.H
  | .rt d => ∀ c' v, c.Le c' → SR c' h' → Rep c' d v → D.rt v c'.H
  | .bk ε' => ∀ c' σ', c.Le c' → SR c' h' → EnvR c' ε' σ' → D.bk σ' c'.H
  | .ct ε' => ∀ c' σ', c.Le c' → SR c' h' → EnvR c' ε' σ' → D.ct σ' c'.H
  | .ex e ε' => ∀ c' σ' cls dx, c.Le c' → SR c' h' → EnvR c' ε' σ' → ExR c' e cls dx → W cls dx σ' c'.H
theorem Fin.le {W : WX} {D : Ends} {c c1 : RC} {r : RS} {h' : EH} (f : Fin W D c r h') (l : c.Le c1) : Fin W D c1 r h' := by
  cases r with
  | nx ε' => exact fun c' σ' l' => f c' σ' (l.trans l')
  | rt d => exact fun c' v l' => f c' v (l.trans l')
  | bk ε' => exact fun c' σ' l' => f c' σ' (l.trans l')
  | ct ε' => exact fun c' σ' l' => f c' σ' (l.trans l')
  | ex e ε' => exact fun c' σ' cls dx l' => f c' σ' cls dx (l.trans l')
def tS (K : PySem.W.Frag) (mg : Str → Option Value) (W : WX) (m : MS) : TS := fun D σ H =>
  ∃ (c : RC) (ε : Ev) (h : EH) (r : RS) (h' : EH), c.K = K ∧ MgE c mg ∧ c.H = H ∧ SR c h ∧ EnvR c ε σ ∧ m ε h = some (r, h') ∧ Fin W D c r h'
abbrev RSt (X : Cx) (W : WX) (st : Stmt) (m : MS) : Prop := PS X st (tS X.K X.mg W m)
abbrev RSs (X : Cx) (W : WX) (sts : List Stmt) (m : MS) : Prop := PSs X sts (tS X.K X.mg W m)
theorem ps_imp {X : Cx} {st : Stmt} {t t' : TS} (h : PS X st t) (k : ∀ D σ H, t' D σ H → t D σ H) : PS X st t' := ⟨fun pins s σ H D I q => h.run pins s σ H D I (k D σ H q)⟩
theorem pss_imp {X : Cx} {st : List Stmt} {t t' : TS} (h : PSs X st t) (k : ∀ D σ H, t' D σ H → t D σ H) : PSs X st t' := ⟨fun pins s σ H D I q => h.run pins s σ H D I (k D σ H q)⟩
/-- an expression, then a statement's end -/
def bS {α : Type} (x : O α) (ε : Ev) (f : α → EH → Option (RS × EH)) : Option (RS × EH) := match x with
  | some (.ok a, h) => f a h
  | some (.ex e, h) => some (.ex e ε, h)
  | none => none
theorem tX.stm {α β : Type} {Rl : RC → α → β → Prop} {K : PySem.W.Frag} {mg : Str → Option Value} {W : WX} {m : M α} {k : α → EH → Option (RS × EH)} {c : RC} {ε : Ev} {h h' : EH} {r : RS} {σ : L2.St} {D : Ends} {Q : β → Hp → Prop}
    (hK : c.K = K) (hm : MgE c mg) (sr : SR c h) (er : EnvR c ε σ) (e : bS (m ε h) ε k = some (r, h')) (fin : Fin W D c r h')
    (go : ∀ a h1 c1 b, k a h1 = some (r, h') → c.Le c1 → SR c1 h1 → Rl c1 a b → Q b c1.H) : tX Rl K mg W m σ c.H Q := by
  cases q : m ε h with
  | none => rw [q] at e; cases e
  | some z =>
    obtain ⟨r1, h1⟩ := z
    cases r1 with
    | ok a =>
      rw [q] at e
      exact ⟨c, ε, h, .ok a, h1, hK, hm, rfl, sr, er, q, Px.ok, fun a' ea c1 b l s rb => by cases ea; exact go a h1 c1 b e l s rb⟩
    | ex x =>
      rw [q] at e
      cases e
      exact ⟨c, ε, h, .ex x, _, hK, hm, rfl, sr, er, q, fun y ey c' cls dx l s xr => by cases ey; exact fin c' σ cls dx l s (er.le l) xr, fun a' ea => nomatch ea⟩
section
variable {X : Cx} {W : WX}
def msNil : MS := fun ε h => some (.nx ε, h)
def msSeq (a b : MS) : MS := fun ε h => match a ε h with
  | some (.nx ε1, h1) => b ε1 h1
  | some (r, h1) => some (r, h1)
  | none => none
theorem rss_nil : RSs X W [] msNil := by
  refine pss_imp pss_nil fun D σ H h => ?_
  obtain ⟨c, ε, h, r, h', hK, hm, rfl, sr, er, e, fin⟩ := h
  cases e
  exact fin c σ (.refl c) sr er
theorem seq_of {K : PySem.W.Frag} {mg : Str → Option Value} {m1 m2 : MS} {D : Ends} {σ : L2.St} {H : Hp} (h : tS K mg W (msSeq m1 m2) D σ H) : tSeq (tS K mg W m1) (tS K mg W m2) D σ H := by
  obtain ⟨c, ε, h, r, h', hK, hm, rfl, sr, er, e, fin⟩ := h
  unfold msSeq at e
  cases q : m1 ε h with
  | none => rw [q] at e; cases e
  | some z =>
    obtain ⟨r1, h1⟩ := z
    rw [q] at e
    refine ⟨c, ε, h, r1, h1, hK, hm, rfl, sr, er, q, ?_⟩
    cases r1 with
    | nx ε1 => exact fun c' σ' l s en => ⟨c', ε1, h1, r, h', l.K.trans hK, l.mg.trans hm, rfl, s, en, e, fin.le l⟩
    | rt d => cases e; exact fin
    | bk ε' => cases e; exact fin
    | ct ε' => cases e; exact fin
    | ex x ε' => cases e; exact fin
theorem rss_cons {st : Stmt} {rest : List Stmt} {m1 m2 : MS} (h1 : RSt X W st m1) (h2 : RSs X W rest m2) : RSs X W (st :: rest) (msSeq m1 m2) :=
  pss_imp (pss_cons h1 h2) fun _ _ _ h => seq_of h
theorem rss_one {st : Stmt} {m : MS} (h : RSt X W st m) : RSs X W [st] m := pss_one h
def msRet (a : M D) : MS := fun ε h => bS (a ε h) ε fun d h1 => some (.rt d, h1)
theorem rs_ret {e : Expr} {m : M D} {pos : Pos} (he : RE X W e m) : RSt X W (.Return (some e) pos) (msRet m) := by
  refine ps_imp (ps_ret he) fun D σ H h => ?_
  obtain ⟨c, ε, h, r, h', hK, hm, rfl, sr, er, e, fin⟩ := h
  unfold tRet
  refine tX.stm hK hm sr er e fin fun d h1 c1 v e1 l1 s1 r1 => ?_
  cases e1
  exact fin c1 v l1 s1 r1
def msIf (t : M Bool) (a b : MS) : MS := fun ε h => bS (t ε h) ε fun k h1 => if k = true then a ε h1 else b ε h1
theorem rs_if {t : Expr} {a b : List Stmt} {mt : M Bool} {ma mb : MS} {pos : Pos} (ht : RT X W t mt) (ha : RSs X W a ma) (hb : RSs X W b mb) : RSt X W (.If t a b pos) (msIf mt ma mb) := by
  refine ps_imp (ps_if ht ha hb) fun D σ H h => ?_
  obtain ⟨c, ε, h, r, h', hK, hm, rfl, sr, er, e, fin⟩ := h
  unfold tIfS
  refine tX.stm hK hm sr er e fin fun k h1 c1 v e1 l1 s1 r1 => ?_
  subst r1
  cases k with
  | true => exact ⟨c1, ε, h1, r, h', l1.K.trans hK, l1.mg.trans hm, rfl, s1, er.le l1, e1, fin.le l1⟩
  | false => exact ⟨c1, ε, h1, r, h', l1.K.trans hK, l1.mg.trans hm, rfl, s1, er.le l1, e1, fin.le l1⟩
def msExpr (a : M D) : MS := fun ε h => bS (a ε h) ε fun _ h1 => some (.nx ε, h1)
theorem rs_expr {e : Expr} {m : M D} {pos : Pos} (he : RE X W e m) (hs : swapsWith e none pos.line X.env = pure false := by rfl) : RSt X W (.Expr e pos) (msExpr m) := by
  refine ps_imp (ps_expr he hs) fun D σ H h => ?_
  obtain ⟨c, ε, h, r, h', hK, hm, rfl, sr, er, e, fin⟩ := h
  unfold tDrop
  refine tX.stm hK hm sr er e fin fun k h1 c1 v e1 l1 s1 r1 => ?_
  cases e1
  exact fin c1 σ l1 s1 (er.le l1)
def msBk : MS := fun ε h => some (.bk ε, h)
def msCt : MS := fun ε h => some (.ct ε, h)
abbrev MG := D → Ev → EH → Option (Ev × EH)
abbrev MGs := List D → Ev → EH → Option (Ev × EH)
/-- the slots but S are as they were -/
structure Save (S : List Nat) (σ σ' : L2.St) : Prop where
  len : σ'.length = σ.length
  at_ : ∀ i, i ∉ S → σ'[i]? = σ[i]?
theorem Save.refl {S : List Nat} {σ : L2.St} : Save S σ σ := ⟨rfl, fun _ _ => rfl⟩
def tG (K : PySem.W.Frag) (mg : Str → Option Value) (S : List Nat) (m : MG) : TG := fun v σ H Q => ∃ (c : RC) (d : D) (ε : Ev) (h : EH) (ε' : Ev) (h' : EH), c.K = K ∧ MgE c mg ∧ c.H = H ∧ SR c h ∧ Rep c d v ∧ EnvR c ε σ ∧ m d ε h = some (ε', h') ∧ ∀ c' σ', c.Le c' → SR c' h' → EnvR c' ε' σ' → Save S σ σ' → Q σ' c'.H
def tGs (K : PySem.W.Frag) (mg : Str → Option Value) (S : List Nat) (m : MGs) : TGs := fun vs σ H Q => ∃ (c : RC) (ds : List D) (ε : Ev) (h : EH) (ε' : Ev) (h' : EH), c.K = K ∧ MgE c mg ∧ c.H = H ∧ SR c h ∧ Reps c ds vs ∧ EnvR c ε σ ∧ m ds ε h = some (ε', h') ∧ ∀ c' σ', c.Le c' → SR c' h' → EnvR c' ε' σ' → Save S σ σ' → Q σ' c'.H
abbrev RG (X : Cx) (tg : Expr) (S : List Nat) (m : MG) : Prop := PG X tg (tG X.K X.mg S m)
abbrev RGs (X : Cx) (tgs : List Expr) (S : List Nat) (m : MGs) : Prop := PGs X tgs (tGs X.K X.mg S m)
theorem pg_imp {X : Cx} {tg : Expr} {t t' : TG} (h : PG X tg t) (k : ∀ v σ H Q, t' v σ H Q → t v σ H Q) : PG X tg t' := ⟨fun pins s σ H v u Q I r q => h.run pins s σ H v u Q I r (k v σ H Q q)⟩
theorem pgs_imp {X : Cx} {tg : List Expr} {t t' : TGs} (h : PGs X tg t) (k : ∀ v σ H Q, t' v σ H Q → t v σ H Q) : PGs X tg t' := ⟨fun pins s σ H v u Q I r q => h.run pins s σ H v u Q I r (k v σ H Q q)⟩
def mgName (i : Nat) : MG := fun d ε h => some (ε.set i (some d), h)
theorem rg_name (i : Nat) {x : Str} {pos : Pos} (hN : X.N.Nodup) (hi : X.N[i]? = some x := by rfl) (hx : Loc X.env.scope x := by first | exact Or.inl rfl | exact Or.inr rfl) (hf : X.fn x = true ∨ X.env.scope.names.lookup x = some .local := by first | exact .inl rfl | exact .inr rfl | assumption) : RG X (.Name x pos) [i] (mgName i) := by
  refine pg_imp (pg_name hN hi hx hf) fun v σ H Q h => ?_
  obtain ⟨c, d, ε, h, ε', h', hK, hm, rfl, sr, rv, er, e, go⟩ := h
  cases e
  exact go c _ (.refl c) sr (er.set rv i) ⟨List.length_set, fun j hj => List.getElem?_set_ne (fun z => hj (by simp [z]))⟩
def mgNil : MGs := fun ds ε h => match ds with
  | [] => some (ε, h)
  | _ :: _ => none
def mgCons (a : MG) (b : MGs) : MGs := fun ds ε h => match ds with
  | [] => none
  | d :: r => match a d ε h with
    | some (ε1, h1) => b r ε1 h1
    | none => none
theorem rgs_nil : RGs X [] [] mgNil := by
  refine pgs_imp pgs_nil fun vs σ H Q h => ?_
  obtain ⟨c, ds, ε, h, ε', h', hK, hm, rfl, sr, rv, er, e, go⟩ := h
  cases rv with
  | nil => cases e; exact ⟨rfl, go c σ (.refl c) sr er .refl⟩
  | cons _ _ => cases e
theorem rgs_cons {e : Expr} {es : List Expr} {S T : List Nat} {a : MG} {b : MGs} (h1 : RG X e S a) (h2 : RGs X es T b) (hs : (assignEach (e :: es) X.env).map (·.2) = assign e X.env :: (assignEach es X.env).map (·.2) := by rfl) : RGs X (e :: es) (S ++ T) (mgCons a b) := by
  refine pgs_imp (pgs_cons h1 h2 hs) fun vs σ H Q h => ?_
  obtain ⟨c, ds, ε, h, ε', h', hK, hm, rfl, sr, rv, er, e, go⟩ := h
  cases rv with
  | nil => cases e
  | @cons d ds v vs r t =>
    have e' : (match a d ε h with
      | some (ε1, h1) => b ds ε1 h1
      | none => none) = some (ε', h') := e
    cases q : a d ε h with
    | none => rw [q] at e'; cases e'
    | some z =>
      obtain ⟨ε1, h1⟩ := z
      rw [q] at e'
      exact ⟨v, vs, rfl, c, d, ε, h, ε1, h1, hK, hm, rfl, sr, r, er, q, fun c' σ' l s en sv => ⟨c', ds, ε1, h1, ε', h', l.K.trans hK, l.mg.trans hm, rfl, s, t.le l, en, e', fun c2 σ2 l2 s2 en2 sv2 => go c2 σ2 (l.trans l2) s2 en2
        ⟨sv2.len.trans sv.len, fun i hi => (sv2.at_ i fun z => hi (List.mem_append_right _ z)).trans (sv.at_ i fun z => hi (List.mem_append_left _ z))⟩⟩⟩
/-- (a, b, ..) = a tuple of that length -/
def mgTup (n : Nat) (ms : MGs) : MG := fun d ε h => match d with
  | .tup ds => if ds.length = n then ms ds ε h else none
  | _ => none
theorem rg_tup {es : List Expr} {k : Nat} {S : List Nat} {ms : MGs} {pos : Pos} {n : Nat} (hc : X.calm = true) (h : RGs X es S ms) (hn : (assignEach es X.env).length = n := by rfl) (hst : (assignEach es X.env).findIdx? (·.1) = none := by rfl) : RG X (.Tuple es k pos) S (mgTup n ms) := by
  refine pg_imp (pg_tup hc h hn hst) fun v σ H Q h => ?_
  obtain ⟨c, d, ε, h, ε', h', hK, hm, rfl, sr, rv, er, e, go⟩ := h
  cases rv with
  | @tup a ds xs k1 k2 =>
    have e' : (if ds.length = n then ms ds ε h else none) = some (ε', h') := e
    by_cases hl : ds.length = n
    · rw [if_pos hl] at e'
      exact ⟨a, xs, rfl, by rw [← hK]; exact k1, by rw [← k2.length]; exact hl, c, ds, ε, h, ε', h', hK, hm, rfl, sr, k2, er, e', go⟩
    · rw [if_neg hl] at e'; cases e'
  | _ => cases e
/-- o[i] = v, o a list cell -/
def putL (h : EH) (o i v : D) : Option EH := match o, i with
  | .ref n, .int k => (match h[n]? with
    | some (.lst ds) => (match ixN ds.length k with
      | some j => some (h.set n (.lst (ds.set j v)))
      | none => none)
    | _ => none)
  | _, _ => none
def mgSub (o i : M D) : MG := fun v ε h => match o ε h with
  | some (.ok x, h1) => (match i ε h1 with
    | some (.ok y, h2) => (putL h2 x y v).map fun h3 => (ε, h3)
    | _ => none)
  | _ => none
theorem rg_sub {o i : Expr} {mo mi : M D} {pos : Pos} {W : WX} (ho : RE X W o mo) (hi : RE X W i mi)
    (ha : ∀ v, assign (.Subscript o i pos) X.env v = (do
      let ov ← holding [v] (eval o X.env)
      let iv ← holding [v, ov] (eval i X.env)
      standAt pos
      holding [v, ov, iv] (setItem ov iv v)
      release [v, ov, iv] []) := by intro _; rfl) : RG X (.Subscript o i pos) [] (mgSub mo mi) := by
  refine pg_imp (pg_sub ho hi set_list ha) fun v σ H Q h => ?_
  obtain ⟨c, d, ε, h, ε', h', hK, hm, rfl, sr, rv, er, e, go⟩ := h
  unfold mgSub at e
  cases q : mo ε h with
  | none => rw [q] at e; cases e
  | some z =>
    obtain ⟨r1, h1⟩ := z
    cases r1 with
    | ex x => rw [q] at e; cases e
    | ok x =>
      rw [q] at e
      dsimp only at e
      refine ⟨c, ε, h, .ok x, h1, hK, hm, rfl, sr, er, q, Px.ok, fun x' ex c1 ov l1 s1 r1 => ?_⟩
      cases ex
      cases q2 : mi ε h1 with
      | none => rw [q2] at e; cases e
      | some z =>
        obtain ⟨r2, h2⟩ := z
        cases r2 with
        | ex x => rw [q2] at e; cases e
        | ok y =>
          rw [q2] at e
          dsimp only at e
          refine ⟨c1, ε, h1, .ok y, h2, l1.K.trans hK, l1.mg.trans hm, rfl, s1, er.le l1, q2, Px.ok, fun y' ey c2 iv l2 s2 r2 => ?_⟩
          cases ey
          cases q3 : putL h2 x y d with
          | none => rw [q3] at e; cases e
          | some h3 =>
            rw [q3] at e
            cases e
            cases r2 with
            | int k =>
              have r1' := r1.le l2
              cases r1' with
              | @ref n a hn =>
                unfold putL at q3
                dsimp only at q3
                cases q4 : h2[n]? with
                | none => rw [q4] at q3; cases q3
                | some cl =>
                  rw [q4] at q3
                  cases cl with
                  | lst ds =>
                    dsimp only at q3
                    obtain ⟨xs, e1, e2⟩ := s2.cells n a _ hn q4
                    cases q5 : ixN ds.length k with
                    | none => rw [q5] at q3; cases q3
                    | some j =>
                      rw [q5] at q3
                      cases q3
                      refine ⟨a, xs, k, j, rfl, rfl, e1, by rw [← e2.length]; exact q5, ?_⟩
                      have rv2 : Rep c2 d v := (rv.le l1).le l2
                      obtain ⟨l3, s3⟩ := s2.write (o := .lst (xs.set j v)) (k := .lst (ds.set j d)) hn (fun ys z => by
                        rcases z with z | ⟨u, z⟩ <;> rw [e1] at z <;> cases z) (fun o u z => by rw [e1] at z; cases z) fun c' l' eh => ⟨_, eh, (e2.le l').set (rv2.le l') j⟩
                      exact go _ σ ((l1.trans l2).trans l3) s3 (((er.le l1).le l2).le l3) .refl
                  | _ => cases q3
              | _ => cases q3
            | _ => cases x <;> cases q3
def bG (x : Option (Ev × EH)) : Option (RS × EH) := x.map fun z => (.nx z.1, z.2)
def msAsg (a : M D) (g : MG) : MS := fun ε h => bS (a ε h) ε fun d h1 => bG (g d ε h1)
theorem asg_of {K : PySem.W.Frag} {mg : Str → Option Value} {a : M D} {g : MG} {S : List Nat} {D : Ends} {σ : L2.St} {H : Hp} (h : tS K mg W (msAsg a g) D σ H) : tAsg (tE K mg W a) (tG K mg S g) D σ H := by
  obtain ⟨c, ε, h, r, h', hK, hm, rfl, sr, er, e, fin⟩ := h
  unfold tAsg
  refine tX.stm hK hm sr er e fin fun d h1 c1 v e1 l1 s1 r1 => ?_
  cases q : g d ε h1 with
  | none => rw [q] at e1; cases e1
  | some z =>
    obtain ⟨ε2, h2⟩ := z
    rw [q] at e1
    cases e1
    exact ⟨c1, d, ε, h1, ε2, _, l1.K.trans hK, l1.mg.trans hm, rfl, s1, r1, er.le l1, q, fun c' σ' l s en _ => fin c' σ' (l1.trans l) s en⟩
theorem rs_asg {tg e : Expr} {m : M D} {g : MG} {S : List Nat} {pos : Pos} (he : RE X W e m) (hg : RG X tg S g) (hs : swapsWithSole [tg] e pos.line X.env = pure false := by rfl) (hw : swappedStores [tg] e X.env = pure none := by rfl)
    (h1 : (assignEach [tg] X.env).map (·.2) = [assign tg X.env] := by rfl) : RSt X W (.Assign [tg] e pos) (msAsg m g) := ps_imp (ps_asg he hg hs hw h1) fun _ _ _ h => asg_of h
theorem rs_set (i : Nat) {x : Str} {e : Expr} {m : M D} {pos pos' : Pos} (hN : X.N.Nodup) (he : RE X W e m) (hi : X.N[i]? = some x := by rfl) (hx : Loc X.env.scope x := by first | exact Or.inl rfl | exact Or.inr rfl) (hs : swapsWith e (some (.Name x pos')) pos.line X.env = pure false := by rfl)
    (hf : X.fn x = true ∨ X.env.scope.names.lookup x = some .local := by first | exact .inl rfl | exact .inr rfl | assumption) : RSt X W (.Assign [.Name x pos'] e pos) (msAsg m (mgName i)) := by
  refine ps_imp (ps_set hN hi hx he hs hf) fun D σ H h => ?_
  obtain ⟨c, ε, h, r, h', hK, hm, rfl, sr, er, e, fin⟩ := h
  unfold tAsg
  refine tX.stm hK hm sr er e fin fun d h1 c1 v e1 l1 s1 r1 => ?_
  cases e1
  exact fin c1 _ l1 s1 ((er.le l1).set r1 i)
/-- a, b = x, y with plain local names -/
def msPar (i j : Nat) (m : M (List D)) : MS := fun ε h => bS (m ε h) ε fun ds h1 => match ds with
  | [d, e] => some (.nx ((ε.set i (some d)).set j (some e)), h1)
  | _ => none
end
end PD
namespace PD
open PySem PySem.Spec PyProof.Rows L2
variable [LamTab]
/-- the walk J gives ds -/
def WalkR (c : RC) (ds : List D) (J : It) : Prop := ∃ (G : Hp → Prop) (Y : Nat → Hp → V → Hp → Prop), Walk J ds.length G Y ∧ (∀ c', c.LeW c' → G c'.H) ∧
  ∀ (i : Nat) (x : V) (c' : RC) (h : EH) (H' : Hp), c.LeW c' → SR c' h → Y i c'.H x H' → ∃ c'', c''.H = H' ∧ c'.Le c'' ∧ SR c'' h ∧ ∃ d, ds[i]? = some d ∧ Rep c'' d x
theorem WalkR.le {c c1 : RC} {ds : List D} {J : It} (w : WalkR c ds J) (l : c.Le c1) : WalkR c1 ds J := by
  obtain ⟨G, Y, hw, hG, hY⟩ := w
  exact ⟨G, Y, hw, fun c' l' => hG c' (l.toW.trans l'), fun i x c' h H' l' => hY i x c' h H' (l.toW.trans l')⟩
def tI (K : PySem.W.Frag) (mg : Str → Option Value) (W : WX) (m : M (List D)) : TI := tX WalkR K mg W m
abbrev RI (X : Cx) (W : WX) (tg it : Expr) (m : M (List D)) : Prop := PI X tg it (tI X.K X.mg W m)
theorem pi_imp {X : Cx} {tg it : Expr} {t t' : TI} (h : PI X tg it t) (k : ∀ σ H Q, t' σ H Q → t σ H Q) : PI X tg it t' := ⟨fun pins s σ H R I q => h.run pins s σ H R I (k σ H R q)⟩
theorem walkR_list {c : RC} {a : Addr} {ds : List D} {xs : List V} (h : ∀ c', c.LeW c' → SqL c.K c'.H a xs) (r : Reps c ds xs) : WalkR c ds (Itl c.K a) := by
  refine ⟨fun H => SqL c.K H a xs, YAt xs, ?_, h, fun i x c' h H' l s y => ?_⟩
  · rw [r.length]; exact walk_list
  · obtain ⟨rfl, e⟩ := y
    obtain ⟨d, h1, h2⟩ := (r.leW l).getV e
    exact ⟨c', rfl, .refl c', s, d, h1, h2⟩
theorem walkR_tup {c : RC} {a : Addr} {ds : List D} {xs : List V} (h : SqT c.K c.H a xs) (r : Reps c ds xs) : WalkR c ds (Itt c.K a) := by
  refine ⟨fun H => SqT c.K H a xs, YAt xs, ?_, fun c' l => by rw [← l.K]; exact l.sqT h, fun i x c' h H' l s y => ?_⟩
  · rw [r.length]; exact walk_tup
  · obtain ⟨rfl, e⟩ := y
    obtain ⟨d, h1, h2⟩ := (r.leW l).getV e
    exact ⟨c', rfl, .refl c', s, d, h1, h2⟩
def miL (a : M D) : M (List D) := fun ε h => bR (a ε h) fun x h1 => match x with
  | .lst ds => some (.ok ds, h1)
  | .scr ds => some (.ok ds, h1)
  | _ => none
def miT (a : M D) : M (List D) := fun ε h => bR (a ε h) fun x h1 => match x with
  | .tup ds => some (.ok ds, h1)
  | _ => none
def miS (a : M D) : M (List D) := fun ε h => bR (a ε h) fun x h1 => match x with
  | .str z => some (.ok (z.map fun c => .str [c]), h1)
  | _ => none
section
variable {X : Cx} {W : WX} {tg : Expr}
theorem ri_list {e : Expr} {m : M D} (he : RE X W e m) : RI X W tg e (miL m) := by
  refine pi_imp (pi_list he) fun σ H R h => ?_
  obtain ⟨c, ε, h, r, h', hK, hm, rfl, sr, er, e, px, go⟩ := h
  unfold iList
  refine tX.bind hK hm sr er e px fun d h1 c1 v e1 l1 s1 r1 => ?_
  cases r1 with
  | @lst a ds xs k1 k2 k3 =>
    cases e1
    refine ⟨a, rfl, ⟨xs, .inl (.inl k1)⟩, go _ rfl c1 _ l1 s1 ?_⟩
    rw [← hK, ← l1.K]
    exact walkR_list (fun c' l => .inl (.inl (l.lstH k1 k2).1)) k3
  | @scr a ds xs k1 k2 =>
    cases e1
    refine ⟨a, rfl, ⟨xs, by rw [← hK, ← l1.K]; exact k1.sq⟩, go _ rfl c1 _ l1 s1 ?_⟩
    rw [← hK, ← l1.K]
    exact walkR_list (fun c' l => by rw [← l.K]; exact (l.scrL k1).sq) k2
  | _ => cases e1
theorem ri_tup {e : Expr} {m : M D} (he : RE X W e m) : RI X W tg e (miT m) := by
  refine pi_imp (pi_tup he) fun σ H R h => ?_
  obtain ⟨c, ε, h, r, h', hK, hm, rfl, sr, er, e, px, go⟩ := h
  unfold iTup
  refine tX.bind hK hm sr er e px fun d h1 c1 v e1 l1 s1 r1 => ?_
  cases r1 with
  | @tup a ds xs k1 k2 =>
    cases e1
    refine ⟨a, rfl, ⟨xs, by rw [← hK, ← l1.K]; exact k1⟩, go _ rfl c1 _ l1 s1 ?_⟩
    rw [← hK, ← l1.K]
    exact walkR_tup k1 k2
  | _ => cases e1
theorem ri_str {e : Expr} {m : M D} (he : RE X W e m) : RI X W tg e (miS m) := by
  refine pi_imp (pi_str he) fun σ H R h => ?_
  obtain ⟨c, ε, h, r, h', hK, hm, rfl, sr, er, e, px, go⟩ := h
  unfold iStr
  refine tX.bind hK hm sr er e px fun d h1 c1 v e1 l1 s1 r1 => ?_
  cases r1 with
  | str z =>
    cases e1
    refine ⟨_, rfl, go _ rfl c1 _ l1 s1 ⟨fun _ => True, fun i H v H' => H' = H ∧ ∃ c, (⟨z.toArray⟩ : Str).cps[i]? = some c ∧ v = .str ⟨#[c]⟩, ?_, fun _ _ => trivial, fun i x c' h H' l s y => ?_⟩⟩
    · have w := walk_str (z := (⟨z.toArray⟩ : Str))
      rw [List.length_map]
      exact w
    · obtain ⟨rfl, k, h1, rfl⟩ := y
      refine ⟨c', rfl, .refl c', s, .str [k], ?_, .str [k]⟩
      have h1' : z[i]? = some k := by simpa using h1
      rw [List.getElem?_map, h1']
      rfl
  | _ => cases e1
/-- range(n) -/
def rngD (lo : Int) (n : Nat) : List D := (List.range n).map fun i => .int (lo + (i : Nat))
def miR1 (a : M (List D)) : M (List D) := fun ε h => bR (a ε h) fun xs h1 => match xs with
  | [.int j] => if -(2 ^ 62) ≤ j ∧ j < 2 ^ 62 then some (.ok (rngD 0 j.toNat), h1) else none
  | _ => none
def miR2 (a : M (List D)) : M (List D) := fun ε h => bR (a ε h) fun xs h1 => match xs with
  | [.int i, .int j] => if -(2 ^ 62) ≤ i ∧ i < 2 ^ 62 ∧ -(2 ^ 62) ≤ j ∧ j < 2 ^ 62 then some (.ok (rngD i (j - i).toNat), h1) else none
  | _ => none
theorem walkR_range {c : RC} (lo : Int) (n : Nat) : WalkR c (rngD lo n) (Itr lo n) := by
  refine ⟨fun _ => True, fun i H x H' => i < n ∧ H' = H ∧ x = .int (lo + (i : Nat)), ?_, fun _ _ => trivial, fun i x c' h H' l s y => ?_⟩
  · have w := walk_range (lo := lo) (n := n)
    have e : (rngD lo n).length = n := by simp [rngD]
    rw [e]
    exact ⟨w.goes, w.stops, fun i H x H' hi g y => (show i < n ∧ H' = H ∧ x = .int (lo + (i : Nat)) from ⟨hi, w.yields i H x H' hi g y⟩)⟩
  · obtain ⟨hi, rfl, rfl⟩ := y
    refine ⟨c', rfl, .refl c', s, .int (lo + (i : Nat)), ?_, .int _⟩
    unfold rngD
    rw [List.getElem?_map, List.getElem?_range hi]
    rfl
theorem ri_range1 {a : Expr} {ma : M (List D)} {p pos : Pos} (hm : X.mg "range" = none) (ha : RA X W [a] ma) (hg : Gl X "range" := by rfl) (hs : starEach [a] X.env = [(false, eval a X.env)] := by rfl) : RI X W tg (.Call (.Name "range" p) [a] [] pos) (miR1 ma) := by
  refine pi_imp (pi_range1 hg hm ha hs) fun σ H R h => ?_
  obtain ⟨c, ε, h, r, h', hK, hm, rfl, sr, er, e, px, go⟩ := h
  unfold iRng1
  refine tX.bind hK hm sr er e px fun ds h1 c1 vs e1 l1 s1 r1 => ?_
  cases r1 with
  | nil => cases e1
  | cons q t =>
    cases q with
    | int j =>
      cases t with
      | nil =>
        have e' : (if -(2 ^ 62) ≤ j ∧ j < 2 ^ 62 then some (PD.R.ok (rngD 0 j.toNat), h1) else none) = some (r, h') := e1
        by_cases hc : -(2 ^ 62) ≤ j ∧ j < 2 ^ 62
        · rw [if_pos hc] at e'
          cases e'
          exact ⟨j, rfl, hc.1, hc.2, go _ rfl c1 _ l1 s1 (walkR_range 0 j.toNat)⟩
        · rw [if_neg hc] at e'; cases e'
      | cons _ _ => cases e1
    | _ => cases e1
theorem ri_range2 {a b : Expr} {ma : M (List D)} {p pos : Pos} (hm : X.mg "range" = none) (ha : RA X W [a, b] ma) (hg : Gl X "range" := by rfl) (hs : starEach [a, b] X.env = [(false, eval a X.env), (false, eval b X.env)] := by rfl) (hs2 : starEach [b] X.env = [(false, eval b X.env)] := by rfl) : RI X W tg (.Call (.Name "range" p) [a, b] [] pos) (miR2 ma) := by
  refine pi_imp (pi_range2 hg hm ha hs hs2) fun σ H R h => ?_
  obtain ⟨c, ε, h, r, h', hK, hm, rfl, sr, er, e, px, go⟩ := h
  unfold iRng2
  refine tX.bind hK hm sr er e px fun ds h1 c1 vs e1 l1 s1 r1 => ?_
  cases r1 with
  | nil => cases e1
  | cons q t =>
    cases q with
    | int i =>
      cases t with
      | nil => cases e1
      | cons q t =>
        cases q with
        | int j =>
          cases t with
          | nil =>
            have e' : (if -(2 ^ 62) ≤ i ∧ i < 2 ^ 62 ∧ -(2 ^ 62) ≤ j ∧ j < 2 ^ 62 then some (PD.R.ok (rngD i (j - i).toNat), h1) else none) = some (r, h') := e1
            by_cases hc : -(2 ^ 62) ≤ i ∧ i < 2 ^ 62 ∧ -(2 ^ 62) ≤ j ∧ j < 2 ^ 62
            · rw [if_pos hc] at e'
              cases e'
              exact ⟨i, j, rfl, hc, go _ rfl c1 _ l1 s1 (walkR_range i _)⟩
            · rw [if_neg hc] at e'; cases e'
          | cons _ _ => cases e1
        | _ => cases e1
    | _ => cases e1
/-- pairs, each a new tuple -/
theorem walkR_pair {c : RC} {J : It} {G : Hp → Prop} {f g : Nat → Option V} {ds : List D} (w : Walk J ds.length G (YPair f g)) (hG : ∀ c', c.LeW c' → G c'.H)
    (hd : ∀ (i : Nat) (x y : V) (c' : RC), c.LeW c' → f i = some x → g i = some y → ∃ d e, ds[i]? = some (.tup [d, e]) ∧ Rep c' d x ∧ Rep c' e y) : WalkR c ds J := by
  refine ⟨G, _, w, hG, fun i v c' h H' l s y => ?_⟩
  obtain ⟨T, x, z, rfl, hT, rfl, h1, h2⟩ := y
  obtain ⟨d, e, e1, r1, r2⟩ := hd i x z c' l h1 h2
  obtain ⟨l', s', f'⟩ := s.new (o := .tup [x, z]) hT
  exact ⟨c'.put T (.tup [x, z]), rfl, l', s', _, e1, .tup (.inl (.inl upd_same)) (.cons (r1.le l') (.cons (r2.le l') .nil))⟩
def zipD (as bs : List D) : List D := (as.zip bs).map fun p => .tup [p.1, p.2]
def miZip (a : M (List D)) : M (List D) := fun ε h => bR (a ε h) fun xs h1 => match xs with
  | [x, y] => (match x, y with
    | .lst as, .lst bs => some (.ok (zipD as bs), h1)
    | .tup as, .tup bs => some (.ok (zipD as bs), h1)
    | .scr as, .lst bs => some (.ok (zipD as bs), h1)
    | .lst as, .scr bs => some (.ok (zipD as bs), h1)
    | .scr as, .scr bs => some (.ok (zipD as bs), h1)
    | _, _ => none)
  | _ => none
/-- lists, locked ones too -/
def lsD : D → Option (List D)
  | .lst as => some as
  | .scr as => some as
  | _ => none
theorem lsD_ok {c : RC} {d : D} {v : V} {as : List D} (r : Rep c d v) (e : lsD d = some as) : ∃ a xs, v = .ref a ∧ SqL c.K c.H a xs ∧ Reps c as xs ∧ ∀ c', c.LeW c' → SqL c'.K c'.H a xs := by
  cases r with
  | @lst a as' xs k1 k2 k3 =>
    cases e
    exact ⟨a, xs, rfl, .inl (.inl k1), k3, fun c' l => .inl (.inl (l.lstH k1 k2).1)⟩
  | @scr a as' xs k1 k2 =>
    cases e
    exact ⟨a, xs, rfl, k1.sq, k2, fun c' l => (l.scrL k1).sq⟩
  | _ => cases e
theorem zip_at {c : RC} {as bs : List D} {xs ys : List V} (ra : Reps c as xs) (rb : Reps c bs ys) (i : Nat) (x y : V) (c' : RC) (l : c.LeW c') (e1 : xs[i]? = some x) (e2 : ys[i]? = some y) : ∃ d e, (zipD as bs)[i]? = some (.tup [d, e]) ∧ Rep c' d x ∧ Rep c' e y := by
  obtain ⟨d, h1, r1⟩ := ra.getV e1
  obtain ⟨e, h2, r2⟩ := rb.getV e2
  refine ⟨d, e, ?_, r1.leW l, r2.leW l⟩
  unfold zipD
  rw [List.getElem?_map, List.getElem?_zip_eq_some.mpr (show as[i]? = some (d, e).1 ∧ bs[i]? = some (d, e).2 from ⟨h1, h2⟩)]
  rfl
theorem ri_zip {e e2 : Expr} {ma : M (List D)} {p pos tpos : Pos} {elts : List Expr} {kk : Nat} (hm : X.mg "zip" = none) (ha : RA X W [e, e2] ma) (hg : Gl X "zip" := by rfl)
    (hs : starEach [e, e2] X.env = (false, eval e X.env) :: starEach [e2] X.env := by rfl) (hpl : (backTo pos (starEach [e2] X.env)).any (·.1) = false := by rfl) : RI X W (.Tuple elts kk tpos) (.Call (.Name "zip" p) [e, e2] [] pos) (miZip ma) := by
  refine pi_imp (RZ.pi_zipA hg hm ha hs hpl) fun σ H R h => ?_
  obtain ⟨c, ε, h, r, h', hK, hm, rfl, sr, er, e, px, go⟩ := h
  unfold RZ.iZipA
  refine tX.bind hK hm sr er e px fun ds h1 c1 vs e1 l1 s1 r1 => ?_
  have hK1 : c1.K = X.K := l1.K.trans hK
  match ds, r1, e1 with
  | [d1, d2], .cons q1 (.cons q2 .nil), e1 =>
    cases z1 : lsD d1 with
    | some as =>
      cases z2 : lsD d2 with
      | some bs =>
        have e1' : some (PD.R.ok (zipD as bs), h1) = some (r, h') := by
          cases d1 <;> first
            | (cases z1; done)
            | (cases z1; cases d2 <;> first
                | (cases z2; done)
                | (cases z2; exact e1))
        cases e1'
        obtain ⟨a, xs, rfl, g1, g2, g3⟩ := lsD_ok q1 z1
        obtain ⟨b, ys, rfl, j1, j2, j3⟩ := lsD_ok q2 z2
        refine ⟨a, b, xs, ys, rfl, .inl ⟨by rw [← hK1]; exact g1, by rw [← hK1]; exact j1, go _ rfl c1 _ l1 s1 (walkR_pair (G := fun H => SqL X.K H a xs ∧ SqL X.K H b ys) (walk_zip ?_) (fun c' l => ⟨by have := g3 c' l; rw [l.K, hK1] at this; exact this, by have := j3 c' l; rw [l.K, hK1] at this; exact this⟩) (zip_at g2 j2))⟩⟩
        simp [zipD, g2.length, j2.length]
      | none =>
        cases d1 <;> first
          | (cases z1; done)
          | (cases d2 <;> first
              | (cases z2; done)
              | (cases e1; done))
    | none =>
    cases q1 with
    | @lst a as xs k1 k2 k3 => cases z1
    | @scr a as xs k1 k2 => cases z1
    | @tup a as xs k1 k2 =>
      cases q2 with
      | @tup b bs ys j1 j2 =>
        cases e1
        have w : Walk (RZ.ItzT X.K a b) (zipD as bs).length (fun H => SqT X.K H a xs ∧ SqT X.K H b ys) (YPair (fun i => xs[i]?) (fun i => ys[i]?)) := by
          have en : (zipD as bs).length = min xs.length ys.length := by simp [zipD, k2.length, j2.length]
          rw [en]
          refine ⟨fun i _ hi q => ?_, fun _ q => ⟨xs, ys, q.1, q.2, by omega⟩, fun i H v H' _ q y => ?_⟩
          · have h1 : i < xs.length := by omega
            have h2 : i < ys.length := by omega
            exact ⟨xs, ys, xs[i], ys[i], q.1, q.2, by simp [h1], by simp [h2]⟩
          · obtain ⟨T, x, z, h1, h2, h3, h4, h5⟩ := y
            exact ⟨T, x, z, h1, h2, h3, h4 xs q.1, h5 ys q.2⟩
        refine ⟨a, b, xs, ys, rfl, .inr ⟨by rw [← hK1]; exact k1, by rw [← hK1]; exact j1, go _ rfl c1 _ l1 s1 (walkR_pair w (fun c' l => ?_) (zip_at k2 j2))⟩⟩
        rw [← hK1, ← l.K]
        exact ⟨l.sqT k1, l.sqT j1⟩
      | _ => cases e1
    | _ => cases e1
  | [], _, e1 => cases e1
  | [_], _, e1 => cases e1
  | _ :: _ :: _ :: _, _, e1 => cases e1
def enumD (as : List D) : List D := as.zipIdx.map fun p => .tup [.int (p.2 : Nat), p.1]
def forL (g : MG) (b : MS) : List D → Ev → EH → Option (RS × EH)
  | [], ε, h => some (.nx ε, h)
  | d :: ds, ε, h => match g d ε h with
    | none => none
    | some (ε1, h1) => match b ε1 h1 with
      | some (.nx ε2, h2) => forL g b ds ε2 h2
      | some (.ct ε2, h2) => forL g b ds ε2 h2
      | some (.bk ε2, h2) => some (.nx ε2, h2)
      | some (.rt d, h2) => some (.rt d, h2)
      | some (.ex e ε2, h2) => some (.ex e ε2, h2)
      | none => none
def msFor (it : M (List D)) (g : MG) (b : MS) : MS := fun ε h => bS (it ε h) ε fun ds h1 => forL g b ds ε h1
theorem rs_for {iter : Expr} {body : List Stmt} {mi : M (List D)} {g : MG} {S : List Nat} {b : MS} {pos : Pos} (hp : PassesOwn (model X.prog X.w) X.A X.env X.xe) (hc : X.calm = true) (hi : RI X W tg iter mi) (hg : RG X tg S g) (hb : RSs X W body b)
    (hs : ∀ x, foldedSetIterable iter X.env x = pure x := by intro _; rfl) : RSt X W (.For tg iter body [] pos) (msFor mi g b) := by
  refine ps_imp (ps_for hp hc hi hg hb hs) fun D σ H h => ?_
  obtain ⟨c, ε, h, r, h', hK, hm, rfl, sr, er, e, fin⟩ := h
  unfold tFor
  refine tX.stm hK hm sr er e fin fun ds h1 c1 J e1 l1 s1 r1 => ?_
  obtain ⟨G, Y, hw, hG, hY⟩ := r1
  have hK1 := l1.K.trans hK
  have hm1 := l1.mg.trans hm
  refine for_it hw (fun i σ H => ∃ c2 ε2 h2, c1.Le c2 ∧ c2.H = H ∧ SR c2 h2 ∧ EnvR c2 ε2 σ ∧ forL g b (ds.drop i) ε2 h2 = some (r, h')) ⟨c1, ε, h1, .refl c1, rfl, s1, er.le l1, by simpa using e1⟩ ?_ ?_ ?_
  · rintro i σ H hi ⟨c2, ε2, h2, l2, rfl, _⟩
    exact hG c2 l2.toW
  · rintro i x σ H H' hi ⟨c2, ε2, h2, l2, rfl, s2, en2, e2⟩ y
    obtain ⟨c3, rfl, l3, s3, d, hd, rd⟩ := hY i x c2 h2 H' l2.toW s2 y
    have hdr : ds.drop i = d :: ds.drop (i + 1) := by
      rw [List.drop_eq_getElem_cons hi]
      have : ds[i] = d := by
        have := List.getElem?_eq_getElem hi
        rw [this] at hd
        exact Option.some.inj hd
      rw [this]
    rw [hdr] at e2
    unfold forL at e2
    cases q : g d ε2 h2 with
    | none => rw [q] at e2; cases e2
    | some z =>
      obtain ⟨ε3, h3⟩ := z
      rw [q] at e2
      dsimp only at e2
      refine ⟨c3, d, ε2, h2, ε3, h3, ((l3.K.trans l2.K).trans hK1), ((l3.mg.trans l2.mg).trans hm1), rfl, s3, rd, en2.le l3, q, fun c4 σ4 l4 s4 en4 _ => ?_⟩
      have L4 := (l2.trans l3).trans l4
      cases q2 : b ε3 h3 with
      | none => rw [q2] at e2; cases e2
      | some z =>
        obtain ⟨rb, h5⟩ := z
        rw [q2] at e2
        refine ⟨c4, ε3, h3, rb, h5, L4.K.trans hK1, L4.mg.trans hm1, rfl, s4, en4, q2, ?_⟩
        cases rb with
        | nx ε5 => exact fun c5 σ5 l5 s5 en5 => ⟨c5, ε5, h5, L4.trans l5, rfl, s5, en5, e2⟩
        | ct ε5 => exact fun c5 σ5 l5 s5 en5 => ⟨c5, ε5, h5, L4.trans l5, rfl, s5, en5, e2⟩
        | bk ε5 => cases e2; exact (fin.le (l1.trans L4))
        | rt d5 => cases e2; exact (fin.le (l1.trans L4))
        | ex x5 ε5 => cases e2; exact (fin.le (l1.trans L4))
  · rintro σ H ⟨c2, ε2, h2, l2, rfl, s2, en2, e2⟩
    rw [List.drop_length] at e2
    cases e2
    exact fin c2 σ (l1.trans l2) s2 en2
end
end PD
namespace PD
open PySem PySem.Spec PyProof.Rows L2
variable [LamTab]
/-- nothing is let out -/
abbrev W0 : WX := fun _ _ _ _ => False
def wipeE (ε : Ev) : List Nat → Ev
  | [] => ε
  | i :: r => (wipeE ε r).set i none
theorem wipe_envR {c : RC} : ∀ (vs : List Nat) {ε : Ev} {σ : L2.St}, EnvR c ε σ → EnvR c (wipeE ε vs) (wipe σ vs)
  | [], _, _, r => r
  | i :: vs, ε, σ, r => by
    have ih := wipe_envR vs r
    unfold wipeE wipe
    refine ⟨by rw [List.length_set, List.length_set]; exact ih.len, fun j d h => ?_⟩
    by_cases hj : i = j
    · subst hj
      have hi : i < (wipeE ε vs).length := by
        have := (List.getElem?_eq_some_iff.mp h).1
        rwa [List.length_set] at this
      rw [List.getElem?_set_self hi] at h
      cases h
    · rw [List.getElem?_set_ne hj] at h
      rw [List.getElem?_set_ne hj]
      exact ih.at_ j d h
theorem wipe_in {i : Nat} : ∀ {vs : List Nat} {σ : L2.St}, i ∈ vs → i < σ.length → (wipe σ vs)[i]? = some none
  | v :: vs, σ, hi, hl => by
    unfold wipe
    by_cases e : v = i
    · subst e
      rw [List.getElem?_set_self (by rw [wipe_length]; exact hl)]
    · rw [List.getElem?_set_ne e]
      exact wipe_in ((List.mem_cons.mp hi).resolve_left fun z => e z.symm) hl
theorem wipe_save {S vs : List Nat} {σ σ' : L2.St} (s : Save S (wipe σ vs) σ') (h : ∀ i ∈ S, i ∈ vs) : wipe σ' vs = wipe σ vs := by
  have hl : σ'.length = σ.length := by rw [s.len, wipe_length]
  refine List.ext_getElem? fun i => ?_
  by_cases hi : i ∈ vs
  · by_cases hb : i < σ.length
    · rw [wipe_in hi (by rw [hl]; exact hb), wipe_in hi hb]
    · rw [List.getElem?_eq_none (by rw [wipe_length, hl]; omega), List.getElem?_eq_none (by rw [wipe_length]; omega)]
  · rw [wipe_out hi, s.at_ i fun z => hi (h i z)]
/-- the tests of a clause -/
abbrev RTs (X : Cx) (W : WX) (ifs : List Expr) (m : M Bool) : Prop := PTs X ifs (tT X.K X.mg W m)
def mYes : M Bool := fun _ h => some (.ok true, h)
theorem pts_imp {X : Cx} {ifs : List Expr} {t t' : TT} (h : PTs X ifs t) (k : ∀ σ H Q, t' σ H Q → t σ H Q) : PTs X ifs t' := ⟨fun pins s σ H Q I q => h.run pins s σ H Q I (k σ H Q q)⟩
theorem rts_nil {X : Cx} {W : WX} : RTs X W [] mYes := by
  refine pts_imp pts_nil fun σ H Q h => ?_
  obtain ⟨c, ε, h, r, h', hK, hm, rfl, sr, er, e, px, go⟩ := h
  cases e
  exact go _ rfl c _ (.refl c) sr rfl
theorem rts_one {X : Cx} {W : WX} {e : Expr} {m : M Bool} (h : RT X W e m) : RTs X W [e] m := pts_one h
/-- the items of a comprehension; nothing is raised within -/
def lcL (g : MG) (t : M Bool) (e : M D) : List D → Ev → EH → Option (List D × EH)
  | [], _, h => some ([], h)
  | d :: ds, ε, h => match g d ε h with
    | none => none
    | some (ε1, h1) => match t ε1 h1 with
      | some (.ok true, h2) => (match e ε1 h2 with
        | some (.ok y, h3) => (match lcL g t e ds ε h3 with
          | some (ys, h4) => some (y :: ys, h4)
          | none => none)
        | _ => none)
      | some (.ok false, h2) => lcL g t e ds ε h2
      | _ => none
def okL (x : Option (List D × EH)) : O D := match x with
  | some (ds, h) => if ds.length ≤ sizeLine then some (.ok (.lst ds), h) else none
  | none => none
def mLc (vs : List Nat) (it : M (List D)) (g : MG) (t : M Bool) (e : M D) : M D := fun ε h => bR (it ε h) fun ds h1 => okL (lcL g t e ds (wipeE ε vs) h1)
/-- other things not to be touched -/
abbrev RC.av (c : RC) (B : Addr → Prop) : RC := { c with B := B }
mutual
theorem Rep.fewer {c : RC} {B : Addr → Prop} (hB : ∀ a, B a → c.B a) : ∀ {d : D} {v : V}, Rep c d v → Rep (c.av B) d v
  | _, _, .non => .non
  | _, _, .bl b => .bl b
  | _, _, .int i => .int i
  | _, _, .str cs => .str cs
  | _, _, .tup h r => .tup h (Reps.fewer hB r)
  | _, _, .lst h f r => .lst h ⟨fun z => f.1 (hB _ z), f.2⟩ (Reps.fewer hB r)
  | _, _, .scr h r => .scr h (Reps.fewer hB r)
  | _, _, .obj m h f r => .obj m h ⟨fun z => f.1 (hB _ z), f.2⟩ (RepF.fewer hB r)
  | _, _, .dic h i f r => .dic h i ⟨fun z => f.1 (hB _ z), f.2⟩ (RepP.fewer hB r)
  | _, _, .fn h f h2 f2 cr r => .fn h ⟨fun z => f.1 (hB _ z), f.2⟩ h2 ⟨fun z => f2.1 (hB _ z), f2.2⟩ (cr.imp fun b o hb fb => ⟨hb, fun z => fb.1 (hB _ z), fb.2⟩) (Reps.fewer hB r)
  | _, _, .exc m h f h2 f2 r => .exc m h ⟨fun z => f.1 (hB _ z), f.2⟩ h2 ⟨fun z => f2.1 (hB _ z), f2.2⟩ (RepF.fewer hB r)
  | _, _, .ref h => .ref h
theorem Reps.fewer {c : RC} {B : Addr → Prop} (hB : ∀ a, B a → c.B a) : ∀ {ds : List D} {vs : List V}, Reps c ds vs → Reps (c.av B) ds vs
  | _, _, .nil => .nil
  | _, _, .cons h t => .cons (Rep.fewer hB h) (Reps.fewer hB t)
theorem RepP.fewer {c : RC} {B : Addr → Prop} (hB : ∀ a, B a → c.B a) : ∀ {ds : List (List Key × D)} {vs : List (List Key × V)}, RepP c ds vs → RepP (c.av B) ds vs
  | _, _, .nil => .nil
  | _, _, .cons h t => .cons (Rep.fewer hB h) (RepP.fewer hB t)
theorem RepF.fewer {c : RC} {B : Addr → Prop} (hB : ∀ a, B a → c.B a) : ∀ {ds : List (Str × D)} {vs : List (Str × V)}, RepF c ds vs → RepF (c.av B) ds vs
  | _, _, .nil => .nil
  | _, _, .cons h t => .cons (Rep.fewer hB h) (RepF.fewer hB t)
end
/-- c before the list at p was laid, c' with the list not to be touched -/
structure Over (c c' : RC) (p : Addr) : Prop where
  le : c.Le c'
  Bp : c'.B p
  new : c.H p = none
  bt : ∀ a, c.B a → ∃ o, c.H a = some o
theorem Over.step {c c' c'' : RC} {p : Addr} (o : Over c c' p) (l : c'.Le c'') : Over c c'' p := ⟨o.le.trans l, l.B p o.Bp, o.new, o.bt⟩
/-- back: the list is one's own -/
theorem Over.back {c c' : RC} {p : Addr} (o : Over c c' p) : c.Le (c'.av c.B) := ⟨o.le.K, o.le.mg, fun _ h => h, fun _ h => .inl h, o.le.dom, o.le.pre, o.le.keep, o.le.tup, o.le.frz⟩
theorem Over.ne {c c' : RC} {p : Addr} (o : Over c c' p) {a : Addr} {u : HO} (h : c.H a = some u) : a ≠ p := fun z => by
  rw [z, o.new] at h; cases h
theorem Over.sr {c c' : RC} {p : Addr} {h : EH} (o : Over c c' p) (s : SR c' h) : SR (c'.av c.B) h :=
  ⟨s.len, s.nd, fun n a k e1 e2 => (by
    have r := s.cells n a k e1 e2
    cases k with
    | lst ds => obtain ⟨xs, h1, h2⟩ := r; exact ⟨xs, h1, h2.fewer o.le.B⟩
    | dic t kvs => obtain ⟨ob, zs, h1, h3, h2⟩ := r; exact ⟨ob, zs, h1, h3, h2.fewer o.le.B⟩
    | obj C fs => obtain ⟨Ca, dx, vs, h0, h1, h2⟩ := r; exact ⟨Ca, dx, vs, h0, h1, h2.fewer o.le.B⟩), fun a ha hb => s.nb a ha (o.le.B a hb), fun a hb => s.bt a (o.le.B a hb)⟩
mutual
theorem Rep.more {c : RC} {p : Addr} {xs : List V} (hp : c.H p = none) : ∀ {d : D} {v : V}, Rep c d v → Rep { c with B := fun a => c.B a ∨ a = p, H := upd c.H p (.lst xs) } d v
  | _, _, .non => .non
  | _, _, .bl b => .bl b
  | _, _, .int i => .int i
  | _, _, .str cs => .str cs
  | _, _, .tup (a := a) (xs := ys) h r => .tup (by
      rcases h with (h | ⟨u, h⟩) | h
      · exact .inl (.inl ((upd_ne (show a ≠ p from fun z => by rw [z, hp] at h; cases h)).trans h))
      · exact .inl (.inr ⟨u, (upd_ne (show a ≠ p from fun z => by rw [z, hp] at h; cases h)).trans h⟩)
      · exact .inr h) (Reps.more hp r)
  | _, _, .lst (a := a) h f r => by
      have ne : a ≠ p := fun z => by rw [z, hp] at h; cases h
      exact .lst ((upd_ne ne).trans h) ⟨fun z => z.elim f.1 ne, f.2⟩ (Reps.more hp r)
  | _, _, .scr (a := a) h r => .scr (by
      rcases h with ⟨u, h⟩ | h
      · exact .inl ⟨u, (upd_ne (show a ≠ p from fun z => by rw [z, hp] at h; cases h)).trans h⟩
      · exact .inr h) (Reps.more hp r)
  | _, _, .obj (a := a) m h f r => by
      have ne : a ≠ p := fun z => by rw [z, hp] at h; cases h
      exact .obj m ((upd_ne ne).trans h) ⟨fun z => z.elim f.1 ne, f.2⟩ (RepF.more hp r)
  | _, _, .dic (a := a) h i f r => by
      have ne : a ≠ p := fun z => by rw [z, hp] at h; cases h
      exact .dic ((upd_ne ne).trans h) i ⟨fun z => z.elim f.1 ne, f.2⟩ (RepP.more hp r)
  | _, _, .fn h f h2 f2 cr r => by
      have ne : ∀ {a : Addr} {o : HO}, c.H a = some o → a ≠ p := fun e z => by rw [z, hp] at e; cases e
      exact .fn ((upd_ne (ne h)).trans h) ⟨fun z => z.elim f.1 (ne h), f.2⟩ ((upd_ne (ne h2)).trans h2) ⟨fun z => z.elim f2.1 (ne h2), f2.2⟩ (cr.imp fun b o hb fb => ⟨(upd_ne (ne hb)).trans hb, fun z => z.elim fb.1 (ne hb), fb.2⟩) (Reps.more hp r)
  | _, _, .exc m h f h2 f2 r => by
      have ne : ∀ {a : Addr} {o : HO}, c.H a = some o → a ≠ p := fun e z => by rw [z, hp] at e; cases e
      exact .exc m ((upd_ne (ne h)).trans h) ⟨fun z => z.elim f.1 (ne h), f.2⟩ ((upd_ne (ne h2)).trans h2) ⟨fun z => z.elim f2.1 (ne h2), f2.2⟩ (RepF.more hp r)
  | _, _, .ref h => .ref h
theorem Reps.more {c : RC} {p : Addr} {xs : List V} (hp : c.H p = none) : ∀ {ds : List D} {vs : List V}, Reps c ds vs → Reps { c with B := fun a => c.B a ∨ a = p, H := upd c.H p (.lst xs) } ds vs
  | _, _, .nil => .nil
  | _, _, .cons h t => .cons (Rep.more hp h) (Reps.more hp t)
theorem RepP.more {c : RC} {p : Addr} {xs : List V} (hp : c.H p = none) : ∀ {ds : List (List Key × D)} {vs : List (List Key × V)}, RepP c ds vs → RepP { c with B := fun a => c.B a ∨ a = p, H := upd c.H p (.lst xs) } ds vs
  | _, _, .nil => .nil
  | _, _, .cons h t => .cons (Rep.more hp h) (RepP.more hp t)
theorem RepF.more {c : RC} {p : Addr} {xs : List V} (hp : c.H p = none) : ∀ {ds : List (Str × D)} {vs : List (Str × V)}, RepF c ds vs → RepF { c with B := fun a => c.B a ∨ a = p, H := upd c.H p (.lst xs) } ds vs
  | _, _, .nil => .nil
  | _, _, .cons h t => .cons (Rep.more hp h) (RepF.more hp t)
end
/-- the start -/
theorem Over.start {c : RC} {h : EH} {p : Addr} {xs : List V} (s : SR c h) (hp : c.H p = none) : Over c { c with B := fun a => c.B a ∨ a = p, H := upd c.H p (.lst xs) } p ∧ SR { c with B := fun a => c.B a ∨ a = p, H := upd c.H p (.lst xs) } h := by
  have np : p ∉ c.ρ := fun z => by
    obtain ⟨o, e⟩ := s.ex z
    rw [hp] at e; cases e
  have ne : ∀ a o, c.H a = some o → a ≠ p := fun a o e z => by rw [z, hp] at e; cases e
  refine ⟨⟨⟨rfl, ⟨rfl, tabs_upd (noTab_none hp)⟩, fun _ h => .inl h, fun a h => h.imp id fun z => by rw [z]; exact hp, fun a u e => ⟨u, (upd_ne (ne a u e)).trans e⟩, fun _ _ h => h, fun a u e _ n => ⟨(upd_ne (ne a u e)).trans e, n⟩, fun a ys e => ?_, fun a o u e => (upd_ne (ne a _ e)).trans e⟩, .inr rfl, hp, s.bt⟩, ⟨s.len, s.nd, fun n a k e1 e2 => ?_, fun a ha z => z.elim (s.nb a ha) fun z => np (z ▸ ha), fun a hb => ?_⟩⟩
  · rcases e with e | ⟨u, e⟩
    · exact .inl ((upd_ne (ne a _ e)).trans e)
    · exact .inr ⟨u, (upd_ne (ne a _ e)).trans e⟩
  · have r := s.cells n a k e1 e2
    cases k with
    | lst ds => obtain ⟨ys, h1, h2⟩ := r; exact ⟨ys, (upd_ne (ne a _ h1)).trans h1, h2.more hp⟩
    | dic t kvs => obtain ⟨ob, zs, h1, h3, h2⟩ := r; exact ⟨ob, zs, (upd_ne (ne a _ h1)).trans h1, h3, h2.more hp⟩
    | obj C fs => obtain ⟨Ca, dx, vs, h0, h1, h2⟩ := r; exact ⟨Ca, dx, vs, h0, (upd_ne (ne a _ h1)).trans h1, h2.more hp⟩
  · rcases hb with hb | rfl
    · obtain ⟨u, e⟩ := s.bt a hb
      exact ⟨u, (upd_ne (ne a u e)).trans e⟩
    · exact ⟨_, upd_same⟩
mutual
theorem Rep.putB {c : RC} {p : Addr} {xs ys : List V} (hB : c.B p) (hp : c.H p = some (.lst xs)) : ∀ {d : D} {v : V}, Rep c d v → Rep (c.put p (.lst ys)) d v
  | _, _, .non => .non
  | _, _, .bl b => .bl b
  | _, _, .int i => .int i
  | _, _, .str cs => .str cs
  | _, _, .tup (a := a) h r => .tup (by
      rcases h with (h | ⟨u, h⟩) | h
      · exact .inl (.inl ((upd_ne (show a ≠ p from fun z => by rw [z, hp] at h; cases h)).trans h))
      · exact .inl (.inr ⟨u, (upd_ne (show a ≠ p from fun z => by rw [z, hp] at h; cases h)).trans h⟩)
      · exact .inr h) (Reps.putB hB hp r)
  | _, _, .lst (a := a) h f r => by
      have ne : a ≠ p := fun z => f.1 (z ▸ hB)
      exact .lst ((upd_ne ne).trans h) f (Reps.putB hB hp r)
  | _, _, .scr (a := a) h r => .scr (by
      rcases h with ⟨u, h⟩ | h
      · exact .inl ⟨u, (upd_ne (show a ≠ p from fun z => by rw [z, hp] at h; cases h)).trans h⟩
      · exact .inr h) (Reps.putB hB hp r)
  | _, _, .obj (a := a) m h f r => by
      have ne : a ≠ p := fun z => f.1 (z ▸ hB)
      exact .obj m ((upd_ne ne).trans h) f (RepF.putB hB hp r)
  | _, _, .dic (a := a) h i f r => by
      have ne : a ≠ p := fun z => f.1 (z ▸ hB)
      exact .dic ((upd_ne ne).trans h) i f (RepP.putB hB hp r)
  | _, _, .fn h f h2 f2 cr r => by
      have ne : ∀ {a : Addr}, c.fr a → a ≠ p := fun f z => f.1 (z ▸ hB)
      exact .fn ((upd_ne (ne f)).trans h) f ((upd_ne (ne f2)).trans h2) f2 (cr.imp fun b o hb fb => ⟨(upd_ne (ne fb)).trans hb, fb⟩) (Reps.putB hB hp r)
  | _, _, .exc m h f h2 f2 r => by
      have ne : ∀ {a : Addr}, c.fr a → a ≠ p := fun f z => f.1 (z ▸ hB)
      exact .exc m ((upd_ne (ne f)).trans h) f ((upd_ne (ne f2)).trans h2) f2 (RepF.putB hB hp r)
  | _, _, .ref h => .ref h
theorem Reps.putB {c : RC} {p : Addr} {xs ys : List V} (hB : c.B p) (hp : c.H p = some (.lst xs)) : ∀ {ds : List D} {vs : List V}, Reps c ds vs → Reps (c.put p (.lst ys)) ds vs
  | _, _, .nil => .nil
  | _, _, .cons h t => .cons (Rep.putB hB hp h) (Reps.putB hB hp t)
theorem RepP.putB {c : RC} {p : Addr} {xs ys : List V} (hB : c.B p) (hp : c.H p = some (.lst xs)) : ∀ {ds : List (List Key × D)} {vs : List (List Key × V)}, RepP c ds vs → RepP (c.put p (.lst ys)) ds vs
  | _, _, .nil => .nil
  | _, _, .cons h t => .cons (Rep.putB hB hp h) (RepP.putB hB hp t)
theorem RepF.putB {c : RC} {p : Addr} {xs ys : List V} (hB : c.B p) (hp : c.H p = some (.lst xs)) : ∀ {ds : List (Str × D)} {vs : List (Str × V)}, RepF c ds vs → RepF (c.put p (.lst ys)) ds vs
  | _, _, .nil => .nil
  | _, _, .cons h t => .cons (Rep.putB hB hp h) (RepF.putB hB hp t)
end
theorem Over.putB {c c' : RC} {h : EH} {p : Addr} {xs ys : List V} (o : Over c c' p) (s : SR c' h) (hp : c'.H p = some (.lst xs)) : Over c (c'.put p (.lst ys)) p ∧ SR (c'.put p (.lst ys)) h := by
  have hB : c'.B p := o.Bp
  refine ⟨⟨⟨o.le.K, ⟨o.le.mg.e, fun t => tabs_upd (ρ := c'.ρ) (B := c'.B) (noTab_of hp (fun _ z => by cases z) fun _ z => by cases z) (o.le.mg.t t)⟩, o.le.B, o.le.Bn, fun a u e => ?_, o.le.pre, fun a u e t n => ?_, fun a zs e => ?_, fun a u w e => (upd_ne (show a ≠ p from o.ne e)).trans (o.le.frz a u w e)⟩, o.Bp, o.new, o.bt⟩, ⟨s.len, s.nd, fun n a k e1 e2 => ?_, s.nb, fun a hb => ?_⟩⟩
  · obtain ⟨u', h1⟩ := o.le.dom a u e
    exact ⟨u', (upd_ne (o.ne e)).trans h1⟩
  · obtain ⟨h1, n1⟩ := o.le.keep a u e t n
    exact ⟨(upd_ne (o.ne e)).trans h1, n1⟩
  · rcases o.le.tup a zs e with e' | ⟨u, e'⟩
    · exact .inl ((upd_ne (show a ≠ p from fun z => by rw [z, hp] at e'; cases e')).trans e')
    · exact .inr ⟨u, (upd_ne (show a ≠ p from fun z => by rw [z, hp] at e'; cases e')).trans e'⟩
  · have r := s.cells n a k e1 e2
    have ne : a ≠ p := fun z => s.nb a (List.mem_of_getElem? e1) (z ▸ hB)
    cases k with
    | lst ds => obtain ⟨zs, h1, h2⟩ := r; exact ⟨zs, (upd_ne ne).trans h1, h2.putB hB hp⟩
    | dic t kvs => obtain ⟨ob, zs, h1, h3, h2⟩ := r; exact ⟨ob, zs, (upd_ne ne).trans h1, h3, h2.putB hB hp⟩
    | obj C fs => obtain ⟨Ca, dx, vs, h0, h1, h2⟩ := r; exact ⟨Ca, dx, vs, h0, (upd_ne ne).trans h1, h2.putB hB hp⟩
  · by_cases e : a = p
    · exact ⟨_, by rw [e]; exact upd_same⟩
    · obtain ⟨u, q⟩ := s.bt a hb
      exact ⟨u, (upd_ne e).trans q⟩
theorem EnvR.putB {c : RC} {p : Addr} {xs ys : List V} (hB : c.B p) (hp : c.H p = some (.lst xs)) {ε : Ev} {σ : L2.St} (r : EnvR c ε σ) : EnvR (c.put p (.lst ys)) ε σ := ⟨r.len, fun i d e => let ⟨v, h1, h2⟩ := r.at_ i d e; ⟨v, h1, h2.putB hB hp⟩⟩
theorem EnvR.more {c : RC} {p : Addr} {xs : List V} (hp : c.H p = none) {ε : Ev} {σ : L2.St} (r : EnvR c ε σ) : EnvR { c with B := fun a => c.B a ∨ a = p, H := upd c.H p (.lst xs) } ε σ := ⟨r.len, fun i d e => let ⟨v, h1, h2⟩ := r.at_ i d e; ⟨v, h1, h2.more hp⟩⟩
theorem lc_of {K : PySem.W.Frag} {mg : Str → Option Value} {W : WX} {mi : M (List D)} {g : MG} {S vs : List Nat} {t : M Bool} {el : M D} {σ : L2.St} {H : Hp} {Q : VK} (hS : ∀ i ∈ S, i ∈ vs) (h : tE K mg W (mLc vs mi g t el) σ H Q) :
    tLc (tI K mg W mi) (tG K mg S g) (tT K mg W0 t) (tE K mg W0 el) vs σ H Q := by
  obtain ⟨c, ε, h, r, h', hK, hm, rfl, sr, er, e, px, go⟩ := h
  unfold tLc
  refine tX.bind hK hm sr er e px fun ds h1 c1 J e1 l1 s1 r1 => ?_
  intro p hp
  obtain ⟨G, Y, hw, hG, hY⟩ := r1
  have hK1 := l1.K.trans hK
  have hm1 := l1.mg.trans hm
  cases q : lcL g t el ds (wipeE ε vs) h1 with
  | none => rw [q] at e1; cases e1
  | some z =>
    obtain ⟨all, hE⟩ := z
    rw [q] at e1
    have e1' : (if all.length ≤ sizeLine then some (PD.R.ok (D.lst all), hE) else none) = some (r, h') := e1
    by_cases hz : all.length ≤ sizeLine
    · rw [if_pos hz] at e1'
      cases e1'
      obtain ⟨o2, s2⟩ := Over.start (xs := []) s1 hp
      refine lc_it hw (fun i H => ∃ c2 h2 acc xs rest, Over c1 c2 p ∧ c2.H = H ∧ SR c2 h2 ∧ H p = some (.lst xs) ∧ Reps c2 acc xs ∧ EnvR c2 (wipeE ε vs) (wipe σ vs) ∧ lcL g t el (ds.drop i) (wipeE ε vs) h2 = some (rest, h') ∧ acc ++ rest = all) ?_ ?_ ?_ ?_
      · exact ⟨_, h1, [], [], all, o2, rfl, s2, upd_same, .nil, EnvR.more hp (wipe_envR vs (er.le l1)), q, rfl⟩
      · rintro i H hi ⟨c2, h2, acc, xs, rest, o, rfl, _⟩
        exact hG c2 o.le.toW
      · rintro i x H H' hi ⟨c2, h2, acc, xs, rest, o, rfl, s, hxs, racc, en, e2, ea⟩ y
        obtain ⟨c3, rfl, l3, s3, d, hd, rd⟩ := hY i x c2 h2 H' o.le.toW s y
        have hdr : ds.drop i = d :: ds.drop (i + 1) := by
          rw [List.drop_eq_getElem_cons hi]
          have : ds[i] = d := by
            have := List.getElem?_eq_getElem hi
            rw [this] at hd
            exact Option.some.inj hd
          rw [this]
        rw [hdr] at e2
        unfold lcL at e2
        have o3 := o.step l3
        have p3 := (l3.keep p _ hxs (fun _ z => by cases z) fun z => s.nb p z o.Bp).1
        have hK3 : c3.K = K := o3.le.K.trans hK1
        have hm3 : MgE c3 mg := o3.le.mg.trans hm1
        cases q2 : g d (wipeE ε vs) h2 with
        | none => rw [q2] at e2; cases e2
        | some z =>
          obtain ⟨ε3, h3⟩ := z
          rw [q2] at e2
          dsimp only at e2
          refine ⟨c3, d, wipeE ε vs, h2, ε3, h3, hK3, hm3, rfl, s3, rd, en.le l3, q2, fun c4 σ4 l4 s4 en4 sv => ⟨wipe_save sv hS, ?_⟩⟩
          have o4 := o3.step l4
          have p4 := (l4.keep p _ p3 (fun _ z => by cases z) fun z => s3.nb p z o3.Bp).1
          have hK4 : c4.K = K := o4.le.K.trans hK1
          have hm4 : MgE c4 mg := o4.le.mg.trans hm1
          cases q3 : t ε3 h3 with
          | none => rw [q3] at e2; cases e2
          | some z =>
            obtain ⟨rb, h5⟩ := z
            rw [q3] at e2
            cases rb with
            | ex x5 => cases e2
            | ok b =>
              refine ⟨c4, ε3, h3, .ok b, h5, hK4, hm4, rfl, s4, en4, q3, Px.ok, fun b' eb c5 b'' l5 s5 rb => ?_⟩
              cases eb
              subst rb
              have o5 := o4.step l5
              have p5 := (l5.keep p _ p4 (fun _ z => by cases z) fun z => s4.nb p z o4.Bp).1
              have en5 : EnvR c5 (wipeE ε vs) (wipe σ vs) := ((en.le l3).le l4).le l5
              have racc5 := ((racc.le l3).le l4).le l5
              cases b with
              | false =>
                rw [if_neg Bool.false_ne_true]
                exact ⟨c5, h5, acc, xs, rest, o5, rfl, s5, p5, racc5, en5, e2, ea⟩
              | true =>
                rw [if_pos rfl]
                dsimp only at e2
                cases q4 : el ε3 h5 with
                | none => rw [q4] at e2; cases e2
                | some z =>
                  obtain ⟨ry, h6⟩ := z
                  rw [q4] at e2
                  cases ry with
                  | ex x6 => cases e2
                  | ok y0 =>
                    dsimp only at e2
                    refine ⟨c5, ε3, h5, .ok y0, h6, o5.le.K.trans hK1, o5.le.mg.trans hm1, rfl, s5, en4.le l5, q4, Px.ok, fun y' ey c6 yv l6 s6 ry => ?_⟩
                    cases ey
                    have o6 := o5.step l6
                    have p6 := (l6.keep p _ p5 (fun _ z => by cases z) fun z => s5.nb p z o5.Bp).1
                    cases q5 : lcL g t el (ds.drop (i + 1)) (wipeE ε vs) h6 with
                    | none => rw [q5] at e2; cases e2
                    | some z =>
                      obtain ⟨ys, h7⟩ := z
                      rw [q5] at e2
                      cases e2
                      have hlen : xs.length < sizeLine := by
                        rw [← racc.length]
                        have := congrArg List.length ea
                        simp only [List.length_append, List.length_cons] at this
                        omega
                      refine ⟨xs, p6, hlen, ?_⟩
                      obtain ⟨o7, s7⟩ := o6.putB (ys := xs ++ [yv]) s6 p6
                      exact ⟨_, h6, acc ++ [y0], xs ++ [yv], ys, o7, rfl, s7, upd_same, ((racc5.le l6).append (.cons ry .nil)).putB o6.Bp p6, (en5.le l6).putB o6.Bp p6, q5, by rw [List.append_assoc]; exact ea⟩
      · rintro H ⟨c2, h2, acc, xs, rest, o, rfl, s, hxs, racc, en, e2, ea⟩
        rw [List.drop_length] at e2
        cases e2
        rw [List.append_nil] at ea
        subst ea
        refine go _ rfl (c2.av c1.B) _ (l1.trans o.back) (o.sr s) (.lst hxs ⟨fun z => ?_, fun z => s.nb p z o.Bp⟩ (racc.fewer o.le.B))
        obtain ⟨u, eu⟩ := o.bt p z
        rw [o.new] at eu; cases eu
    · rw [if_neg hz] at e1'; cases e1'
section
variable {X : Cx} {W : WX}
theorem re_lc {elt tg iter : Expr} {ifs : List Expr} {scope : Scope} {own : List (Str × Nat)} {pos : Pos} {mi : M (List D)} {g : MG} {S : List Nat} {t : M Bool} {e : M D} (hc : X.calm = true) (hN : X.N.Nodup) (hi : RI X W tg iter mi) (ok : BlkOk X.N X.env.scope scope own) (hS : ∀ i ∈ S, i ∈ own.map (·.2))
    (hg : ∀ (s : Shared) (H : Hp) (C : Addr) (cl : List (Str × Addr)) (fp : List Addr), RG (X.blk s H scope (compEnvC scope cl C X.env) fp) tg S g) (ht : ∀ (s : Shared) (H : Hp) (C : Addr) (cl : List (Str × Addr)) (fp : List Addr), RTs (X.blk s H scope (compEnvC scope cl C X.env) fp) W0 ifs t)
    (he : ∀ (s : Shared) (H : Hp) (C : Addr) (cl : List (Str × Addr)) (fp : List Addr), RE (X.blk s H scope (compEnvC scope cl C X.env) fp) W0 elt e) (hs : ∀ x, foldedSetIterable iter X.env x = pure x := by intro _; rfl) :
    RE X W (.ListComp elt [⟨tg, iter, ifs, 0⟩] scope pos) (mLc (own.map (·.2)) mi g t e) := by
  refine pe_imp (pe_lc (g := tG X.K X.mg S g) (tt := tT X.K X.mg W0 t) (te := tE X.K X.mg W0 e) hc hN hi ok hg ht he hs) fun σ H Q h => ?_
  exact lc_of hS h
end
end PD
namespace PD
open PySem PySem.Spec PyProof.Rows L2
variable [LamTab]
def noRef : D → Bool
  | .ref _ => false
  | .tup ds => go ds
  | .lst ds => go ds
  | .scr ds => go ds
  | .obj _ fs => gf fs
  | .dic _ kvs => gp kvs
  | .fn _ ds => go ds
  | .exc _ fs => gf fs
  | _ => true
where
  go : List D → Bool
  | [] => true
  | d :: ds => noRef d && go ds
  gf : List (Str × D) → Bool
  | [] => true
  | (_, d) :: ds => noRef d && gf ds
  gp : List (List Key × D) → Bool
  | [] => true
  | (_, d) :: ds => noRef d && gp ds
/-- the cells forgotten, other things not to be touched -/
abbrev RC.bare (c : RC) (B : Addr → Prop) : RC := { c with ρ := [], B := B }
mutual
theorem Rep.bare {c : RC} {B : Addr → Prop} (hB : ∀ a, B a → c.B a ∨ a ∈ c.ρ) : ∀ {d : D} {v : V}, Rep c d v → noRef d = true → Rep (c.bare B) d v
  | _, _, .non, _ => .non
  | _, _, .bl b, _ => .bl b
  | _, _, .int i, _ => .int i
  | _, _, .str cs, _ => .str cs
  | .tup ds, _, .tup h r, e => .tup h (Reps.bare hB r (by rw [noRef] at e; exact e))
  | .lst ds, _, .lst h f r, e => .lst h ⟨fun z => (hB _ z).elim f.1 f.2, List.not_mem_nil⟩ (Reps.bare hB r (by rw [noRef] at e; exact e))
  | .scr ds, _, .scr h r, e => .scr h (Reps.bare hB r (by rw [noRef] at e; exact e))
  | .obj C fs, _, .obj m h f r, e => .obj m h ⟨fun z => (hB _ z).elim f.1 f.2, List.not_mem_nil⟩ (RepF.bare hB r (by rw [noRef] at e; exact e))
  | .dic t kvs, _, .dic h i f r, e => .dic h i ⟨fun z => (hB _ z).elim f.1 f.2, List.not_mem_nil⟩ (RepP.bare hB r (by rw [noRef] at e; exact e))
  | .fn i ds, _, .fn h f k f2 cr r, e => .fn h ⟨fun z => (hB _ z).elim f.1 f.2, List.not_mem_nil⟩ k ⟨fun z => (hB _ z).elim f2.1 f2.2, List.not_mem_nil⟩ (cr.imp fun b o hb fb => ⟨hb, fun z => (hB _ z).elim fb.1 fb.2, List.not_mem_nil⟩) (Reps.bare hB r (by rw [noRef] at e; exact e))
  | .exc C fs, _, .exc m h f h2 f2 r, e => .exc m h ⟨fun z => (hB _ z).elim f.1 f.2, List.not_mem_nil⟩ h2 ⟨fun z => (hB _ z).elim f2.1 f2.2, List.not_mem_nil⟩ (RepF.bare hB r (by rw [noRef] at e; exact e))
  | _, _, .ref h, e => by cases e
theorem Reps.bare {c : RC} {B : Addr → Prop} (hB : ∀ a, B a → c.B a ∨ a ∈ c.ρ) : ∀ {ds : List D} {vs : List V}, Reps c ds vs → noRef.go ds = true → Reps (c.bare B) ds vs
  | _, _, .nil, _ => .nil
  | _, _, .cons h t, e => by
    rw [noRef.go, Bool.and_eq_true] at e
    exact .cons (Rep.bare hB h e.1) (Reps.bare hB t e.2)
theorem RepP.bare {c : RC} {B : Addr → Prop} (hB : ∀ a, B a → c.B a ∨ a ∈ c.ρ) : ∀ {ds : List (List Key × D)} {vs : List (List Key × V)}, RepP c ds vs → noRef.gp ds = true → RepP (c.bare B) ds vs
  | _, _, .nil, _ => .nil
  | _, _, .cons h t, e => by
    rw [noRef.gp, Bool.and_eq_true] at e
    exact .cons (Rep.bare hB h e.1) (RepP.bare hB t e.2)
theorem RepF.bare {c : RC} {B : Addr → Prop} (hB : ∀ a, B a → c.B a ∨ a ∈ c.ρ) : ∀ {ds : List (Str × D)} {vs : List (Str × V)}, RepF c ds vs → noRef.gf ds = true → RepF (c.bare B) ds vs
  | _, _, .nil, _ => .nil
  | _, _, .cons h t, e => by
    rw [noRef.gf, Bool.and_eq_true] at e
    exact .cons (Rep.bare hB h e.1) (RepF.bare hB t e.2)
end
mutual
theorem Rep.unbare {c : RC} {ρ : List Addr} {B : Addr → Prop} (h1 : ∀ a ∈ ρ, c.B a) (h2 : ∀ a, B a → c.B a) (h0 : c.ρ = []) : ∀ {d : D} {v : V}, Rep c d v → Rep { c with ρ := ρ, B := B } d v
  | _, _, .non => .non
  | _, _, .bl b => .bl b
  | _, _, .int i => .int i
  | _, _, .str cs => .str cs
  | _, _, .tup h r => .tup h (Reps.unbare h1 h2 h0 r)
  | _, _, .lst h f r => .lst h ⟨fun z => f.1 (h2 _ z), fun z => f.1 (h1 _ z)⟩ (Reps.unbare h1 h2 h0 r)
  | _, _, .scr h r => .scr h (Reps.unbare h1 h2 h0 r)
  | _, _, .obj m h f r => .obj m h ⟨fun z => f.1 (h2 _ z), fun z => f.1 (h1 _ z)⟩ (RepF.unbare h1 h2 h0 r)
  | _, _, .dic h i f r => .dic h i ⟨fun z => f.1 (h2 _ z), fun z => f.1 (h1 _ z)⟩ (RepP.unbare h1 h2 h0 r)
  | _, _, .fn h f k f2 cr r => .fn h ⟨fun z => f.1 (h2 _ z), fun z => f.1 (h1 _ z)⟩ k ⟨fun z => f2.1 (h2 _ z), fun z => f2.1 (h1 _ z)⟩ (cr.imp fun b o hb fb => ⟨hb, fun z => fb.1 (h2 _ z), fun z => fb.1 (h1 _ z)⟩) (Reps.unbare h1 h2 h0 r)
  | _, _, .exc m h f k f2 r => .exc m h ⟨fun z => f.1 (h2 _ z), fun z => f.1 (h1 _ z)⟩ k ⟨fun z => f2.1 (h2 _ z), fun z => f2.1 (h1 _ z)⟩ (RepF.unbare h1 h2 h0 r)
  | _, _, .ref h => by rw [h0] at h; simp at h
theorem Reps.unbare {c : RC} {ρ : List Addr} {B : Addr → Prop} (h1 : ∀ a ∈ ρ, c.B a) (h2 : ∀ a, B a → c.B a) (h0 : c.ρ = []) : ∀ {ds : List D} {vs : List V}, Reps c ds vs → Reps { c with ρ := ρ, B := B } ds vs
  | _, _, .nil => .nil
  | _, _, .cons h t => .cons (Rep.unbare h1 h2 h0 h) (Reps.unbare h1 h2 h0 t)
theorem RepP.unbare {c : RC} {ρ : List Addr} {B : Addr → Prop} (h1 : ∀ a ∈ ρ, c.B a) (h2 : ∀ a, B a → c.B a) (h0 : c.ρ = []) : ∀ {ds : List (List Key × D)} {vs : List (List Key × V)}, RepP c ds vs → RepP { c with ρ := ρ, B := B } ds vs
  | _, _, .nil => .nil
  | _, _, .cons h t => .cons (Rep.unbare h1 h2 h0 h) (RepP.unbare h1 h2 h0 t)
theorem RepF.unbare {c : RC} {ρ : List Addr} {B : Addr → Prop} (h1 : ∀ a ∈ ρ, c.B a) (h2 : ∀ a, B a → c.B a) (h0 : c.ρ = []) : ∀ {ds : List (Str × D)} {vs : List (Str × V)}, RepF c ds vs → RepF { c with ρ := ρ, B := B } ds vs
  | _, _, .nil => .nil
  | _, _, .cons h t => .cons (Rep.unbare h1 h2 h0 h) (RepF.unbare h1 h2 h0 t)
end
/-- freeze -/
def frz1 (h : EH) (d : D) : Option D := match d with
  | .ref n => (match h[n]? with
    | some (.lst ds) => if noRef.go ds = true then some (.lst ds) else none
    | some (.obj C fs) => if noRef.gf fs = true then some (.obj C fs) else none
    | some (.dic t kvs) => if noRef.gp kvs = true then some (.dic t kvs) else none
    | _ => none)
  | d => if noRef d = true then some d else none
def frzL (h : EH) : List D → Option (List D)
  | [] => some []
  | d :: ds => match frz1 h d, frzL h ds with
    | some x, some xs => some (x :: xs)
    | _, _ => none
def frz (h : EH) (d : D) : Option D := match d with
  | .tup ds => (frzL h ds).map .tup
  | .lst ds => (frzL h ds).map .lst
  | d => frz1 h d
theorem frz1_ok {c : RC} {h : EH} {B : Addr → Prop} {d e : D} {v : V} (s : SR c h) (hB : ∀ a, B a → c.B a) (r : Rep c d v) (q : frz1 h d = some e) : Rep (c.bare B) e v := by
  have hB' : ∀ a, B a → c.B a ∨ a ∈ c.ρ := fun a z => .inl (hB a z)
  have fin : (if noRef d = true then some d else none) = some e → Rep (c.bare B) e v := fun q => by
    by_cases hc : noRef d = true
    · rw [if_pos hc] at q; cases q; exact r.bare hB' hc
    · rw [if_neg hc] at q; cases q
  cases r with
  | @ref n a hn =>
    unfold frz1 at q
    dsimp only at q
    cases q2 : h[n]? with
    | none => rw [q2] at q; cases q
    | some k =>
      rw [q2] at q
      have cr := s.cells n a k hn q2
      have nb : ¬ B a := fun z => s.nb a (List.mem_of_getElem? hn) (hB a z)
      cases k with
      | lst ds =>
        dsimp only at q
        by_cases hc : noRef.go ds = true
        · rw [if_pos hc] at q
          cases q
          obtain ⟨xs, e1, e2⟩ := cr
          exact .lst e1 ⟨nb, List.not_mem_nil⟩ (e2.bare hB' hc)
        · rw [if_neg hc] at q; cases q
      | dic t kvs =>
        dsimp only at q
        by_cases hc : noRef.gp kvs = true
        · rw [if_pos hc] at q
          cases q
          obtain ⟨o, zs, e1, e3, e2⟩ := cr
          exact .dic e1 e3 ⟨nb, List.not_mem_nil⟩ (e2.bare hB' hc)
        · rw [if_neg hc] at q; cases q
      | obj C fs =>
        dsimp only at q
        by_cases hc : noRef.gf fs = true
        · rw [if_pos hc] at q
          cases q
          obtain ⟨Ca, dx, vs, e0, e1, e2⟩ := cr
          exact .obj e0 e1 ⟨nb, List.not_mem_nil⟩ (e2.bare hB' hc)
        · rw [if_neg hc] at q; cases q
  | _ => exact fin q
theorem frzL_ok {c : RC} {h : EH} {B : Addr → Prop} (s : SR c h) (hB : ∀ a, B a → c.B a) : ∀ {ds es : List D} {vs : List V}, Reps c ds vs → frzL h ds = some es → Reps (c.bare B) es vs
  | _, _, _, .nil, q => by cases q; exact .nil
  | d :: ds, es, _, .cons r t, q => by
    unfold frzL at q
    cases q1 : frz1 h d with
    | none => rw [q1] at q; cases q
    | some x =>
      cases q2 : frzL h ds with
      | none => rw [q1, q2] at q; cases q
      | some xs => rw [q1, q2] at q; cases q; exact .cons (frz1_ok s hB r q1) (frzL_ok s hB t q2)
theorem frz_ok {c : RC} {h : EH} {B : Addr → Prop} {d e : D} {v : V} (s : SR c h) (hB : ∀ a, B a → c.B a) (r : Rep c d v) (q : frz h d = some e) : Rep (c.bare B) e v := by
  cases r with
  | @tup a ds xs k1 k2 =>
    have q' : (frzL h ds).map D.tup = some e := q
    cases q1 : frzL h ds with
    | none => rw [q1] at q'; cases q'
    | some es => rw [q1] at q'; cases q'; exact .tup k1 (frzL_ok s hB k2 q1)
  | @lst a ds xs k1 k2 k3 =>
    have q' : (frzL h ds).map D.lst = some e := q
    cases q1 : frzL h ds with
    | none => rw [q1] at q'; cases q'
    | some es => rw [q1] at q'; cases q'; exact .lst k1 ⟨fun z => k2.1 (hB _ z), List.not_mem_nil⟩ (frzL_ok s hB k3 q1)
  | non => exact frz1_ok s hB .non q
  | bl b => exact frz1_ok s hB (.bl b) q
  | int i => exact frz1_ok s hB (.int i) q
  | str cs => exact frz1_ok s hB (.str cs) q
  | obj m k1 k2 k3 => exact frz1_ok s hB (.obj m k1 k2 k3) q
  | dic k1 k2 k3 k4 => exact frz1_ok s hB (.dic k1 k2 k3 k4) q
  | fn k1 k2 k3 k4 k5 k6 => exact frz1_ok s hB (.fn k1 k2 k3 k4 k5 k6) q
  | exc k1 k2 k3 k4 k5 k6 => exact frz1_ok s hB (.exc k1 k2 k3 k4 k5 k6) q
  | ref hn => exact frz1_ok s hB (.ref hn) q
  | scr k1 k2 => exact frz1_ok s hB (.scr k1 k2) q
abbrev PF := List D → Option (R D)
/-- a body run over no cells -/
def startE (n : Nat) (ds : List D) : Ev := ds.map some ++ List.replicate (n - ds.length) none
def endP (x : Option (RS × EH)) : Option (R D) := match x with
  | some (.rt d, h) => (frz h d).map .ok
  | some (.nx _, _) => some (.ok .non)
  | some (.ex e _, _) => if noRef.gf e.fs = true then some (.ex e) else none
  | _ => none
def runP (n : Nat) (m : MS) : PF := fun ds => endP (m (startE n ds) [])
def SpP (K : PySem.W.Frag) (mg : Str → Option Value) (n : Nat) (F : PF) : Sp := fun vs H Q E => ∃ (c : RC) (ds : List D) (r : R D), c.K = K ∧ MgE c mg ∧ c.H = H ∧ c.ρ = [] ∧ (∀ a, c.B a → ∃ o, H a = some o) ∧ Reps c ds vs ∧ ds.length = n ∧ F ds = some r ∧
  (∀ d, r = .ok d → ∀ c' v, c.Le c' → c'.ρ = [] → Rep c' d v → Q v c'.H) ∧ (∀ e, r = .ex e → ∀ c' cls dx, c.Le c' → c'.ρ = [] → ExR c' e cls dx → E cls dx c'.H)
theorem SR.nil {c : RC} (h : c.ρ = []) (bt : ∀ a, c.B a → ∃ o, c.H a = some o) : SR c [] :=
  ⟨by rw [h]; rfl, by rw [h]; exact List.nodup_nil, fun n a k e => by rw [h] at e; simp at e, fun a e => by rw [h] at e; simp at e, bt⟩
theorem start_envR {c : RC} {ds : List D} {vs : List V} {N : List Str} (r : Reps c ds vs) : EnvR c (startE N.length ds) (L2.start N vs) := by
  refine ⟨by simp [startE, L2.start, r.length], fun i d e => ?_⟩
  unfold startE at e
  unfold L2.start
  by_cases hi : i < ds.length
  · rw [List.getElem?_append_left (by simpa using hi), List.getElem?_map] at e
    rw [List.getElem?_append_left (by rw [List.length_map, ← r.length]; exact hi), List.getElem?_map]
    cases q : ds[i]? with
    | none => rw [q] at e; cases e
    | some d' =>
      rw [q] at e
      cases e
      obtain ⟨v, h1, h2⟩ := r.get q
      exact ⟨v, by rw [h1]; rfl, h2⟩
  · rw [List.getElem?_append_right (by simp; omega)] at e
    exfalso
    rw [List.getElem?_replicate] at e
    split at e <;> cases e
/-- what one has of a pure def -/
structure FnP (P : Program) (w : World) (K : PySem.W.Frag) (mg : Str → Option Value) (base : Heap) (x : Str) (k n : Nat) (F : PF) : Prop where
  ex : ∃ (f : Addr) (fd : FuncData) (ps : List Str), mg x = some (.ref f) ∧ PySem.W.keepIn K (.ref f) = true ∧ Binds K fd ps [] ∧ ps.length = n ∧ FnOk P w K mg base (L2.CX P w) k f fd ps (SpP K mg n F)
section
variable {P : Program} {w : World} {K : PySem.W.Frag} {mg : Str → Option Value} {base : Heap}
theorem body_of {N : List Str} {m : MS} {vs : List V} {H : Hp} {Q : VK} {E : XK} {n : Nat} (h : SpP K mg n (runP N.length m) vs H Q E) : tS K mg (fun cls d _ H' => E cls d H') m { nx := fun _ H' => Q .non H', rt := Q } (L2.start N vs) H := by
  obtain ⟨c, ds, r, hK, hm, rfl, hρ, bt, rv, hn, e, go, gx⟩ := h
  have sr := SR.nil hρ bt
  unfold runP at e
  cases q : m (startE N.length ds) [] with
  | none => rw [q] at e; cases e
  | some z =>
    obtain ⟨rs, h'⟩ := z
    rw [q] at e
    have back : ∀ c', c.Le c' → c.Le (c'.bare c.B) := fun c' l => ⟨l.K, l.mg, fun _ h => h, fun _ h => .inl h, l.dom, fun n a e => by rw [hρ] at e; simp at e, fun a o e t n => ⟨(l.keep a o e t n).1, List.not_mem_nil⟩, l.tup, l.frz⟩
    refine ⟨c, startE N.length ds, [], rs, h', hK, hm, rfl, sr, start_envR rv, q, ?_⟩
    cases rs with
    | nx ε' =>
      cases e
      exact fun c' σ' l s en => go _ rfl (c'.bare c.B) _ (back c' l) rfl .non
    | rt d =>
      have e' : (frz h' d).map R.ok = some r := e
      cases q2 : frz h' d with
      | none => rw [q2] at e'; cases e'
      | some d' =>
        rw [q2] at e'
        cases e'
        exact fun c' v l s rd => go _ rfl (c'.bare c.B) v (back c' l) rfl (frz_ok s l.B rd q2)
    | bk ε' => cases e
    | ct ε' => cases e
    | ex x ε' =>
      have e' : (if noRef.gf x.fs = true then some (R.ex x) else none) = some r := e
      by_cases hc : noRef.gf x.fs = true
      · rw [if_pos hc] at e'
        cases e'
        refine fun c' σ' cls dx l s en xr => gx _ rfl (c'.bare c.B) cls dx (back c' l) rfl ?_
        obtain ⟨Ca, d, vs, h1, h2, h3, h4, h5, h6⟩ := xr
        exact ⟨Ca, d, vs, h1, h2, h3, h4, ⟨fun z => h5.1 (l.B _ z), List.not_mem_nil⟩, h6.bare (fun a z => .inl (l.B a z)) hc⟩
      · rw [if_neg hc] at e'; cases e'
theorem fnP {x qual : Str} {params : Arguments} {body : List Stmt} {scope : Scope} {f : Addr} {fd : FuncData} {N ps : List Str} {k : Nat} {m : MS} {dvs : List V} {kws : List (Str × V)} (F : FunD K x qual params body scope dvs kws f fd) (S : FnScope N ps scope)
    (hb : ∀ (cdv : Value) (A : Around) (outer : List Env) (s : Shared) (H : Hp) (E : XK), Room k (A.deeper (envOfC qual scope s.heap.objs.size f cdv)) → RSs (cxOf (L2.CX P w) P w K mg base N qual scope f cdv A outer s H E) (fun cls d _ H' => E cls d H') body m) :
    FnOk P w K mg base (L2.CX P w) (k + 1) f fd ps (SpP K mg ps.length (runP N.length m)) := by
  refine F.ok S (fun vs H Q E h => ?_) (fun cdv A outer s H vs Q E hr h => ⟨_, hb cdv A outer s H E hr, body_of h⟩)
  obtain ⟨c, ds, r, _, _, _, _, _, rv, hn, _⟩ := h
  rw [← rv.length, hn]
end
/-- a gives lists of n -/
def ArN (n : Nat) (a : M (List D)) : Prop := ∀ ε h ds h', a ε h = some (.ok ds, h') → ds.length = n
theorem ar_nil : ArN 0 mNil := fun ε h ds h' e => by cases e; rfl
theorem ar_cons {n : Nat} {a : M D} {b : M (List D)} (hb : ArN n b) : ArN (n + 1) (mCons a b) := fun ε h ds h' e => by
  unfold mCons at e
  cases q : a ε h with
  | none => rw [q] at e; cases e
  | some z =>
    obtain ⟨r1, h1⟩ := z
    rw [q] at e
    cases r1 with
    | ex x => cases e
    | ok x =>
      rw [bR_ok] at e
      cases q2 : b ε h1 with
      | none => rw [q2] at e; cases e
      | some z =>
        obtain ⟨r2, h2⟩ := z
        rw [q2] at e
        cases r2 with
        | ex x => cases e
        | ok xs => cases e; exact congrArg Nat.succ (hb _ _ _ _ q2)
def mCallP (F : PF) (a : M (List D)) : M D := fun ε h => bR (a ε h) fun ds h1 => if noRef.go ds = true then (F ds).map fun r => (r, h1) else none
section
variable {X : Cx} {W : WX}
theorem callP_of {K : PySem.W.Frag} {mg : Str → Option Value} {n : Nat} {F : PF} {a : M (List D)} {σ : L2.St} {H : Hp} {Q : VK} (hn : ArN n a) (h : tE K mg W (mCallP F a) σ H Q) :
    tCallSD (SpP K mg n F) [] (fun σ cls d H' => W cls d σ H') (tA K mg W a) σ H Q := by
  obtain ⟨c, ε, h, r, h', hK, hm, rfl, sr, er, e, px, go⟩ := h
  unfold tCallSD
  cases q : a ε h with
  | none => rw [mCallP, q] at e; cases e
  | some z =>
    obtain ⟨ra, h1⟩ := z
    rw [mCallP, q] at e
    cases ra with
    | ex x =>
      cases e
      exact ⟨c, ε, h, .ex x, _, hK, hm, rfl, sr, er, q, fun y ey => px y (by cases ey; rfl), fun a' ea => nomatch ea⟩
    | ok ds =>
      refine ⟨c, ε, h, .ok ds, h1, hK, hm, rfl, sr, er, q, Px.ok, fun ds' eds c1 vs l1 s1 r1 => ?_⟩
      cases eds
      have e' : (if noRef.go ds = true then (F ds).map fun r => (r, h1) else none) = some (r, h') := e
      by_cases hc : noRef.go ds = true
      · rw [if_pos hc] at e'
        cases q2 : F ds with
        | none => rw [q2] at e'; cases e'
        | some r2 =>
          rw [q2] at e'
          cases e'
          rw [List.append_nil]
          have hK1 := l1.K.trans hK
          have hm1 := l1.mg.trans hm
          -- the callee's view: our cells are not to be touched
          have r1' : Reps (c1.bare fun a => c1.B a ∨ a ∈ c1.ρ) ds vs := r1.bare (fun _ z => z) hc
          have back : ∀ c', (c1.bare fun a => c1.B a ∨ a ∈ c1.ρ).Le c' → c1.Le { c' with ρ := c1.ρ, B := c1.B } ∧ SR { c' with ρ := c1.ρ, B := c1.B } h' := fun c' l => by
            have l2 : c1.Le { c' with ρ := c1.ρ, B := c1.B } := ⟨l.K, l.mg, fun _ h => h, fun _ h => .inl h, l.dom, fun _ _ h => h, fun a o e t n => ⟨(l.keep a o e t List.not_mem_nil).1, n⟩, l.tup, l.frz⟩
            refine ⟨l2, s1.len, s1.nd, fun n a k e1 e2 => ?_, s1.nb, fun a hb => ?_⟩
            · have cr := s1.cells n a k e1 e2
              obtain ⟨o, eo⟩ := cr.ex
              refine cr.le l2 ?_
              have nt : ∀ ps, o ≠ .tbl ps := fun ps z => by
                subst z
                cases k with
                | lst ds => obtain ⟨xs, h1, _⟩ := cr; rw [eo] at h1; cases h1
                | dic t kvs => obtain ⟨o', zs, h1, h3, _⟩ := cr; rw [eo] at h1; cases h1; exact h3.tbl _ rfl
                | obj C fs => obtain ⟨_, _, _, _, h1, _⟩ := cr; rw [eo] at h1; cases h1
              exact (l.keep a o eo nt List.not_mem_nil).1.trans eo.symm
            · obtain ⟨o, eo⟩ := s1.bt a hb
              exact l.dom a o eo
          refine ⟨c1.bare fun a => c1.B a ∨ a ∈ c1.ρ, ds, r, hK1, hm1, rfl, rfl, fun a z => ?_, r1', hn _ _ _ _ q, q2, fun d ed c' v l hρ rd => ?_, fun x ex c' cls dx l hρ xr => ?_⟩
          · rcases z with z | z
            · exact s1.bt a z
            · exact s1.ex z
          · obtain ⟨l2, s2⟩ := back c' l
            refine go d ed { c' with ρ := c1.ρ, B := c1.B } v (l1.trans l2) s2 ?_
            exact Rep.unbare (fun a ha => l.B a (.inr ha)) (fun a ha => l.B a (.inl ha)) hρ rd
          · obtain ⟨l2, s2⟩ := back c' l
            refine px x ex { c' with ρ := c1.ρ, B := c1.B } cls dx (l1.trans l2) s2 ?_
            obtain ⟨Ca, d, us, h1, h2, h3, h4, h5, h6⟩ := xr
            exact ⟨Ca, d, us, h1, h2, h3, h4, ⟨fun z => h5.1 (l.B _ (.inl z)), fun z => h5.1 (l.B _ (.inr z))⟩, RepF.unbare (fun a ha => l.B a (.inr ha)) (fun a ha => l.B a (.inl ha)) hρ h6⟩
      · rw [if_neg hc] at e'; cases e'
theorem re_callP {x : Str} {p pos : Pos} {e : Expr} {es : List Expr} {k j n : Nat} {F : PF} {ma : M (List D)} (G : FnP X.prog X.w X.K X.mg X.base x k n F) (hr : Room j X.A) (tk : Takes X W) (ha : RA X W (e :: es) ma) (hk : k ≤ j := by decide)
    (hn : ArN n ma := by repeat (first | exact ar_nil | refine ar_cons ?_)) (hg : Gl X x := by rfl)
    (hdb : (x == ("__debug__" : Str)) = false := by decide) (he : starEach (e :: es) X.env = (false, eval e X.env) :: starEach es X.env := by rfl) (hpl : (backTo pos (starEach es X.env)).any (·.1) = false := by rfl) :
    RE X W (.Call (.Name x p) (e :: es) [] pos) (mCallP F ma) := by
  obtain ⟨f, fd, ps, hm, hkp, hb, hl, F⟩ := G.ex
  exact pe_imp (pe_callSD F (hr.mono hk) hg hm hkp hb .nil (fun σ => passAt tk σ) ha hdb he hpl) fun σ H Q h => callP_of hn h
theorem re_callP0 {x : Str} {p pos : Pos} {k j : Nat} {F : PF} (G : FnP X.prog X.w X.K X.mg X.base x k 0 F) (hr : Room j X.A) (tk : Takes X W) (hk : k ≤ j := by decide) (hg : Gl X x := by rfl)
    (hdb : (x == ("__debug__" : Str)) = false := by decide) : RE X W (.Call (.Name x p) [] [] pos) (mCallP F mNil) := by
  obtain ⟨f, fd, ps, hm, hkp, hb, hl, Fo⟩ := G.ex
  refine ⟨fun pins s σ H Q I h => ?_⟩
  have h2 := callP_of (n := 0) ar_nil h
  have h3 : SpP X.K X.mg 0 F [] H Q (fun cls d H' => W cls d σ H') := by
    obtain ⟨c, ε, eh, r, h', hK, hm', rfl, sr, er, e, px, go⟩ := h2
    cases e
    have := go [] rfl c [] (.refl c) sr .nil
    simpa using this
  refine wpAny_Call_Name_kw (ld_glob I hg hm ?_ hdb)
  exact PySem.W.callWith_K0 I.kIn hkp (run_fnSD (E := fun σ cls d H' => W cls d σ H') (us := []) (vs := []) Fo (hr.mono hk) hb .nil (passAt tk σ) I .nil h3)
end
end PD
namespace PD
open PySem PySem.Spec PyProof.Rows L2
variable [LamTab]
mutual
theorem Rep.re {c : RC} {ρ : List Addr} {B : Addr → Prop} (hB : ∀ a, B a ∨ a ∈ ρ → c.B a ∨ a ∈ c.ρ) : ∀ {d : D} {v : V}, Rep c d v → noRef d = true → Rep { c with ρ := ρ, B := B } d v
  | _, _, .non, _ => .non
  | _, _, .bl b, _ => .bl b
  | _, _, .int i, _ => .int i
  | _, _, .str cs, _ => .str cs
  | .tup ds, _, .tup h r, e => .tup h (Reps.re hB r (by rw [noRef] at e; exact e))
  | .lst ds, _, .lst h f r, e => .lst h ⟨fun z => (hB _ (.inl z)).elim f.1 f.2, fun z => (hB _ (.inr z)).elim f.1 f.2⟩ (Reps.re hB r (by rw [noRef] at e; exact e))
  | .scr ds, _, .scr h r, e => .scr h (Reps.re hB r (by rw [noRef] at e; exact e))
  | .obj C fs, _, .obj m h f r, e => .obj m h ⟨fun z => (hB _ (.inl z)).elim f.1 f.2, fun z => (hB _ (.inr z)).elim f.1 f.2⟩ (RepF.re hB r (by rw [noRef] at e; exact e))
  | .dic t kvs, _, .dic h i f r, e => .dic h i ⟨fun z => (hB _ (.inl z)).elim f.1 f.2, fun z => (hB _ (.inr z)).elim f.1 f.2⟩ (RepP.re hB r (by rw [noRef] at e; exact e))
  | .fn i ds, _, .fn h f k f2 cr r, e => .fn h ⟨fun z => (hB _ (.inl z)).elim f.1 f.2, fun z => (hB _ (.inr z)).elim f.1 f.2⟩ k ⟨fun z => (hB _ (.inl z)).elim f2.1 f2.2, fun z => (hB _ (.inr z)).elim f2.1 f2.2⟩ (cr.imp fun b o hb fb => ⟨hb, fun z => (hB _ (.inl z)).elim fb.1 fb.2, fun z => (hB _ (.inr z)).elim fb.1 fb.2⟩) (Reps.re hB r (by rw [noRef] at e; exact e))
  | .exc C fs, _, .exc m h f h2 f2 r, e => .exc m h ⟨fun z => (hB _ (.inl z)).elim f.1 f.2, fun z => (hB _ (.inr z)).elim f.1 f.2⟩ h2 ⟨fun z => (hB _ (.inl z)).elim f2.1 f2.2, fun z => (hB _ (.inr z)).elim f2.1 f2.2⟩ (RepF.re hB r (by rw [noRef] at e; exact e))
  | _, _, .ref h, e => by cases e
theorem Reps.re {c : RC} {ρ : List Addr} {B : Addr → Prop} (hB : ∀ a, B a ∨ a ∈ ρ → c.B a ∨ a ∈ c.ρ) : ∀ {ds : List D} {vs : List V}, Reps c ds vs → noRef.go ds = true → Reps { c with ρ := ρ, B := B } ds vs
  | _, _, .nil, _ => .nil
  | _, _, .cons h t, e => by
    rw [noRef.go, Bool.and_eq_true] at e
    exact .cons (Rep.re hB h e.1) (Reps.re hB t e.2)
theorem RepP.re {c : RC} {ρ : List Addr} {B : Addr → Prop} (hB : ∀ a, B a ∨ a ∈ ρ → c.B a ∨ a ∈ c.ρ) : ∀ {ds : List (List Key × D)} {vs : List (List Key × V)}, RepP c ds vs → noRef.gp ds = true → RepP { c with ρ := ρ, B := B } ds vs
  | _, _, .nil, _ => .nil
  | _, _, .cons h t, e => by
    rw [noRef.gp, Bool.and_eq_true] at e
    exact .cons (Rep.re hB h e.1) (RepP.re hB t e.2)
theorem RepF.re {c : RC} {ρ : List Addr} {B : Addr → Prop} (hB : ∀ a, B a ∨ a ∈ ρ → c.B a ∨ a ∈ c.ρ) : ∀ {ds : List (Str × D)} {vs : List (Str × V)}, RepF c ds vs → noRef.gf ds = true → RepF { c with ρ := ρ, B := B } ds vs
  | _, _, .nil, _ => .nil
  | _, _, .cons h t, e => by
    rw [noRef.gf, Bool.and_eq_true] at e
    exact .cons (Rep.re hB h e.1) (RepF.re hB t e.2)
end
def pureC : Cell → Bool
  | .lst ds => noRef.go ds
  | .dic _ kvs => noRef.gp kvs
  | .obj _ fs => noRef.gf fs
/-- the first n cells alone -/
def trim (n : Nat) (h : EH) : Option EH := if h.length = n then some h else if (h.take n).all pureC = true then some (h.take n) else none
def frz1I (n : Nat) (h : EH) (d : D) : Option D := match d with
  | .ref m => if m < n then some (.ref m) else (match h[m]? with
    | some (.lst ds) => if noRef.go ds = true then some (.lst ds) else none
    | some (.obj C fs) => if noRef.gf fs = true then some (.obj C fs) else none
    | some (.dic t kvs) => if noRef.gp kvs = true then some (.dic t kvs) else none
    | _ => none)
  | d => if noRef d = true then some d else none
def frzLI (n : Nat) (h : EH) : List D → Option (List D)
  | [] => some []
  | d :: ds => match frz1I n h d, frzLI n h ds with
    | some x, some xs => some (x :: xs)
    | _, _ => none
def frzI (n : Nat) (h : EH) (d : D) : Option D := match d with
  | .tup ds => (frzLI n h ds).map .tup
  | .lst ds => (frzLI n h ds).map .lst
  | d => frz1I n h d
abbrev RC.cut (c : RC) (n : Nat) : RC := { c with ρ := c.ρ.take n }
theorem cut_sub {c : RC} {n : Nat} : ∀ a, c.B a ∨ a ∈ c.ρ.take n → c.B a ∨ a ∈ c.ρ := fun a z => z.imp id List.mem_of_mem_take
theorem cut_not {c : RC} {h : EH} {n m : Nat} {a : Addr} (s : SR c h) (hm : c.ρ[m]? = some a) (hn : n ≤ m) : a ∉ c.ρ.take n := fun z => by
  obtain ⟨j, hj, e⟩ := List.mem_iff_getElem.mp z
  rw [List.getElem_take] at e
  obtain ⟨h2, e2⟩ := List.getElem?_eq_some_iff.mp hm
  have hj' : j < c.ρ.length := by rw [List.length_take] at hj; omega
  have := (List.getElem_inj s.nd).mp (e.trans e2.symm)
  rw [List.length_take] at hj
  omega
theorem frz1I_ok {c : RC} {h : EH} {n : Nat} {d e : D} {v : V} (s : SR c h) (r : Rep c d v) (q : frz1I n h d = some e) : Rep (c.cut n) e v := by
  have fin : (if noRef d = true then some d else none) = some e → Rep (c.cut n) e v := fun q => by
    by_cases hc : noRef d = true
    · rw [if_pos hc] at q; cases q; exact r.re cut_sub hc
    · rw [if_neg hc] at q; cases q
  cases r with
  | @ref m a hn =>
    unfold frz1I at q
    dsimp only at q
    by_cases hmn : m < n
    · rw [if_pos hmn] at q
      cases q
      exact .ref (by rw [List.getElem?_take_of_lt hmn]; exact hn)
    · rw [if_neg hmn] at q
      cases q2 : h[m]? with
      | none => rw [q2] at q; cases q
      | some k =>
        rw [q2] at q
        have cr := s.cells m a k hn q2
        have nb : ¬ c.B a := fun z => s.nb a (List.mem_of_getElem? hn) z
        have nm := cut_not (n := n) s hn (by omega)
        cases k with
        | lst ds =>
          dsimp only at q
          by_cases hc : noRef.go ds = true
          · rw [if_pos hc] at q
            cases q
            obtain ⟨xs, e1, e2⟩ := cr
            exact .lst e1 ⟨nb, nm⟩ (e2.re cut_sub hc)
          · rw [if_neg hc] at q; cases q
        | dic t kvs =>
          dsimp only at q
          by_cases hc : noRef.gp kvs = true
          · rw [if_pos hc] at q
            cases q
            obtain ⟨o, zs, e1, e3, e2⟩ := cr
            exact .dic e1 e3 ⟨nb, nm⟩ (e2.re cut_sub hc)
          · rw [if_neg hc] at q; cases q
        | obj C fs =>
          dsimp only at q
          by_cases hc : noRef.gf fs = true
          · rw [if_pos hc] at q
            cases q
            obtain ⟨Ca, dx, vs, e0, e1, e2⟩ := cr
            exact .obj e0 e1 ⟨nb, nm⟩ (e2.re cut_sub hc)
          · rw [if_neg hc] at q; cases q
  | _ => exact fin q
theorem frzLI_ok {c : RC} {h : EH} {n : Nat} (s : SR c h) : ∀ {ds es : List D} {vs : List V}, Reps c ds vs → frzLI n h ds = some es → Reps (c.cut n) es vs
  | _, _, _, .nil, q => by cases q; exact .nil
  | d :: ds, es, _, .cons r t, q => by
    unfold frzLI at q
    cases q1 : frz1I n h d with
    | none => rw [q1] at q; cases q
    | some x =>
      cases q2 : frzLI n h ds with
      | none => rw [q1, q2] at q; cases q
      | some xs => rw [q1, q2] at q; cases q; exact .cons (frz1I_ok s r q1) (frzLI_ok s t q2)
theorem frzI_ok {c : RC} {h : EH} {n : Nat} {d e : D} {v : V} (s : SR c h) (r : Rep c d v) (q : frzI n h d = some e) : Rep (c.cut n) e v := by
  cases r with
  | @tup a ds xs k1 k2 =>
    have q' : (frzLI n h ds).map D.tup = some e := q
    cases q1 : frzLI n h ds with
    | none => rw [q1] at q'; cases q'
    | some es => rw [q1] at q'; cases q'; exact .tup k1 (frzLI_ok s k2 q1)
  | @lst a ds xs k1 k2 k3 =>
    have q' : (frzLI n h ds).map D.lst = some e := q
    cases q1 : frzLI n h ds with
    | none => rw [q1] at q'; cases q'
    | some es => rw [q1] at q'; cases q'; exact .lst k1 ⟨k2.1, fun z => k2.2 (List.mem_of_mem_take z)⟩ (frzLI_ok s k3 q1)
  | non => exact frz1I_ok s .non q
  | bl b => exact frz1I_ok s (.bl b) q
  | int i => exact frz1I_ok s (.int i) q
  | str cs => exact frz1I_ok s (.str cs) q
  | obj m k1 k2 k3 => exact frz1I_ok s (.obj m k1 k2 k3) q
  | dic k1 k2 k3 k4 => exact frz1I_ok s (.dic k1 k2 k3 k4) q
  | fn k1 k2 k3 k4 k5 k6 => exact frz1I_ok s (.fn k1 k2 k3 k4 k5 k6) q
  | exc k1 k2 k3 k4 k5 k6 => exact frz1I_ok s (.exc k1 k2 k3 k4 k5 k6) q
  | ref hn => exact frz1I_ok s (.ref hn) q
  | scr k1 k2 => exact frz1I_ok s (.scr k1 k2) q
theorem trim_ok {c : RC} {h h1 : EH} {n : Nat} (s : SR c h) (q : trim n h = some h1) : SR (c.cut n) h1 := by
  unfold trim at q
  by_cases e : h.length = n
  · rw [if_pos e] at q
    cases q
    have e2 : c.ρ.take n = c.ρ := List.take_of_length_le (by rw [s.len, e]; exact Nat.le_refl _)
    have e3 : c.cut n = c := by
      show ({ c with ρ := c.ρ.take n } : RC) = c
      rw [e2]
    rw [e3]; exact s
  · rw [if_neg e] at q
    by_cases hp : (h.take n).all pureC = true
    · rw [if_pos hp] at q
      cases q
      refine ⟨by rw [List.length_take, List.length_take, s.len], s.nd.sublist (List.take_sublist _ _), fun m a k e1 e2 => ?_, fun a ha => s.nb a (List.mem_of_mem_take ha), s.bt⟩
      have hm : m < n := by
        have := (List.getElem?_eq_some_iff.mp e2).1
        rw [List.length_take] at this
        omega
      have e1' : c.ρ[m]? = some a := by
        have z : (c.ρ.take n)[m]? = some a := e1
        rwa [List.getElem?_take_of_lt hm] at z
      have e2' : h[m]? = some k := by rwa [List.getElem?_take_of_lt hm] at e2
      have hk : pureC k = true := List.all_eq_true.mp hp k (List.mem_of_getElem? e2)
      have r := s.cells m a k e1' e2'
      cases k with
      | lst ds => obtain ⟨xs, h1, h2⟩ := r; exact ⟨xs, h1, h2.re cut_sub hk⟩
      | dic t kvs => obtain ⟨o, zs, h1, h3, h2⟩ := r; exact ⟨o, zs, h1, h3, h2.re cut_sub hk⟩
      | obj C fs => obtain ⟨Ca, dx, vs, h0, h1, h2⟩ := r; exact ⟨Ca, dx, vs, h0, h1, h2.re cut_sub hk⟩
    · rw [if_neg hp] at q; cases q
theorem le_cut {c c' : RC} (l : c.Le c') : c.Le (c'.cut c.ρ.length) := by
  refine ⟨l.K, l.mg, l.B, l.Bn, l.dom, fun n a e => ?_, fun a o e t n => ⟨(l.keep a o e t n).1, fun z => (l.keep a o e t n).2 (List.mem_of_mem_take z)⟩, l.tup, l.frz⟩
  have hn := (List.getElem?_eq_some_iff.mp e).1
  show (c'.ρ.take c.ρ.length)[n]? = some a
  rw [List.getElem?_take_of_lt hn]
  exact l.pre n a e
abbrev IF := List D → EH → Option (R D × EH)
def endI (n : Nat) (x : Option (RS × EH)) : Option (R D × EH) := match x with
  | some (.rt d, h) => (match frzI n h d, trim n h with
    | some d', some h1 => some (.ok d', h1)
    | _, _ => none)
  | some (.nx _, h) => (trim n h).map fun h1 => (.ok .non, h1)
  | some (.ex e _, h) => if noRef.gf e.fs = true then (trim n h).map fun h1 => (.ex e, h1) else none
  | _ => none
def runI (n : Nat) (m : MS) : IF := fun ds h => endI h.length (m (startE n ds) h)
/-- the def gives a new cell -/
def endA (n : Nat) (x : Option (RS × EH)) : Option (R D × EH) := match x with
  | some (.rt (.ref m), h) => if n = m ∧ h.length = n + 1 then some (.ok (.ref n), h) else none
  | _ => none
def runA (n : Nat) (m : MS) : IF := fun ds h => endA h.length (m (startE n ds) h)
def SpI (K : PySem.W.Frag) (mg : Str → Option Value) (n : Nat) (F : IF) : Sp := fun vs H Q E => ∃ (c : RC) (h : EH) (ds : List D) (r : R D) (h' : EH), c.K = K ∧ MgE c mg ∧ c.H = H ∧ SR c h ∧ Reps c ds vs ∧ ds.length = n ∧ F ds h = some (r, h') ∧
  (∀ d, r = .ok d → ∀ c' v, c.Le c' → SR c' h' → Rep c' d v → Q v c'.H) ∧ (∀ e, r = .ex e → ∀ c' cls dx, c.Le c' → SR c' h' → ExR c' e cls dx → E cls dx c'.H)
structure FnI (P : Program) (w : World) (K : PySem.W.Frag) (mg : Str → Option Value) (base : Heap) (x : Str) (k n : Nat) (F : IF) : Prop where
  ex : ∃ (f : Addr) (fd : FuncData) (ps : List Str), mg x = some (.ref f) ∧ PySem.W.keepIn K (.ref f) = true ∧ Binds K fd ps [] ∧ ps.length = n ∧ FnOk P w K mg base (L2.CX P w) k f fd ps (SpI K mg n F)
section
variable {P : Program} {w : World} {K : PySem.W.Frag} {mg : Str → Option Value} {base : Heap}
theorem bodyI_of {N : List Str} {m : MS} {vs : List V} {H : Hp} {Q : VK} {E : XK} {n : Nat} (h : SpI K mg n (runI N.length m) vs H Q E) : tS K mg (fun cls d _ H' => E cls d H') m { nx := fun _ H' => Q .non H', rt := Q } (L2.start N vs) H := by
  obtain ⟨c, h, ds, r, h', hK, hm, rfl, sr, rv, hn, e, go, gx⟩ := h
  unfold runI at e
  cases q : m (startE N.length ds) h with
  | none => rw [q] at e; cases e
  | some z =>
    obtain ⟨rs, h2⟩ := z
    rw [q] at e
    refine ⟨c, startE N.length ds, h, rs, h2, hK, hm, rfl, sr, start_envR rv, q, ?_⟩
    rw [← sr.len] at e
    cases rs with
    | nx ε' =>
      have e' : (trim c.ρ.length h2).map (fun h1 => (R.ok D.non, h1)) = some (r, h') := e
      cases q1 : trim c.ρ.length h2 with
      | none => rw [q1] at e'; cases e'
      | some h1 =>
        rw [q1] at e'
        cases e'
        exact fun c' σ' l s en => go _ rfl (c'.cut c.ρ.length) _ (le_cut l) (trim_ok s q1) .non
    | rt d =>
      have e' : (match frzI c.ρ.length h2 d, trim c.ρ.length h2 with
        | some d', some h1 => some (R.ok d', h1)
        | _, _ => none) = some (r, h') := e
      cases q1 : frzI c.ρ.length h2 d with
      | none => rw [q1] at e'; cases e'
      | some d' =>
        cases q2 : trim c.ρ.length h2 with
        | none => rw [q1, q2] at e'; cases e'
        | some h1 =>
          rw [q1, q2] at e'
          cases e'
          exact fun c' v l s rd => go _ rfl (c'.cut c.ρ.length) v (le_cut l) (trim_ok s q2) (frzI_ok s rd q1)
    | bk ε' => cases e
    | ct ε' => cases e
    | ex x ε' =>
      have e' : (if noRef.gf x.fs = true then (trim c.ρ.length h2).map (fun h1 => (R.ex x, h1)) else none) = some (r, h') := e
      by_cases hc : noRef.gf x.fs = true
      · rw [if_pos hc] at e'
        cases q1 : trim c.ρ.length h2 with
        | none => rw [q1] at e'; cases e'
        | some h1 =>
          rw [q1] at e'
          cases e'
          refine fun c' σ' cls dx l s en xr => gx _ rfl (c'.cut c.ρ.length) cls dx (le_cut l) (trim_ok s q1) ?_
          obtain ⟨Ca, d, vs, h1, h2, h3, h4, h5, h6⟩ := xr
          exact ⟨Ca, d, vs, h1, h2, h3, h4, ⟨h5.1, fun z => h5.2 (List.mem_of_mem_take z)⟩, h6.re cut_sub hc⟩
      · rw [if_neg hc] at e'; cases e'
theorem bodyA_of {N : List Str} {m : MS} {vs : List V} {H : Hp} {Q : VK} {E : XK} {n : Nat} (h : SpI K mg n (runA N.length m) vs H Q E) : tS K mg (fun cls d _ H' => E cls d H') m { nx := fun _ H' => Q .non H', rt := Q } (L2.start N vs) H := by
  obtain ⟨c, h, ds, r, h', hK, hm, rfl, sr, rv, hn, e, go, gx⟩ := h
  unfold runA at e
  cases q : m (startE N.length ds) h with
  | none => rw [q] at e; cases e
  | some z =>
    obtain ⟨rs, h2⟩ := z
    rw [q] at e
    refine ⟨c, startE N.length ds, h, rs, h2, hK, hm, rfl, sr, start_envR rv, q, ?_⟩
    cases rs with
    | rt d =>
      cases d with
      | ref m' =>
        have e' : (if h.length = m' ∧ h2.length = h.length + 1 then some (R.ok (D.ref h.length), h2) else none) = some (r, h') := e
        by_cases hc : h.length = m' ∧ h2.length = h.length + 1
        · rw [if_pos hc] at e'
          cases e'
          rw [← hc.1]
          exact fun c' v l s rd => go _ rfl c' v l s rd
        · rw [if_neg hc] at e'; cases e'
      | _ => cases e
    | _ => cases e
theorem fnI {x qual : Str} {params : Arguments} {body : List Stmt} {scope : Scope} {f : Addr} {fd : FuncData} {N ps : List Str} {k : Nat} {m : MS} {dvs : List V} {kws : List (Str × V)} (F : FunD K x qual params body scope dvs kws f fd) (S : FnScope N ps scope)
    (hb : ∀ (cdv : Value) (A : Around) (outer : List Env) (s : Shared) (H : Hp) (E : XK), Room k (A.deeper (envOfC qual scope s.heap.objs.size f cdv)) → RSs (cxOf (L2.CX P w) P w K mg base N qual scope f cdv A outer s H E) (fun cls d _ H' => E cls d H') body m) :
    FnOk P w K mg base (L2.CX P w) (k + 1) f fd ps (SpI K mg ps.length (runI N.length m)) := by
  refine F.ok S (fun vs H Q E h => ?_) (fun cdv A outer s H vs Q E hr h => ⟨_, hb cdv A outer s H E hr, bodyI_of h⟩)
  obtain ⟨c, h, ds, r, h', _, _, _, _, rv, hn, _⟩ := h
  rw [← rv.length, hn]
theorem fnA {x qual : Str} {params : Arguments} {body : List Stmt} {scope : Scope} {f : Addr} {fd : FuncData} {N ps : List Str} {k : Nat} {m : MS} {dvs : List V} {kws : List (Str × V)} (F : FunD K x qual params body scope dvs kws f fd) (S : FnScope N ps scope)
    (hb : ∀ (cdv : Value) (A : Around) (outer : List Env) (s : Shared) (H : Hp) (E : XK), Room k (A.deeper (envOfC qual scope s.heap.objs.size f cdv)) → RSs (cxOf (L2.CX P w) P w K mg base N qual scope f cdv A outer s H E) (fun cls d _ H' => E cls d H') body m) :
    FnOk P w K mg base (L2.CX P w) (k + 1) f fd ps (SpI K mg ps.length (runA N.length m)) := by
  refine F.ok S (fun vs H Q E h => ?_) (fun cdv A outer s H vs Q E hr h => ⟨_, hb cdv A outer s H E hr, bodyA_of h⟩)
  obtain ⟨c, h, ds, r, h', _, _, _, _, rv, hn, _⟩ := h
  rw [← rv.length, hn]
end
def mCallI (F : IF) (a : M (List D)) : M D := fun ε h => bR (a ε h) fun ds h1 => F ds h1
section
variable {X : Cx} {W : WX}
theorem callI_of {K : PySem.W.Frag} {mg : Str → Option Value} {n : Nat} {F : IF} {a : M (List D)} {σ : L2.St} {H : Hp} {Q : VK} (hn : ArN n a) (h : tE K mg W (mCallI F a) σ H Q) :
    tCallSD (SpI K mg n F) [] (fun σ cls d H' => W cls d σ H') (tA K mg W a) σ H Q := by
  obtain ⟨c, ε, h, r, h', hK, hm, rfl, sr, er, e, px, go⟩ := h
  unfold tCallSD
  cases q : a ε h with
  | none => rw [mCallI, q] at e; cases e
  | some z =>
    obtain ⟨ra, h1⟩ := z
    rw [mCallI, q] at e
    cases ra with
    | ex x =>
      cases e
      exact ⟨c, ε, h, .ex x, _, hK, hm, rfl, sr, er, q, fun y ey => px y (by cases ey; rfl), fun a' ea => nomatch ea⟩
    | ok ds =>
      refine ⟨c, ε, h, .ok ds, h1, hK, hm, rfl, sr, er, q, Px.ok, fun ds' eds c1 vs l1 s1 r1 => ?_⟩
      cases eds
      rw [List.append_nil]
      exact ⟨c1, h1, ds, r, h', l1.K.trans hK, l1.mg.trans hm, rfl, s1, r1, hn _ _ _ _ q, e, fun d ed c' v l s rd => go d ed c' v (l1.trans l) s rd, fun x ex c' cls dx l s xr => px x ex c' cls dx (l1.trans l) s xr⟩
theorem re_callI {x : Str} {p pos : Pos} {e : Expr} {es : List Expr} {k j n : Nat} {F : IF} {ma : M (List D)} (G : FnI X.prog X.w X.K X.mg X.base x k n F) (hr : Room j X.A) (tk : Takes X W) (ha : RA X W (e :: es) ma) (hk : k ≤ j := by decide)
    (hn : ArN n ma := by repeat (first | exact ar_nil | refine ar_cons ?_)) (hg : Gl X x := by rfl)
    (hdb : (x == ("__debug__" : Str)) = false := by decide) (he : starEach (e :: es) X.env = (false, eval e X.env) :: starEach es X.env := by rfl) (hpl : (backTo pos (starEach es X.env)).any (·.1) = false := by rfl) :
    RE X W (.Call (.Name x p) (e :: es) [] pos) (mCallI F ma) := by
  obtain ⟨f, fd, ps, hm, hkp, hb, hl, F⟩ := G.ex
  exact pe_imp (pe_callSD F (hr.mono hk) hg hm hkp hb .nil (fun σ => passAt tk σ) ha hdb he hpl) fun σ H Q h => callI_of hn h
end
/-- [..] as a cell -/
def mLstC (m : M (List D)) : M D := fun ε h => bR (m ε h) fun ds h1 => if ds.length ≤ sizeLine then some (.ok (.ref h1.length), h1 ++ [.lst ds]) else none
theorem SR.cell {c : RC} {h : EH} {p : Addr} {ds : List D} {xs : List V} (s : SR c h) (hp : c.H p = none) (r : Reps c ds xs) : c.Le { c with ρ := c.ρ ++ [p], H := upd c.H p (.lst xs) } ∧ SR { c with ρ := c.ρ ++ [p], H := upd c.H p (.lst xs) } (h ++ [.lst ds]) := by
  have np : p ∉ c.ρ := fun z => by
    obtain ⟨o, e⟩ := s.ex z
    rw [hp] at e; cases e
  have ne : ∀ a o, c.H a = some o → a ≠ p := fun a o e z => by rw [z, hp] at e; cases e
  have l : c.Le { c with ρ := c.ρ ++ [p], H := upd c.H p (.lst xs) } := by
    refine ⟨rfl, ⟨rfl, tabs_upd (noTab_none hp)⟩, fun _ h => h, fun _ h => .inl h, fun a u e => ⟨u, (upd_ne (ne a u e)).trans e⟩, fun n a e => ?_, fun a u e _ n => ⟨(upd_ne (ne a u e)).trans e, fun z => ?_⟩, fun a ys e => ?_, fun a o u e => (upd_ne (ne a _ e)).trans e⟩
    · show (c.ρ ++ [p])[n]? = some a
      rw [List.getElem?_append_left (List.getElem?_eq_some_iff.mp e).1]
      exact e
    · rcases List.mem_append.mp z with z | z
      · exact n z
      · exact ne a u e (List.mem_singleton.mp z)
    · rcases e with e | ⟨u, e⟩
      · exact .inl ((upd_ne (ne a _ e)).trans e)
      · exact .inr ⟨u, (upd_ne (ne a _ e)).trans e⟩
  refine ⟨l, ⟨by rw [List.length_append, List.length_append, s.len]; rfl, ?_, fun n a k e1 e2 => ?_, fun a ha z => ?_, fun a hb => ?_⟩⟩
  · rw [List.nodup_append]
    refine ⟨s.nd, by simp, fun a ha b hb => ?_⟩
    rw [List.mem_singleton.mp hb]
    exact fun z => np (z ▸ ha)
  · have e1' : (c.ρ ++ [p])[n]? = some a := e1
    by_cases hn : n < c.ρ.length
    · rw [List.getElem?_append_left hn] at e1'
      rw [List.getElem?_append_left (by rw [← s.len]; exact hn)] at e2
      have cr := s.cells n a k e1' e2
      obtain ⟨o, eo⟩ := cr.ex
      exact cr.le l (upd_ne (ne a o eo))
    · rw [List.getElem?_append_right (by omega)] at e1'
      rw [List.getElem?_append_right (by rw [← s.len]; omega), ← s.len] at e2
      cases q : n - c.ρ.length with
      | zero =>
        rw [q] at e1' e2
        cases e1'
        cases e2
        exact ⟨xs, upd_same, r.le l⟩
      | succ m =>
        rw [q] at e1'
        simp at e1'
  · rcases List.mem_append.mp ha with ha | ha
    · exact s.nb a ha z
    · rw [List.mem_singleton.mp ha] at z
      obtain ⟨o, e⟩ := s.bt p z
      rw [hp] at e; cases e
  · obtain ⟨o, e⟩ := s.bt a hb
    exact ⟨o, (upd_ne (ne a o e)).trans e⟩
theorem re_lstC {X : Cx} {W : WX} {es : List Expr} {m : M (List D)} {pos} (h : RA X W es m) : RE X W (.List es pos) (mLstC m) := by
  refine pe_imp (pe_lst h) fun σ H Q h => ?_
  obtain ⟨c, ε, h, r', h', hK, hm, rfl, sr, er, e, px, go⟩ := h
  unfold tLst
  refine tX.bind hK hm sr er e px fun ds h1 c1 xs e1 l1 s1 r1 => ?_
  by_cases hz : ds.length ≤ sizeLine
  · rw [if_pos hz] at e1
    cases e1
    refine ⟨by rw [← r1.length]; exact hz, fun p hp => ?_⟩
    obtain ⟨l2, s2⟩ := s1.cell hp r1
    refine go _ rfl _ _ (l1.trans l2) s2 (.ref ?_)
    show (c1.ρ ++ [p])[h1.length]? = some p
    rw [← s1.len, List.getElem?_append_right (Nat.le_refl _), Nat.sub_self]
    rfl
  · rw [if_neg hz] at e1; cases e1
end PD
namespace PD
open PySem PySem.Spec PyProof.Rows L2
variable [LamTab]
inductive Ty where
  | non | bool | int | str | tup | lst | dic
  deriving DecidableEq
def Ty.nm : Ty → String
  | .non => "NoneType" | .bool => "bool" | .int => "int" | .str => "str" | .tup => "tuple" | .lst => "list" | .dic => "dict"
def isa : Ty → Ty → Bool
  | .non, .non => true | .bool, .bool => true | .bool, .int => true | .int, .int => true | .str, .str => true | .tup, .tup => true | .lst, .lst => true | .dic, .dic => true
  | _, _ => false
theorem kit_isa : ∀ a b : Ty, kitB a.nm b.nm = some (isa a b) := by
  intro a b
  cases a <;> cases b <;> decide +kernel
def tyD (h : EH) (d : D) : Option Ty := match d with
  | .non => some .non
  | .bl _ => some .bool
  | .int _ => some .int
  | .str _ => some .str
  | .tup _ => some .tup
  | .lst _ => some .lst
  | .scr _ => some .lst
  | .ref n => (match h[n]? with
    | some (.lst _) => some .lst
    | _ => none)
  | _ => none
theorem tyD_ok {c : RC} {h : EH} {d : D} {v : V} {t : Ty} (s : SR c h) (r : Rep c d v) (e : tyD h d = some t) : TyX c.K c.H v (.type t.nm) := by
  cases r with
  | non => cases e; exact .base .non
  | bl b => cases e; exact .base (.bl b)
  | int i => cases e; exact .base (.int i)
  | str cs => cases e; exact .base (.str _)
  | @tup a ds xs k1 k2 =>
    cases e
    rcases k1 with (k1 | ⟨o, k1⟩) | ⟨o, its, n, k1, k3, _⟩
    · exact .base (.tup k1)
    · exact .fTuple k1
    · exact .kTuple k1 k3
  | @lst a ds xs k1 k2 k3 =>
    cases e
    exact .base (.lst k1)
  | scr k1 k2 =>
    cases e
    rcases k1 with ⟨o, k1⟩ | ⟨o, its, n, k1, k3, _⟩
    · exact .base (.frz k1)
    · exact .kList k1 k3
  | obj _ _ _ _ => cases e
  | dic _ _ _ _ => cases e
  | fn _ _ _ _ _ _ => cases e
  | exc _ _ _ _ _ _ => cases e
  | @ref n a hn =>
    unfold tyD at e
    dsimp only at e
    cases q : h[n]? with
    | none => rw [q] at e; cases e
    | some k =>
      rw [q] at e
      cases k with
      | lst ds =>
        cases e
        obtain ⟨xs, e1, _⟩ := s.cells n a _ hn q
        exact .base (.lst e1)
      | _ => cases e
def mIsi (ts : List Ty) (a : M D) : M D := fun ε h => bR (a ε h) fun d h1 => match tyD h1 d with
  | some t => some (.ok (.bl (ts.any (isa t))), h1)
  | none => none
section
variable {X : Cx} {W : WX}
theorem re_isi (T : Ty) {e : Expr} {x : Str} {p p2 pos : Pos} {m : M D} (hm : X.mg "isinstance" = none) (hmx : X.mg x = none) (he : RE X W e m) (hv : bootBuiltins x = some (.type T.nm) := by decide +kernel)
    (hg : Gl X "isinstance" := by rfl) (hgx : Gl X x := by rfl) (hnx : x ≠ "__name__" := by decide) (hdx : (x == ("__debug__" : Str)) = false := by decide)
    (hs1 : starEach [e, .Name x p2] X.env = (false, eval e X.env) :: starEach [.Name x p2] X.env := by rfl) (hs2 : starEach [.Name x p2] X.env = (false, eval (.Name x p2) X.env) :: starEach [] X.env := by rfl)
    (hpl : (backTo pos (starEach [.Name x p2] X.env)).any (·.1) = false := by rfl) : RE X W (.Call (.Name "isinstance" p) [e, .Name x p2] [] pos) (mIsi [T] m) := by
  refine pe_imp (pe_callB (x := "isinstance") call_isi hg hm (by decide +kernel) (pa_cons he (pa_cons (pe_bltn (v := .ty T.nm) (u := .type T.nm) hgx hmx hv rfl hnx hdx) pa_nil hs2) hs1) (by decide) (by decide) hs1 hpl) fun σ H Q h => ?_
  obtain ⟨c, ε, h, r, h', hK, hm, rfl, sr, er, e, px, go⟩ := h
  unfold tCB tCons tC tNil
  refine tX.bind hK hm sr er e px fun d h1 c1 v e1 l1 s1 r1 => ?_
  cases q : tyD h1 d with
  | none => rw [q] at e1; cases e1
  | some t =>
    rw [q] at e1
    cases e1
    have ty := tyD_ok s1 r1 q
    rw [l1.K.trans hK] at ty
    refine ⟨v, .ty T.nm, _, _, isa t T, rfl, .ty _, ty, kit_ty (kit_isa t T), go _ rfl c1 _ l1 s1 ?_⟩
    simpa using Rep.bl (isa t T)
theorem re_isi2 (T U : Ty) {e : Expr} {x y : Str} {p p2 p3 p4 pos : Pos} {k : Nat} {m : M D} (hm : X.mg "isinstance" = none) (hmx : X.mg x = none) (hmy : X.mg y = none) (he : RE X W e m) (hv : bootBuiltins x = some (.type T.nm) := by decide +kernel) (hvy : bootBuiltins y = some (.type U.nm) := by decide +kernel)
    (hg : Gl X "isinstance" := by rfl) (hgx : Gl X x := by rfl) (hgy : Gl X y := by rfl) (hnx : x ≠ "__name__" := by decide) (hdx : (x == ("__debug__" : Str)) = false := by decide) (hny : y ≠ "__name__" := by decide) (hdy : (y == ("__debug__" : Str)) = false := by decide)
    (hs1 : starEach [e, .Tuple [.Name x p2, .Name y p3] k p4] X.env = (false, eval e X.env) :: starEach [.Tuple [.Name x p2, .Name y p3] k p4] X.env := by rfl) (hs2 : starEach [.Tuple [.Name x p2, .Name y p3] k p4] X.env = (false, eval (.Tuple [.Name x p2, .Name y p3] k p4) X.env) :: starEach [] X.env := by rfl)
    (hs3 : starEach [.Name x p2, .Name y p3] X.env = (false, eval (.Name x p2) X.env) :: starEach [.Name y p3] X.env := by rfl) (hs4 : starEach [.Name y p3] X.env = (false, eval (.Name y p3) X.env) :: starEach [] X.env := by rfl)
    (hpl : (backTo pos (starEach [.Tuple [.Name x p2, .Name y p3] k p4] X.env)).any (·.1) = false := by rfl) : RE X W (.Call (.Name "isinstance" p) [e, .Tuple [.Name x p2, .Name y p3] k p4] [] pos) (mIsi [T, U] m) := by
  refine pe_imp (pe_callB (x := "isinstance") call_isiT hg hm (by decide +kernel) (pa_cons he (pa_cons (pe_tup (pa_cons (pe_bltn (v := .ty T.nm) (u := .type T.nm) hgx hmx hv rfl hnx hdx) (pa_cons (pe_bltn (v := .ty U.nm) (u := .type U.nm) hgy hmy hvy rfl hny hdy) pa_nil hs4) hs3)) pa_nil hs2) hs1) (by decide) (by decide) hs1 hpl) fun σ H Q h => ?_
  obtain ⟨c, ε, h, r, h', hK, hm, rfl, sr, er, e, px, go⟩ := h
  unfold tCB tCons tTup tC tNil
  refine tX.bind hK hm sr er e px fun d h1 c1 v e1 l1 s1 r1 => ?_
  refine ⟨by show 2 ≤ sizeLine; decide, fun tp htp => ?_⟩
  cases q : tyD h1 d with
  | none => rw [q] at e1; cases e1
  | some t =>
    rw [q] at e1
    cases e1
    obtain ⟨l2, s2, f2⟩ := s1.new (o := .tup [.ty T.nm, .ty U.nm]) htp
    have ty := tyD_ok s2 (r1.le l2) q
    have hK2 : (c1.put tp (.tup [.ty T.nm, .ty U.nm])).K = X.K := l1.K.trans hK
    rw [hK2] at ty
    refine ⟨v, tp, [.ty T.nm, .ty U.nm], _, [.type T.nm, .type U.nm], [T, U].any (isa t), rfl, upd_same, .cons (.ty _) (.cons (.ty _) .nil), ty, ?_, go _ rfl _ _ (l1.trans l2) s2 (.bl _)⟩
    refine kitAny_cons (b := isa t T) (kit_ty (kit_isa t T)) (fun hb => ?_) fun hb => by simp [hb]
    refine kitAny_cons (b := isa t U) (kit_ty (kit_isa t U)) (fun hb2 => ?_) fun hb2 => by simp [hb2]
    rw [kitAny_nil]
    simp [hb, hb2]
def MtS (K : PySem.W.Frag) (mg : Str → Option Value) (r : V → List V → Hp → VK → Prop) (f : EH → List Nat → List D → Option D) : Prop := ∀ (c : RC) (h : EH) (z : List Nat) (xs : List V) (ds : List D) (d : D) (Q : VK), c.K = K → MgE c mg → SR c h → Reps c ds xs → f h z ds = some d →
  (∀ c' v, c.Le c' → SR c' h → Rep c' d v → Q v c'.H) → r (.str ⟨z.toArray⟩) xs c.H Q
def mMtS (f : EH → List Nat → List D → Option D) (o : M D) (a : M (List D)) : M D := fun ε h => bR (o ε h) fun x h1 => match x with
  | .str z => bR (a ε h1) fun ds h2 => rt (f h2 z ds) h2
  | _ => none
theorem mts_of {K : PySem.W.Frag} {mg : Str → Option Value} {r : V → List V → Hp → VK → Prop} {f : EH → List Nat → List D → Option D} {o : M D} {a : M (List D)} (hs : MtS K mg r f) {σ : L2.St} {H : Hp} {Q : VK} (h : tE K mg W (mMtS f o a) σ H Q) : tBM K "str" r (tE K mg W o) (tA K mg W a) σ H Q := by
  obtain ⟨c, ε, h, r', h', hK, hm, rfl, sr, er, e, px, go⟩ := h
  unfold tBM
  refine tX.bind hK hm sr er e px fun d h1 c1 v e1 l1 s1 r1 => ?_
  cases r1 with
  | str z =>
    refine ⟨rfl, ?_⟩
    refine tX.bind (l1.K.trans hK) (l1.mg.trans hm) s1 (er.le l1) e1 (px.le l1) fun ds h2 c2 xs e2 l2 s2 r2 => ?_
    cases q : f h2 z ds with
    | none => rw [q] at e2; cases e2
    | some d =>
      rw [q] at e2
      cases e2
      exact hs c2 _ z xs ds d Q ((l2.K.trans l1.K).trans hK) ((l2.mg.trans l1.mg).trans hm) s2 r2 q fun c' v l s r => go d rfl c' v ((l1.trans l2).trans l) s r
  | _ => cases e1
theorem re_mts {id : String} {name : Str} {r : V → List V → Hp → VK → Prop} {f : EH → List Nat → List D → Option D} {o e : Expr} {es : List Expr} {apos cpos : Pos} {mo : M D} {ma : M (List D)} (slot : Slot "str" name id) (hty : typeOf (.builtin id) = pure (.type "method_descriptor")) (hm : MtR X id r) (hs : MtS X.K X.mg r f) (ho : RE X W o mo) (ha : RA X W (e :: es) ma)
    (hbase : attributeBase o name X.env (eval o X.env) = eval o X.env := by rfl)
    (hfew : ((backTo cpos (starEach (e :: es) X.env)).all (fun x => !x.1) && (backToKw cpos (keywordEach [] X.env)).all (fun x => x.1.isSome)
      && decide ((e :: es).length + ([] : List Keyword).length + (if ([] : List Keyword).isEmpty then 0 else 1) < 30)) = true := by rfl)
    (hline : (apos.endLine == cpos.line) = true := by rfl) (hss : starEach (e :: es) X.env = (false, eval e X.env) :: starEach es X.env := by rfl) (hplain : (backTo cpos (starEach es X.env)).any (·.1) = false := by rfl) :
    RE X W (.Call (.Attribute o name apos) (e :: es) [] cpos) (mMtS f mo ma) :=
  pe_imp (pe_bm PySem.F.plainAttrs_str slot hty hm ho ha hbase hfew hline hss hplain) fun _ _ _ h => mts_of hs h
end
/-- lists of texts -/
def asTs : List D → Option (List (List Nat))
  | [] => some []
  | .str z :: ds => (asTs ds).map (z :: ·)
  | _ :: _ => none
theorem asTs_ok {c : RC} : ∀ {ds : List D} {xs : List V} {zs : List (List Nat)}, Reps c ds xs → asTs ds = some zs → xs = (zs.map fun z => (⟨z.toArray⟩ : Str)).map V.str
  | _, _, bs, .nil, e => by cases e; rfl
  | _, _, bs, .cons h t, e => by
    cases h with
    | str z =>
      unfold asTs at e
      rename_i ds vs
      cases q : asTs ds with
      | none => rw [q] at e; cases e
      | some cs => rw [q] at e; cases e; rw [asTs_ok t q]; rfl
    | _ => cases e
def joinT (sep : List Nat) : List (List Nat) → List Nat
  | [] => []
  | [x] => x
  | x :: r => x ++ sep ++ joinT sep r
def dJoin (h : EH) (z : List Nat) (ds : List D) : Option D := match ds with
  | [d] => (match asS h d with
    | some xs => (match asTs xs with
      | some zs => if (zs.map List.length).sum + zs.length * z.length ≤ 16777216 then some (.str (joinT z zs)) else none
      | none => none)
    | none => none)
  | _ => none
theorem join_eq (z : List Nat) : ∀ zs : List (List Nat), Txt.join ⟨z.toArray⟩ (zs.map fun z => (⟨z.toArray⟩ : Str)) = ⟨(joinT z zs).toArray⟩ := by
  intro zs
  show Builtin.Str.glued _ _ = _
  rw [StrLaws.glued_eq_join]
  induction zs with
  | nil => rfl
  | cons x r ih =>
    cases r with
    | nil => rfl
    | cons y r =>
      have e : Str.join (⟨z.toArray⟩ : Str) ((x :: y :: r).map fun z => (⟨z.toArray⟩ : Str)) = (⟨x.toArray⟩ : Str) ++ (⟨z.toArray⟩ : Str) ++ Str.join ⟨z.toArray⟩ ((y :: r).map fun z => (⟨z.toArray⟩ : Str)) := rfl
      rw [e, ih]
      show (⟨x.toArray ++ z.toArray ++ (joinT z (y :: r)).toArray⟩ : Str) = ⟨(x ++ z ++ joinT z (y :: r)).toArray⟩
      simp
section
variable {K : PySem.W.Frag} {mg : Str → Option Value}
theorem ms_join : MtS K mg (fun x xs H Q => ∃ a p, ∃ ys : List Str, x = .str a ∧ xs = [.ref p] ∧ (SqL K H p (ys.map V.str) ∨ SqT K H p (ys.map V.str)) ∧
    (ys.map (·.length)).sum + ys.length * a.length ≤ 16777216 ∧ Q (.str (Txt.join a ys)) H) dJoin := by
  intro c eh z xs ds d Q hK hm sr rx e go
  subst hK
  match ds, rx, e with
  | [d0], .cons r0 .nil, e =>
    cases q : asS eh d0 with
    | none => unfold dJoin at e; simp only [q] at e; cases e
    | some es =>
      unfold dJoin at e
      simp only [q] at e
      obtain ⟨a, ys, rfl, h1, r1⟩ := asS_ok sr r0 q
      cases q2 : asTs es with
      | none => rw [q2] at e; cases e
      | some zs =>
        rw [q2] at e
        dsimp only at e
        by_cases hz : (zs.map List.length).sum + zs.length * z.length ≤ 16777216
        · rw [if_pos hz] at e
          cases e
          refine ⟨_, a, zs.map fun z => (⟨z.toArray⟩ : Str), rfl, rfl, by rw [← asTs_ok r1 q2]; exact h1, ?_, by rw [join_eq]; exact go c _ (.refl c) sr (.str _)⟩
          have e1 : (zs.map fun z => (⟨z.toArray⟩ : Str)).map (·.length) = zs.map List.length := by
            rw [List.map_map]
            refine List.map_congr_left fun x _ => ?_
            simp [Str.length]
          rw [e1, List.length_map]
          simpa [Str.length] using hz
        · rw [if_neg hz] at e; cases e
  | [], _, e => cases e
  | _ :: _ :: _, _, e => cases e
end
def permL {α : Type} (p : List Nat) (xs : List α) : List α := p.filterMap (xs[·]?)
theorem permL_vals {p : List Nat} {vs : List V} {us : List Value} (r : Vals vs us) : Vals (permL p vs) (permL p us) := by
  unfold permL
  induction p with
  | nil => exact .nil
  | cons i p ih =>
    rw [List.filterMap_cons, List.filterMap_cons]
    cases q : vs[i]? with
    | none => rw [r.none_of q]; exact ih
    | some v =>
      obtain ⟨u, e, ru⟩ := r.get q
      rw [e]
      exact .cons ru ih
theorem permL_reps {c : RC} {p : List Nat} {ds : List D} {vs : List V} (r : Reps c ds vs) : Reps c (permL p ds) (permL p vs) := by
  unfold permL
  induction p with
  | nil => exact .nil
  | cons i p ih =>
    rw [List.filterMap_cons, List.filterMap_cons]
    cases q : ds[i]? with
    | none =>
      have : vs[i]? = none := by
        rw [List.getElem?_eq_none_iff] at q ⊢
        rw [← r.length]; exact q
      rw [this]; exact ih
    | some d =>
      obtain ⟨u, e, ru⟩ := r.get q
      rw [e]
      exact .cons ru ih
abbrev RK (X : Cx) (W : WX) (kws : List Keyword) (m : M (List D)) : Prop := PK X kws (tA X.K X.mg W m)
theorem pk_imp {X : Cx} {kws : List Keyword} {t t' : TA} (h : PK X kws t) (k : ∀ σ H Q, t' σ H Q → t σ H Q) : PK X kws t' := ⟨fun pos pins s σ H Q I q => h.run pos pins s σ H Q I (k σ H Q q)⟩
section
variable {X : Cx} {W : WX}
theorem rk_nil : RK X W [] mNil := by
  refine pk_imp pk_nil fun σ H Q h => ?_
  obtain ⟨c, ε, h, r', h', hK, hm, rfl, sr, er, e, px, go⟩ := h
  cases e
  exact go _ rfl c _ (.refl c) sr .nil
theorem rk_cons {nm : Option Str} {kpos : Pos} {e : Expr} {kws : List Keyword} {me : M D} {m : M (List D)} (ha : RE X W e me) (hr : RK X W kws m) : RK X W (⟨nm, e, kpos⟩ :: kws) (mCons me m) := by
  refine pk_imp (pk_cons ha hr) fun σ H Q h => ?_
  obtain ⟨c, ε, h, r', h', hK, hm, rfl, sr, er, e, px, go⟩ := h
  unfold tCons
  refine tX.bind hK hm sr er e px fun x h1 c1 b e1 l1 s1 r1 => ?_
  refine tX.bind (l1.K.trans hK) (l1.mg.trans hm) s1 (er.le l1) e1 (px.le l1) fun xs h2 c2 ys e2 l2 s2 r2 => ?_
  cases e2
  exact go _ rfl c2 _ (l1.trans l2) s2 (.cons (r1.le l2) r2)
end
def mPerm (p : List Nat) (a : M (List D)) : M (List D) := fun ε h => bR (a ε h) fun ds h1 => some (.ok (permL p ds), h1)
end PD
namespace PD
open PySem PySem.Spec PyProof.Rows L2
variable [LamTab]
section
variable {X : Cx} {W : WX}
def dAdd : EH → D → D → Option D := fun h x y => (dI2 (fun i j => some (.int (i + j))) h x y).or ((dCatS h x y).or ((dCatT h x y).or (dCatL h x y)))
def dSub : EH → D → D → Option D := dI2 fun i j => some (.int (i - j))
def dMul : EH → D → D → Option D := dI2 fun i j => if CMul i j then some (.int (i * j)) else none
def dDiv : EH → D → D → Option D := dI2 fun i j => if CDiv i j then some (.int (i / j)) else none
def dMod : EH → D → D → Option D := dI2 fun i j => if 0 < j then some (.int (i % j)) else none
def dPow : EH → D → D → Option D := dI2 fun i j => if CPow i j then some (.int (i ^ j.toNat)) else none
def dLt : EH → D → D → Option D := dI2 fun i j => some (.bl (decide (i < j)))
def dLe : EH → D → D → Option D := dI2 fun i j => some (.bl (decide (i ≤ j)))
def dGt : EH → D → D → Option D := dI2 fun i j => some (.bl (decide (j < i)))
def dGe : EH → D → D → Option D := dI2 fun i j => some (.bl (decide (j ≤ i)))
def dInA : EH → D → D → Option D := fun h x y => (dInS false h x y).or (dIn false h x y)
def dNinA : EH → D → D → Option D := fun h x y => (dInS true h x y).or (dIn true h x y)
variable {a b : Expr} {ma mb : M D} {pos : Pos}
theorem re_add (ha : RE X W a ma) (hb : RE X W b mb) : RE X W (.BinOp a .Add b pos) (mBin dAdd ma mb) :=
  re_bin (op_add.or (op_add_str.or (op_catA.or op_cat))) ((ops_I0 _).or (ops_catS.or (ops_catT.or ops_catL))) ha hb
theorem re_sub (ha : RE X W a ma) (hb : RE X W b mb) : RE X W (.BinOp a .Sub b pos) (mBin dSub ma mb) := re_bin op_sub (ops_I0 _) ha hb
theorem re_mul (ha : RE X W a ma) (hb : RE X W b mb) : RE X W (.BinOp a .Mult b pos) (mBin dMul ma mb) := re_bin op_mul (ops_IC CMul _) ha hb
theorem re_div (ha : RE X W a ma) (hb : RE X W b mb) : RE X W (.BinOp a .FloorDiv b pos) (mBin dDiv ma mb) := re_bin op_fdiv (ops_IC CDiv _) ha hb
theorem re_mod (ha : RE X W a ma) (hb : RE X W b mb) : RE X W (.BinOp a .Mod b pos) (mBin dMod ma mb) := re_bin op_mod (ops_IC (fun _ j => 0 < j) _) ha hb
theorem re_pow (ha : RE X W a ma) (hb : RE X W b mb) : RE X W (.BinOp a .Pow b pos) (mBin dPow ma mb) := re_bin op_pow (ops_IC CPow _) ha hb
theorem re_eq {k : Nat} (hr : Room k X.A) (ha : RE X W a ma) (hb : RE X W b mb) : RE X W (.Compare a [.Eq] [b] pos) (mBin dEq ma mb) := re_cmp (op_eq.or (op_eqD hr.units)) (ops_eqS.or ops_eqD) ha hb (nomark _)
theorem re_in (ha : RE X W a ma) (hb : RE X W b mb) (hm : behindInMarks .In b = false := by rfl) : RE X W (.Compare a [.In] [b] pos) (mBin dInA ma mb) := re_cmp (op_in_sign.or op_in_seq) (ops_inS.or (ops_in false)) ha hb hm
theorem re_is (ha : RE X W a ma) (hb : RE X W b mb) : RE X W (.Compare a [.Is] [b] pos) (mBin (dIsN false) ma mb) := re_cmp op_isN ops_isN ha hb (nomark _)
theorem rt_lt (ha : RE X W a ma) (hb : RE X W b mb) : RT X W (.Compare a [.Lt] [b] pos) (mTst (mBin dLt ma mb)) := rt_cmp op_lt (ops_B0 _) ha hb (nomark _)
theorem rt_gt (ha : RE X W a ma) (hb : RE X W b mb) : RT X W (.Compare a [.Gt] [b] pos) (mTst (mBin dGt ma mb)) := rt_cmp op_gt (ops_B0 fun i j => decide (j < i)) ha hb (nomark _)
theorem rt_ge (ha : RE X W a ma) (hb : RE X W b mb) : RT X W (.Compare a [.GtE] [b] pos) (mTst (mBin dGe ma mb)) := rt_cmp op_ge (ops_B0 fun i j => decide (j ≤ i)) ha hb (nomark _)
theorem rt_eq {k : Nat} (hr : Room k X.A) (ha : RE X W a ma) (hb : RE X W b mb) : RT X W (.Compare a [.Eq] [b] pos) (mTst (mBin dEq ma mb)) := rt_cmp (op_eq.or (op_eqD hr.units)) (ops_eqS.or ops_eqD) ha hb (nomark _)
theorem rt_ne {k : Nat} (hr : Room k X.A) (ha : RE X W a ma) (hb : RE X W b mb) : RT X W (.Compare a [.NotEq] [b] pos) (mTst (mBin dNe ma mb)) := rt_cmp (op_ne.or (op_neD hr.units)) (ops_neS.or ops_neD) ha hb (nomark _)
theorem rt_in (ha : RE X W a ma) (hb : RE X W b mb) (hm : behindInMarks .In b = false := by rfl) : RT X W (.Compare a [.In] [b] pos) (mTst (mBin dInA ma mb)) := rt_cmp (op_in_sign.or op_in_seq) (ops_inS.or (ops_in false)) ha hb hm
theorem rt_nin (ha : RE X W a ma) (hb : RE X W b mb) (hm : behindInMarks .NotIn b = false := by rfl) : RT X W (.Compare a [.NotIn] [b] pos) (mTst (mBin dNinA ma mb)) := rt_cmp (op_notIn_sign.or op_notIn_seq) (ops_ninS.or (ops_in true)) ha hb hm
theorem rt_is (ha : RE X W a ma) (hb : RE X W b mb) : RT X W (.Compare a [.Is] [b] pos) (mTst (mBin (dIsN false) ma mb)) := rt_cmp op_isN ops_isN ha hb (nomark _)
theorem rt_isn (ha : RE X W a ma) (hb : RE X W b mb) : RT X W (.Compare a [.IsNot] [b] pos) (mTst (mBin (dIsN true) ma mb)) := rt_cmp op_notN ops_isnN ha hb (nomark _)
def mChain (f g : EH → D → D → Option D) (a b c : M D) : M D := fun ε h => bR (a ε h) fun x h1 => bR (b ε h1) fun y h2 => bR (rt ((f h2 x y).bind asB) h2) fun k h3 => if k = true then bR (c ε h3) fun z h4 => rt (g h4 y z) h4 else some (.ok (.bl false), h3)
theorem chain_of {K : PySem.W.Frag} {mg : Str → Option Value} {r r' : R2} {f g : EH → D → D → Option D} {a b c : M D} (hs : OpS K mg r f) (hs' : OpS K mg r' g) {σ : L2.St} {H : Hp} {Q : VK} (h : tE K mg W (mChain f g a b c) σ H Q) : tChain r r' (tE K mg W a) (tE K mg W b) (tE K mg W c) σ H Q := by
  obtain ⟨c0, ε, h, r0, h', hK, hm, rfl, sr, er, e, px, go⟩ := h
  unfold tChain
  refine tX.bind hK hm sr er e px fun dx h1 c1 x e1 l1 s1 r1 => ?_
  refine tX.bind (l1.K.trans hK) (l1.mg.trans hm) s1 (er.le l1) e1 (px.le l1) fun dy h2 c2 y e2 l2 s2 r2 => ?_
  have L2' := l1.trans l2
  cases q : f h2 dx dy with
  | none => rw [q] at e2; cases e2
  | some d =>
    rw [q] at e2
    cases d with
    | bl k =>
      refine hs c2 _ x y dx dy _ _ (L2'.K.trans hK) (L2'.mg.trans hm) s2 (r1.le l2) r2 q fun c3 v l3 s3 r3 => ?_
      have L3 := L2'.trans l3
      cases r3
      refine ⟨k, rfl, ?_⟩
      cases k with
      | false =>
        rw [if_neg Bool.false_ne_true]
        cases e2
        exact go _ rfl c3 _ L3 s3 (.bl false)
      | true =>
        rw [if_pos rfl]
        have e2' : bR (c ε h2) (fun z h4 => rt (g h4 dy z) h4) = some (r0, h') := e2
        refine tX.bind (L3.K.trans hK) (L3.mg.trans hm) s3 (er.le L3) e2' (px.le L3) fun dz h4 c4 z e4 l4 s4 r4 => ?_
        cases q4 : g h4 dy dz with
        | none => rw [q4] at e4; cases e4
        | some d4 =>
          rw [q4] at e4
          cases e4
          exact hs' c4 _ y z dy dz d4 Q ((L3.trans l4).K.trans hK) ((L3.trans l4).mg.trans hm) s4 ((r2.le l3).le l4) r4 q4 fun c' v l s r => go _ rfl c' v ((L3.trans l4).trans l) s r
    | _ => cases e2
variable {c : Expr} {mc : M D}
theorem re_lele (ha : RE X W a ma) (hb : RE X W b mb) (hc : RE X W c mc) (hm : lastMarks [.LtE, .LtE] [b, c] = false := by with_unfolding_all rfl) : RE X W (.Compare a [.LtE, .LtE] [b, c] pos) (mChain dLe dLe ma mb mc) :=
  pe_imp (pe_chain op_le op_le ha hb hc hm) fun _ _ _ h => chain_of (ops_B0 _) (ops_B0 _) h
theorem rt_lele (ha : RE X W a ma) (hb : RE X W b mb) (hc : RE X W c mc) (hm : lastMarks [.LtE, .LtE] [b, c] = false := by with_unfolding_all rfl) : RT X W (.Compare a [.LtE, .LtE] [b, c] pos) (mTst (mChain dLe dLe ma mb mc)) :=
  pt_imp (pt_chain op_le op_le ha hb hc hm) fun _ _ _ h => chain_of (ops_B0 _) (ops_B0 _) (tB_of h)
def mNeg (a : M D) : M D := fun ε h => bR (a ε h) fun x h1 => match x with
  | .int i => some (.ok (.int (-i)), h1)
  | _ => none
theorem re_neg (ha : RE X W a ma) : RE X W (.UnaryOp .USub a pos) (mNeg ma) := by
  refine pe_imp (pe_un un_neg ha) fun σ H Q h => ?_
  obtain ⟨c, ε, h, r', h', hK, hm, rfl, sr, er, e, px, go⟩ := h
  unfold tUn
  refine tX.bind hK hm sr er e px fun x h1 c1 b e1 l1 s1 r1 => ?_
  cases r1 with
  | int i => cases e1; exact ⟨i, rfl, go _ rfl c1 _ l1 s1 (.int _)⟩
  | _ => cases e1
theorem re_ix (ha : RE X W a ma) (hb : RE X W b mb) (hs : PlainIx b := by exact fun _ _ => rfl) : RE X W (.Subscript a b pos) (mBin dIx ma mb) := pe_imp (pe_ix ix_seq ha hb hs) fun _ _ _ h => top_of ops_ix h
variable {e : Expr} {p : Pos} {m : M (List D)}
theorem re_len (hm : X.mg "len" = none) (ha : RA X W [e] m) (hg : Gl X "len" := by rfl) (he : starEach [e] X.env = (false, eval e X.env) :: starEach [] X.env := by rfl) : RE X W (.Call (.Name "len" p) [e] [] pos) (mCall dLen m) := re_callB call_len cs_len hm ha (by decide +kernel) hg (by decide) (by decide) he rfl
theorem re_intc (hm : X.mg "int" = none) (ha : RA X W [e] m) (hg : Gl X "int" := by rfl) (he : starEach [e] X.env = (false, eval e X.env) :: starEach [] X.env := by rfl) : RE X W (.Call (.Name "int" p) [e] [] pos) (mCall dInt m) := re_callTy (call_int1.or call_int_str) cs_int hm ha (by decide +kernel) hg (by decide) (by decide) he rfl
theorem re_listc (hm : X.mg "list" = none) (ha : RA X W [e] m) (hg : Gl X "list" := by rfl) (he : starEach [e] X.env = (false, eval e X.env) :: starEach [] X.env := by rfl) : RE X W (.Call (.Name "list" p) [e] [] pos) (mCall dList m) := re_callTy call_list_of cs_list hm ha (by decide +kernel) hg (by decide) (by decide) he rfl
theorem re_all (hc : X.calm = true) (hm : X.mg "all" = none) (ha : RA X W [e] m) (hg : Gl X "all" := by rfl) (he : starEach [e] X.env = (false, eval e X.env) :: starEach [] X.env := by rfl) : RE X W (.Call (.Name "all" p) [e] [] pos) (mCall dAll m) := re_callB (cr_all hc) cs_all hm ha (by decide +kernel) hg (by decide) (by decide) he rfl
theorem re_join {o : Expr} {mo : M D} {apos : Pos} (ho : RE X W o mo) (ha : RA X W [e] m) (hbase : attributeBase o "join" X.env (eval o X.env) = eval o X.env := by rfl)
    (hfew : ((backTo pos (starEach [e] X.env)).all (fun x => !x.1) && (backToKw pos (keywordEach [] X.env)).all (fun x => x.1.isSome)
      && decide (([e] : List Expr).length + ([] : List Keyword).length + (if ([] : List Keyword).isEmpty then 0 else 1) < 30)) = true := by rfl)
    (hline : (apos.endLine == pos.line) = true := by rfl) (hss : starEach [e] X.env = (false, eval e X.env) :: starEach [] X.env := by rfl) : RE X W (.Call (.Attribute o "join" apos) [e] [] pos) (mMtS dJoin mo m) :=
  re_mts PySem.F.slot_str_join PySem.F.type_str_join mt_join ms_join ho ha hbase hfew hline hss rfl
theorem rs_setLc (i : Nat) {y : Str} {py : Pos} {elt tg iter : Expr} {ifs : List Expr} {scope : Scope} {own : List (Str × Nat)} {pos spos : Pos} {mi : M (List D)} {g : MG} {S : List Nat} {t : M Bool} {e : M D} (hc : X.calm = true) (hN : X.N.Nodup)
    (hi : RI X W tg iter mi) (ok : BlkOk X.N X.env.scope scope own)
    (hg : ∀ (s : Shared) (H : Hp) (C : Addr) (cl : List (Str × Addr)) (fp : List Addr), RG (X.blk s H scope (compEnvC scope cl C X.env) fp) tg S g) (ht : ∀ (s : Shared) (H : Hp) (C : Addr) (cl : List (Str × Addr)) (fp : List Addr), RTs (X.blk s H scope (compEnvC scope cl C X.env) fp) W0 ifs t)
    (he : ∀ (s : Shared) (H : Hp) (C : Addr) (cl : List (Str × Addr)) (fp : List Addr), RE (X.blk s H scope (compEnvC scope cl C X.env) fp) W0 elt e) (hS : ∀ i ∈ S, i ∈ own.map (·.2) := by decide) (hy : X.N[i]? = some y := by rfl) (hyl : X.env.scope.names.lookup y = some .local := by rfl)
    (hsw : swapsWith (.ListComp elt [⟨tg, iter, ifs, 0⟩] scope pos) (some (.Name y py)) spos.line X.env = pure true := by exact sw_true rfl rfl rfl (by decide +kernel)) (hs : ∀ x, foldedSetIterable iter X.env x = pure x := by intro _; rfl) :
    RSt X W (.Assign [.Name y py] (.ListComp elt [⟨tg, iter, ifs, 0⟩] scope pos) spos) (msAsg (mLc (own.map (·.2)) mi g t e) (mgName i)) := by
  refine ps_imp (ps_setLc (g := tG X.K X.mg S g) (tt := tT X.K X.mg W0 t) (te := tE X.K X.mg W0 e) hc hN hy hyl hsw hi ok hg ht he hs) fun D σ H h => ?_
  obtain ⟨c, ε, h, r, h', hK, hm, rfl, sr, er, e, fin⟩ := h
  unfold tAsg
  refine lc_of hS ?_
  refine tX.stm hK hm sr er e fin fun d h1 c1 v e1 l1 s1 r1 => ?_
  cases e1
  exact fin c1 _ l1 s1 ((er.le l1).set r1 i)
end
section
variable {P : Program} {w : World} {K : PySem.W.Frag} {mg : Str → Option Value} {base : Heap} {N : List Str} {qual : Str} {scope : Scope} {f : Addr} {cdv : Value} {A : Around} {outer : List Env} {s : Shared} {H : Hp} {E : XK}
theorem tkOf : Takes (cxOf (L2.CX P w) P w K mg base N qual scope f cdv A outer s H E) (fun cls d _ H' => E cls d H') := takes_of rfl rfl rfl rfl
theorem poOf : PassesOwn (model P w) (A.deeper (envOfC qual scope s.heap.objs.size f cdv)) (envOfC qual scope s.heap.objs.size f cdv) (cxOf (L2.CX P w) P w K mg base N qual scope f cdv A outer s H E).xe := PassesOwn.leaving
end
end PD
namespace PD
open PySem PySem.Spec PyProof.Rows L2
variable [LamTab]
theorem ba2 {a b : Bool} (h : (a && b) = true) : a = true ∧ b = true := by simpa using h
mutual
theorem dB_ok {K : PySem.W.Frag} : ∀ {d : D} {u : Value}, dB K d u = true → ∃ v, RelV v u ∧ ∀ c : RC, c.K = K → Rep c d v
  | .non, u, h => by
    cases u <;> first | (rw [dB] at h <;> first | cases h | (intros; simp at *)) | skip
    exact ⟨.non, rfl, fun c _ => .non⟩
  | .bl b, u, h => by
    cases u with
    | bool c =>
      rw [dB] at h
      have e : b = c := by simpa using h
      subst e
      exact ⟨.bl b, rfl, fun c _ => .bl b⟩
    | _ => simp [dB] at h
  | .int i, u, h => by
    cases u with
    | int j t =>
      rw [dB] at h
      have e : i = j := of_decide_eq_true h
      subst e
      exact ⟨.int i, ⟨t, rfl⟩, fun c _ => .int i⟩
    | _ => simp [dB] at h
  | .str cs, u, h => by
    cases u with
    | str y t =>
      rw [dB] at h
      have e : y.cps.toList = cs := of_decide_eq_true h
      subst e
      exact ⟨.str y, ⟨t, rfl⟩, fun c _ => .str _⟩
    | _ => simp [dB] at h
  | .tup ds, u, h => by
    cases u with
    | ref a =>
      rw [dB] at h
      cases q : K.lookup a with
      | none => rw [q] at h; cases h
      | some o =>
        obtain ⟨oc, od, dt, osl⟩ := o
        rw [q] at h
        cases oc with
        | type c =>
          cases dt with
          | seq its n =>
            obtain ⟨h1, h2⟩ := ba2 (show (decide (c = "tuple") && (decide (its.size ≤ sizeLine) && dBs K ds its.toList)) = true from h)
            obtain ⟨h3, h4⟩ := ba2 h2
            obtain ⟨vs, r, rp⟩ := dBs_ok h4
            refine ⟨.ref a, rfl, fun c0 hK => .tup (.inr ⟨_, its, n, by rw [hK]; exact q, congrArg Value.type (of_decide_eq_true h1), rfl, of_decide_eq_true h3, r⟩) (rp c0 hK)⟩
          | _ => cases h
        | _ => cases dt <;> cases h
    | _ => simp [dB] at h
  | .scr ds, u, h => by
    cases u with
    | ref a =>
      rw [dB] at h
      cases q : K.lookup a with
      | none => rw [q] at h; cases h
      | some o =>
        obtain ⟨oc, od, dt, osl⟩ := o
        rw [q] at h
        cases oc with
        | type c =>
          cases od with
          | none =>
            cases dt with
            | seq its n =>
              obtain ⟨h1, h2⟩ := ba2 (show (decide (c = "list") && (decide (its.size ≤ sizeLine) && dBs K ds its.toList)) = true from h)
              obtain ⟨h3, h4⟩ := ba2 h2
              obtain ⟨vs, r, rp⟩ := dBs_ok h4
              refine ⟨.ref a, rfl, fun c0 hK => .scr (.inr ⟨_, its, n, by rw [hK]; exact q, congrArg Value.type (of_decide_eq_true h1), rfl, rfl, of_decide_eq_true h3, r⟩) (rp c0 hK)⟩
            | _ => cases h
          | some x => cases dt <;> cases h
        | _ => cases od <;> cases dt <;> cases h
    | _ => simp [dB] at h
  | .lst _, u, h => by simp [dB] at h
  | .dic _ _, u, h => by simp [dB] at h
  | .obj _ _, u, h => by simp [dB] at h
  | .ref _, u, h => by simp [dB] at h
theorem dBs_ok {K : PySem.W.Frag} : ∀ {ds : List D} {us : List Value}, dBs K ds us = true → ∃ vs, Vals vs us ∧ ∀ c : RC, c.K = K → Reps c ds vs
  | [], us, h => by
    cases us with
    | nil => exact ⟨[], .nil, fun _ _ => .nil⟩
    | cons _ _ => simp [dBs] at h
  | d :: ds, us, h => by
    cases us with
    | nil => simp [dBs] at h
    | cons u us =>
      rw [dBs] at h
      obtain ⟨h1, h2⟩ := ba2 h
      obtain ⟨v, r, rp⟩ := dB_ok h1
      obtain ⟨vs, rs, rps⟩ := dBs_ok h2
      exact ⟨v :: vs, .cons r rs, fun c hK => .cons (rp c hK) (rps c hK)⟩
end
theorem globC_of {K : PySem.W.Frag} {h : Heap} {mg : Str → Option Value} (X : K.In h) (G : h.Ns mainGlobals mg) {x : Str} {d : D} (c : gloB K x d = true) : GlobC K mg x d := by
  unfold gloB at c
  cases q : PySem.W.nsIn K mainGlobals x with
  | none => rw [q] at c; cases c
  | some u =>
    cases u with
    | none => rw [q] at c; cases c
    | some u =>
      rw [q] at c
      obtain ⟨v, r, rp⟩ := dB_ok c
      exact ⟨u, v, PySem.W.mg_of X G q, r, fun c hK _ => rp c hK⟩
theorem SaysG.d {fa : List He.Fa} {fn : List He.DefD} {gs : List (Str × D)} {K : PySem.W.Frag} (c : SaysG fa fn gs K) : He.SaysD fa fn K := congrArg (fun z : AlG => z.1) c
theorem SaysG.glob {fa : List He.Fa} {fn : List He.DefD} {gs : List (Str × D)} {K : PySem.W.Frag} (c : SaysG fa fn gs K) {p : Str × D} (hp : p ∈ gs) : gloB K p.1 p.2 = true :=
  List.all_eq_true.mp (congrArg (fun z : AlG => z.2) c : (gs.all fun p => gloB K p.1 p.2) = true) p hp
theorem SaysD.facts' {fa : List He.Fa} {fn : List He.DefD} {K : PySem.W.Frag} (c : He.SaysD fa fn K) {f : He.Fa} (h : f ∈ fa) : f.ok K = true := by
  obtain ⟨i, hi, e⟩ := List.mem_iff_getElem.mp h
  exact c.fact i (f := f) (by rw [List.getElem?_eq_getElem hi, e])
theorem SaysD.def' {fa : List He.Fa} {fn : List He.DefD} {K : PySem.W.Frag} (c : He.SaysD fa fn K) {d : He.DefD} (h : d ∈ fn) : ∃ fd, FunD K d.name d.qual d.params d.body d.scope (d.dvs K) (d.kws K) (He.fAd K d.at_) fd := by
  obtain ⟨i, hi, e⟩ := List.mem_iff_getElem.mp h
  exact c.def_ i (d := d) (by rw [List.getElem?_eq_getElem hi, e])
section
variable {P : Program} {w : World} {K : PySem.W.Frag} {mg : Str → Option Value} {base : Heap}
theorem fnOk0 {k n : Nat} {f : Addr} {fd : FuncData} {ps : List Str} : FnOk P w K mg base (L2.CX P w) k f fd ps (SpP K mg n fun _ => none) :=
  ⟨fun vs H Q E h => (by obtain ⟨_, _, _, _, _, _, _, _, _, _, e, _⟩ := h; cases e), fun A outer s H args us vs Q E _ _ _ _ h => (by obtain ⟨_, _, _, _, _, _, _, _, _, _, e, _⟩ := h; cases e)⟩
theorem FunD.kbnP {x qual : Str} {params : Arguments} {body : List Stmt} {scope : Scope} {f : Addr} {fd : FuncData} {ps ks : List Str} {p : List Nat} (F : FunD K x qual params body scope [] [] f fd)
    (h : ∀ (kV doc pm : Value) (an : Option Addr) (cdv ct : Value) (ws : List Value), ws.length = ks.length → bindArgs (PySem.W.fnOf x qual params body scope .none kV doc pm an cdv ct) ⟨[], ks.zip ws⟩ = pure (ps.zip (permL p ws))) :
    KBn K fd ps 0 ks (fun _ ws => permL p ws) (fun _ zs => permL p zs) := by
  obtain ⟨oc, od, dV, kV, doc, pm, an, cdv, ct, osl, rfl, lk, hcd, hD, hK⟩ := F.ex
  rcases hD with ⟨_, rfl⟩ | ⟨e, _⟩
  · refine ⟨fun s us ws _ hu hw => ?_, fun _ r => permL_vals r⟩
    cases us with
    | nil => exact .of_eq (h kV doc pm an cdv ct ws hw)
    | cons _ _ => cases hu
  · exact absurd rfl e
theorem FnP.mono {x : Str} {j k n : Nat} {F : PF} (h : FnP P w K mg base x j n F) (l : j ≤ k) : FnP P w K mg base x k n F := by
  obtain ⟨f, fd, ps, a, b, c, d, e⟩ := h.ex
  exact ⟨⟨f, fd, ps, a, b, c, d, e.mono l⟩⟩
end
end PD
namespace PD
open PySem PySem.Spec PyProof.Rows L2
variable [LamTab]
theorem reps_ints {c : RC} : ∀ ns : List Int, Reps c (ns.map D.int) (ns.map V.int)
  | [] => .nil
  | n :: ns => .cons (.int n) (reps_ints ns)
end PD
namespace PD
open PySem PySem.Spec PyProof.Rows L2
variable [LamTab]
def s1 (f : List Nat → Option D) (ds : List D) : Option D := match ds with
  | [.str s] => f s
  | _ => none
end PD
namespace PD
open PySem PySem.Spec PyProof.Rows L2
variable [LamTab]
def insD (h : EH) (d : D) : Option (Str × List (Str × D)) := match d with
  | .obj C fs => some (C, fs)
  | .ref n => (match h[n]? with
    | some (.obj C fs) => some (C, fs)
    | _ => none)
  | _ => none
/-- what one has of a class whose fields fs are read or written -/
def ClsF (K : PySem.W.Frag) (mg : Str → Option Value) (C f : Str) : Prop := ∃ Ca, mg C = some (.ref Ca) ∧ Cls K Ca ∧ NoAttr K Ca f
def ClsFs (K : PySem.W.Frag) (mg : Str → Option Value) (Cs : List Str) (f : Str) : Prop := ∀ C ∈ Cs, ClsF K mg C f
theorem ClsFs.nil {K : PySem.W.Frag} {mg : Str → Option Value} {f : Str} : ClsFs K mg [] f := fun _ h => nomatch h
theorem ClsFs.cons {K : PySem.W.Frag} {mg : Str → Option Value} {C f : Str} {Cs : List Str} (h : ClsF K mg C f) (t : ClsFs K mg Cs f) : ClsFs K mg (C :: Cs) f := fun D hD => by
  rcases List.mem_cons.mp hD with e | e
  · rw [e]; exact h
  · exact t D e
theorem ClsFs.at {K : PySem.W.Frag} {mg : Str → Option Value} {C f : Str} {Cs : List Str} {Ca : Addr} (h : ClsFs K mg Cs f) (hC : C ∈ Cs) (hm : mg C = some (.ref Ca)) : Cls K Ca ∧ NoAttr K Ca f := by
  obtain ⟨Cb, h1, h2, h3⟩ := h C hC
  rw [hm] at h1
  cases h1
  exact ⟨h2, h3⟩
/-- o.f -/
def dFld (Cs : List Str) (f : Str) (h : EH) (d : D) : Option D := match insD h d with
  | some (C, fs) => if C ∈ Cs then fs.lookup f else none
  | none => none
def mFld (Cs : List Str) (f : Str) (a : M D) : M D := fun ε h => bR (a ε h) fun x h1 => rt (dFld Cs f h1 x) h1
section
variable {X : Cx} {W : WX}
def putO (Cs : List Str) (f : Str) (h : EH) (x y : D) : Option EH := match x with
  | .ref n => (match h[n]? with
    | some (.obj C fs) => if C ∈ Cs ∧ fs.length < 1000 then some (h.set n (.obj C (putD f y fs))) else none
    | _ => none)
  | _ => none
def msFld (Cs : List Str) (f : Str) (o v : M D) : MS := fun ε h => bS (v ε h) ε fun y h1 => bS (o ε h1) ε fun x h2 => (putO Cs f h2 x y).map fun h3 => (.nx ε, h3)
end
structure MetI (P : Program) (w : World) (K : PySem.W.Frag) (mg : Str → Option Value) (base : Heap) (C m : Str) (k n : Nat) (F : IF) : Prop where
  ex : ∃ (Ca f : Addr) (fd : FuncData) (ps : List Str), mg C = some (.ref Ca) ∧ Cls K Ca ∧ Meth K Ca m f ∧ Binds K fd ps [] ∧ ps.length = n ∧ FnOk P w K mg base (L2.CX P w) k f fd ps (SpI K mg n F)
structure MetP (P : Program) (w : World) (K : PySem.W.Frag) (mg : Str → Option Value) (base : Heap) (C m : Str) (k n : Nat) (F : PF) : Prop where
  ex : ∃ (Ca f : Addr) (fd : FuncData) (ps : List Str), mg C = some (.ref Ca) ∧ Cls K Ca ∧ Meth K Ca m f ∧ Binds K fd ps [] ∧ ps.length = n ∧ FnOk P w K mg base (L2.CX P w) k f fd ps (SpP K mg n F)
/-- the wish does not look at the slots -/
def Flat (W : WX) : Prop := ∀ cls d σ σ' H, W cls d σ H → W cls d σ' H
theorem flatE {E : XK} : Flat fun cls d _ H' => E cls d H' := fun _ _ _ _ _ h => h
abbrev EW (W : WX) : XK := fun cls d H => W cls d [] H
theorem passE {X : Cx} {W : WX} (tk : Takes X W) (fl : Flat W) : Passes (L2.CX X.prog X.w) X (EW W) := fun pins σ H s e s' I c => by
  obtain ⟨a, B, H', cls, d, h1, h2, h3, h4, h5, h6, h7, h8⟩ := c
  exact passAt tk σ pins H s e s' I ⟨a, B, H', cls, d, h1, h2, h3, h4, h5, h6, h7, fl _ _ _ _ _ h8⟩
def mMeI (C m : Str) (F : IF) (o : M D) (a : M (List D)) : M D := fun ε h => bR (o ε h) fun x h1 => match insD h1 x with
  | some (C', fs) => if C' = C ∧ fs.lookup m = none then bR (a ε h1) fun ds h2 => F (x :: ds) h2 else none
  | none => none
def mMeP (C m : Str) (F : PF) (o : M D) (a : M (List D)) : M D := fun ε h => bR (o ε h) fun x h1 => match insD h1 x with
  | some (C', fs) => if C' = C ∧ fs.lookup m = none then bR (a ε h1) fun ds h2 => if noRef.go (x :: ds) = true then (F (x :: ds)).map fun r => (r, h2) else none else none
  | none => none
end PD
namespace PD
open PySem PySem.Spec PyProof.Rows L2
variable [LamTab]
/-- .. the object as a value, never written again -/
def mMkP (C : Str) (dd : List D) (F : IF) (a : M (List D)) : M D := fun ε h => bR (a ε h) fun ds h1 => match F (.ref h1.length :: (ds ++ dd)) (h1 ++ [.obj C []]) with
  | some (.ok .non, h2) => (match frzI h1.length h2 (.ref h1.length), trim h1.length h2 with
    | some d, some h3 => some (.ok d, h3)
    | _, _ => none)
  | some (.ex e, h2) => if noRef.gf e.fs = true then (trim h1.length h2).map fun h3 => (.ex e, h3) else none
  | _ => none
end PD
namespace PD
open PySem PySem.Spec PyProof.Rows L2
variable [LamTab]
section
variable {X : Cx} {W : WX}
def mStar (a : M D) (b : M (List D)) : M (List D) := fun ε h => bR (a ε h) fun x h1 => match asS h1 x with
  | some xs => bR (b ε h1) fun ys h2 => some (.ok (xs ++ ys), h2)
  | none => none
theorem ra_star {e : Expr} {p : Pos} {es : List Expr} {me : M D} {m : M (List D)} (he : RE X W e me) (hr : RA X W es m) (hs : starEach (.Starred e p :: es) X.env = (true, eval e X.env) :: starEach es X.env := by rfl) : RA X W (.Starred e p :: es) (mStar me m) := by
  refine pa_imp (StX.pa_star he hr hs) fun σ H Q h => ?_
  obtain ⟨c, ε, h, r', h', hK, hm, rfl, sr, er, e, px, go⟩ := h
  unfold StX.tStar
  refine tX.bind hK hm sr er e px fun x h1 c1 v e1 l1 s1 r1 => ?_
  cases q : asS h1 x with
  | none => rw [q] at e1; cases e1
  | some ds =>
    rw [q] at e1
    obtain ⟨a, xs, rfl, hx, rx⟩ := asS_ok s1 r1 q
    have hx' : SqT X.K c1.H a xs ∨ SqL X.K c1.H a xs := by
      rw [← hK, ← l1.K]
      exact hx.symm
    refine ⟨a, xs, rfl, hx', ?_⟩
    refine tX.bind (l1.K.trans hK) (l1.mg.trans hm) s1 (er.le l1) e1 (px.le l1) fun ys h2 c2 zs e2 l2 s2 r2 => ?_
    cases e2
    exact go _ rfl c2 _ (l1.trans l2) s2 ((rx.le l2).append r2)
def addI (x y : D) : Option D := match x, y with
  | .int i, .int j => some (.int (i + j))
  | _, _ => none
def msFAug (Cs : List Str) (f : Str) (o v : M D) : MS := fun ε h => bS (o ε h) ε fun x h1 => match dFld Cs f h1 x with
  | some z => bS (v ε h1) ε fun y h2 => (match addI z y with
    | some w => if (insD h1 x).map (·.1) = (insD h2 x).map (·.1) then (putO Cs f h2 x w).map fun h3 => (.nx ε, h3) else none
    | none => none)
  | none => none
end
end PD
namespace PD
open PySem PySem.Spec PyProof.Rows L2
variable [LamTab]
mutual
theorem Rep.moreG {c : RC} {p : Addr} {o : HO} (hp : c.H p = none) : ∀ {d : D} {v : V}, Rep c d v → Rep { c with B := fun a => c.B a ∨ a = p, H := upd c.H p o } d v
  | _, _, .non => .non
  | _, _, .bl b => .bl b
  | _, _, .int i => .int i
  | _, _, .str cs => .str cs
  | _, _, .tup (a := a) (xs := ys) h r => .tup (by
      rcases h with (h | ⟨u, h⟩) | h
      · exact .inl (.inl ((upd_ne (show a ≠ p from fun z => by rw [z, hp] at h; cases h)).trans h))
      · exact .inl (.inr ⟨u, (upd_ne (show a ≠ p from fun z => by rw [z, hp] at h; cases h)).trans h⟩)
      · exact .inr h) (Reps.moreG hp r)
  | _, _, .lst (a := a) h f r => by
      have ne : a ≠ p := fun z => by rw [z, hp] at h; cases h
      exact .lst ((upd_ne ne).trans h) ⟨fun z => z.elim f.1 ne, f.2⟩ (Reps.moreG hp r)
  | _, _, .scr (a := a) h r => .scr (by
      rcases h with ⟨u, h⟩ | h
      · exact .inl ⟨u, (upd_ne (show a ≠ p from fun z => by rw [z, hp] at h; cases h)).trans h⟩
      · exact .inr h) (Reps.moreG hp r)
  | _, _, .obj (a := a) m h f r => by
      have ne : a ≠ p := fun z => by rw [z, hp] at h; cases h
      exact .obj m ((upd_ne ne).trans h) ⟨fun z => z.elim f.1 ne, f.2⟩ (RepF.moreG hp r)
  | _, _, .dic (a := a) h i f r => by
      have ne : a ≠ p := fun z => by rw [z, hp] at h; cases h
      exact .dic ((upd_ne ne).trans h) i ⟨fun z => z.elim f.1 ne, f.2⟩ (RepP.moreG hp r)
  | _, _, .fn h f h2 f2 cr r => by
      have ne : ∀ {a : Addr} {o : HO}, c.H a = some o → a ≠ p := fun e z => by rw [z, hp] at e; cases e
      exact .fn ((upd_ne (ne h)).trans h) ⟨fun z => z.elim f.1 (ne h), f.2⟩ ((upd_ne (ne h2)).trans h2) ⟨fun z => z.elim f2.1 (ne h2), f2.2⟩ (cr.imp fun b o hb fb => ⟨(upd_ne (ne hb)).trans hb, fun z => z.elim fb.1 (ne hb), fb.2⟩) (Reps.moreG hp r)
  | _, _, .exc m h f h2 f2 r => by
      have ne : ∀ {a : Addr} {o : HO}, c.H a = some o → a ≠ p := fun e z => by rw [z, hp] at e; cases e
      exact .exc m ((upd_ne (ne h)).trans h) ⟨fun z => z.elim f.1 (ne h), f.2⟩ ((upd_ne (ne h2)).trans h2) ⟨fun z => z.elim f2.1 (ne h2), f2.2⟩ (RepF.moreG hp r)
  | _, _, .ref h => .ref h
theorem Reps.moreG {c : RC} {p : Addr} {o : HO} (hp : c.H p = none) : ∀ {ds : List D} {vs : List V}, Reps c ds vs → Reps { c with B := fun a => c.B a ∨ a = p, H := upd c.H p o } ds vs
  | _, _, .nil => .nil
  | _, _, .cons h t => .cons (Rep.moreG hp h) (Reps.moreG hp t)
theorem RepP.moreG {c : RC} {p : Addr} {o : HO} (hp : c.H p = none) : ∀ {ds : List (List Key × D)} {vs : List (List Key × V)}, RepP c ds vs → RepP { c with B := fun a => c.B a ∨ a = p, H := upd c.H p o } ds vs
  | _, _, .nil => .nil
  | _, _, .cons h t => .cons (Rep.moreG hp h) (RepP.moreG hp t)
theorem RepF.moreG {c : RC} {p : Addr} {o : HO} (hp : c.H p = none) : ∀ {ds : List (Str × D)} {vs : List (Str × V)}, RepF c ds vs → RepF { c with B := fun a => c.B a ∨ a = p, H := upd c.H p o } ds vs
  | _, _, .nil => .nil
  | _, _, .cons h t => .cons (Rep.moreG hp h) (RepF.moreG hp t)
end
/-- the start -/
theorem Over.startG {c : RC} {h : EH} {p : Addr} {o : HO} (s : SR c h) (hp : c.H p = none) : Over c { c with B := fun a => c.B a ∨ a = p, H := upd c.H p o } p ∧ SR { c with B := fun a => c.B a ∨ a = p, H := upd c.H p o } h := by
  have np : p ∉ c.ρ := fun z => by
    obtain ⟨ob', e⟩ := s.ex z
    rw [hp] at e; cases e
  have ne : ∀ a ob, c.H a = some ob → a ≠ p := fun a o e z => by rw [z, hp] at e; cases e
  refine ⟨⟨⟨rfl, ⟨rfl, tabs_upd (noTab_none hp)⟩, fun _ h => .inl h, fun a h => h.imp id fun z => by rw [z]; exact hp, fun a u e => ⟨u, (upd_ne (ne a u e)).trans e⟩, fun _ _ h => h, fun a u e _ n => ⟨(upd_ne (ne a u e)).trans e, n⟩, fun a ys e => ?_, fun a ob u e => (upd_ne (ne a _ e)).trans e⟩, .inr rfl, hp, s.bt⟩, ⟨s.len, s.nd, fun n a k e1 e2 => ?_, fun a ha z => z.elim (s.nb a ha) fun z => np (z ▸ ha), fun a hb => ?_⟩⟩
  · rcases e with e | ⟨u, e⟩
    · exact .inl ((upd_ne (ne a _ e)).trans e)
    · exact .inr ⟨u, (upd_ne (ne a _ e)).trans e⟩
  · have r := s.cells n a k e1 e2
    cases k with
    | lst ds => obtain ⟨ys, h1, h2⟩ := r; exact ⟨ys, (upd_ne (ne a _ h1)).trans h1, h2.moreG hp⟩
    | dic t kvs => obtain ⟨ob, zs, h1, h3, h2⟩ := r; exact ⟨ob, zs, (upd_ne (ne a _ h1)).trans h1, h3, h2.moreG hp⟩
    | obj C fs => obtain ⟨Ca, dx, vs, h0, h1, h2⟩ := r; exact ⟨Ca, dx, vs, h0, (upd_ne (ne a _ h1)).trans h1, h2.moreG hp⟩
  · rcases hb with hb | rfl
    · obtain ⟨u, e⟩ := s.bt a hb
      exact ⟨u, (upd_ne (ne a u e)).trans e⟩
    · exact ⟨_, upd_same⟩
mutual
theorem Rep.putBG {c : RC} {p : Addr} {o o' : HO} (hB : c.B p) (hp : c.H p = some o) (g1 : ∀ xs, o ≠ .tup xs) (g2 : ∀ a b, o ≠ .frz a b) : ∀ {d : D} {v : V}, Rep c d v → Rep (c.put p o') d v
  | _, _, .non => .non
  | _, _, .bl b => .bl b
  | _, _, .int i => .int i
  | _, _, .str cs => .str cs
  | _, _, .tup (a := a) h r => .tup (by
      rcases h with (h | ⟨u, h⟩) | h
      · exact .inl (.inl ((upd_ne (show a ≠ p from fun z => by rw [z, hp] at h; exact g1 _ (Option.some.inj h))).trans h))
      · exact .inl (.inr ⟨u, (upd_ne (show a ≠ p from fun z => by rw [z, hp] at h; exact g2 _ _ (Option.some.inj h))).trans h⟩)
      · exact .inr h) (Reps.putBG hB hp g1 g2 r)
  | _, _, .lst (a := a) h f r => by
      have ne : a ≠ p := fun z => f.1 (z ▸ hB)
      exact .lst ((upd_ne ne).trans h) f (Reps.putBG hB hp g1 g2 r)
  | _, _, .scr (a := a) h r => .scr (by
      rcases h with ⟨u, h⟩ | h
      · exact .inl ⟨u, (upd_ne (show a ≠ p from fun z => by rw [z, hp] at h; exact g2 _ _ (Option.some.inj h))).trans h⟩
      · exact .inr h) (Reps.putBG hB hp g1 g2 r)
  | _, _, .obj (a := a) m h f r => by
      have ne : a ≠ p := fun z => f.1 (z ▸ hB)
      exact .obj m ((upd_ne ne).trans h) f (RepF.putBG hB hp g1 g2 r)
  | _, _, .dic (a := a) h i f r => by
      have ne : a ≠ p := fun z => f.1 (z ▸ hB)
      exact .dic ((upd_ne ne).trans h) i f (RepP.putBG hB hp g1 g2 r)
  | _, _, .fn h f h2 f2 cr r => by
      have ne : ∀ {a : Addr}, c.fr a → a ≠ p := fun f z => f.1 (z ▸ hB)
      exact .fn ((upd_ne (ne f)).trans h) f ((upd_ne (ne f2)).trans h2) f2 (cr.imp fun b o hb fb => ⟨(upd_ne (ne fb)).trans hb, fb⟩) (Reps.putBG hB hp g1 g2 r)
  | _, _, .exc m h f h2 f2 r => by
      have ne : ∀ {a : Addr}, c.fr a → a ≠ p := fun f z => f.1 (z ▸ hB)
      exact .exc m ((upd_ne (ne f)).trans h) f ((upd_ne (ne f2)).trans h2) f2 (RepF.putBG hB hp g1 g2 r)
  | _, _, .ref h => .ref h
theorem Reps.putBG {c : RC} {p : Addr} {o o' : HO} (hB : c.B p) (hp : c.H p = some o) (g1 : ∀ xs, o ≠ .tup xs) (g2 : ∀ a b, o ≠ .frz a b) : ∀ {ds : List D} {vs : List V}, Reps c ds vs → Reps (c.put p o') ds vs
  | _, _, .nil => .nil
  | _, _, .cons h t => .cons (Rep.putBG hB hp g1 g2 h) (Reps.putBG hB hp g1 g2 t)
theorem RepP.putBG {c : RC} {p : Addr} {o o' : HO} (hB : c.B p) (hp : c.H p = some o) (g1 : ∀ xs, o ≠ .tup xs) (g2 : ∀ a b, o ≠ .frz a b) : ∀ {ds : List (List Key × D)} {vs : List (List Key × V)}, RepP c ds vs → RepP (c.put p o') ds vs
  | _, _, .nil => .nil
  | _, _, .cons h t => .cons (Rep.putBG hB hp g1 g2 h) (RepP.putBG hB hp g1 g2 t)
theorem RepF.putBG {c : RC} {p : Addr} {o o' : HO} (hB : c.B p) (hp : c.H p = some o) (g1 : ∀ xs, o ≠ .tup xs) (g2 : ∀ a b, o ≠ .frz a b) : ∀ {ds : List (Str × D)} {vs : List (Str × V)}, RepF c ds vs → RepF (c.put p o') ds vs
  | _, _, .nil => .nil
  | _, _, .cons h t => .cons (Rep.putBG hB hp g1 g2 h) (RepF.putBG hB hp g1 g2 t)
end
theorem Over.putBG {c c' : RC} {h : EH} {p : Addr} {b b' : HO} (o : Over c c' p) (s : SR c' h) (hp : c'.H p = some b) (g1 : ∀ xs, b ≠ .tup xs) (g2 : ∀ x y, b ≠ .frz x y) (g3 : NoTab c'.H p := by exact noTab_of (by assumption) (fun _ z => by cases z) (fun _ z => by cases z)) : Over c (c'.put p b') p ∧ SR (c'.put p b') h := by
  have hB : c'.B p := o.Bp
  refine ⟨⟨⟨o.le.K, ⟨o.le.mg.e, fun t => tabs_upd (ρ := c'.ρ) (B := c'.B) g3 (o.le.mg.t t)⟩, o.le.B, o.le.Bn, fun a u e => ?_, o.le.pre, fun a u e t n => ?_, fun a zs e => ?_, fun a u w e => (upd_ne (show a ≠ p from o.ne e)).trans (o.le.frz a u w e)⟩, o.Bp, o.new, o.bt⟩, ⟨s.len, s.nd, fun n a k e1 e2 => ?_, s.nb, fun a hb => ?_⟩⟩
  · obtain ⟨u', h1⟩ := o.le.dom a u e
    exact ⟨u', (upd_ne (o.ne e)).trans h1⟩
  · obtain ⟨h1, n1⟩ := o.le.keep a u e t n
    exact ⟨(upd_ne (o.ne e)).trans h1, n1⟩
  · rcases o.le.tup a zs e with e' | ⟨u, e'⟩
    · exact .inl ((upd_ne (show a ≠ p from fun z => by rw [z, hp] at e'; exact g1 _ (Option.some.inj e'))).trans e')
    · exact .inr ⟨u, (upd_ne (show a ≠ p from fun z => by rw [z, hp] at e'; exact g2 _ _ (Option.some.inj e'))).trans e'⟩
  · have r := s.cells n a k e1 e2
    have ne : a ≠ p := fun z => s.nb a (List.mem_of_getElem? e1) (z ▸ hB)
    cases k with
    | lst ds => obtain ⟨zs, h1, h2⟩ := r; exact ⟨zs, (upd_ne ne).trans h1, h2.putBG hB hp g1 g2⟩
    | dic t kvs => obtain ⟨ob, zs, h1, h3, h2⟩ := r; exact ⟨ob, zs, (upd_ne ne).trans h1, h3, h2.putBG hB hp g1 g2⟩
    | obj C fs => obtain ⟨Ca, dx, vs, h0, h1, h2⟩ := r; exact ⟨Ca, dx, vs, h0, (upd_ne ne).trans h1, h2.putBG hB hp g1 g2⟩
  · by_cases e : a = p
    · exact ⟨_, by rw [e]; exact upd_same⟩
    · obtain ⟨u, q⟩ := s.bt a hb
      exact ⟨u, (upd_ne e).trans q⟩
theorem EnvR.putBG {c : RC} {p : Addr} {o o' : HO} (hB : c.B p) (hp : c.H p = some o) (g1 : ∀ xs, o ≠ .tup xs) (g2 : ∀ a b, o ≠ .frz a b) {ε : Ev} {σ : L2.St} (r : EnvR c ε σ) : EnvR (c.put p o') ε σ := ⟨r.len, fun i d e => let ⟨v, h1, h2⟩ := r.at_ i d e; ⟨v, h1, h2.putBG hB hp g1 g2⟩⟩
theorem EnvR.moreG {c : RC} {p : Addr} {o : HO} (hp : c.H p = none) {ε : Ev} {σ : L2.St} (r : EnvR c ε σ) : EnvR { c with B := fun a => c.B a ∨ a = p, H := upd c.H p o } ε σ := ⟨r.len, fun i d e => let ⟨v, h1, h2⟩ := r.at_ i d e; ⟨v, h1, h2.moreG hp⟩⟩
def keyD (d : D) : Option Key := match d with
  | .int i => some (.inl i)
  | .str z => some (.inr (toS z))
  | _ => none
theorem keyD_ok {c : RC} {d : D} {v : V} {k : Key} (r : Rep c d v) (e : keyD d = some k) : v = kV k := by
  cases r with
  | int i => cases e; rfl
  | str z => cases e; rfl
  | _ => cases e
def lkK (k : List Key) : List (List Key × D) → Option D
  | [] => none
  | p :: r => if p.1 = k then some p.2 else lkK k r
theorem lookP {c : RC} {k : List Key} : ∀ {kvs : List (List Key × D)} {zs : List (List Key × V)}, RepP c kvs zs → ∀ {d : D}, lkK k kvs = some d → ∃ v, valV zs k = some v ∧ Rep c d v
  | _, _, .nil, d, e => by cases e
  | _, _, .cons (f := g) h t, d, e => by
    unfold lkK at e
    dsimp only at e
    by_cases q : g = k
    · rw [if_pos q] at e
      cases e
      exact ⟨_, valV_pos q, h⟩
    · rw [if_neg q] at e
      rw [valV_neg q]
      exact lookP t e
theorem lookPN {c : RC} {k : List Key} : ∀ {kvs : List (List Key × D)} {zs : List (List Key × V)}, RepP c kvs zs → lkK k kvs = none → valV zs k = none
  | _, _, .nil, e => valV_nil
  | _, _, .cons (f := g) h t, e => by
    unfold lkK at e
    dsimp only at e
    by_cases q : g = k
    · rw [if_pos q] at e; cases e
    · rw [if_neg q] at e
      rw [valV_neg q]
      exact lookPN t e
theorem valV_one (k : Key) : ∀ zs : List (Key × V), valV (zs.map fun p => ([p.1], p.2)) [k] = valV zs k
  | [] => by rw [List.map_nil, valV_nil, valV_nil]
  | p :: zs => by
    rw [List.map_cons]
    by_cases q : p.1 = k
    · rw [valV_pos q, valV_pos (p := ([p.1], p.2)) (by rw [q])]
    · rw [valV_neg q, valV_neg (p := ([p.1], p.2)) (by simpa using q), valV_one k zs]
end PD
namespace PD
open PySem PySem.Spec PyProof.Rows L2
variable [LamTab]
/-- a dict whose keys are ints and texts -/
def asDic (h : EH) (d : D) : Option (List (List Key × D)) := match d with
  | .dic false kvs => some kvs
  | .ref n => (match h[n]? with
    | some (.dic false kvs) => some kvs
    | _ => none)
  | _ => none
theorem asDic_ok {c : RC} {h : EH} {d : D} {v : V} {kvs : List (List Key × D)} (s : SR c h) (r : Rep c d v) (e : asDic h d = some kvs) : ∃ (a : Addr) (ys : List (Key × V)), v = .ref a ∧ c.H a = some (.dK ys) ∧ RepP c kvs (ys.map fun p => ([p.1], p.2)) := by
  have fin : ∀ {a : Addr} {o : HO} {zs : List (List Key × V)}, v = .ref a → c.H a = some o → isDic false o zs → RepP c kvs zs → ∃ (a : Addr) (ys : List (Key × V)), v = .ref a ∧ c.H a = some (.dK ys) ∧ RepP c kvs (ys.map fun p => ([p.1], p.2)) := fun {a o zs} h1 h2 h3 h4 => by
    rcases h3 with ⟨_, ys, rfl, rfl⟩ | ⟨z, _⟩
    · exact ⟨a, ys, h1, h2, h4⟩
    · cases z
  cases r with
  | @dic a t o kvs' zs k1 k2 k3 k4 =>
    cases t with
    | false => cases e; exact fin rfl k1 k2 k4
    | true => cases e
  | @ref n a hn =>
    unfold asDic at e
    dsimp only at e
    cases q : h[n]? with
    | none => rw [q] at e; cases e
    | some k =>
      rw [q] at e
      cases k with
      | dic t kvs' =>
        cases t with
        | true => cases e
        | false =>
          cases e
          obtain ⟨o, zs, h1, h3, h2⟩ := s.cells n a _ hn q
          exact fin rfl h1 h3 h2
      | _ => cases e
  | _ => cases e
def dDGet (h : EH) (x y : D) : Option (Option D) := match asDic h x, keyD y with
  | some kvs, some k => some (lkK [k] kvs)
  | _, _ => none
theorem dget_ok {c : RC} {h : EH} {x y : D} {v u : V} {r : Option D} (s : SR c h) (rx : Rep c x v) (ry : Rep c y u) (e : dDGet h x y = some r) :
    ∃ a o, v = .ref a ∧ IsD c.H a ∧ DGet c.H a u o ∧ (∀ d, r = some d → ∃ w, o = some w ∧ Rep c d w) ∧ (r = none → o = none) := by
  unfold dDGet at e
  cases q1 : asDic h x with
  | none => rw [q1] at e; cases e
  | some kvs =>
    cases q2 : keyD y with
    | none => rw [q1, q2] at e; cases e
    | some k =>
      rw [q1, q2] at e
      cases e
      obtain ⟨a, ys, rfl, h1, h2⟩ := asDic_ok s rx q1
      have hk := keyD_ok ry q2
      subst hk
      refine ⟨a, valV ys k, rfl, .inl ⟨ys, .inl h1⟩, .k h1, fun d e => ?_, fun e => ?_⟩
      · obtain ⟨w, e1, e2⟩ := lookP h2 e
        rw [valV_one] at e1
        exact ⟨w, e1, e2⟩
      · have := lookPN h2 e
        rwa [valV_one] at this
def dget2K (x : D) (y : D) (z : D) (h : EH) : O D := rt ((dDGet h x y).map fun r => r.getD z) h
def mDGet2 (a b e : M D) : M D := fun ε h => bR (a ε h) fun x h1 => match asDic h1 x with
  | some _ => bR (b ε h1) fun y h2 => bR (e ε h2) fun z h3 => dget2K x y z h3
  | none => none
section
variable {X : Cx} {W : WX} {a b : Expr} {ma mb : M D} {pos : Pos} {k : Nat}
theorem re_dget2 {o e f : Expr} {mo me mf : M D} {apos cpos : Pos} (hr : Room k X.A) (ho : RE X W o mo) (he : RE X W e me) (hf : RE X W f mf) (m : M2 X o "get" apos e f cpos := by exact ⟨rfl, rfl, rfl, rfl⟩) : RE X W (.Call (.Attribute o "get" apos) [e, f] [] cpos) (mDGet2 mo me mf) := by
  refine pe_imp (pe_dget2 (by have := hr.units; omega) ho he hf m) fun σ H Q h => ?_
  obtain ⟨c, ε, h, r', h', hK, hm, rfl, sr, er, e, px, go⟩ := h
  unfold tDGet2
  refine tX.bind hK hm sr er e px fun dx h1 c1 x e1 l1 s1 r1 => ?_
  cases q0 : asDic h1 dx with
  | none => rw [q0] at e1; cases e1
  | some kvs =>
    rw [q0] at e1
    obtain ⟨a, ys, rfl, k1, k2⟩ := asDic_ok s1 r1 q0
    refine ⟨a, rfl, .inl ⟨ys, .inl k1⟩, ?_⟩
    refine tX.bind (l1.K.trans hK) (l1.mg.trans hm) s1 (er.le l1) e1 (px.le l1) fun dy h2 c2 y e2 l2 s2 r2 => ?_
    refine tX.bind (l2.K.trans (l1.K.trans hK)) (l2.mg.trans (l1.mg.trans hm)) s2 ((er.le l1).le l2) e2 ((px.le l1).le l2) fun dz h3 c3 z e3 l3 s3 r3 => ?_
    unfold dget2K at e3
    cases q : dDGet h3 dx dy with
    | none => rw [q] at e3; cases e3
    | some r =>
      rw [q] at e3
      cases e3
      obtain ⟨a', o, ea, _, g1, g2, g3⟩ := dget_ok s3 ((r1.le l2).le l3) (r2.le l3) q
      cases ea
      refine ⟨o, g1, ?_⟩
      have L := (l1.trans l2).trans l3
      cases r with
      | none => rw [g3 rfl]; exact go _ rfl c3 _ L s3 r3
      | some d => obtain ⟨w, e, rw'⟩ := g2 d rfl; rw [e]; exact go _ rfl c3 _ L s3 rw'
end
end PD
namespace PD
open PySem PySem.Spec PyProof.Rows L2
variable [LamTab]
inductive RepPr (c : RC) : List (D × D) → List (V × V) → Prop
  | nil : RepPr c [] []
  | cons {k d : D} {ds : List (D × D)} {x v : V} {vs : List (V × V)} : Rep c k x → Rep c d v → RepPr c ds vs → RepPr c ((k, d) :: ds) ((x, v) :: vs)
theorem RepPr.le {c c' : RC} (l : c.Le c') : ∀ {ds : List (D × D)} {vs : List (V × V)}, RepPr c ds vs → RepPr c' ds vs
  | _, _, .nil => .nil
  | _, _, .cons h1 h2 t => .cons (h1.le l) (h2.le l) (t.le l)
def mPairs : List (M D × M D) → M (List (D × D))
  | [] => fun _ h => some (.ok [], h)
  | p :: r => fun ε h => bR (p.1 ε h) fun x h1 => bR (p.2 ε h1) fun y h2 => bR (mPairs r ε h2) fun ps h3 => some (.ok ((x, y) :: ps), h3)
theorem pairs_of {K : PySem.W.Frag} {mg : Str → Option Value} {W : WX} {σ : L2.St} : ∀ (ps : List (M D × M D)) {H : Hp} {Q : List (V × V) → Hp → Prop}, tX RepPr K mg W (mPairs ps) σ H Q → tPairs (ps.map fun p => (tE K mg W p.1, tE K mg W p.2)) σ H Q
  | [], H, Q, h => by
    obtain ⟨c, ε, h, r', h', hK, hm, rfl, sr, er, e, px, go⟩ := h
    cases e
    exact go _ rfl c _ (.refl c) sr .nil
  | p :: r, H, Q, h => by
    obtain ⟨c, ε, h, r', h', hK, hm, rfl, sr, er, e, px, go⟩ := h
    rw [List.map_cons]
    unfold tPairs
    refine tX.bind hK hm sr er e px fun x h1 c1 v e1 l1 s1 r1 => ?_
    refine tX.bind (l1.K.trans hK) (l1.mg.trans hm) s1 (er.le l1) e1 (px.le l1) fun y h2 c2 u e2 l2 s2 r2 => ?_
    refine pairs_of r ?_
    refine tX.bind (l2.K.trans (l1.K.trans hK)) (l2.mg.trans (l1.mg.trans hm)) s2 ((er.le l1).le l2) e2 ((px.le l1).le l2) fun qs h3 c3 zs e3 l3 s3 r3 => ?_
    cases e3
    exact go _ rfl c3 _ ((l1.trans l2).trans l3) s3 (.cons ((r1.le l2).le l3) (r2.le l3) r3)
inductive RPs (X : Cx) (W : WX) : List (Option Expr) → List Expr → List (M D × M D) → Prop
  | nil : RPs X W [] [] []
  | cons {k v : Expr} {ks : List (Option Expr)} {vs : List Expr} {mk mv : M D} {r : List (M D × M D)} : RE X W k mk → RE X W v mv → RPs X W ks vs r → RPs X W (some k :: ks) (v :: vs) ((mk, mv) :: r)
theorem RPs.pps {X : Cx} {W : WX} {pos : Pos} {ks : List (Option Expr)} {vs : List Expr} {r : List (M D × M D)} (h : RPs X W ks vs r) : PPs X pos ks vs (r.map fun p => (tE X.K X.mg W p.1, tE X.K X.mg W p.2)) := by
  induction h with
  | nil => exact pps_nil
  | cons h1 h2 _ ih => exact pps_cons h1 h2 ih
def putKD (k : List Key) (d : D) (kvs : List (List Key × D)) : List (List Key × D) := if (kvs.any fun p => decide (p.1 = k)) = true then kvs.map (fun p => if p.1 = k then (p.1, d) else p) else kvs ++ [(k, d)]
theorem repP_keys {c : RC} {k : List Key} : ∀ {kvs : List (List Key × D)} {zs : List (List Key × V)}, RepP c kvs zs → (kvs.any fun p => decide (p.1 = k)) = (zs.any fun p => decide (p.1 = k))
  | _, _, .nil => rfl
  | _, _, .cons _ t => by rw [List.any_cons, List.any_cons, repP_keys t]
theorem repP_map {c : RC} {k : List Key} {d : D} {v : V} (r : Rep c d v) : ∀ {kvs : List (List Key × D)} {zs : List (List Key × V)}, RepP c kvs zs → RepP c (kvs.map fun p => if p.1 = k then (p.1, d) else p) (zs.map fun p => if p.1 = k then (p.1, v) else p)
  | _, _, .nil => .nil
  | _, _, .cons (f := g) h t => by
    rw [List.map_cons, List.map_cons]
    by_cases q : g = k
    · rw [if_pos q, if_pos q]; exact .cons r (repP_map r t)
    · rw [if_neg q, if_neg q]; exact .cons h (repP_map r t)
theorem repP_app {c : RC} {k : List Key} {d : D} {v : V} (r : Rep c d v) : ∀ {kvs : List (List Key × D)} {zs : List (List Key × V)}, RepP c kvs zs → RepP c (kvs ++ [(k, d)]) (zs ++ [(k, v)])
  | _, _, .nil => .cons r .nil
  | _, _, .cons h t => .cons h (repP_app r t)
theorem putK_rep {c : RC} {k : List Key} {d : D} {v : V} (r : Rep c d v) {kvs : List (List Key × D)} {zs : List (List Key × V)} (h : RepP c kvs zs) : RepP c (putKD k d kvs) (putK zs k v) := by
  unfold putKD putK
  rw [repP_keys h]
  split
  · exact repP_map r h
  · exact repP_app r h
theorem putK_one (k : Key) (v : V) (ys : List (Key × V)) : putK (ys.map fun p => ([p.1], p.2)) [k] v = (putK ys k v).map fun p => ([p.1], p.2) := by
  unfold putK
  have e1 : ((ys.map fun p => (([p.1] : List Key), p.2)).any fun kv => decide (kv.1 = [k])) = ys.any fun kv => decide (kv.1 = k) := by
    rw [List.any_map]
    congr 1
    funext p
    simp
  rw [e1]
  split
  · rw [List.map_map, List.map_map]
    refine List.map_congr_left fun p _ => ?_
    show (if [p.1] = [k] then ([p.1], v) else ([p.1], p.2)) = _
    by_cases q : p.1 = k
    · rw [if_pos (by rw [q])]
      simp [q]
    · rw [if_neg (by simpa using q)]
      simp [q]
  · simp
/-- the pairs, from the left -/
def mergeD : List (D × D) → List (List Key × D) → Option (List (List Key × D))
  | [], acc => some acc
  | p :: r, acc => match keyD p.1 with
    | some k => mergeD r (putKD [k] p.2 acc)
    | none => none
theorem merge_ok {c : RC} : ∀ {ps : List (D × D)} {vs : List (V × V)} {acc out : List (List Key × D)} {ys : List (Key × V)}, RepPr c ps vs → RepP c acc (ys.map fun p => ([p.1], p.2)) → mergeD ps acc = some out →
    ∃ kvs : List (Key × V), vs = kvs.map (fun kv => (kV kv.1, kv.2)) ∧ RepP c out ((mergeK ys kvs).map fun p => ([p.1], p.2))
  | _, _, acc, out, ys, .nil, h, e => by cases e; exact ⟨[], rfl, h⟩
  | (dk, d) :: ps, _, acc, out, ys, .cons (x := x) (v := v) r1 r2 t, h, e => by
    unfold mergeD at e
    cases q : keyD dk with
    | none => rw [q] at e; cases e
    | some k =>
      rw [q] at e
      have hk := keyD_ok r1 q
      have h2 : RepP c (putKD [k] d acc) ((putK ys k v).map fun p => ([p.1], p.2)) := by
        rw [← putK_one]
        exact putK_rep r2 h
      obtain ⟨kvs, e1, e2⟩ := merge_ok t h2 e
      exact ⟨(k, v) :: kvs, by rw [e1, hk]; rfl, e2⟩
theorem RepPr.len {c : RC} : ∀ {ds : List (D × D)} {vs : List (V × V)}, RepPr c ds vs → ds.length = vs.length
  | _, _, .nil => rfl
  | _, _, .cons _ _ t => by rw [List.length_cons, List.length_cons, t.len]
def dispK (ps : List (D × D)) (h : EH) : O D := if ps.length ≤ 15 then rt ((mergeD ps []).map fun kvs => .dic false kvs) h else none
def mDisp (ps : List (M D × M D)) : M D := fun ε h => bR (mPairs ps ε h) dispK
section
variable {X : Cx} {W : WX}
theorem re_disp {keys : List (Option Expr)} {values : List Expr} {ps : List (M D × M D)} {pos : Pos} (h : RPs X W keys values ps) (hall : keys.all (·.isSome) = true := by rfl) (hl : keys.length = values.length := by rfl) (h0 : keys ≠ [] := by simp) (h15 : keys.length ≤ 15 := by decide) :
    RE X W (.Dict keys values pos) (mDisp ps) := by
  refine pe_imp (pe_disp h.pps hall hl h0 h15) fun σ H Q h => ?_
  obtain ⟨c, ε, h, r', h', hK, hm, rfl, sr, er, e, px, go⟩ := h
  unfold tDisp
  intro p hp
  obtain ⟨o1, s1⟩ := Over.startG (o := .dK []) sr hp
  refine pairs_of ps ?_
  have e' : bR (mPairs ps ε h) dispK = some (r', h') := e
  have er1 : EnvR { c with B := fun a => c.B a ∨ a = p, H := upd c.H p (.dK []) } ε σ := EnvR.moreG hp er
  refine tX.bind (c := { c with B := fun a => c.B a ∨ a = p, H := upd c.H p (.dK []) }) hK (o1.le.mg.trans hm) s1 er1 e' (fun x ex c' cls dx l s xr => ?_) fun qs h2 c2 vs e2 l2 s2 r2 => ?_
  · -- an exception: back over the dict
    have o2 := o1.step l
    refine px x ex (c'.av c.B) cls dx o2.back (o2.sr s) ?_
    obtain ⟨Ca, d, us, g1, g2, g3, g4, g5, g6⟩ := xr
    exact ⟨Ca, d, us, g1, g2, g3, g4, ⟨fun z => g5.1 (o2.le.B _ z), g5.2⟩, RepF.fewer o2.le.B g6⟩
  · have o2 := o1.step l2
    have p2 : c2.H p = some (.dK []) := (l2.keep p _ upd_same (fun _ z => by cases z) fun z => sr.nb p z |> fun k => (by
      obtain ⟨ob, eo⟩ := sr.ex z
      rw [hp] at eo; cases eo)).1
    unfold dispK at e2
    by_cases h15' : qs.length ≤ 15
    · rw [if_pos h15'] at e2
      cases q : mergeD qs [] with
      | none => rw [q] at e2; cases e2
      | some out =>
        rw [q] at e2
        cases e2
        obtain ⟨kvs, rfl, hr⟩ := merge_ok (ys := []) r2 .nil q
        refine ⟨p2, kvs, rfl, by have := r2.len; rw [List.length_map] at this; omega, ?_⟩
        obtain ⟨o3, s3⟩ := o2.putBG (b' := .dK (mergeK [] kvs)) s2 p2 (fun _ z => by cases z) (fun _ _ z => by cases z)
        have hr3 := RepP.putBG (o' := .dK (mergeK [] kvs)) o2.Bp p2 (fun _ z => by cases z) (fun _ _ z => by cases z) hr
        refine go _ rfl ((c2.put p (.dK (mergeK [] kvs))).av c.B) _ o3.back (o3.sr s3) ?_
        refine .dic (o := .dK (mergeK [] kvs)) (zs := (mergeK [] kvs).map fun p => ([p.1], p.2)) upd_same (.inl ⟨rfl, _, rfl, rfl⟩) ⟨fun z => ?_, fun z => s3.nb p z o3.Bp⟩ (RepP.fewer o3.le.B hr3)
        obtain ⟨ob, eo⟩ := sr.bt p z
        rw [hp] at eo; cases eo
    · rw [if_neg h15'] at e2; cases e2
end
end PD
namespace PD
open PySem PySem.Spec PyProof.Rows L2
variable [LamTab]
section
variable {X : Cx} {W : WX}
theorem RepP.len {c : RC} : ∀ {ds : List (List Key × D)} {vs : List (List Key × V)}, RepP c ds vs → ds.length = vs.length
  | _, _, .nil => rfl
  | _, _, .cons _ t => by rw [List.length_cons, List.length_cons, RepP.len t]
end
def lkS (z : List Nat) : List (List Nat × D) → Option D
  | [] => none
  | p :: r => if p.1 = z then some p.2 else lkS z r
inductive Ent (K : PySem.W.Frag) : List (List Nat × D) → List DictEntry → Prop
  | nil : Ent K [] []
  | cons {z : List Nat} {d : D} {r : List (List Nat × D)} {e : DictEntry} {l : List DictEntry} {t : Tok} {v : V} : e.key = .str (toS z) t → RelV v e.val → (∀ c : RC, c.K = K → Rep c d v) → Ent K r l → Ent K ((z, d) :: r) (e :: l)
theorem entB_ok {K : PySem.W.Frag} : ∀ {r : List (List Nat × D)} {l : List DictEntry}, entB K r l = true → Ent K r l
  | [], [], _ => .nil
  | [], _ :: _, h => by cases h
  | _ :: _, [], h => by cases h
  | p :: r, e :: l, h => by
    unfold entB at h
    obtain ⟨h1, h2⟩ := ba2 h
    obtain ⟨h3, h4⟩ := ba2 h2
    obtain ⟨v, rv, rp⟩ := dB_ok h3
    cases q : e.key with
    | str y t =>
      rw [q] at h1
      have ey : y.cps.toList = p.1 := of_decide_eq_true h1
      exact .cons (t := t) (by rw [q, ← ey]; rfl) rv rp (entB_ok h4)
    | _ => rw [q] at h1; cases h1
theorem ent_find {K : PySem.W.Frag} {z : List Nat} : ∀ {r : List (List Nat × D)} {l : List DictEntry}, Ent K r l → (∀ d, lkS z r = some d → ∃ e v, l.find? (·.key.isStr (toS z)) = some e ∧ RelV v e.val ∧ ∀ c : RC, c.K = K → Rep c d v) ∧ (lkS z r = none → l.find? (·.key.isStr (toS z)) = none)
  | _, _, .nil => ⟨fun d h => (by cases h), fun _ => rfl⟩
  | _, _, .cons (z := y) (t := t) (e := e) (l := l) h1 h2 h3 h4 => by
    have ih := ent_find (z := z) h4
    by_cases q : y = z
    · subst q
      refine ⟨fun d h => ?_, fun h => ?_⟩
      · unfold lkS at h
        rw [if_pos rfl] at h
        cases h
        refine ⟨_, _, ?_, h2, h3⟩
        rw [List.find?_cons, h1]
        simp [Value.isStr]
      · unfold lkS at h
        rw [if_pos rfl] at h
        cases h
    · have nz : ¬ toS y = toS z := fun e => q (by
        have := congrArg (fun s : Str => s.cps.toList) e
        simpa [toS] using this)
      unfold lkS
      dsimp only
      rw [if_neg q]
      have : (e :: l).find? (·.key.isStr (toS z)) = l.find? (·.key.isStr (toS z)) := by
        rw [List.find?_cons, h1]
        have : (Value.str (toS y) t).isStr (toS z) = false := by
          simpa [Value.isStr] using nz
        simp only [this]
      rw [this]
      exact ih
end PD
namespace PD
open PySem PySem.Spec PyProof.Rows L2
variable [LamTab]
/-- the module's name x is a dict of these -/
structure DicC (K : PySem.W.Frag) (w : World) (mg : Str → Option Value) (x : Str) (kvs : List (List Nat × D)) : Prop where
  ex : ∃ (d : Addr) (es : Array DictEntry) (n : Nat), mg x = some (.ref d) ∧ KDict K w d es n ∧ Ent K kvs es.toList
theorem ent_noref {K : PySem.W.Frag} : ∀ {r : List (List Nat × D)} {l : List DictEntry}, Ent K r l → l.any (·.refKey) = false
  | _, _, .nil => rfl
  | _, _, .cons h1 _ _ t => by
    rw [List.any_cons, ent_noref t]
    unfold DictEntry.refKey
    rw [h1]; rfl
theorem nsIn_ent {K : PySem.W.Frag} {w : World} {d : Addr} {es : Array DictEntry} {n : Nat} {kvs : List (List Nat × D)} (D : KDict K w d es n) (E : Ent K kvs es.toList) (z : List Nat) :
    (∀ dv, lkS z kvs = some dv → ∃ u v, PySem.W.nsIn K d (toS z) = some (some u) ∧ RelV v u ∧ ∀ c : RC, c.K = K → Rep c dv v) ∧ (lkS z kvs = none → PySem.W.nsIn K d (toS z) = some none) := by
  have e0 : PySem.W.nsIn K d (toS z) = (match es.toList.find? (·.key.isStr (toS z)) with
      | some e => some (some e.val)
      | none => if es.toList.any (·.refKey) then none else some none) := by
    unfold PySem.W.nsIn
    rw [D.at_]
    rfl
  obtain ⟨h1, h2⟩ := ent_find (z := z) E
  refine ⟨fun dv h => ?_, fun h => ?_⟩
  · obtain ⟨e, v, g1, g2, g3⟩ := h1 dv h
    rw [e0, g1]
    exact ⟨_, v, rfl, g2, g3⟩
  · rw [e0, h2 h, ent_noref E]
    rfl
def dCIn (neg : Bool) (kvs : List (List Nat × D)) (x : D) : Option D := match x with
  | .str z => some (.bl (neg != (lkS z kvs).isSome))
  | _ => none
def mC1 (f : D → Option D) (a : M D) : M D := fun ε h => bR (a ε h) fun x h1 => rt (f x) h1
section
variable {X : Cx} {W : WX} {a : Expr} {ma : M D} {x : Str} {p pos : Pos} {kvs : List (List Nat × D)}
theorem cin_of {d : Addr} {es : Array DictEntry} {n : Nat} (Dd : KDict X.K X.w d es n) (E : Ent X.K kvs es.toList) {σ : L2.St} {H : Hp} {Q : VK} (h : tE X.K X.mg W (mC1 (dCIn false kvs) ma) σ H Q) :
    tOp (fun x y H Q => ∃ (z : Str) (r : Option Value), x = .str z ∧ y = .ref d ∧ PySem.W.nsIn X.K d z = some r ∧ Q (.bl r.isSome) H) (tE X.K X.mg W ma) (tC (.ref d)) σ H Q := by
  obtain ⟨c, ε, h, r', h', hK, hm, rfl, sr, er, e, px, go⟩ := h
  unfold tOp tC
  refine tX.bind hK hm sr er e px fun dx h1 c1 x e1 l1 s1 r1 => ?_
  cases r1 with
  | str z =>
    cases e1
    obtain ⟨g1, g2⟩ := nsIn_ent Dd E z
    cases q : lkS z kvs with
    | none => exact ⟨_, none, rfl, rfl, g2 q, by have := go _ rfl c1 (.bl false) l1 s1 (by rw [q]; exact .bl false); exact this⟩
    | some dv =>
      obtain ⟨u, v, k1, k2, k3⟩ := g1 dv q
      exact ⟨_, some u, rfl, rfl, k1, by have := go _ rfl c1 (.bl true) l1 s1 (by rw [q]; exact .bl true); exact this⟩
  | _ => cases e1
theorem rt_cin (G : DicC X.K X.w X.mg x kvs) (ha : RE X W a ma) (hg : Gl X x := by rfl) (hd : (x == ("__debug__" : Str)) = false := by decide) : RT X W (.Compare a [.In] [.Name x p] pos) (mTst (mC1 (dCIn false kvs) ma)) := by
  obtain ⟨d, es, n, h1, h2, h3⟩ := G.ex
  exact pt_imp (pt_cmpR (op_in_kd h2) ha (pe_glob (v := .ref d) hg h1 rfl hd) rfl) fun _ _ _ h => cin_of h2 h3 (tB_of h)
end
theorem SaysG2.g {fa : List He.Fa} {fn : List He.DefD} {gs : List (Str × D)} {ds : List DicD} {w : World} {K : PySem.W.Frag} (c : SaysG2 fa fn gs ds w K) : SaysG fa fn gs K := congrArg (fun z : AlG2 => z.1) c
theorem SaysG2.dic {fa : List He.Fa} {fn : List He.DefD} {gs : List (Str × D)} {ds : List DicD} {w : World} {K : PySem.W.Frag} {h : Heap} {mg : Str → Option Value} (X : K.In h) (G : h.Ns mainGlobals mg) (c : SaysG2 fa fn gs ds w K) {p : DicD} (hp : p ∈ ds) : DicC K w mg p.1 p.2 := by
  have c1 : (ds.all fun p => dicB K p.1 p.2) = true := congrArg (fun z : AlG2 => z.2.1) c
  have c2 : (ds.map fun p => He.dicW K (He.ga K p.1)) = ds.map fun p => some (He.keysIn w.params (p.2.map fun q => toS q.1)) := congrArg (fun z : AlG2 => z.2.2) c
  have b := List.all_eq_true.mp c1 p hp
  have t : He.dicW K (He.ga K p.1) = some (He.keysIn w.params (p.2.map fun q => toS q.1)) := List.map_inj_left.mp c2 p hp
  obtain ⟨es, n, kd⟩ := He.dicW_ok t
  unfold dicB at b
  cases q : PySem.W.nsIn K mainGlobals p.1 with
  | none => rw [q] at b; cases b
  | some u =>
    cases u with
    | none => rw [q] at b; cases b
    | some u =>
      cases u with
      | ref d =>
        rw [q] at b
        have eg : He.ga K p.1 = d := by
          unfold He.ga
          rw [q]
        rw [eg] at kd
        dsimp only at b
        rw [kd.at_] at b
        exact ⟨d, es, n, PySem.W.mg_of X G q, kd, entB_ok b⟩
      | _ => rw [q] at b; cases b
end PD
namespace PD
open PySem PySem.Spec PyProof.Rows L2
end PD
namespace PD
open PySem PySem.Spec PyProof.Rows L2
variable [LamTab]
section
variable {P : Program} {w : World} {K : PySem.W.Frag} {mg : Str → Option Value} {base : Heap}
theorem fnOk0I {k n : Nat} {f : Addr} {fd : FuncData} {ps : List Str} : FnOk P w K mg base (L2.CX P w) k f fd ps (SpI K mg n fun _ _ => none) :=
  ⟨fun vs H Q E h => (by obtain ⟨_, _, _, _, _, _, _, _, _, _, _, e, _⟩ := h; cases e), fun A outer s H args us vs Q E _ _ _ _ h => (by obtain ⟨_, _, _, _, _, _, _, _, _, _, _, e, _⟩ := h; cases e)⟩
theorem FnI.mono {x : Str} {j k n : Nat} {F : IF} (h : FnI P w K mg base x j n F) (l : j ≤ k) : FnI P w K mg base x k n F := by
  obtain ⟨f, fd, ps, a, b, c, d, e⟩ := h.ex
  exact ⟨⟨f, fd, ps, a, b, c, d, e.mono l⟩⟩
theorem MetI.mono {C x : Str} {j k n : Nat} {F : IF} (h : MetI P w K mg base C x j n F) (l : j ≤ k) : MetI P w K mg base C x k n F := by
  obtain ⟨Ca, f, fd, ps, a, a2, b, c, d, e⟩ := h.ex
  exact ⟨⟨Ca, f, fd, ps, a, a2, b, c, d, e.mono l⟩⟩
theorem MetP.mono {C x : Str} {j k n : Nat} {F : PF} (h : MetP P w K mg base C x j n F) (l : j ≤ k) : MetP P w K mg base C x k n F := by
  obtain ⟨Ca, f, fd, ps, a, a2, b, c, d, e⟩ := h.ex
  exact ⟨⟨Ca, f, fd, ps, a, a2, b, c, d, e.mono l⟩⟩
end
end PD
namespace PD
open PySem PySem.Spec PyProof.Rows L2
variable [LamTab]
def lcL2 (g : MG) (t : M Bool) (mi : M (List D)) (g1 : MG) (t1 : M Bool) (e : M D) (vs1 : List Nat) : List D → Ev → EH → Option (List D × EH)
  | [], _, h => some ([], h)
  | d :: ds, ε, h => match g d ε h with
    | none => none
    | some (ε1, h1) => match t ε1 h1 with
      | some (.ok true, h2) => (match mi ε1 h2 with
        | some (.ok ds1, h3) => (match lcL g1 t1 e ds1 (wipeE ε1 vs1) h3 with
          | some (ys, h4) => (match lcL2 g t mi g1 t1 e vs1 ds ε h4 with
            | some (zs, h5) => some (ys ++ zs, h5)
            | none => none)
          | none => none)
        | _ => none)
      | some (.ok false, h2) => lcL2 g t mi g1 t1 e vs1 ds ε h2
      | _ => none
def mLc2 (vs : List Nat) (mi : M (List D)) (g : MG) (t : M Bool) (mi1 : M (List D)) (g1 : MG) (t1 : M Bool) (e : M D) (vs1 : List Nat) : M D := fun ε h => bR (mi ε h) fun ds h1 => okL (lcL2 g t mi1 g1 t1 e vs1 ds (wipeE ε vs) h1)
theorem MgE.put {c : RC} {mg : Str → Option Value} {p : Addr} {o : HO} (h : NoTab c.H p) (m : MgE c mg) : MgE (c.put p o) mg := ⟨m.e, fun _ => tabs_upd (ρ := c.ρ) (B := c.B) h (m.t trivial)⟩
theorem noTab_lst {H : Hp} {p : Addr} {xs : List V} (h : H p = some (.lst xs)) : NoTab H p := noTab_of h (fun _ z => by cases z) (fun _ z => by cases z)
theorem lew_putB {c : RC} {h : EH} {p : Addr} {xs ys : List V} (s : SR c h) (hB : c.B p) (hp : c.H p = some (.lst xs)) : c.LeW (c.put p (.lst ys)) := by
  refine ⟨rfl, rfl, fun _ z => .inl z, fun _ _ z => z, fun a o e => ?_, fun a o e _ nb n => ⟨(upd_ne (show a ≠ p from fun z => nb (z ▸ hB))).trans e, n⟩, fun a zs e => ?_, fun a o u e => ?_⟩
  · by_cases z : a = p
    · exact ⟨_, by rw [z]; exact upd_same⟩
    · exact ⟨o, (upd_ne z).trans e⟩
  · have ne : a ≠ p := fun z => by
      subst z
      rcases e with e | ⟨u, e⟩ <;> rw [hp] at e <;> cases e
    rcases e with e | ⟨u, e⟩
    · exact .inl ((upd_ne ne).trans e)
    · exact .inr ⟨u, (upd_ne ne).trans e⟩
  · exact (upd_ne (show a ≠ p from fun z => by rw [z, hp] at e; cases e)).trans e
end PD
namespace PD
open PySem PySem.Spec PyProof.Rows L2
variable [LamTab]
def isLc (h : EH) (x : D) : Bool := match x with
  | .ref n => (match h[n]? with
    | some (.lst _) => true
    | _ => false)
  | _ => false
def apD (h : EH) (x y : D) : Option EH := match x with
  | .ref n => (match h[n]? with
    | some (.lst ds) => if ds.length < sizeLine then some (h.set n (.lst (ds ++ [y]))) else none
    | _ => none)
  | _ => none
theorem isLc_ok {c : RC} {h : EH} {x : D} {v : V} (s : SR c h) (r : Rep c x v) (e : isLc h x = true) : ∃ n a ds xs, x = .ref n ∧ v = .ref a ∧ c.ρ[n]? = some a ∧ h[n]? = some (.lst ds) ∧ c.H a = some (.lst xs) ∧ Reps c ds xs := by
  cases r with
  | @ref n a hn =>
    unfold isLc at e
    dsimp only at e
    cases q : h[n]? with
    | none => rw [q] at e; cases e
    | some k =>
      rw [q] at e
      cases k with
      | lst ds =>
        obtain ⟨xs, k1, k2⟩ := s.cells n a _ hn q
        exact ⟨n, a, ds, xs, rfl, rfl, hn, q, k1, k2⟩
      | _ => cases e
  | _ => cases e
def mAppend (o e : M D) : M D := fun ε h => bR (o ε h) fun x h1 => if isLc h1 x = true then bR (e ε h1) fun y h2 => (apD h2 x y).map fun h3 => (.ok .non, h3) else none
section
variable {X : Cx} {W : WX}
theorem re_append {o e : Expr} {mo me : M D} {apos cpos : Pos} (ho : RE X W o mo) (he : RE X W e me)
    (hbase : attributeBase o "append" X.env (eval o X.env) = eval o X.env := by rfl)
    (hfew : ((backTo cpos (starEach [e] X.env)).all (fun x => !x.1) && (backToKw cpos (keywordEach [] X.env)).all (fun x => x.1.isSome) && decide ([e].length + ([] : List Keyword).length + (if ([] : List Keyword).isEmpty then 0 else 1) < 30)) = true := by rfl)
    (hline : (apos.endLine == cpos.line) = true := by rfl) (hs : starEach [e] X.env = (false, eval e X.env) :: starEach [] X.env := by rfl) :
    RE X W (.Call (.Attribute o "append" apos) [e] [] cpos) (mAppend mo me) := by
  refine pe_imp (pe_bm PySem.F.plainAttrs_list PySem.F.slot_list_append PySem.F.type_list_append mt_append ho (pa_cons he pa_nil hs) hbase hfew hline hs rfl) fun σ H Q h => ?_
  obtain ⟨c, ε, h, r, h', hK, hm, rfl, sr, er, e, px, go⟩ := h
  unfold tBM
  refine tX.bind hK hm sr er e px fun x h1 c1 v e1 l1 s1 r1 => ?_
  by_cases hx : isLc h1 x = true
  · rw [if_pos hx] at e1
    obtain ⟨n, a, ds0, xs0, rfl, rfl, hn, _, k1, _⟩ := isLc_ok s1 r1 hx
    refine ⟨.inl ⟨rfl, xs0, .inl (.inl k1)⟩, ?_⟩
    refine tX.bind (l1.K.trans hK) (l1.mg.trans hm) s1 (er.le l1) e1 (px.le l1) fun y h2 c2 u e2 l2 s2 r2 => ?_
    have hn2 := l2.pre _ _ hn
    unfold apD at e2
    dsimp only at e2
    cases q2 : h2[n]? with
    | none => rw [q2] at e2; cases e2
    | some k =>
      rw [q2] at e2
      cases k with
      | lst ds =>
        dsimp only at e2
        by_cases hz : ds.length < sizeLine
        · rw [if_pos hz] at e2
          cases e2
          obtain ⟨xs, j1, j2⟩ := s2.cells n a _ hn2 q2
          obtain ⟨l3, s3⟩ := s2.write (o := .lst (xs ++ [u])) (k := .lst (ds ++ [y])) hn2 (fun ys z => by
            rcases z with z | ⟨w, z⟩ <;> rw [j1] at z <;> cases z) (fun o w z => by rw [j1] at z; cases z) fun c' l' eh => ⟨_, eh, (j2.le l').append (.cons (r2.le l') .nil)⟩
          exact ⟨a, xs, u, rfl, rfl, j1, by rw [← j2.length]; exact hz, go _ rfl _ _ ((l1.trans l2).trans l3) s3 .non⟩
        · rw [if_neg hz] at e2; cases e2
      | _ => cases e2
  · rw [if_neg hx] at e1; cases e1
def dMax2 (_ : EH) (ds : List D) : Option D := match ds with
  | [.int i, .int j] => some (.int (if j > i then j else i))
  | _ => none
end
def mApp2 (a b : M (List D)) : M (List D) := fun ε h => bR (a ε h) fun xs h1 => bR (b ε h1) fun ys h2 => some (.ok (xs ++ ys), h2)
end PD
namespace PD
open PySem PySem.Spec PyProof.Rows L2
open PySem.Froz (SD sObj TxOk addTx tailTx)
end PD
namespace PD
open PySem PySem.Spec PyProof.Rows L2
variable [LamTab]
def insU (x : List Nat) : List (List Nat) → List (List Nat)
  | [] => [x]
  | y :: r => if x < y then x :: y :: r else if y < x then y :: insU x r else y :: r
def srtU (l : List (List Nat)) : List (List Nat) := l.foldr insU []
def txD (h : EH) (d : D) : Option (List (List Nat)) := match asS h d with
  | some xs => (match asTs xs with
    | some zs => if zs.length + 1 < scanBound then some zs else none
    | none => none)
  | none => none
def mSortT (a : M D) : M D := fun ε h => bR (a ε h) fun x h1 => rt ((txD h1 x).map fun zs => .lst ((srtU zs).map .str)) h1
def mLenT (a : M D) : M D := fun ε h => bR (a ε h) fun x h1 => rt ((txD h1 x).map fun zs => .int (srtU zs).length) h1
end PD
namespace PD
open PySem PySem.Spec PyProof.Rows L2
variable [LamTab]
def miEn (a : M (List D)) : M (List D) := fun ε h => bR (a ε h) fun xs h1 => match xs with
  | [x] => (match x with
    | .lst as => some (.ok (enumD as), h1)
    | .tup as => some (.ok (enumD as), h1)
    | .scr as => some (.ok (enumD as), h1)
    | _ => none)
  | _ => none
def mPrp (C : Str) (F : PF) (o : M D) : M D := fun ε h => bR (o ε h) fun x h1 => match insD h1 x with
  | some (C', _) => if C' = C ∧ noRef.go [x] = true then (match F [x] with
    | some (.ok d) => some (.ok d, h1)
    | _ => none) else none
  | none => none
def mCGet (kvs : List (List Nat × D)) (a b : M D) : M D := fun ε h => bR (a ε h) fun y h1 => match y with
  | .str k => bR (b ε h1) fun z h2 => some (.ok ((lkS k kvs).getD z), h2)
  | _ => none
end PD
namespace PD
open PySem PySem.Spec PyProof.Rows L2
variable [LamTab]
section
variable {n : Nat} {fa : List He.Fa} {fn : List He.DefD} {gs : List (Str × D)} {ds : List DicD} {fx : List FactB} {xd : List He5.DefA} {w : World} {K : PySem.W.Frag}
theorem SaysG3.two (c : SaysG3 fa fn gs ds fx xd w K) : SaysG2 fa fn gs ds w K := congrArg (fun z : AlG3 => z.1) c
theorem SaysG3.fact (c : SaysG3 fa fn gs ds fx xd w K) {f : FactB} (h : f ∈ fx) : f K = true :=
  List.all_eq_true.mp (ba2 (congrArg (fun z : AlG3 => z.2.1) c : ((fx.all (fun f => f K)) && xd.all (fun d => d.ok K)) = true)).1 f h
theorem SaysG3.defA (c : SaysG3 fa fn gs ds fx xd w K) {d : He5.DefA} (h : d ∈ xd) : ∃ fd, FunD K d.name d.qual d.params d.body d.scope (d.dvs K) (d.kws K) (d.at_ K) fd := by
  have c1 := List.all_eq_true.mp (ba2 (congrArg (fun z : AlG3 => z.2.1) c : ((fx.all (fun f => f K)) && xd.all (fun d => d.ok K)) = true)).2 d h
  have c2 : (xd.map fun d => He5.fnA K (d.at_ K)) = xd.map He5.DefA.val := congrArg (fun z : AlG3 => z.2.2) c
  exact He5.DefA.funD (List.map_inj_left.mp c2 d h) c1
end
def miA (a : M D) : M (List D) := fun ε h => match miL a ε h with
  | some z => some z
  | none => miT a ε h
end PD
namespace PD
open PySem PySem.Spec PyProof.Rows L2
variable [LamTab]
def msPar3 (i j l : Nat) (m : M (List D)) : MS := fun ε h => bS (m ε h) ε fun ds h1 => match ds with
  | [d, e, f] => some (.nx (((ε.set i (some d)).set j (some e)).set l (some f)), h1)
  | _ => none
end PD
namespace PX
open PySem PySem.Spec PyProof.Rows L2 PySem.Calls
section
variable {X : Cx} {pins : List (Addr × Obj)} {σ : L2.St} {H : Hp} {s : Shared} {a C u : Addr} {E : Value → Shared → Prop}
/-- ValueError.__init__ bound to the object, called -/
theorem mw_init {us : List Value} {Q : Value → Shared → Prop} (T : OexC X.K C) (I : Inv X pins σ H s) (e : H a = some (exo a C none)) (hu : s.heap.get? u = some (PySem.W.kxs_mw "ValueError.__init__" a)) (hl : us.length ≤ sizeLine) (h : ∀ s', Inv X pins σ H s' → Q .none s') :
    wpAny (model X.prog X.w) X.A (call (.ref u) us) Q E s := by
  obtain ⟨nm, q, N, bs, bm, sn, sub, ab, col, dd, k0, k1, k2, k3, k5, hC, hbm⟩ := T.cls
  obtain ⟨t1, ho⟩ := exo_at I.hok e
  obtain ⟨hp, g, d, t, os⟩ := s
  have KC := I.kIn _ _ hC
  refine wpAny_call (codeAny_of_tree ?_)
  show wpAny _ X.A.in1 (callAny (.ref u) ⟨us, []⟩) _ _ _
  simp only [callAny]
  refine wpAny_bind (wpAny_load hu ?_)
  simp only [PySem.W.kxs_mw, show (Value.type "method-wrapper" == Value.type "method" || Value.type "method-wrapper" == Value.type "builtin_function_or_method" || Value.type "method-wrapper" == Value.type "method-wrapper") = true by decide, if_true]
  refine PySem.W.KFB.if_so (by decide) ?_
  refine wpAny_bind (PySem.W.check_bound_init F.excBase_ValueError.toExcCallFacts KC ho rfl ?_)
  refine wpAny_bind (wpAny_pure (wpAny_pure ?_))
  refine ⟨plainId_quiet F.excBase_ValueError.init.plain _, codeAny_builtin F.excBase_ValueError.initEntry ?_⟩
  refine PySem.W.exc_init_tree (cls := .ref C) (t0 := t1) (dv := none) (c2 := .none) (c3 := .none) (b4 := .bool false) ho hl fun h' k hx _ => ?_
  have J := I.write (t' := t) (x := a) (e := a) (o := exo a C none) (by rw [e]; exact True.intro) (.inl rfl) k ⟨_, hx⟩ (exo_ok hx)
  have eu : upd H a (exo a C none) = H := by
    funext b
    by_cases hb : b = a
    · rw [hb, upd_same, e]
    · rw [upd_ne hb]
  rw [eu] at J
  exact h _ J
end
/-- a class whose __init__ says super().__init__(code); self.code = code -/
def supBody (b : List Stmt) : Prop := ∃ p0 p1 p2 p3 p4 p5 p6 p7 p8 p9, (∀ env : Env, ∃ pl : Sem Bool, eval (.Call (.Attribute (.Call (.Name "super" p0) [] [] p1) "__init__" p2) [.Name "code" p3] [] p4) env = (do
      let ov ← attributeBase (.Call (.Name "super" p0) [] [] p1) "__init__" env (eval (.Call (.Name "super" p0) [] [] p1) env)
      standAt p2.atName
      let (f, first) ← holding [ov] (getMethod ov "__init__" pl)
      callWith p4 f first (backTo p4 (starEach [.Name "code" p3] env)) [])) ∧ b = [.Expr (.Call (.Attribute (.Call (.Name "super" p0) [] [] p1) "__init__" p2) [.Name "code" p3] [] p4) p5, .Assign [.Attribute (.Name "self" p6) "code" p7] (.Name "code" p8) p9]
structure SupI (P : Program) (K : PySem.W.Frag) (T f : Addr) (fd : FuncData) : Prop where
  ex : ∃ (qual : Str) (params : Arguments) (ar : Arg) (body : List Stmt) (scope : Scope) (oc : Value) (od : Option Addr) (dV kV doc pm : Value) (an : Option Addr) (cda cc : Addr) (ct : Value) (osl : Array (Option Value)),
    fd = PySem.W.ksFn "__init__" qual params body scope dV kV doc pm an (.ref cda) ct cc ∧ supBody body ∧ K.lookup f = some ⟨oc, od, .func fd, osl⟩ ∧ PySem.W.codeIn K (.ref cda) qual = true ∧ (params.posonlyargs ++ params.args).head? = some ar ∧ ar.arg = "self" ∧
    (∃ (oc2 : Value) (od2 : Option Addr) (vs : Array Value) (sl2 : Array (Option Value)) (file : Str) (tf : Tok), K.lookup cda = some ⟨oc2, od2, .fields vs, sl2⟩ ∧ vs[2]? = some (.str file tf) ∧ ((P.main.file : Str) == file) = true) ∧
    (∃ (oc3 : Value) (od3 : Option Addr) (sl3 : Array (Option Value)), K.lookup cc = some ⟨oc3, od3, .cell (some (.ref T)), sl3⟩) ∧
    (∀ x ∈ scope.names, x.2 ≠ .cell) ∧ (∀ x ∈ scope.names, x.2 = .free → x.1 = "__class__") ∧ scope.names.lookup ("super" : Str) = some .globalImplicit ∧ scope.names.lookup ("__class__" : Str) = some .free ∧ scope.names.lookup ("self" : Str) = some .local ∧ scope.names.lookup ("code" : Str) = some .local ∧
    scope.kind = .function ∧ scope.isCoroutine = false ∧ scope.isGenerator = false
  cls : ∃ cd, PySem.W.clsIn K T = some cd
  sup : PySem.W.nsIn K mainGlobals "super" = some none
  top : (P.main.scope.names.lookup ("super" : Str)).isSome = false
  opq : PySem.W.nsIn K cStatics "thirdparty.any" = some none
/-- the class C of the object lies over T -/
structure OverT (K : PySem.W.Frag) (T C : Addr) : Prop where
  oex : OexC K C
  sup : PySem.W.ks_superIn K C T "__init__" = some (some (.builtin "ValueError.__init__"))
  mro : PySem.W.mroIn K C (.ref T) = some true
  sub : PySem.W.subIn K (.ref C) (.type "ValueError") = some true
  no : PySem.W.findIn K (.ref C) "code" = some none
def spT (K : PySem.W.Frag) (T : Addr) : Sp := fun vs H Q _ => ∃ (a C : Addr) (y : V), vs = [.ref a, y] ∧ OverT K T C ∧ H a = some (exo a C none) ∧ ∀ dx, H dx = none → dx ≠ a → Q .non (upd (upd H dx (exd dx [("code", y)])) a (exo a C (some dx)))
def supCx (CX : CXT) (P : Program) (w : World) (K : PySem.W.Frag) (mg : Str → Option Value) (base : Heap) (qual : Str) (scope : Scope) (f cc : Addr) (cd : Value) (A : Around) (outer : List Env) (s : Shared) (H : Hp) (E : XK) : Cx where
  prog := P
  w := w
  K := K
  mg := mg
  base := base
  A := A.deeper (PySem.W.ksEnv qual scope s.heap.objs.size f cd cc)
  N := ["self", "code"]
  s_0 := s
  H_0 := H
  env := PySem.W.ksEnv qual scope s.heap.objs.size f cd cc
  outer := outer
  stack := PySem.W.ksEnv qual scope s.heap.objs.size f cd cc :: outer
  ex := []
  fn := fun _ => false
  calm := true
  pn := []
  xe := fun e s' => wpAny (model P w) (A.deeper (PySem.W.ksEnv qual scope s.heap.objs.size f cd cc)) (leaving (PySem.W.ksEnv qual scope s.heap.objs.size f cd cc) e) (fun _ s'' => CX outer H s E e s'') (fun e' s'' => CX outer H s E e' s'') s'
section
variable {P : Program} {w : World} {K : PySem.W.Frag} {mg : Str → Option Value} {base : Heap} {CX : CXT} {k : Nat} {T f : Addr} {fd : FuncData}
theorem sup_start {qual : Str} {scope : Scope} {cc : Addr} {cd u0 u1 : Value} {v0 v1 : V} {A : Around} {outer : List Env} {s : Shared} {H : Hp} {E : XK} {h₁ : Heap} {tk : Nat} (hd : A.handled = none) (e0 : Env0 P w K mg base A outer s H)
    (hcell : ∃ (oc3 : Value) (od3 : Option Addr) (sl3 : Array (Option Value)), K.lookup cc = some ⟨oc3, od3, .cell (some (.ref T)), sl3⟩) (hc : ∀ x ∈ scope.names, x.2 ≠ .cell) (hf : ∀ x ∈ scope.names, x.2 = .free → x.1 = "__class__") (hks : scope.names.lookup ("self" : Str) = some .local) (hkc : scope.names.lookup ("code" : Str) = some .local) (hkind : scope.kind = .function)
    (r0 : RelV v0 u0) (r1 : RelV v1 u1) (hns : h₁.Ns s.heap.objs.size (fun x => [(("self" : Str), u0), (("code" : Str), u1)].reverse.lookup x)) (hk : ∀ b o, s.heap.get? b = some o → h₁.get? b = some o) :
    Inv (supCx CX P w K mg base qual scope f cc cd A outer s H E) [] [some v0, some v1] H { s with heap := h₁, toks := tk } := by
  obtain ⟨oc3, od3, sl3, hcell⟩ := hcell
  have noA : ∀ b : Addr, b ∉ (supCx CX P w K mg base qual scope f cc cd A outer s H E).ex := fun b z => absurd (show b ∈ ([] : List Addr) from z) (by simp)
  have cells : ∀ {y : Str} {c : Addr}, (supCx CX P w K mg base qual scope f cc cd A outer s H E).env.cells.lookup y = some c → y = "__class__" ∧ c = cc := fun {y c} e => by
    have e' : ([(("__class__" : Str), cc)] : List (Str × Addr)).lookup y = some c := e
    rw [List.lookup_cons] at e'
    cases q : y == ("__class__" : Str) with
    | true => rw [q] at e'; cases e'; exact ⟨beq_iff_eq.mp q, rfl⟩
    | false => rw [q] at e'; cases e'
  have kc := e0.mod.kin _ _ hcell
  refine ⟨⟨e0.mod, hkind, rfl, rfl, Nat.le_refl _, fun y z c h1 h2 => (cells h1).1.trans (cells h2).1.symm, fun y hy => ?_, fun y c z _ => ?_, fun _ => hd, Around.frames_deeper e0.frames, .inr ⟨rfl, rfl⟩, fun b z => absurd z (noA b), e0.bs, e0.bsz, fun b _ _ => noA b, fun b z => absurd z (noA b), e0.funs, e0.frf⟩,
    rfl, e0.bare, Un.kept hk, ⟨_, hns, fun i y v h1 h2 h3 => ?_⟩, fun y c h => ?_, e0.hok.fresh (Nat.le_refl _), fun y c h => ?_, fun p hp => absurd (show p ∈ ([] : List (Addr × Obj)) from hp) (by simp), e0.hok.kept hk, rfl⟩
  · have hy : scope.names.lookup y = some .cell ∨ scope.names.lookup y = some .free := hy
    rcases hy with hy | hy
    · exact absurd rfl (hc _ (PySem.mem_of_lookup hy))
    · have e := hf _ (PySem.mem_of_lookup hy) rfl
      have e' : y = "__class__" := e
      subst e'
      exact ⟨cc, rfl⟩
  · have z : false = true := z
    cases z
  · match i, h1, h2 with
    | 0, h1, h2 =>
      cases h1
      cases h2
      exact ⟨u0, r0, .inl ⟨hks, rfl⟩⟩
    | 1, h1, h2 =>
      cases h1
      cases h2
      exact ⟨u1, r1, .inl ⟨hkc, rfl⟩⟩
    | n + 2, h1, h2 => simp at h2
  · rw [(cells h).2]
    exact ⟨_, _, hk _ _ (e0.bs _ _ kc).1, rfl⟩
  · rw [(cells h).2]
    exact (e0.bs _ _ kc).2
/-- its promise -/
theorem sup_init (S : SupI P K T f fd) : FnOk P w K mg base CX (k + 1) f fd ["self", "code"] (spT K T) := by
  refine ⟨fun vs H Q E h => ?_, fun A outer s H args us vs Q E hr e0 hb r hsp => ?_⟩
  · obtain ⟨a, C, y, rfl, _⟩ := h
    rfl
  obtain ⟨a, C, y, rfl, O, ea, go⟩ := hsp
  obtain ⟨qual, params, ar, body, scope, oc, od, dV, kV, doc, pm, an, cda, cc, ct, osl, rfl, ⟨p0, p1, p2, p3, p4, p5, p6, p7, p8, p9, hev, rfl⟩, lk, hcd, hp, har, ⟨oc2, od2, cvs, sl2, file, tf, hcda, hvs, hfile⟩, hcl, hnc, hnf, hsup, hcls, hself, hcode, hkind, hco, hgen⟩ := S.ex
  obtain ⟨u0, u1, rfl, r0, r1⟩ := r.two
  obtain rfl : u0 = Value.ref a := r0
  have KX : K.In s.heap := e0.mod.kin.keeps fun b o e => (e0.bs b o e).1
  have lim : s.heap.NoLimit := e0.mod.nolimit.keeps fun b o e => (e0.bs b o e).1
  refine PySem.ks_codeAny_call_defAt (fd := PySem.W.ksFn "__init__" qual params _ scope dV kV doc pm an (.ref cda) ct cc) (binds := [("self", .ref a), ("code", u1)]) hr.depth (KX _ _ lk) rfl lim (PySem.W.codeRec_of KX hcd) rfl hb hnc ?_ (fun h₁ hns hk => ?_) hco hgen hkind
  · intro x hx
    rcases List.mem_cons.mp hx with e | hx
    · rw [e]; exact hself
    · rw [List.mem_singleton.mp hx]; exact hcode
  have I := sup_start (CX := CX) (f := f) (qual := qual) (cd := .ref cda) (E := E) (tk := s.toks + 2) hr.hd e0 hcl hnc hnf hself hcode hkind (v0 := .ref a) (v1 := y) rfl r1 hns hk
  obtain ⟨nm, q, N, bs, bm, sn, sub, ab, col, dd, k0, k1, k2, k3, k5, hC, hbm⟩ := O.oex.cls
  obtain ⟨cdT, hT⟩ := S.cls
  let s1 : Shared := { s with heap := h₁, toks := s.toks + 2 }
  have I : Inv (supCx CX P w K mg base qual scope f cc (.ref cda) A outer s H E) [] [some (.ref a), some y] H s1 := I
  have KX1 : K.In h₁ := I.kIn
  obtain ⟨oD, hD1, hD2⟩ : ∃ oD, h₁.get? T = some oD ∧ oD.data = .cls cdT := by
    unfold PySem.W.clsIn at hT
    split at hT
    · rename_i c d cd' sl ho
      cases hT
      exact ⟨_, KX1 _ _ ho, rfl⟩
    · cases hT
  obtain ⟨t1, hx⟩ := exo_at I.hok ea
  have hxC : a ≠ C := fun z => by
    have e1 := KX1 _ _ hC
    rw [← z, hx] at e1
    cases e1
  have hsub : PySem.W.Looks (model P w) h₁ (isSubtype (.ref C) (.ref T)) true := PySem.W.looks_mroIn KX1 O.mro
  let env : Env := PySem.W.ksEnv qual scope s.heap.objs.size f (.ref cda) cc
  have hnsE : h₁.Ns env.locals (fun x => [(("self" : Str), Value.ref a), (("code" : Str), u1)].reverse.lookup x) := hns
  refine PySem.ks_wpAt_execs_cons (PySem.ks_wpAt_Expr_any (PySem.ks_wpAt_MethodCall (env := env) ?_ (hev env).choose_spec) (by show interactive env = false; unfold interactive; rw [show env.scope.kind = _ from hkind] <;> rfl) (by rfl))
  refine PySem.ks_wpAt_super_base (env := env) hsup hcls rfl rfl (KX1 _ _ lk) rfl hp rfl (KX1 _ _ hcda) rfl hvs hfile S.top ?_
  obtain ⟨mb, b1, b2⟩ := e0.mod.blt
  refine PySem.W.ks_loadName_global hkind hsup (loadGlobal_builtin (env := env) (e0.mod.glob.keeps I.bk) (PySem.W.mg_none_of e0.mod.kin e0.mod.glob S.sup) (b1.keeps I.bk) ((b2 "super" (by decide)).trans (by decide +kernel)) ⟨rfl, ?_⟩)
  obtain ⟨oc3, od3, sl3, hcc⟩ := hcl
  refine wpAny_loadName_free hkind hcls rfl ⟨_, KX1 _ _ hcc, rfl⟩ ?_
  rw [har]
  refine wpAny_loadName_local hkind hself hnsE rfl ?_
  refine PySem.ks_wpAny_isType_cls hD1 hD2 ⟨rfl, ?_⟩
  refine PySem.ks_wpAny_call_super hD1 hD2 hx rfl (fun c e => by cases e) hsub (fun h' e k => ?_)
  -- the method
  have I2 : Inv (supCx CX P w K mg base qual scope f cc (.ref cda) A outer s H E) [] [some (.ref a), some y] H { s with heap := h', toks := s.toks + 2 } := I.kept k
  have hcdC : ∃ cd, PySem.W.clsIn K C = some cd := by
    have z := O.sup
    unfold PySem.W.ks_superIn at z
    cases q : PySem.W.clsIn K C with
    | none => rw [q] at z; cases z
    | some cd => exact ⟨cd, rfl⟩
  obtain ⟨cdC, hcdC⟩ := hcdC
  have hal : PySem.W.alongIn K "__init__" ((cdC.mro.dropWhile (· != .ref T)).drop 1) = some (some (.builtin "ValueError.__init__")) := by
    have z := O.sup
    unfold PySem.W.ks_superIn at z
    rw [hcdC] at z
    exact z
  have hmro : PySem.W.Looks (model P w) h' (mroOf (.ref C)) cdC.mro := fun A Q E s k q => wpAny_bind ((PySem.W.looks_clsIn I2.kIn hcdC) A _ E s k (wpAny_pure q))
  have LTy : PySem.W.Looks (model P w) h' (typeOf (.ref a)) (.ref C) := fun A Q E s k2 q => wpAny_typeOf_ref (k2 _ _ (k _ _ hx)) q
  have hI : PySem.W.Looks (model P w) h' (isInstance (.ref a) (.type "ValueError")) true := LTy.andThen (PySem.W.looks_subIn I2.kIn O.sub)
  refine PySem.W.kxs_getMethod PySem.W.kxs_ValueError (by exact e) (PySem.W.looks_opaque I2.kIn S.opq) hmro rfl I2.kIn hal hI hxC (by decide) ?_
  have kp : ∀ b o, h'.get? b = some o → (h'.push (PySem.W.kxs_mw "ValueError.__init__" a)).get? b = some o := fun b o e => Heap.get?_push_of_some _ e
  have I3 : Inv (supCx CX P w K mg base qual scope f cc (.ref cda) A outer s H E) [] [some (.ref a), some y] H { s with heap := h'.push (PySem.W.kxs_mw "ValueError.__init__" a), toks := s.toks + 2 + 1 } := I2.kept kp
  have hu : (h'.push (PySem.W.kxs_mw "ValueError.__init__" a)).get? h'.objs.size = some (PySem.W.kxs_mw "ValueError.__init__" a) := Heap.get?_push_size _ rfl
  refine PySem.W.kxs_callWith (i := "ValueError.__init__") (x := a) rfl (evalArgs_plain ?_)
  obtain ⟨m3, hm3⟩ : ∃ m, (h'.push (PySem.W.kxs_mw "ValueError.__init__" a)).Ns env.locals m ∧ m "code" = some u1 := by
    obtain ⟨o, es, ep, ho, r⟩ := hnsE
    exact ⟨_, ⟨o, es, ep, kp _ _ (k _ _ ho), r⟩, rfl⟩
  show wpAny _ _ (spliced ((false, eval (.Name "code" p3) env) :: backTo p4 (starEach [] env))) _ _ _
  refine PySem.Calls.spliced_cons (ESX.ldL (env := env) hm3.1 hm3.2 (PySem.Calls.spliced_nil ⟨hu, ?_⟩) hkind hcode)
  refine mw_init (X := supCx CX P w K mg base qual scope f cc (.ref cda) A outer s H E) (us := [u1]) O.oex I3 ea hu (by show 1 ≤ sizeLine; rw [sizeLine_eq]; omega) fun s4 I4 => ?_
  refine wpAt_of_wpAny ?_
  have hps : PSs (supCx CX P w K mg base qual scope f cc (.ref cda) A outer s H E) [.Assign [.Attribute (.Name "self" p6) "code" p7] (.Name "code" p8) p9] _ := pss_one (ps_ost (o := .Name "self" p6) (e := .Name "code" p8) (pe_var (i := 0) rfl (.inl hself)) (pe_var (i := 1) rfl (.inl hcode)))
  refine wpAny_mono (hps.run [] s4 [some (.ref a), some y] H { nx := fun _ H' => Q .non H', rt := Q } I4 ?_) (fun fl s' hs => ?_) fun e s' hs => hs
  · exact ⟨y, rfl, .ref a, rfl, a, C, rfl, O.oex, O.no, .inl ⟨ea, go⟩⟩
  · have fin : ∀ {σ' : L2.St} {H' : Hp} {v : V} {u : Value}, Inv (supCx CX P w K mg base qual scope f cc (.ref cda) A outer s H E) [] σ' H' s' → RelV v u → Q v H' → CE outer P w H s Q u s' :=
      fun {σ' H' v u} J rv q => ⟨v, H', J.os, J.bare, J.base, J.hok, rv, q⟩
    cases fl with
    | ret u =>
      obtain ⟨v, σ', H', J, rv, q⟩ := hs
      exact fin J rv q
    | next =>
      obtain ⟨σ', H', J, q⟩ := hs
      exact fin (v := V.non) (u := Value.none) J rfl q
    | brk =>
      obtain ⟨_, _, _, q⟩ := hs
      exact False.elim q
    | cont =>
      obtain ⟨_, _, _, q⟩ := hs
      exact False.elim q
end
end PX
namespace PX
open PySem PySem.Spec PyProof.Rows L2 PySem.Calls
structure ClsFn (K : PySem.W.Frag) (T : Addr) (m : Str) (f : Addr) : Prop where
  rd : PySem.W.readsIn K T (.type "type") = true
  ga : PySem.W.specialIn K (.ref T) "__getattribute__" = some (some (.builtin "type.__getattribute__"))
  at_ : PySem.W.findCls K (.ref T) (.type "type") m = some (.val (.ref f))
  ty : PySem.W.typeIn K (.ref f) = some (.type "function")
  kp : PySem.W.keepIn K (.ref f) = true
theorem clsfn_get {K : PySem.W.Frag} {T f : Addr} {m : Str} {prog : Program} {w : World} {A : Around} {E : Value → Shared → Prop} {s : Shared} {pl : Sem Bool} {Q : Value × List Value → Shared → Prop} (c : ClsFn K T m f) (X : K.In s.heap) (h : Q (.ref f, []) { s with toks := s.toks + 1 }) :
    wpAny (model prog w) A (getMethod (.ref T) m pl) Q E s := by
  exact PySem.W.method_cls X c.ga (PySem.W.cls_value X c.rd c.at_ rfl h)
section
variable {X : Cx} {CX : CXT} {k : Nat} {f T : Addr} {fd : FuncData} {ps : List Str} {sp : Sp} {E : XK} {x m : Str} {p pos apos : Pos} {e : Expr} {es : List Expr} {t : TA}
theorem pe_clsfn {pl : Sem Bool} (hg : Gl X x) (hm : X.mg x = some (.ref T)) (c : ClsFn X.K T m f) (F : FnOk X.prog X.w X.K X.mg X.base CX k f fd ps sp) (hr : Room k X.A) (hb : Binds X.K fd ps []) (hx : Passes CX X E) (ha : PA X (e :: es) t)
    (ht : eval (.Call (.Attribute (.Name x p) m apos) (e :: es) [] pos) X.env = (do
      let ov ← eval (.Name x p) X.env
      standAt apos.atName
      let (f, first) ← holding [ov] (getMethod ov m pl)
      callWith pos f first (backTo pos (starEach (e :: es) X.env)) (backToKw pos (keywordEach [] X.env))) := by rfl)
    (hdb : (x == ("__debug__" : Str)) = false := by decide) (hst : starEach (e :: es) X.env = (false, eval e X.env) :: starEach es X.env := by rfl) (hpl : (backTo pos (starEach es X.env)).any (·.1) = false := by rfl) :
    PE X (.Call (.Attribute (.Name x p) m apos) (e :: es) [] pos) (tCall sp [] E t) := by
  refine ⟨fun pins s σ H Q I h => ?_⟩
  refine PySem.W.methodCall_KW (pl := pl) (ld_glob I hg hm ?_ hdb) ht
  refine clsfn_get c I.kIn ?_
  have I1 := I.tok (s.toks + 1)
  refine PySem.W.callWith_K (first := []) (h₀ := X.base) I.ok.mod.kin c.kp (thn (ha.run pos pins _ σ H _ I1 h) fun us s1 ⟨vs, H1, I2, r, q⟩ => ⟨I2.kIn, ?_⟩) hst hpl
  exact run_fn F hr hb .nil hx I2 r q
end
theorem heap_two {H : Hp} {a dx : Addr} {o u u' : HO} (ne : dx ≠ a) : upd (upd (upd H dx u) a o) dx u' = upd (upd H dx u') a o := by
  funext b
  by_cases h1 : b = dx
  · subst h1
    rw [upd_same, upd_ne ne, upd_same]
  · rw [upd_ne h1]
    by_cases h2 : b = a
    · subst h2
      rw [upd_same, upd_same]
    · rw [upd_ne h2, upd_ne h2, upd_ne h1, upd_ne h1]
def spX0 (K : PySem.W.Frag) (T : Addr) (code : Str) : Sp := fun vs H Q _ => ∃ (a C : Addr), vs = [.ref a] ∧ OverT K T C ∧ H a = some (exo a C none) ∧ ∀ dx, H dx = none → dx ≠ a → Q .non (upd (upd H dx (exd dx [("code", .str code)])) a (exo a C (some dx)))
def spX1 (K : PySem.W.Frag) (T : Addr) (f code : Str) : Sp := fun vs H Q _ => ∃ (a C : Addr) (y : V), vs = [.ref a, y] ∧ OverT K T C ∧ PySem.W.findIn K (.ref C) f = some none ∧ H a = some (exo a C none) ∧ ∀ dx, H dx = none → dx ≠ a → Q .non (upd (upd H dx (exd dx [(f, y), ("code", .str code)])) a (exo a C (some dx)))
section
variable {P : Program} {w : World} {K : PySem.W.Frag} {mg : Str → Option Value} {base : Heap} {CX : CXT} {k : Nat} {T fT : Addr} {fdT : FuncData} {X : Cx}
/-- what one has of T's own __init__ -/
structure TopI (P : Program) (w : World) (K : PySem.W.Frag) (mgl : Str → Option Value) (base : Heap) (CX : CXT) (x : Str) (T : Addr) : Prop where
  ex : ∃ (fT : Addr) (fdT : FuncData), mgl x = some (.ref T) ∧ ClsFn K T "__init__" fT ∧ FnOk P w K mgl base CX 1 fT fdT ["self", "code"] (spT K T) ∧ Binds K fdT ["self", "code"] []
theorem cx_never {P : Program} {w : World} {outer : List Env} {H : Hp} {s s' : Shared} {e : Value} (h : L2.CX P w outer H s (fun _ _ _ => False) e s') : False := by
  obtain ⟨_, _, _, _, _, _, _, _, _, _, _, _, z⟩ := h
  exact z
/-- x.__init__(self, code) of the text -/
def callT (x code : Str) (j : Nat) (e : Expr) : Prop := ∃ p1 p2 p3 p4 p5, (∀ env : Env, ∃ pl : Sem Bool, eval (.Call (.Attribute (.Name x p1) "__init__" p2) [.Name "self" p3, .Constant (.str code) j p4] [] p5) env = (do
      let ov ← eval (.Name x p1) env
      standAt p2.atName
      let (f, first) ← holding [ov] (getMethod ov "__init__" pl)
      callWith p5 f first (backTo p5 (starEach [.Name "self" p3, .Constant (.str code) j p4] env)) (backToKw p5 (keywordEach [] env)))) ∧ e = .Call (.Attribute (.Name x p1) "__init__" p2) [.Name "self" p3, .Constant (.str code) j p4] [] p5
theorem pe_callT {x code : Str} {j : Nat} {e : Expr} {T : Addr} (h : callT x code j e) (G : TopI X.prog X.w X.K X.mg X.base (L2.CX X.prog X.w) x T) (hr : Room k X.A) (hk : 1 ≤ k) (hg : Gl X x) (hN : X.N[0]? = some ("self" : Str)) (hs : X.env.scope.names.lookup ("self" : Str) = some .local) (hdb : (x == ("__debug__" : Str)) = false) :
    PE X e (tCall (spT X.K T) [] (fun _ _ _ => False) (tCons (tVar 0) (tCons (tC (.str code)) tNil))) := by
  obtain ⟨p1, p2, p3, p4, p5, ht, rfl⟩ := h
  obtain ⟨fT, fdT, hm, c, F, hb⟩ := G.ex
  exact pe_clsfn hg hm c F (hr.mono hk) hb (fun pins σ H s e s' I c => (cx_never c).elim) (pa_cons (pe_var (i := 0) hN (.inl hs)) (pa_cons pe_str pa_nil)) (ht X.env).choose_spec hdb
def xBody1 (x code f prm : Str) (b : List Stmt) : Prop := ∃ j e p p7 p8 p9 p10, callT x code j e ∧ b = [.Expr e p, .Assign [.Attribute (.Name "self" p7) f p8] (.Name prm p9) p10]
theorem exc_init1 {x code fl prm : Str} {qual : Str} {params : Arguments} {body : List Stmt} {scope : Scope} {f T : Addr} {fd : FuncData} (F : FunD K "__init__" qual params body scope [] [] f fd) (S : FnScope ["self", prm] ["self", prm] scope) (hb : xBody1 x code fl prm body) (hg : scope.names.lookup x = some .globalImplicit) (hdb : (x == ("__debug__" : Str)) = false)
    (hs : scope.names.lookup ("self" : Str) = some .local) (hp : scope.names.lookup prm = some .local) (hpd : (prm == ("__debug__" : Str)) = false) (hpc : (prm == ("__classdict__" : Str)) = false) (G : TopI P w K mg base (L2.CX P w) x T) : FnOk P w K mg base (L2.CX P w) 2 f fd ["self", prm] (spX1 K T fl code) := by
  refine F.ok S (fun vs H Q E h => ?_) (fun cdv A outer s H vs Q E hr h => ?_)
  · obtain ⟨a, C, y, rfl, _⟩ := h
    rfl
  · obtain ⟨a, C, y, rfl, O, hfl, ea, go⟩ := h
    obtain ⟨j, e, p, p7, p8, p9, p10, hc, rfl⟩ := hb
    have hcall := pe_callT (X := cxOf (L2.CX P w) P w K mg base ["self", prm] qual scope f cdv A outer s H E) hc G hr (by decide) hg rfl hs hdb
    obtain ⟨p1, p2, p3, p4, p5, ht, rfl⟩ := hc
    refine ⟨_, pss_cons (ps_expr hcall) (pss_one (ps_ost (pe_var (i := 0) rfl (.inl hs)) (pe_var (i := 1) rfl (.inl hp) hpd hpc))), ?_⟩
    refine ⟨.ref a, rfl, a, C, .str code, rfl, O, ea, fun dx n ne => ?_⟩
    refine ⟨y, rfl, .ref a, rfl, a, C, rfl, O.oex, hfl, .inr ⟨dx, [("code", .str code)], upd_same, (upd_ne ne).trans upd_same, by simp, ?_⟩⟩
    rw [heap_two ne]
    exact go dx n ne
end
end PX
namespace PX
open PySem PySem.Spec PyProof.Rows L2 PySem.Calls
end PX
namespace PD
open PySem PySem.Spec PyProof.Rows L2 PX
variable [LamTab]
/-- C's __init__ stores these fields: n = 0: the code alone -/
structure ExcC (P : Program) (w : World) (K : PySem.W.Frag) (mg : Str → Option Value) (base : Heap) (C : Str) (fl : Option Str) (code : Str) : Prop where
  ex : ∃ (Ca fI T : Addr) (fd : FuncData) (prm : Str), mg C = some (.ref Ca) ∧ OverT K T Ca ∧ PySem.W.findIn K (.ref Ca) "__init__" = some (some (.ref fI)) ∧ PySem.W.typeIn K (.ref fI) = some (.type "function") ∧
    (match fl with
    | none => FnOk P w K mg base (L2.CX P w) 2 fI fd ["self"] (spX0 K T code) ∧ Binds K fd ["self"] []
    | some f => PySem.W.findIn K (.ref Ca) f = some none ∧ FnOk P w K mg base (L2.CX P w) 2 fI fd ["self", prm] (spX1 K T f code) ∧ Binds K fd ["self", prm] [])
def excFs (fl : Option Str) (code : List Nat) (ds : List D) : Option (List (Str × D)) := match fl, ds with
  | none, [] => some [("code", .str code)]
  | some f, [d] => some [(f, d), ("code", .str code)]
  | _, _ => none
def msRaise (C : Str) (fl : Option Str) (code : List Nat) (a : M (List D)) : MS := fun ε h => bS (a ε h) ε fun ds h1 => match excFs fl code ds with
  | some fs => some (.ex ⟨C, fs⟩ ε, h1)
  | none => none
theorem del_upd {H : Hp} {a d : Addr} {o0 o u o' : HO} (ha : H a = none) (ne : d ≠ a) : upd (del (upd (upd (upd H a o0) d u) a o) a) d o' = upd H d o' := by
  funext b
  by_cases h1 : b = d
  · subst h1
    rw [upd_same, upd_same]
  · rw [upd_ne h1, upd_ne h1]
    by_cases h2 : b = a
    · subst h2
      rw [del_same, ha]
    · rw [del_ne h2, upd_ne h2, upd_ne h1, upd_ne h2]
section
variable {X : Cx} {W : WX}
theorem raise_end {C : Str} {Ca : Addr} {fs : List (Str × D)} {vs : List (Str × V)} {c : RC} {h : EH} {ε : Ev} {σ : L2.St} {D : Ends} {a dx : Addr} {o0 o u : HO} (sr : SR c h) (er : EnvR c ε σ) (hm : c.mg C = some (.ref Ca)) (rf : RepF c fs vs) (fin : Fin W D c (.ex ⟨C, fs⟩ ε) h) (ha : c.H a = none) (hd : c.H dx = none) (ne : dx ≠ a) :
    W (.ref Ca) (some dx) σ (upd (del (upd (upd (upd c.H a o0) dx u) a o) a) dx (.xd vs)) := by
  rw [del_upd ha ne]
  obtain ⟨l, s, f⟩ := sr.new (o := .xd vs) hd
  exact fin (c.put dx (.xd vs)) σ (.ref Ca) (some dx) l s (er.le l) ⟨Ca, dx, vs, rfl, hm, rfl, upd_same, f, rf.le l⟩
theorem raise_heap {H : Hp} {a dx : Addr} {o : HO} {C : Addr} {fs : List (Str × V)} (n : upd H a (exo a C none) dx = none) (ne : dx ≠ a) : (upd (upd (upd H a (exo a C none)) dx (exd dx fs)) a o) a = some o ∧ (upd (upd (upd H a (exo a C none)) dx (exd dx fs)) a o) dx = some (exd dx fs) ∧ H dx = none :=
  ⟨upd_same, (upd_ne ne).trans upd_same, by rw [upd_ne ne] at n; exact n⟩
theorem rs_raise1 {C code f : Str} {cs : List Nat} {e : Expr} {ma : M (List D)} {p pos pos' : Pos} {j : Nat} (G : ExcC X.prog X.w X.K X.mg X.base C (some f) code) (hcs : code.cps.toList = cs) (hr : Room j X.A) (hk : 3 ≤ j) (hc : X.calm = true) (tk : Takes X W) (ha : RA X W [e] ma) (hg : Gl X C) (hdb : (C == ("__debug__" : Str)) = false)
    (he : starEach [e] X.env = (false, eval e X.env) :: starEach [] X.env := by rfl) (hpl : (backTo pos (starEach [] X.env)).any (·.1) = false := by rfl) :
    RSt X W (.Raise (some (.Call (.Name C p) [e] [] pos)) none pos') (msRaise C (some f) cs ma) := by
  obtain ⟨Ca, fI, T, fd, prm, hm, O, iC, tI, hF⟩ := G.ex
  subst hcs
  obtain ⟨hno, F1, hb⟩ := hF
  refine ps_imp (ps_raise hc tk (pmk_oex (ds := []) (dvs := []) O.oex iC tI F1 (hr.mono hk) hb .nil (fun pins σ H s e s' I c => (cx_never c).elim) hg hm ha hdb he hpl)) fun D σ H h => ?_
  obtain ⟨c, ε, h, r, h', hK, hmg, rfl, sr, er, e, fin⟩ := h
  unfold tMkO
  refine tX.stm hK hmg sr er e fin fun ds h1 c1 vs e1 l1 s1 r1 => ?_
  match ds, vs, r1, e1 with
  | [d], [v], .cons rd .nil, e1 =>
    cases e1
    refine ⟨by simp, fun a ha => ?_⟩
    refine ⟨a, Ca, v, rfl, O, hno, upd_same, fun dx n ne => ?_⟩
    obtain ⟨k1, k2, k3⟩ := raise_heap (o := exo a Ca (some dx)) (fs := [(f, v), ("code", .str code)]) n ne
    exact ⟨rfl, dx, _, k1, k2, k3, raise_end s1 (er.le l1) (by rw [l1.mg.e', hmg.mge]; exact hm) (.cons rd (.cons (by simpa using Rep.str code.cps.toList) .nil)) (fin.le l1) ha k3 ne⟩
  | [], _, _, e1 => cases e1
  | _ :: _ :: _, _, _, e1 => cases e1
end
end PD
namespace PX
open PySem PySem.Spec PyProof.Rows L2 PySem.Calls
end PX
namespace PX
open PySem PySem.Spec PyProof.Rows L2 PySem.Calls PD
variable [LamTab]
def hide (z : Addr → Option Obj) (H : Hp) : Hp := fun b => if (z b).isSome then none else H b
theorem hide_out {z : Addr → Option Obj} {H : Hp} {b : Addr} (h : z b = none) : hide z H b = H b := by
  unfold hide
  rw [h]
  rfl
theorem cel_ne {b : Addr} {o : Obj} : (∀ xs, celHO b o ≠ .tup xs) ∧ (∀ x u, celHO b o ≠ .frz x u) ∧ (∀ ps, celHO b o ≠ .tbl ps) ∧ ∀ x, celHO b o ≠ .own x :=
  ⟨fun _ z => (by unfold celHO at z; cases z), fun _ _ z => (by unfold celHO at z; cases z), celHO_tbl, fun _ z => (by unfold celHO at z; cases z)⟩
/-- z's objects are tracked in H -/
def InH (z : Addr → Option Obj) (H : Hp) : Prop := ∀ b o, z b = some o → H b = some (celHO b o)
end PX
namespace PD
open PySem PySem.Spec PyProof.Rows L2 PX
variable [LamTab]
def noFn : D → Bool
  | .fn _ _ => false
  | .tup ds => go ds
  | .lst ds => go ds
  | .scr ds => go ds
  | .obj _ fs => gf fs
  | .exc _ fs => gf fs
  | .dic _ kvs => gp kvs
  | _ => true
where
  go : List D → Bool
  | [] => true
  | d :: ds => noFn d && go ds
  gf : List (Str × D) → Bool
  | [] => true
  | (_, d) :: ds => noFn d && gf ds
  gp : List (List Key × D) → Bool
  | [] => true
  | (_, d) :: ds => noFn d && gp ds
def noFnC : Cell → Bool
  | .lst ds => noFn.go ds
  | .dic _ kvs => noFn.gp kvs
  | .obj _ fs => noFn.gf fs
abbrev RC.hide (c : RC) (z : Addr → Option Obj) : RC := { c with H := PX.hide z c.H }
/-- z's objects are captured cells, in c -/
structure Zs (c : RC) (z : Addr → Option Obj) : Prop where
  inH : InH z c.H
  fr : ∀ b o, z b = some o → c.fr b
  exc : ∀ a Ca dx, c.H a = some (excHO a Ca dx) → z a = none
  code : ∀ a q, c.H a = some (LamX.CodeO a q) → z a = none
theorem Zs.out {c : RC} {z : Addr → Option Obj} (h : Zs c z) {a : Addr} {u : HO} (e : c.H a = some u) (n : ∀ b o, u ≠ celHO b o) : PX.hide z c.H a = some u := by
  cases y : z a with
  | none => rw [hide_out y]; exact e
  | some o => rw [h.inH a o y] at e; exact (n a o (Option.some.inj e).symm).elim
theorem Zs.rd {c : RC} {z : Addr → Option Obj} (h : Zs c z) {a : Addr} {xs : List V} (e : Rd c.H a (.tup xs)) : Rd (PX.hide z c.H) a (.tup xs) := by
  rcases e with e | ⟨o, e⟩
  · exact .inl (h.out e fun b o q => cel_ne.1 _ q.symm)
  · exact .inr ⟨o, h.out e fun b o q => cel_ne.2.1 _ _ q.symm⟩
mutual
theorem Rep.hide {c : RC} {z : Addr → Option Obj} (hz : Zs c z) : ∀ {d : D} {v : V}, Rep c d v → noFn d = true → Rep (c.hide z) d v
  | _, _, .non, _ => .non
  | _, _, .bl b, _ => .bl b
  | _, _, .int i, _ => .int i
  | _, _, .str cs, _ => .str cs
  | .tup ds, _, .tup h r, e => .tup (h.imp hz.rd id) (Reps.hide hz r (by rw [noFn] at e; exact e))
  | .lst ds, _, .lst h f r, e => .lst (hz.out h fun b o q => by unfold celHO at q; cases q) f (Reps.hide hz r (by rw [noFn] at e; exact e))
  | .scr ds, _, .scr h r, e => .scr (h.imp (fun ⟨o, h⟩ => ⟨o, hz.out h fun b o q => cel_ne.2.1 _ _ q.symm⟩) id) (Reps.hide hz r (by rw [noFn] at e; exact e))
  | .obj C fs, _, .obj m h f r, e => .obj m (hz.out h fun b o q => by unfold celHO at q; cases q) f (RepF.hide hz r (by rw [noFn] at e; exact e))
  | .dic t kvs, _, .dic h i f r, e => .dic (hz.out h fun b o q => by
      subst q
      rcases i with ⟨_, _, q, _⟩ | ⟨_, q⟩ <;> (unfold celHO at q; cases q)) i f (RepP.hide hz r (by rw [noFn] at e; exact e))
  | .fn i ds, _, .fn _ _ _ _ _ _, e => by cases e
  | .exc C fs, _, .exc m h f h2 f2 r, e => .exc m ((hide_out (hz.exc _ _ _ h)).trans h) f (hz.out h2 fun b o q => by unfold celHO at q; cases q) f2 (RepF.hide hz r (by rw [noFn] at e; exact e))
  | _, _, .ref h, _ => .ref h
theorem Reps.hide {c : RC} {z : Addr → Option Obj} (hz : Zs c z) : ∀ {ds : List D} {vs : List V}, Reps c ds vs → noFn.go ds = true → Reps (c.hide z) ds vs
  | _, _, .nil, _ => .nil
  | _, _, .cons h t, e => by
    rw [noFn.go, Bool.and_eq_true] at e
    exact .cons (Rep.hide hz h e.1) (Reps.hide hz t e.2)
theorem RepP.hide {c : RC} {z : Addr → Option Obj} (hz : Zs c z) : ∀ {ds : List (List Key × D)} {vs : List (List Key × V)}, RepP c ds vs → noFn.gp ds = true → RepP (c.hide z) ds vs
  | _, _, .nil, _ => .nil
  | _, _, .cons h t, e => by
    rw [noFn.gp, Bool.and_eq_true] at e
    exact .cons (Rep.hide hz h e.1) (RepP.hide hz t e.2)
theorem RepF.hide {c : RC} {z : Addr → Option Obj} (hz : Zs c z) : ∀ {ds : List (Str × D)} {vs : List (Str × V)}, RepF c ds vs → noFn.gf ds = true → RepF (c.hide z) ds vs
  | _, _, .nil, _ => .nil
  | _, _, .cons h t, e => by
    rw [noFn.gf, Bool.and_eq_true] at e
    exact .cons (Rep.hide hz h e.1) (RepF.hide hz t e.2)
end
theorem Zs.tabs {c : RC} {z : Addr → Option Obj} (hz : Zs c z) (t : c.tabs) : (c.hide z).tabs := fun p hp => codeO_ext (t p hp) (by
  obtain ⟨ps, k1, _⟩ := t p hp
  exact (hz.out k1 fun b o q => cel_ne.2.2.1 _ q.symm).trans k1.symm) fun a e => (hide_out (hz.code a _ e)).trans e
theorem MgE.hide {c : RC} {z : Addr → Option Obj} {mg : Str → Option Value} (hz : Zs c z) (m : MgE c mg) : MgE (c.hide z) mg := ⟨m.e, fun t => hz.tabs (m.t t)⟩
theorem SR.hide {c : RC} {h : EH} {z : Addr → Option Obj} (hz : Zs c z) (s : SR c h) (hc : h.all noFnC = true) : SR (c.hide z) h := by
  refine ⟨s.len, s.nd, fun n a k e1 e2 => ?_, s.nb, fun a b => ?_⟩
  · have r := s.cells n a k e1 e2
    have hk : noFnC k = true := List.all_eq_true.mp hc k (List.mem_of_getElem? e2)
    have y : z a = none := by
      cases y : z a with
      | none => rfl
      | some o => exact ((hz.fr a o y).2 (List.mem_of_getElem? e1)).elim
    cases k with
    | lst ds => obtain ⟨xs, h1, h2⟩ := r; exact ⟨xs, (hide_out y).trans h1, h2.hide hz hk⟩
    | dic t kvs => obtain ⟨o, zs, h1, h3, h2⟩ := r; exact ⟨o, zs, (hide_out y).trans h1, h3, h2.hide hz hk⟩
    | obj C fs => obtain ⟨Ca, dx, vs, h0, h1, h2⟩ := r; exact ⟨Ca, dx, vs, h0, (hide_out y).trans h1, h2.hide hz hk⟩
  · obtain ⟨o, e⟩ := s.bt a b
    have y : z a = none := by
      cases y : z a with
      | none => rfl
      | some o => exact ((hz.fr a o y).1 b).elim
    exact ⟨o, (hide_out y).trans e⟩
/-- what is asked of its text -/
structure LamOk (l : LamD) : Prop where
  kind : l.scope.kind = .function
  co : l.scope.isCoroutine = false
  gen : l.scope.isGenerator = false
  cell : ∀ y ∈ l.scope.names, y.2 ≠ .cell
  free : ∀ y ∈ l.scope.names, y.2 = .free → y.1 ∈ l.caps
  caps : ∀ y ∈ l.caps, l.scope.names.lookup y = some .free
  bind : l.df = false → ∀ (cl : List (Str × Addr)) (doc pm cv ctv : Value), bindArgs (PySem.W.kdv_fn "<lambda>" l.qual l.params (.expr l.body) l.scope cl .none doc pm cv ctv) ⟨[], []⟩ = pure []
  bindD : l.df = true → ∃ pn, l.scope.names.lookup pn = some .local ∧ ∀ (cl : List (Str × Addr)) (dV doc pm cv ctv : Value), ∃ k : Option (Array Value) → Sem (List (Str × Value)),
    bindArgs (PySem.W.kdv_fn "<lambda>" l.qual l.params (.expr l.body) l.scope cl dV doc pm cv ctv) ⟨[], []⟩ = (seqItems? dV >>= k) ∧ ∀ t : Tok, k (some #[.int 0 t]) = pure [(pn, .int 0 t)]
def lamCx (P : Program) (w : World) (K : PySem.W.Frag) (mg : Str → Option Value) (base : Heap) (l : LamD) (cl : List (Str × Addr)) (f c' : Addr) (A : Around) (outer : List Env) (s : Shared) (H : Hp) (E : XK) : Cx where
  prog := P
  w := w
  K := K
  mg := mg
  base := base
  A := A.deeper (PySem.W.envX l.qual l.scope s.heap.objs.size f (.ref c') cl)
  N := l.caps
  s_0 := s
  H_0 := H
  env := PySem.W.envX l.qual l.scope s.heap.objs.size f (.ref c') cl
  outer := outer
  stack := PySem.W.envX l.qual l.scope s.heap.objs.size f (.ref c') cl :: outer
  ex := []
  fn := fun _ => false
  calm := true
  pn := []
  xe := fun e s' => wpAny (model P w) (A.deeper (PySem.W.envX l.qual l.scope s.heap.objs.size f (.ref c') cl)) (leaving (PySem.W.envX l.qual l.scope s.heap.objs.size f (.ref c') cl) e) (fun _ s'' => L2.CX P w outer H s E e s'') (fun e' s'' => L2.CX P w outer H s E e' s'') s'
/-- what a lambda gives: its body over no cells -/
def endL (x : O D) : Option (R D) := match x with
  | some (.ok d, h) => (frz h d).map .ok
  | some (.ex e, _) => if noRef.gf e.fs = true then some (.ex e) else none
  | none => none
def runL (m : M D) : PF := fun ds => endL (m (ds.map some) [])
/-- the lambda i is right: called it gives LF i -/
structure LamS (P : Program) (w : World) (K : PySem.W.Frag) (mg : Str → Option Value) (base : Heap) (k i : Nat) (F : PF) : Prop where
  ok : LamOk (LamTab.lam i)
  run : ∃ m, F = runL m ∧ ∀ (cl : List (Str × Addr)) (f c' : Addr) (A : Around) (outer : List Env) (s : Shared) (H : Hp) (E : XK), Room k (A.deeper (PySem.W.envX (LamTab.lam i).qual (LamTab.lam i).scope s.heap.objs.size f (.ref c') cl)) →
    RE (lamCx P w K mg base (LamTab.lam i) cl f c' A outer s H E) (fun cls d _ H' => E cls d H') (LamTab.lam i).body m
end PD
namespace PD
open PySem PySem.Spec PyProof.Rows L2 PX
end PD
namespace PD
open PySem PySem.Spec PyProof.Rows L2 PX LamX
variable [LamTab]
/-- the lambda i of this frame stands at f -/
def LamAt (X : Cx) (H : Hp) (i : Nat) (f : Addr) : Prop := ∃ (dV : Value) (c' : Addr), H f = some (lamHO (LamTab.lam i) (cloFrom X.env.cells (LamTab.lam i).scope.names []) dV c' f) ∧ H c' = some (CodeO c' (LamTab.lam i).qual) ∧
  (((LamTab.lam i).df = false ∧ dV = .none) ∨ ((LamTab.lam i).df = true ∧ ∃ (dt : Addr) (t : Tok), dV = .ref dt ∧ H dt = some (celHO dt (PySem.W.kdv_tup [.int 0 t]))))
theorem LamAt.ext {X : Cx} {H H' : Hp} {i : Nat} {f : Addr} (e : ExtN H H') (h : LamAt X H i f) : LamAt X H' i f := by
  obtain ⟨dV, c', h1, h2, h3⟩ := h
  refine ⟨dV, c', e _ _ h1 lamHO_tbl, e _ _ h2 codeO_ne, ?_⟩
  rcases h3 with h3 | ⟨q, dt, t, e1, e2⟩
  · exact .inl h3
  · exact .inr ⟨q, dt, t, e1, e _ _ e2 celHO_tbl⟩
/-- its text, its def's tables -/
structure LamW (X : Cx) (i : Nat) (c P : Addr) : Prop where
  TB : TabB X.base X.mg c P
  code : X.env.code = .ref c
  qual : X.env.qual ++ "<lambda>" = (LamTab.lam i).qual
  mem : (P, (LamTab.lam i).qual) ∈ LamTab.T
  uniq : ∀ p ∈ LamTab.T, p.1 = P → p.2 = (LamTab.lam i).qual
  free : ∀ y ∈ (LamTab.lam i).scope.names, y.2 = .free → ∃ c, X.env.cells.lookup y.1 = some c
  ck : ClOk (LamTab.lam i).caps (cloFrom X.env.cells (LamTab.lam i).scope.names [])
  df : ((LamTab.lam i).df = false ∧ (LamTab.lam i).params.defaults = [] ∧ (LamTab.lam i).params.kw_defaults = []) ∨ ((LamTab.lam i).df = true ∧ (∃ k p, (LamTab.lam i).params.defaults = [.Constant (.int 0) k p]) ∧ (LamTab.lam i).params.kw_defaults = [])
/-- what the making of it leaves -/
structure Made (H H1 : Hp) : Prop where
  ext : ExtN H H1
  tabs : Tabs LamTab.T H → Tabs LamTab.T H1
  dom : ∀ b o, H b = some o → ∃ o', H1 b = some o'
theorem Made.refl (H : Hp) : Made H H := ⟨ExtN.refl H, fun h => h, fun b o e => ⟨o, e⟩⟩
theorem Made.trans {H H1 H2 : Hp} (a : Made H H1) (b : Made H1 H2) : Made H H2 := ⟨a.ext.trans b.ext, fun h => b.tabs (a.tabs h), fun p o e => let ⟨o', q⟩ := a.dom p o e; b.dom p o' q⟩
theorem Made.of {H H1 : Hp} (e : ∀ b o, H b = some o → H1 b = some o) : Made H H1 := ⟨ExtN.of e, fun t => t.ext e, fun b o q => ⟨o, e b o q⟩⟩
end PD
namespace PD
open PySem PySem.Spec PyProof.Rows L2 PX LamX
variable [LamTab]
/-- data without lambdas, without exceptions -/
def plain : D → Bool
  | .fn _ _ => false
  | .exc _ _ => false
  | .tup ds => go ds
  | .lst ds => go ds
  | .scr ds => go ds
  | .obj _ fs => gf fs
  | .dic _ kvs => gp kvs
  | _ => true
where
  go : List D → Bool
  | [] => true
  | d :: ds => plain d && go ds
  gf : List (Str × D) → Bool
  | [] => true
  | (_, d) :: ds => plain d && gf ds
  gp : List (List Key × D) → Bool
  | [] => true
  | (_, d) :: ds => plain d && gp ds
end PD
namespace PD
open PySem PySem.Spec PyProof.Rows L2 PX LamX
variable [LamTab]
def capsE (ε : Ev) : List Nat → Option (List D)
  | [] => some []
  | k :: ks => match ε.getD k none, capsE ε ks with
    | some d, some ds => some (d :: ds)
    | _, _ => none
/-- the names that the lambda i captures: X's variables at ks -/
structure CapN (X : Cx) (i : Nat) (ks : List Nat) : Prop where
  names : ks.map (fun k => X.N[k]?) = (LamTab.lam i).caps.map some
  kind : ∀ y ∈ (LamTab.lam i).caps, X.env.scope.names.lookup y = some .cell ∨ X.env.scope.names.lookup y = some .free
  free : ∀ y ∈ (LamTab.lam i).caps, (LamTab.lam i).scope.names.lookup y = some .free
def OneR (X : Cx) (H : Hp) (ε : Ev) (p : Nat × List Nat) (d : D) (v : V) : Prop := ∃ ds f, d = .fn p.1 ds ∧ capsE ε p.2 = some ds ∧ v = .ref f ∧ LamAt X H p.1 f ∧ CapN X p.1 p.2
inductive OnesR (X : Cx) (H : Hp) (ε : Ev) : List (Nat × List Nat) → List D → List V → Prop
  | nil : OnesR X H ε [] [] []
  | cons {p : Nat × List Nat} {ps : List (Nat × List Nat)} {d : D} {ds : List D} {v : V} {vs : List V} : OneR X H ε p d v → OnesR X H ε ps ds vs → OnesR X H ε (p :: ps) (d :: ds) (v :: vs)
theorem OneR.ext {X : Cx} {H H1 : Hp} {ε : Ev} {p : Nat × List Nat} {d : D} {v : V} (e : ExtN H H1) (h : OneR X H ε p d v) : OneR X H1 ε p d v := by
  obtain ⟨ds, f, h1, h2, h3, h4, h5⟩ := h
  exact ⟨ds, f, h1, h2, h3, h4.ext e, h5⟩
theorem OnesR.ext {X : Cx} {H H1 : Hp} {ε : Ev} (e : ExtN H H1) : ∀ {ps : List (Nat × List Nat)} {ds : List D} {vs : List V}, OnesR X H ε ps ds vs → OnesR X H1 ε ps ds vs
  | _, _, _, .nil => .nil
  | _, _, _, .cons h t => .cons (h.ext e) (t.ext e)
end PD
namespace PD
open PySem PySem.Spec PyProof.Rows L2 PX LamX
variable [LamTab]
inductive LamsX (X : Cx) : List Expr → List (Nat × List Nat) → Prop
  | nil : LamsX X [] []
  | cons {i : Nat} {ks : List Nat} {c P : Addr} {pos : Pos} {es : List Expr} {ps : List (Nat × List Nat)} : LamW X i c P → CapN X i ks → LamsX X es ps → LamsX X (.Lambda (LamTab.lam i).params (LamTab.lam i).body (LamTab.lam i).scope pos :: es) ((i, ks) :: ps)
inductive LamAts (X : Cx) (H : Hp) : List (Nat × List Nat) → List V → Prop
  | nil : LamAts X H [] []
  | cons {p : Nat × List Nat} {ps : List (Nat × List Nat)} {f : Addr} {vs : List V} : LamAt X H p.1 f → LamAts X H ps vs → LamAts X H (p :: ps) (.ref f :: vs)
theorem LamAts.ext {X : Cx} {H H1 : Hp} (e : ExtN H H1) : ∀ {ps : List (Nat × List Nat)} {vs : List V}, LamAts X H ps vs → LamAts X H1 ps vs
  | _, _, .nil => .nil
  | _, _, .cons h t => .cons (h.ext e) (t.ext e)
theorem LamsX.names {X : Cx} : ∀ {es : List Expr} {ps : List (Nat × List Nat)}, LamsX X es ps → ∀ p ∈ ps, CapN X p.1 p.2
  | _, _, .nil, _, h => by cases h
  | _, _, .cons W N t, p, h => by
    rcases List.mem_cons.mp h with h | h
    · rw [h]; exact N
    · exact t.names p h
theorem LamAts.length {X : Cx} {H : Hp} : ∀ {ps : List (Nat × List Nat)} {vs : List V}, LamAts X H ps vs → vs.length = ps.length
  | _, _, .nil => rfl
  | _, _, .cons _ t => by rw [List.length_cons, List.length_cons, t.length]
end PD
namespace PD
open PySem PySem.Spec PyProof.Rows L2 PX LamX
variable [LamTab]
abbrev LA := RC → L2.St → Prop
/-- x (at ix) holds the list of the lambdas -/
def LAt (X : Cx) (ix : Nat) (ps : List (Nat × List Nat)) : LA := fun c σ => ∃ (a : Addr) (vs : List V), σ[ix]? = some (some (.ref a)) ∧ c.H a = some (.lst vs) ∧ c.fr a ∧ LamAts X c.H ps vs
def tXc (Φ : LA) {α β : Type} (Rl : RC → α → β → Prop) (K : PySem.W.Frag) (mg : Str → Option Value) (W : WX) (m : M α) : L2.St → Hp → (β → Hp → Prop) → Prop := fun σ H Q =>
  ∃ (c : RC) (ε : Ev) (h : EH) (r : R α) (h' : EH), c.K = K ∧ MgE c mg ∧ c.H = H ∧ SR c h ∧ EnvR c ε σ ∧ m ε h = some (r, h') ∧ Px W c σ r h' ∧
    (∀ a, r = .ok a → ∀ c' b, c.Le c' → SR c' h' → Rl c' a b → Q b c'.H) ∧ Φ c σ
theorem tXc.bind {Φ : LA} {α β γ : Type} {Rl : RC → α → β → Prop} {K : PySem.W.Frag} {mg : Str → Option Value} {W : WX} {m : M α} {k : α → EH → O γ} {c : RC} {ε : Ev} {h h' : EH} {r : R γ} {σ : L2.St} {Q : β → Hp → Prop}
    (hK : c.K = K) (hm : MgE c mg) (sr : SR c h) (er : EnvR c ε σ) (e : bR (m ε h) k = some (r, h')) (px : Px W c σ r h') (la : Φ c σ)
    (go : ∀ a h1 c1 b, k a h1 = some (r, h') → c.Le c1 → SR c1 h1 → Rl c1 a b → Q b c1.H) : tXc Φ Rl K mg W m σ c.H Q := by
  cases q : m ε h with
  | none => rw [q] at e; cases e
  | some z =>
    obtain ⟨r1, h1⟩ := z
    cases r1 with
    | ok a =>
      rw [q] at e
      exact ⟨c, ε, h, .ok a, h1, hK, hm, rfl, sr, er, q, Px.ok, fun a' ea c1 b l s rb => by cases ea; exact go a h1 c1 b e l s rb, la⟩
    | ex x =>
      rw [q] at e
      cases e
      exact ⟨c, ε, h, .ex x, _, hK, hm, rfl, sr, er, q, fun y ey => px y (by cases ey; rfl), fun a' ea => (nomatch ea), la⟩
end PD
namespace PD
open PySem PySem.Spec PyProof.Rows L2 PX
end PD
namespace PD
open PySem PySem.Spec PyProof.Rows L2 PX
theorem oexB_ok {K : PySem.W.Frag} {C : Addr} (h : oexB K C = true) : OexC K C := by
  unfold oexB at h
  obtain ⟨h1, h⟩ := Bool.and_eq_true_iff.mp h
  obtain ⟨h2, h⟩ := Bool.and_eq_true_iff.mp h
  obtain ⟨h3, h⟩ := Bool.and_eq_true_iff.mp h
  obtain ⟨h4, h5⟩ := Bool.and_eq_true_iff.mp h
  refine ⟨?_, of_decide_eq_true h2, of_decide_eq_true h3, of_decide_eq_true h4, h5⟩
  cases q : K.lookup C with
  | none => rw [q] at h1; cases h1
  | some o =>
    obtain ⟨oc, od, dt, sl⟩ := o
    rw [q] at h1
    cases oc with
    | type t =>
      cases dt with
      | cls cd =>
        obtain ⟨g1, g⟩ := Bool.and_eq_true_iff.mp h1
        have g1 := of_decide_eq_true g1
        subst g1
        obtain ⟨nm, bs, mro, ns, qn, hdct, sn, sub, ab, col, hdel⟩ := cd
        obtain ⟨sl⟩ := sl
        match mro, sl, g with
        | .ref C' :: bm, [k0, k1, k2, k3, some (.builtin n), k5], g =>
          obtain ⟨a1, a⟩ := Bool.and_eq_true_iff.mp g
          obtain ⟨a2, a⟩ := Bool.and_eq_true_iff.mp a
          obtain ⟨a3, a⟩ := Bool.and_eq_true_iff.mp a
          obtain ⟨a4, a5⟩ := Bool.and_eq_true_iff.mp a
          have a1 := of_decide_eq_true a1
          have a2 := of_decide_eq_true a2
          have a3 : (!hdel) = true := a3
          have a4 : hdct = true := a4
          subst a1 a2 a4
          have a3 : hdel = false := by simpa using a3
          subst a3
          exact ⟨nm, qn, ns, bs, bm, sn, sub, ab, col, od, k0, k1, k2, k3, k5, rfl, a5⟩
      | _ => cases h1
    | _ => cases h1
theorem overB_ok {K : PySem.W.Frag} {T C : Addr} (h : overB K T C = true) : OverT K T C := by
  unfold overB at h
  obtain ⟨h1, h⟩ := Bool.and_eq_true_iff.mp h
  obtain ⟨h2, h⟩ := Bool.and_eq_true_iff.mp h
  obtain ⟨h3, h⟩ := Bool.and_eq_true_iff.mp h
  obtain ⟨h4, h5⟩ := Bool.and_eq_true_iff.mp h
  exact ⟨oexB_ok h1, of_decide_eq_true h2, of_decide_eq_true h3, of_decide_eq_true h4, of_decide_eq_true h5⟩
theorem clsfnB_ok {K : PySem.W.Frag} {T : Addr} (h : clsvB K T = true) : ClsFn K T "__init__" (He.ma K T "__init__") := by
  unfold clsvB at h
  obtain ⟨h1, h⟩ := Bool.and_eq_true_iff.mp h
  obtain ⟨h2, h⟩ := Bool.and_eq_true_iff.mp h
  obtain ⟨h3, h⟩ := Bool.and_eq_true_iff.mp h
  obtain ⟨h4, h5⟩ := Bool.and_eq_true_iff.mp h
  refine ⟨h1, of_decide_eq_true h2, ?_, of_decide_eq_true h4, h5⟩
  split at h3
  · rename_i f e
    rw [e, of_decide_eq_true h3]
  · cases h3
/-- the text of an __init__ that says super() -/
structure SupT (P : Program) (d : SupD) : Prop where
  body : supBody d.body
  self : ∃ ar, (d.params.posonlyargs ++ d.params.args).head? = some ar ∧ ar.arg = "self"
  cell : ∀ x ∈ d.scope.names, x.2 ≠ .cell
  free : ∀ x ∈ d.scope.names, x.2 = .free → x.1 = "__class__"
  l1 : d.scope.names.lookup ("super" : Str) = some .globalImplicit
  l2 : d.scope.names.lookup ("__class__" : Str) = some .free
  l3 : d.scope.names.lookup ("self" : Str) = some .local
  l4 : d.scope.names.lookup ("code" : Str) = some .local
  kind : d.scope.kind = .function
  co : d.scope.isCoroutine = false
  gen : d.scope.isGenerator = false
  top : (P.main.scope.names.lookup ("super" : Str)).isSome = false
  bind : ∀ (doc pm : Value) (an : Option Addr) (cdv ct : Value) (cc : Addr) (us : List Value), us.length = 2 → bindArgs (PySem.W.ksFn "__init__" d.qual d.params d.body d.scope .none .none doc pm an cdv ct cc) ⟨us, []⟩ = pure ((["self", "code"] : List Str).zip us)
theorem sup_of {P : Program} {K : PySem.W.Frag} {d : SupD} (h : supB K P.main.file d = true) (e : fnC K (d.at_ K) = d.val) (T : SupT P d) : ∃ fd, SupI P K (He.ga K d.C) (d.at_ K) fd ∧ Binds K fd ["self", "code"] [] := by
  unfold supB at h
  obtain ⟨h1, h⟩ := Bool.and_eq_true_iff.mp h
  obtain ⟨h2, h⟩ := Bool.and_eq_true_iff.mp h
  obtain ⟨h3, h4⟩ := Bool.and_eq_true_iff.mp h
  unfold fnC at e
  cases q : K.lookup (d.at_ K) with
  | none => rw [q] at h1; cases h1
  | some o =>
    obtain ⟨oc, od, dt, osl⟩ := o
    rw [q] at h1 e
    cases dt with
    | func fd =>
      obtain ⟨n1, n2, n3, n4, n5, n6, n7, n8, n9, n10, n11, n12, n13, n14, n15⟩ := fd
      have e2 : ((some (n1, n2, n3, n4, n5, n6, n7.map (·.1), n15) : FnC) = (some (("__init__" : Str), d.qual, d.params, .stmts d.body, d.scope, mainGlobals, [("__class__" : Str)], builtinsNs) : FnC)) := e
      simp only [Option.some.injEq, Prod.mk.injEq] at e2
      obtain ⟨e2a, e2b, e2c, e2d, e2e, e2f, e2g, e2h⟩ := e2
      subst e2a e2b e2c e2d e2e e2f e2h
      obtain ⟨g1, g⟩ := Bool.and_eq_true_iff.mp h1
      obtain ⟨g2, g3⟩ := Bool.and_eq_true_iff.mp g
      match n7, e2g, g2 with
      | [(y, cc)], e2g, g2 =>
        have ey : y = "__class__" := by simpa using e2g
        subst ey
        have g2 : (match K.lookup cc with
          | some ⟨_, _, .cell (some (.ref T)), _⟩ => decide (T = He.ga K d.C)
          | _ => false) = true := g2
        obtain ⟨oc3, od3, sl3, hcc⟩ : ∃ oc3 od3 sl3, K.lookup cc = some ⟨oc3, od3, .cell (some (.ref (He.ga K d.C))), sl3⟩ := by
          cases qc : K.lookup cc with
          | none => rw [qc] at g2; cases g2
          | some o =>
            obtain ⟨a1, a2, a3, a4⟩ := o
            rw [qc] at g2
            cases a3 with
            | cell v =>
              cases v with
              | none => cases g2
              | some v =>
                cases v with
                | ref T' =>
                  have g2 : decide (T' = He.ga K d.C) = true := g2
                  rw [of_decide_eq_true g2]
                  exact ⟨_, _, _, rfl⟩
                | _ => cases g2
            | _ => cases g2
        have hnn : n8 = .none ∧ n9 = .none := by
          clear e h1 g g1 g2 q
          cases n8 <;> first | (cases n9 <;> first | exact ⟨rfl, rfl⟩ | cases g3) | cases g3
        obtain ⟨rfl, rfl⟩ := hnn
        cases n13 with
        | ref cda =>
          have g1 : (PySem.W.codeIn K (.ref cda) d.qual && (match K.lookup cda with
            | some ⟨_, _, .fields vs, _⟩ => (match (vs[2]? : Option Value) with
              | some (.str file _) => P.main.file == file
              | _ => false)
            | _ => false)) = true := g1
          obtain ⟨b1, b2⟩ := Bool.and_eq_true_iff.mp g1
          obtain ⟨ar, ha1, ha2⟩ := T.self
          obtain ⟨oc2, od2, vs2, sl2, file, tf, hcda, hvs, hfile⟩ : ∃ oc2 od2 vs2 sl2 file tf, K.lookup cda = some ⟨oc2, od2, .fields vs2, sl2⟩ ∧ (vs2[2]? : Option Value) = some (.str file tf) ∧ ((P.main.file : Str) == file) = true := by
            cases qc : K.lookup cda with
            | none => rw [qc] at b2; cases b2
            | some o =>
              obtain ⟨a1, a2, a3, a4⟩ := o
              rw [qc] at b2
              cases a3 with
              | fields vs =>
                have b2 : (match (vs[2]? : Option Value) with
                  | some (.str file _) => P.main.file == file
                  | _ => false) = true := b2
                split at b2
                · rename_i file tf e
                  exact ⟨_, _, vs, _, file, tf, rfl, e, b2⟩
                · cases b2
              | _ => cases b2
          obtain ⟨cd, hcd⟩ := Option.isSome_iff_exists.mp h2
          exact ⟨_, ⟨⟨d.qual, d.params, ar, d.body, d.scope, oc, od, .none, .none, n10, n11, n12, cda, cc, n14, osl, rfl, T.body, q, b1, ha1, ha2, ⟨oc2, od2, vs2, sl2, file, tf, hcda, hvs, hfile⟩, ⟨oc3, od3, sl3, hcc⟩, T.cell, T.free, T.l1, T.l2, T.l3, T.l4, T.kind, T.co, T.gen⟩, ⟨cd, hcd⟩, of_decide_eq_true h3, T.top, of_decide_eq_true h4⟩, Binds.all fun us hl => T.bind n10 n11 n12 (.ref cda) n14 cc us hl⟩
        | _ => cases g1
    | _ => cases h1
section
variable {P : Program} {w : World} {K : PySem.W.Frag} {mg : Str → Option Value} {base : Heap}
theorem topI_of {d : SupD} (hm : mg d.C = some (.ref (He.ga K d.C))) (h : supB K P.main.file d = true) (e : fnC K (d.at_ K) = d.val) (T : SupT P d) (c : clsvB K (He.ga K d.C) = true) : TopI P w K mg base (L2.CX P w) d.C (He.ga K d.C) := by
  obtain ⟨fd, S, b⟩ := sup_of h e T
  exact ⟨_, fd, hm, clsfnB_ok c, sup_init S, b⟩
theorem excC_of1 [LamTab] {C x code f prm qual : Str} {params : Arguments} {body : List Stmt} {scope : Scope} {fd : FuncData} (hm : mg C = some (.ref (He.ga K C))) (ov : overB K (He.ga K x) (He.ga K C) = true) (ib : initB K (He.ga K C) = true) (nb : noB K (He.ga K C) f = true) (G : TopI P w K mg base (L2.CX P w) x (He.ga K x))
    (Fd : FunD K "__init__" qual params body scope [] [] (He.ma K (He.ga K C) "__init__") fd) (S : FnScope ["self", prm] ["self", prm] scope) (hb : xBody1 x code f prm body) (bi : Binds K fd ["self", prm] []) (hg : scope.names.lookup x = some .globalImplicit := by rfl) (hdb : (x == ("__debug__" : Str)) = false := by decide)
    (hs : scope.names.lookup ("self" : Str) = some .local := by rfl) (hp : scope.names.lookup prm = some .local := by rfl) (hpd : (prm == ("__debug__" : Str)) = false := by decide) (hpc : (prm == ("__classdict__" : Str)) = false := by decide) : ExcC P w K mg base C (some f) code := by
  obtain ⟨i1, i2⟩ := Bool.and_eq_true_iff.mp ib
  exact ⟨_, _, _, fd, prm, hm, overB_ok ov, of_decide_eq_true i1, of_decide_eq_true i2, of_decide_eq_true nb, exc_init1 Fd S hb hg hdb hs hp hpd hpc G, bi⟩
end
end PD
namespace PD
open PySem PySem.Spec PyProof.Rows L2 PX LamX
theorem walk_pdT {l : PySem.W.OpenLaw} {n k : Nat} {q : Program} {loose : List Str} {XP : (Str → Option Value) → Heap → Prop} {YP : World → Heap → Prop} {d : DefRec} {x : Str} {Fl : IF} {lams : Nat → LamD}
    (hn : l.most = some n) (hn2 : n ≤ sizeLine) (hdf : d.params.defaults = []) (hr : Room k callerA)
    (F : ∀ (w : World) (mg : Str → Option Value) (fa : Addr) (h : Heap), YP w h → h.Ns mainGlobals mg → mg d.name = some (.ref fa) →
      ∃ (K : PySem.W.Frag) (fd : FuncData) (cs : List (Addr × Addr)) (T : List (Addr × Str)), K.In h ∧ (∀ p ∈ cs, h.get? p.2 = some { cls := .none, data := .fields #[] }) ∧ (∀ p ∈ cs, K.lookup p.2 = none) ∧ (∀ p ∈ cs, PySem.W.CodeHd h p.1 p.2) ∧ (∀ p ∈ T, ∃ c, (c, p.1) ∈ cs) ∧
        (∀ (s : Shared) (u : Value), BindsTo s fd ⟨[u], []⟩ [(x, u)]) ∧ ∀ base : Heap, K.In base → base.Ns mainGlobals mg → (∀ p ∈ cs, TabB base mg p.1 p.2) → FnOk l.prog w K mg base (L2.CX l.prog w) k fa fd [x] (@SpI ⟨lams, T⟩ K mg 1 Fl))
    (math : ∀ ns : List Int, ns.length ≤ n → (∀ z ∈ ns, Builtin.Int.intBits z ≤ 1048576) → (∃ h', Fl [.scr (ns.map .int)] [] = some (.ok (.bl true), h')) ∧ ∃ h', Fl [.lst (ns.map .int)] [] = some (.ok (.bl true), h')) :
    PySem.W.WalkO q loose XP YP l.row.toRowW d [] (fun f vs => PySem.call f vs) := by
  refine Att.attach_callB hn hdf fun w s₀ s₁ mg mb fa o pm cd doc a vs ns G Y ho hd hcd hmg hobj hints hlen hbits hg => ?_
  obtain ⟨K, fd, cs, T, KX, hT, nT, C, hTc, hb, hF⟩ := F w mg fa _ Y G.T.g hmg
  refine law_callTs KX G.T.g G.T.b G.T.builtins G.T.nolimit hg hT nT C G.T.bmain hobj hints (Nat.le_trans hlen hn2) hr hF hb (fun H hH hS => ?_) fun H e s' hz => ?_
  · letI : LamTab := ⟨lams, T⟩
    obtain ⟨⟨h1, e1⟩, h2, e2⟩ := math ns hlen hbits
    have tb : MgE (⟨K, mg, fun _ => False, [], H⟩ : RC) mg := ⟨rfl, fun _ p hp => by
      obtain ⟨c, hc⟩ := hTc p hp
      exact TabS.nil (hH _ hc)⟩
    have fin : ∀ (r : R D) (h' : EH) , r = .ok (.bl true) → (∀ d, r = .ok d → ∀ (c' : RC) v, Rep c' d v → v = .bl true) := fun r h' er d ed c' v rv => by
      rw [er] at ed
      cases ed
      cases rv
      rfl
    rcases hS with (hS | ⟨o, hS⟩) | hS
    · exact ⟨⟨K, mg, fun _ => False, [], H⟩, [], [.lst (ns.map .int)], .ok (.bl true), h2, rfl, tb, rfl, SR.nil rfl (fun _ z => z.elim), .cons (.lst hS ⟨fun z => z, List.not_mem_nil⟩ (reps_ints ns)) .nil, rfl, e2, fun d ed c' v l s r => fin _ h2 rfl d ed c' v r, fun e ee => nomatch ee⟩
    · exact ⟨⟨K, mg, fun _ => False, [], H⟩, [], [.scr (ns.map .int)], .ok (.bl true), h1, rfl, tb, rfl, SR.nil rfl (fun _ z => z.elim), .cons (.scr (.inl ⟨o, hS⟩) (reps_ints ns)) .nil, rfl, e1, fun d ed c' v l s r => fin _ h1 rfl d ed c' v r, fun e ee => nomatch ee⟩
    · exact ⟨⟨K, mg, fun _ => False, [], H⟩, [], [.scr (ns.map .int)], .ok (.bl true), h1, rfl, tb, rfl, SR.nil rfl (fun _ z => z.elim), .cons (.scr (.inr hS) (reps_ints ns)) .nil, rfl, e1, fun d ed c' v l s r => fin _ h1 rfl d ed c' v r, fun e ee => nomatch ee⟩
  · obtain ⟨_, _, _, _, _, _, _, _, _, _, _, _, z⟩ := hz
    exact z
end PD
namespace PD
open PySem PySem.Spec PyProof.Rows L2 PX
end PD
namespace PD
open PySem PySem.Spec PyProof.Rows L2 PX
variable [LamTab]
theorem Reps.rep {c : RC} {ds : List D} {vs : List V} (r : Reps c ds vs) : ∀ m : Nat, Reps c (List.replicate m ds).flatten (List.replicate m vs).flatten
  | 0 => .nil
  | m + 1 => by
    rw [List.replicate_succ, List.replicate_succ, List.flatten_cons, List.flatten_cons]
    exact r.append (Reps.rep r m)
end PD
namespace PD
open PySem PySem.Spec PyProof.Rows L2 PX LamX
variable [LamTab]
section
variable {P : Program} {w : World} {K : PySem.W.Frag} {mg : Str → Option Value} {base : Heap}
theorem LamS.mono {i j k : Nat} {F : PF} (h : LamS P w K mg base j i F) (l : j ≤ k) : LamS P w K mg base k i F := by
  obtain ⟨m, e, r⟩ := h.run
  exact ⟨h.ok, m, e, fun cl f c' A outer s H E hr => r cl f c' A outer s H E (hr.mono l)⟩
end
end PD
namespace PD
open PySem PySem.Spec PyProof.Rows L2 PX LamX
variable [LamTab]
theorem SR.extN {c : RC} {h : EH} (s : SR c h) {b : Addr} {φ : Heap → Prop} (e : c.H b = some (.ext φ)) : b ∉ c.ρ := fun z => by
  obtain ⟨n, hn, eq⟩ := List.mem_iff_getElem.mp z
  have h1 : c.ρ[n]? = some b := by rw [List.getElem?_eq_getElem hn, eq]
  have hn' : n < h.length := by rw [← s.len]; exact hn
  have r := s.cells n b _ h1 (List.getElem?_eq_getElem hn')
  cases q : h[n] with
  | lst ds => rw [q] at r; obtain ⟨xs, e2, _⟩ := r; rw [e] at e2; cases e2
  | dic t kvs =>
    rw [q] at r
    obtain ⟨o, zs, e2, i, _⟩ := r
    rw [e] at e2
    cases e2
    rcases i with ⟨_, _, z, _⟩ | ⟨_, z⟩ <;> cases z
  | obj C fs => rw [q] at r; obtain ⟨_, _, _, _, e2, _⟩ := r; rw [e] at e2; cases e2
theorem LamAt.extE {X : Cx} {H H' : Hp} {i : Nat} {f : Addr} (e : ∀ b φ, H b = some (.ext φ) → H' b = some (.ext φ)) (h : LamAt X H i f) : LamAt X H' i f := by
  obtain ⟨dV, c', h1, h2, h3⟩ := h
  refine ⟨dV, c', e _ _ h1, e _ _ h2, ?_⟩
  rcases h3 with h3 | ⟨q, dt, t, e1, e2⟩
  · exact .inl h3
  · exact .inr ⟨q, dt, t, e1, e _ _ e2⟩
theorem LamAts.extE {X : Cx} {H H1 : Hp} (e : ∀ b φ, H b = some (.ext φ) → H1 b = some (.ext φ)) : ∀ {ps : List (Nat × List Nat)} {vs : List V}, LamAts X H ps vs → LamAts X H1 ps vs
  | _, _, .nil => .nil
  | _, _, .cons h t => .cons (h.extE e) (t.extE e)
theorem LAt.le {X : Cx} {ix : Nat} {ps : List (Nat × List Nat)} {c c' : RC} {σ : L2.St} {h : EH} (la : LAt X ix ps c σ) (s : SR c h) (l : c.Le c') {j : Nat} (hj : j ≠ ix) (v : Option V) : LAt X ix ps c' (σ.set j v) := by
  obtain ⟨a, vs, h1, h2, h3, h4⟩ := la
  refine ⟨a, vs, ?_, (l.lstH h2 h3).1, (l.lstH h2 h3).2, h4.extE fun b φ e => (l.keep b _ e (fun _ z => by cases z) (s.extN e)).1⟩
  rw [List.getElem?_set_ne hj]
  exact h1
end PD
namespace PD
open PySem PySem.Spec PyProof.Rows L2 PX LamX
variable [LamTab]
/-- the list at p, which the comprehension wrote, becomes a cell -/
theorem Over.adopt {c1 c2 : RC} {p : Addr} {h : EH} {xs : List V} {ds : List D} (o : Over c1 c2 p) (s : SR c2 h) (hxs : c2.H p = some (.lst xs)) (racc : Reps c2 ds xs) :
    c1.Le { c2 with B := c1.B, ρ := c2.ρ ++ [p] } ∧ SR { c2 with B := c1.B, ρ := c2.ρ ++ [p] } (h ++ [.lst ds]) ∧ (c2.ρ ++ [p])[h.length]? = some p := by
  have np : p ∉ c2.ρ := fun z => s.nb p z o.Bp
  have pre : ∀ (n : Nat) (a : Addr), c2.ρ[n]? = some a → (c2.ρ ++ [p])[n]? = some a := fun n a e => by
    rw [List.getElem?_append_left (List.getElem?_eq_some_iff.mp e).1]
    exact e
  have lw : c2.LeW { c2 with B := c1.B, ρ := c2.ρ ++ [p] } := ⟨rfl, rfl, fun a h => .inl (o.le.B a h), pre, fun a u e => ⟨u, e⟩, fun a u e _ nb n => ⟨e, fun z => by
    rcases List.mem_append.mp z with z | z
    · exact n z
    · exact nb (by rw [List.mem_singleton.mp z]; exact o.Bp)⟩, fun _ _ h => h, fun _ _ _ h => h⟩
  refine ⟨⟨o.le.K, o.le.mg, fun _ h => h, fun _ h => .inl h, o.le.dom, fun n a e => pre n a (o.le.pre n a e), fun a u e t n => ?_, o.le.tup, o.le.frz⟩, ⟨?_, ?_, fun n a k e1 e2 => ?_, fun a ha z => ?_, fun a hb => s.bt a (o.le.B a hb)⟩, ?_⟩
  · obtain ⟨h1, n1⟩ := o.le.keep a u e t n
    refine ⟨h1, fun z => ?_⟩
    rcases List.mem_append.mp z with z | z
    · exact n1 z
    · exact o.ne e (List.mem_singleton.mp z)
  · show (c2.ρ ++ [p]).length = (h ++ [Cell.lst ds]).length
    rw [List.length_append, List.length_append, s.len]; rfl
  · show (c2.ρ ++ [p]).Nodup
    rw [List.nodup_append]
    refine ⟨s.nd, by simp, fun a ha b hb => ?_⟩
    rw [List.mem_singleton.mp hb]
    exact fun z => np (z ▸ ha)
  · have e1' : (c2.ρ ++ [p])[n]? = some a := e1
    by_cases hn : n < c2.ρ.length
    · rw [List.getElem?_append_left hn] at e1'
      rw [List.getElem?_append_left (by rw [← s.len]; exact hn)] at e2
      have cr := s.cells n a k e1' e2
      cases k with
      | lst ds => obtain ⟨zs, q1, q2⟩ := cr; exact ⟨zs, q1, q2.leW lw⟩
      | dic t kvs => obtain ⟨ob, zs, q1, q3, q2⟩ := cr; exact ⟨ob, zs, q1, q3, q2.leW lw⟩
      | obj C fs => obtain ⟨Ca, dx, vs, q0, q1, q2⟩ := cr; exact ⟨Ca, dx, vs, q0, q1, q2.leW lw⟩
    · rw [List.getElem?_append_right (by omega)] at e1'
      rw [List.getElem?_append_right (by rw [← s.len]; omega), ← s.len] at e2
      cases q : n - c2.ρ.length with
      | zero =>
        rw [q] at e1' e2
        cases e1'
        cases e2
        exact ⟨xs, hxs, racc.leW lw⟩
      | succ m =>
        rw [q] at e1'
        simp at e1'
  · rcases List.mem_append.mp ha with ha | ha
    · exact s.nb a ha (o.le.B a z)
    · rw [List.mem_singleton.mp ha] at z
      obtain ⟨u, e⟩ := o.bt p z
      rw [o.new] at e; cases e
  · rw [← s.len, List.getElem?_append_right (Nat.le_refl _), Nat.sub_self]; rfl
def okLC (x : Option (List D × EH)) : O D := match x with
  | some (ds, h) => if ds.length ≤ sizeLine then some (.ok (.ref h.length), h ++ [.lst ds]) else none
  | none => none
/-- a new list at p, as a cell -/
theorem put_cell {c : RC} {h : EH} (s : SR c h) {Q : VK} {ds : List D} {xs : List V} (go : ∀ c' v, c.Le c' → SR c' (h ++ [.lst ds]) → Rep c' (.ref h.length) v → Q v c'.H) (r : Reps c ds xs) : ∀ p, c.H p = none → Q (.ref p) (upd c.H p (.lst xs)) := fun p hp => by
  obtain ⟨l2, s2⟩ := s.cell hp r
  refine go _ _ l2 s2 (.ref ?_)
  show (c.ρ ++ [p])[h.length]? = some p
  rw [← s.len, List.getElem?_append_right (Nat.le_refl _), Nat.sub_self]
  rfl
def mClear (o : M D) : M D := fun ε h => bR (o ε h) fun x h1 => match x with
  | .ref n => (match h1[n]? with
    | some (.lst _) => some (.ok .non, h1.set n (.lst []))
    | _ => none)
  | _ => none
section
variable {X : Cx} {W : WX} {a b e o : Expr} {ma mb me mo : M D} {m : M (List D)} {p pos apos cpos : Pos}
theorem re_clear (ho : RE X W o mo) (hbase : attributeBase o "clear" X.env (eval o X.env) = eval o X.env := by rfl) (hline : (apos.endLine == cpos.line) = true := by rfl) : RE X W (.Call (.Attribute o "clear" apos) [] [] cpos) (mClear mo) := by
  refine pe_imp (pe_bm0 PySem.F.plainAttrs_list PySem.F.slot_list_clear PySem.F.type_list_clear mt_clear ho hbase hline) fun σ H Q h => ?_
  obtain ⟨c, ε, h, r, h', hK, hm, rfl, sr, er, e, px, go⟩ := h
  unfold tBM0
  refine tX.bind hK hm sr er e px fun x h1 c1 v e1 l1 s1 r1 => ?_
  cases r1 with
  | @ref n a hn =>
    dsimp only at e1
    cases q : h1[n]? with
    | none => rw [q] at e1; cases e1
    | some k =>
      rw [q] at e1
      cases k with
      | lst ds =>
        cases e1
        obtain ⟨xs, j1, j2⟩ := s1.cells n a _ hn q
        obtain ⟨l3, s3⟩ := s1.write (o := .lst []) (k := .lst []) hn (fun ys z => by
          rcases z with z | ⟨w, z⟩ <;> rw [j1] at z <;> cases z) (fun o w z => by rw [j1] at z; cases z) fun c' l' eh => ⟨_, eh, .nil⟩
        exact ⟨.inl ⟨rfl, xs, .inl (.inl j1)⟩, a, xs, rfl, rfl, j1, go _ rfl _ _ (l1.trans l3) s3 .non⟩
      | _ => cases e1
  | _ => cases e1
end
end PD
namespace L2
open PySem PySem.Spec PyProof.Rows
end L2
namespace PD
open PySem PySem.Spec PyProof.Rows L2 PX LamX
end PD
namespace PD
open PySem PySem.Spec PyProof.Rows L2 PX LamX
end PD
namespace PD
open PySem PySem.Spec PyProof.Rows L2 PX LamX
end PD
namespace PX
open PySem PySem.Spec PyProof.Rows L2 PySem.Calls PD
variable [LamTab]
def lock (z : Addr → Option Obj) (H : Hp) : Hp := fun b => match z b, H b with
  | some o, some (.lst xs) => some (.frz o (.lst xs))
  | _, u => u
def unlk (z : Addr → Option Obj) (H : Hp) : Hp := fun b => match z b, H b with
  | some _, some (.frz _ (.lst xs)) => some (.lst xs)
  | _, u => u
/-- z's objects are lists of H -/
def InL (z : Addr → Option Obj) (H : Hp) : Prop := ∀ b o, z b = some o → ∃ xs, H b = some (.lst xs)
/-- .. and stand frozen -/
def InF (z : Addr → Option Obj) (H : Hp) : Prop := ∀ b o, z b = some o → ∃ xs, H b = some (.frz o (.lst xs))
section
variable {z : Addr → Option Obj} {H : Hp} {b : Addr}
theorem lock_in {o : Obj} {xs : List V} (h : z b = some o) (e : H b = some (.lst xs)) : lock z H b = some (.frz o (.lst xs)) := by
  unfold lock; rw [h, e]
theorem lock_out (h : z b = none) : lock z H b = H b := by
  unfold lock; rw [h]
theorem unlk_in {o o' : Obj} {xs : List V} (h : z b = some o) (e : H b = some (.frz o' (.lst xs))) : unlk z H b = some (.lst xs) := by
  unfold unlk; rw [h, e]
theorem unlk_out (h : z b = none) : unlk z H b = H b := by
  unfold unlk; rw [h]
theorem unlk_none (h : H b = none) : unlk z H b = none := by
  unfold unlk
  cases y : z b <;> rw [h]
theorem lock_none (h : H b = none) : lock z H b = none := by
  unfold lock
  cases y : z b <;> rw [h]
theorem inl_out (hz : InL z H) {u : HO} (h : H b = some u) (n : ∀ xs, u ≠ .lst xs) : z b = none := by
  cases y : z b with
  | none => rfl
  | some o =>
    obtain ⟨xs, e⟩ := hz b o y
    rw [h] at e
    exact (n xs (Option.some.inj e)).elim
end
section
variable {P : Program} {w : World} {z : Addr → Option Obj} {H H' : Hp} {h h' B : Heap} {fs : List Addr}
theorem hok_lock (k : HOk P w H h) (hz : InL z H) (hg : ∀ b o, z b = some o → h.get? b = some o) : HOk P w (lock z H) h := fun b u e => by
  have st : ∀ u, ObjOk P w H h b u → ObjOk P w (lock z H) h b u := fun u x => x.stay (fun d v _ q => q)
    (fun d q => by rw [lock_out (inl_out hz q fun _ e => by cases e)]; exact q) (fun d xs q => by rw [lock_out (inl_out hz q fun _ e => by cases e)]; exact q)
  cases y : z b with
  | none =>
    rw [lock_out y] at e
    exact st u (k b u e)
  | some o =>
    obtain ⟨xs, e2⟩ := hz b o y
    rw [lock_in y e2] at e
    cases e
    exact ⟨hg b o y, st _ (k b _ e2)⟩
theorem hok_unlk (k : HOk P w H' h) (hf : InF z H') : HOk P w (unlk z H') h := fun b u e => by
  have out : ∀ {d : Addr} {u : HO}, H' d = some u → (∀ o xs, u ≠ .frz o (.lst xs)) → z d = none := fun {d u} q n => by
    cases y : z d with
    | none => rfl
    | some o =>
      obtain ⟨xs, e⟩ := hf d o y
      rw [q] at e
      exact (n o xs (Option.some.inj e)).elim
  have st : ∀ u, ObjOk P w H' h b u → ObjOk P w (unlk z H') h b u := fun u x => x.stay (fun d v _ q => q)
    (fun d q => by rw [unlk_out (out q fun _ _ e => by cases e)]; exact q) (fun d xs q => by rw [unlk_out (out q fun _ _ e => by cases e)]; exact q)
  cases y : z b with
  | none =>
    rw [unlk_out y] at e
    exact st u (k b u e)
  | some o =>
    obtain ⟨xs, e2⟩ := hf b o y
    rw [unlk_in y e2] at e
    cases e
    exact st _ (k b _ e2).2
/-- the locked lists stand behind the call as they stood -/
theorem un_inF (u : Un fs [] (lock z H) H' h h') (hz : InL z H) : InF z H' := fun b o y => by
  obtain ⟨xs, e⟩ := hz b o y
  exact ⟨xs, u.frzs b o _ (lock_in y e)⟩
theorem un_unlk (u : Un fs [] (lock z H) H' h h') (hz : InL z H) : Un fs [] H (unlk z H') h h' := by
  refine ⟨fun b o e n hf hx => u.keep b o e (lock_none n) hf hx, fun b o e n hf hx => u.slot b o e (lock_none n) hf hx, fun b o e n hx => unlk_none (u.free b o e (lock_none n) hx), u.there, fun b xs e => ?_, fun b o x e => ?_, fun b ps e => ?_⟩
  · have y := inl_out hz e fun _ q => by cases q
    rw [unlk_out y]; exact u.tups b xs (by rw [lock_out y]; exact e)
  · have y := inl_out hz e fun _ q => by cases q
    rw [unlk_out y]; exact u.frzs b o x (by rw [lock_out y]; exact e)
  · have y := inl_out hz e fun _ q => by cases q
    obtain ⟨more, q⟩ := u.tbls b ps (by rw [lock_out y]; exact e)
    exact ⟨more, by rw [unlk_out y]; exact q⟩
theorem ub_inF (u : UB fs (lock z H) H' h B h') (hz : InL z H) : InF z H' := fun b o y => by
  obtain ⟨xs, e⟩ := hz b o y
  exact ⟨xs, u.frzs b o _ (lock_in y e)⟩
theorem ub_unlk (u : UB fs (lock z H) H' h B h') (hz : InL z H) : UB fs H (unlk z H') h B h' := by
  refine ⟨fun b o e n hf => u.keep b o e (lock_none n) hf, u.slot, fun b o e n => unlk_none (u.free b o e (lock_none n)), u.there, fun b xs e => ?_, fun b o x e => ?_, fun b ps e => ?_⟩
  · have y := inl_out hz e fun _ q => by cases q
    rw [unlk_out y]; exact u.tups b xs (by rw [lock_out y]; exact e)
  · have y := inl_out hz e fun _ q => by cases q
    rw [unlk_out y]; exact u.frzs b o x (by rw [lock_out y]; exact e)
  · have y := inl_out hz e fun _ q => by cases q
    obtain ⟨more, q⟩ := u.tbls b ps (by rw [lock_out y]; exact e)
    exact ⟨more, by rw [unlk_out y]; exact q⟩
end
section
variable {P : Program} {w : World} {outer : List Env} {z : Addr → Option Obj} {H : Hp} {s s' : Shared} {Q Q1 : VK} {E E1 : XK} {r : Result}
theorem cr_lock (hz : InL z H) (hQ : ∀ v H', Q1 v H' → InF z H' → Q v (unlk z H')) (hE : ∀ cls d H', E1 cls d H' → InF z H' → E cls d (unlk z H'))
    (h : CR (L2.CX P w) outer P w (lock z H) s Q1 E1 r s') : CR (L2.CX P w) outer P w H s Q E r s' := by
  cases r with
  | error e =>
    obtain ⟨a, B, H', cls, d, rfl, fl, hok, ub, na, os, ag, q⟩ := h
    have hf := ub_inF ub hz
    exact ⟨a, B, unlk z H', cls, d, rfl, fl, hok_unlk hok hf, ub_unlk ub hz, unlk_none na, os, ag, hE _ _ _ q hf⟩
  | ok f =>
    cases f with
    | ret u =>
      obtain ⟨v, H', os, bare, un, hok, rv, q⟩ := h
      have hf := un_inF un hz
      exact ⟨v, unlk z H', os, bare, un_unlk un hz, hok_unlk hok hf, rv, hQ _ _ q hf⟩
    | next => exact h
    | brk => exact h
    | cont => exact h
theorem env0_lock {K : PySem.W.Frag} {mg : Str → Option Value} {base : Heap} {A : Around} (e : Env0 P w K mg base A outer s H) (hz : InL z H) (hg : ∀ b o, z b = some o → s.heap.get? b = some o) : Env0 P w K mg base A outer s (lock z H) :=
  ⟨e.frames, e.mod, fun b o q => ⟨(e.bs b o q).1, lock_none (e.bs b o q).2⟩, e.bsz, e.funs, fun b q => lock_none (e.frf b q), hok_lock e.hok hz hg, e.bare⟩
/-- a def's promise over locked lists -/
def spLock (sp : List V → Hp → VK → XK → Prop) : List V → Hp → VK → XK → Prop := fun vs H Q E => ∃ S : Addr → Prop, (∀ b, S b → ∃ xs, H b = some (.lst xs)) ∧
  ∀ z : Addr → Option Obj, (∀ b, S b ↔ (z b).isSome = true) → sp vs (lock z H) (fun v H' => InF z H' → Q v (unlk z H')) (fun cls d H' => InF z H' → E cls d (unlk z H'))
end
end PX
namespace PD
open PySem PySem.Spec PyProof.Rows L2 PX LamX
/-- no list of the law's script, no locked list -/
def noScr : D → Bool
  | .scr _ => false
  | .tup ds => go ds
  | .lst ds => go ds
  | .fn _ ds => go ds
  | .obj _ fs => gf fs
  | .exc _ fs => gf fs
  | .dic _ kvs => gp kvs
  | _ => true
where
  go : List D → Bool
  | [] => true
  | d :: ds => noScr d && go ds
  gf : List (Str × D) → Bool
  | [] => true
  | (_, d) :: ds => noScr d && gf ds
  gp : List (List Key × D) → Bool
  | [] => true
  | (_, d) :: ds => noScr d && gp ds
def noScrR : R D → Bool
  | .ok d => noScr d
  | .ex x => noScr.gf x.fs
/-- data in which the cells of lists are read as locked lists -/
def lkD (h : EH) : D → Option D
  | .ref n => (match h[n]? with
    | some (.lst ds) => if noRef.go ds = true then some (.scr ds) else none
    | _ => none)
  | .lst ds => (go h ds).map .lst
  | .tup ds => (go h ds).map .tup
  | d => if noRef d = true then some d else none
where
  go (h : EH) : List D → Option (List D)
  | [] => some []
  | d :: ds => (match lkD h d, go h ds with
    | some a, some b => some (a :: b)
    | _, _ => none)
abbrev lkL (h : EH) (ds : List D) : Option (List D) := lkD.go h ds
variable [LamTab]
abbrev lockC (c : RC) (z : Addr → Option Obj) : RC := { c with H := PX.lock z c.H, ρ := [], B := fun a => c.B a ∨ a ∈ c.ρ }
abbrev unlkC (c c' : RC) (z : Addr → Option Obj) : RC := { c' with ρ := c.ρ, B := c.B, H := PX.unlk z c'.H }
/-- z has just the cells of lists -/
structure LkZ (c : RC) (z : Addr → Option Obj) : Prop where
  in_ : ∀ b o, z b = some o → b ∈ c.ρ ∧ ∃ xs, c.H b = some (.lst xs)
  all : ∀ b xs, b ∈ c.ρ → c.H b = some (.lst xs) → ∃ o, z b = some o
section
variable {c c' : RC} {h : EH} {z : Addr → Option Obj}
theorem LkZ.inL (k : LkZ c z) : PX.InL z c.H := fun b o y => (k.in_ b o y).2
theorem LkZ.out (k : LkZ c z) {a : Addr} (h : a ∉ c.ρ) : z a = none := by
  cases y : z a with
  | none => rfl
  | some o => exact absurd (k.in_ a o y).1 h
theorem lock_some {H : Hp} {a : Addr} {o : HO} (e : H a = some o) : ∃ o', PX.lock z H a = some o' := by
  cases y : z a with
  | none => exact ⟨o, (lock_out y).trans e⟩
  | some ob =>
    unfold PX.lock
    rw [y, e]
    cases o <;> exact ⟨_, rfl⟩
theorem unlk_some {H : Hp} {a : Addr} {o : HO} (e : H a = some o) : ∃ o', PX.unlk z H a = some o' := by
  cases y : z a with
  | none => exact ⟨o, (unlk_out y).trans e⟩
  | some ob =>
    unfold PX.unlk
    rw [y, e]
    cases o with
    | frz ob u => cases u <;> exact ⟨_, rfl⟩
    | _ => exact ⟨_, rfl⟩
theorem unlk_same {H : Hp} {a : Addr} {o : HO} (e : H a = some o) (n : ∀ ob xs, o ≠ .frz ob (.lst xs)) : PX.unlk z H a = some o := by
  cases y : z a with
  | none => exact (unlk_out y).trans e
  | some ob =>
    unfold PX.unlk
    rw [y, e]
    cases o with
    | frz ob u =>
      cases u with
      | lst xs => exact absurd rfl (n ob xs)
      | _ => rfl
    | _ => rfl
theorem LkZ.leW (k : LkZ c z) : (c.bare fun a => c.B a ∨ a ∈ c.ρ).LeW (lockC c z) := by
  refine ⟨rfl, rfl, fun a h => .inl h, fun n a h => by simp at h, fun a o e => lock_some e, fun a o e nt nb nr => ⟨?_, nr⟩, fun a xs e => ?_, fun a o u e => ?_⟩
  · exact (lock_out (k.out fun q => nb (.inr q))).trans e
  · rcases e with e | ⟨o, e⟩
    · exact .inl ((lock_out (inl_out k.inL e fun _ q => by cases q)).trans e)
    · exact .inr ⟨o, (lock_out (inl_out k.inL e fun _ q => by cases q)).trans e⟩
  · exact (lock_out (inl_out k.inL e fun _ q => by cases q)).trans e
theorem LkZ.rep (k : LkZ c z) {d : D} {v : V} (r : Rep c d v) (n : noRef d = true) : Rep (lockC c z) d v := Rep.leW k.leW (Rep.bare (fun _ q => q) r n)
theorem LkZ.reps (k : LkZ c z) {ds : List D} {vs : List V} (r : Reps c ds vs) (n : noRef.go ds = true) : Reps (lockC c z) ds vs := Reps.leW k.leW (Reps.bare (fun _ q => q) r n)
section
variable (k : LkZ c z) (s : SR c h)
include k s
mutual
theorem Rep.lk : ∀ {d : D} {v : V}, Rep c d v → ∀ {d' : D}, lkD h d = some d' → Rep (lockC c z) d' v
  | _, _, .non, d', e => by cases e; exact .non
  | _, _, .bl b, d', e => by cases e; exact .bl b
  | _, _, .int i, d', e => by cases e; exact .int i
  | _, _, .str cs, d', e => by cases e; exact .str cs
  | .tup ds, _, .tup q r, d', e => by
    have e' : (lkD.go h ds).map D.tup = some d' := by rw [lkD] at e; exact e
    cases g : lkD.go h ds with
    | none => rw [g] at e'; cases e'
    | some es =>
      rw [g] at e'; cases e'
      refine .tup ?_ (Reps.lk r g)
      rcases q with q | q
      · exact .inl (k.leW.tup _ _ q)
      · exact .inr q
  | .lst ds, _, .lst (a := a) q f r, d', e => by
    have e' : (lkD.go h ds).map D.lst = some d' := by rw [lkD] at e; exact e
    cases g : lkD.go h ds with
    | none => rw [g] at e'; cases e'
    | some es =>
      rw [g] at e'; cases e'
      exact .lst ((lock_out (k.out f.2)).trans q) ⟨fun y => y.elim f.1 f.2, List.not_mem_nil⟩ (Reps.lk r g)
  | .scr ds, _, .scr q r, d', e => by
    have e' : (if noRef (.scr ds) = true then some (D.scr ds) else none) = some d' := by rw [lkD] at e; exact e; all_goals (intro _ q; cases q)
    by_cases n : noRef (.scr ds) = true
    · rw [if_pos n] at e'; cases e'; exact k.rep (.scr q r) n
    · rw [if_neg n] at e'; cases e'
  | .obj C fs, _, .obj m q f r, d', e => by
    have e' : (if noRef (.obj C fs) = true then some (D.obj C fs) else none) = some d' := by rw [lkD] at e; exact e; all_goals (intro _ q; cases q)
    by_cases n : noRef (.obj C fs) = true
    · rw [if_pos n] at e'; cases e'; exact k.rep (.obj m q f r) n
    · rw [if_neg n] at e'; cases e'
  | .dic t kvs, _, .dic q i f r, d', e => by
    have e' : (if noRef (.dic t kvs) = true then some (D.dic t kvs) else none) = some d' := by rw [lkD] at e; exact e; all_goals (intro _ q; cases q)
    by_cases n : noRef (.dic t kvs) = true
    · rw [if_pos n] at e'; cases e'; exact k.rep (.dic q i f r) n
    · rw [if_neg n] at e'; cases e'
  | .fn i ds, _, .fn a1 a2 a3 a4 a5 a6, d', e => by
    have e' : (if noRef (.fn i ds) = true then some (D.fn i ds) else none) = some d' := by rw [lkD] at e; exact e; all_goals (intro _ q; cases q)
    by_cases n : noRef (.fn i ds) = true
    · rw [if_pos n] at e'; cases e'; exact k.rep (.fn a1 a2 a3 a4 a5 a6) n
    · rw [if_neg n] at e'; cases e'
  | .exc C fs, _, .exc a1 a2 a3 a4 a5 a6, d', e => by
    have e' : (if noRef (.exc C fs) = true then some (D.exc C fs) else none) = some d' := by rw [lkD] at e; exact e; all_goals (intro _ q; cases q)
    by_cases n : noRef (.exc C fs) = true
    · rw [if_pos n] at e'; cases e'; exact k.rep (.exc a1 a2 a3 a4 a5 a6) n
    · rw [if_neg n] at e'; cases e'
  | .ref n, _, .ref (a := a) q, d', e => by
    rw [lkD] at e
    have hn : n < h.length := by rw [← s.len]; exact (List.getElem?_eq_some_iff.mp q).1
    cases g : h[n]? with
    | none => rw [g] at e; cases e
    | some x =>
      rw [g] at e
      cases x with
      | lst ds =>
        dsimp only at e
        by_cases nr : noRef.go ds = true
        · rw [if_pos nr] at e
          cases e
          obtain ⟨xs, h1, r⟩ := s.cells n a _ q g
          obtain ⟨o, y⟩ := k.all a xs (List.mem_of_getElem? q) h1
          exact .scr (.inl ⟨o, lock_in y h1⟩) (k.reps r nr)
        · rw [if_neg nr] at e; cases e
      | _ => cases e
theorem Reps.lk : ∀ {ds : List D} {vs : List V}, Reps c ds vs → ∀ {es : List D}, lkD.go h ds = some es → Reps (lockC c z) es vs
  | _, _, .nil, es, e => by cases e; exact .nil
  | d :: ds, _, .cons r t, es, e => by
    rw [lkD.go] at e
    cases g1 : lkD h d with
    | none => rw [g1] at e; cases e
    | some d' =>
      cases g2 : lkD.go h ds with
      | none => rw [g1, g2] at e; cases e
      | some es' =>
        rw [g1, g2] at e
        cases e
        exact .cons (Rep.lk r g1) (Reps.lk t g2)
end
end
section
variable {c2 : RC} (hK : c2.K = c.K) (hm : c2.mg = c.mg) (hH : ∀ a u, c.H a = some u → (∀ o xs, u ≠ .frz o (.lst xs)) → c2.H a = some u) (hf : ∀ a, c.fr a → c2.fr a) (h0 : c.ρ = [])
include hK hm hH hf h0
mutual
theorem Rep.unlk : ∀ {d : D} {v : V}, Rep c d v → noScr d = true → Rep c2 d v
  | _, _, .non, _ => .non
  | _, _, .bl b, _ => .bl b
  | _, _, .int i, _ => .int i
  | _, _, .str cs, _ => .str cs
  | .tup ds, _, .tup (a := a) (xs := xs) h r, e => .tup (by
      rcases h with (h | ⟨o, h⟩) | h
      · exact .inl (.inl (hH _ _ h fun _ _ z => by cases z))
      · exact .inl (.inr ⟨o, hH _ _ h fun _ _ z => by cases z⟩)
      · rw [hK]; exact .inr h) (Reps.unlk r (by rw [noScr] at e; exact e))
  | .lst ds, _, .lst h f r, e => .lst (hH _ _ h fun _ _ z => by cases z) (hf _ f) (Reps.unlk r (by rw [noScr] at e; exact e))
  | .scr ds, _, .scr h r, e => by cases e
  | .obj C fs, _, .obj m h f r, e => .obj (by rw [hm]; exact m) (hH _ _ h fun _ _ z => by cases z) (hf _ f) (RepF.unlk r (by rw [noScr] at e; exact e))
  | .dic t kvs, _, .dic (o := o) h i f r, e => .dic (hH _ _ h fun ob xs q => i.frz _ _ q) i (hf _ f) (RepP.unlk r (by rw [noScr] at e; exact e))
  | .fn i ds, _, .fn h f h2 f2 cr r, e => .fn (hH _ _ h fun _ _ z => by unfold lamHO at z; cases z) (hf _ f) (hH _ _ h2 fun _ _ z => by cases z) (hf _ f2) (cr.imp fun b o hb fb => ⟨hH _ _ hb (fun _ _ z => by unfold celHO at z; cases z), hf _ fb⟩) (Reps.unlk r (by rw [noScr] at e; exact e))
  | .exc C fs, _, .exc m h f h2 f2 r, e => .exc (by rw [hm]; exact m) (hH _ _ h fun _ _ z => by unfold excHO at z; cases z) (hf _ f) (hH _ _ h2 fun _ _ z => by cases z) (hf _ f2) (RepF.unlk r (by rw [noScr] at e; exact e))
  | _, _, .ref h, _ => by rw [h0] at h; simp at h
theorem Reps.unlk : ∀ {ds : List D} {vs : List V}, Reps c ds vs → noScr.go ds = true → Reps c2 ds vs
  | _, _, .nil, _ => .nil
  | _, _, .cons h t, e => by
    rw [noScr.go, Bool.and_eq_true] at e
    exact .cons (Rep.unlk h e.1) (Reps.unlk t e.2)
theorem RepP.unlk : ∀ {ds : List (List Key × D)} {vs : List (List Key × V)}, RepP c ds vs → noScr.gp ds = true → RepP c2 ds vs
  | _, _, .nil, _ => .nil
  | _, _, .cons h t, e => by
    rw [noScr.gp, Bool.and_eq_true] at e
    exact .cons (Rep.unlk h e.1) (RepP.unlk t e.2)
theorem RepF.unlk : ∀ {ds : List (Str × D)} {vs : List (Str × V)}, RepF c ds vs → noScr.gf ds = true → RepF c2 ds vs
  | _, _, .nil, _ => .nil
  | _, _, .cons h t, e => by
    rw [noScr.gf, Bool.and_eq_true] at e
    exact .cons (Rep.unlk h e.1) (RepF.unlk t e.2)
end
end
theorem LkZ.tabs (k : LkZ c z) (t : c.tabs) : RC.tabs (lockC c z) := fun q hq => codeO_ext (t q hq) (by
    obtain ⟨ps, k1, _⟩ := t q hq
    exact lock_out (inl_out k.inL k1 fun _ z => by cases z)) fun a e => (lock_out (inl_out k.inL e fun _ z => by cases z)).trans e
theorem lock_back (k : LkZ c z) (s1 : SR c h) (l : (lockC c z).Le c') : c.Le (unlkC c c' z) ∧ SR (unlkC c c' z) h := by
  have kp : ∀ a o, c.H a = some o → (∀ ps, o ≠ .tbl ps) → PX.unlk z c'.H a = some o := fun a o e nt => by
    cases y : z a with
    | none =>
      have e1 : (lockC c z).H a = some o := (lock_out y).trans e
      exact (unlk_out y).trans (l.keep a o e1 nt List.not_mem_nil).1
    | some ob =>
      obtain ⟨_, xs, e2⟩ := k.in_ a ob y
      rw [e] at e2
      cases e2
      have e1 : (lockC c z).H a = some (.frz ob (.lst xs)) := lock_in y e
      exact unlk_in y (l.keep a _ e1 (fun _ q => by cases q) List.not_mem_nil).1
  have tabs : c.tabs → RC.tabs (unlkC c c' z) := fun t p hp => by
    have t1 : c'.tabs := l.mg.t (k.tabs t)
    exact codeO_ext (t1 p hp) (by
        obtain ⟨ps, k1, _⟩ := t1 p hp
        exact (unlk_same k1 fun _ _ z => by cases z).trans k1.symm) fun a e => unlk_same e fun _ _ z => by cases z
  have l2 : c.Le (unlkC c c' z) := by
    refine ⟨l.K, ⟨l.mg.e, tabs⟩, fun _ h => h, fun _ h => .inl h, fun a o e => ?_, fun _ _ h => h, fun a o e nt n => ⟨kp a o e nt, n⟩, fun a xs e => ?_, fun a o u e => kp a _ e fun _ q => by cases q⟩
    · obtain ⟨o1, e1⟩ := lock_some (z := z) e
      obtain ⟨o2, e2⟩ := l.dom a o1 e1
      exact unlk_some e2
    · rcases e with e | ⟨u, e⟩
      · exact .inl (kp a _ e fun _ q => by cases q)
      · exact .inr ⟨u, kp a _ e fun _ q => by cases q⟩
  refine ⟨l2, s1.len, s1.nd, fun n a k e1 e2 => ?_, s1.nb, fun a hb => ?_⟩
  · have cr := s1.cells n a k e1 e2
    obtain ⟨o, eo⟩ := cr.ex
    refine cr.le l2 ((kp a o eo fun ps q => ?_).trans eo.symm)
    subst q
    exact cr.noTab.1 ps eo
  · obtain ⟨o, eo⟩ := s1.bt a hb
    exact l2.dom a o eo
theorem back_fr (l : (lockC c z).Le c') (h0 : c'.ρ = []) : ∀ a, c'.fr a → (unlkC c c' z).fr a := fun a f => ⟨fun y => f.1 (l.B a (.inl y)), fun y => f.1 (l.B a (.inr y))⟩
/-- the promise of a def that runs alone, over locked lists -/
theorem spP_lock {K : PySem.W.Frag} {mg : Str → Option Value} {n : Nat} {F : PF} {ds es : List D} {vs : List V} {r : R D} {Q : VK} {E : XK} (hK : c.K = K) (hm : MgE c mg) (s : SR c h) (rv : Reps c ds vs) (hn : ds.length = n) (ek : lkL h ds = some es) (er : F es = some r) (nr : noScrR r = true)
    (go : ∀ d, r = .ok d → ∀ c' v, c.Le c' → SR c' h → Rep c' d v → Q v c'.H) (gx : ∀ e, r = .ex e → ∀ c' cls dx, c.Le c' → SR c' h → ExR c' e cls dx → E cls dx c'.H) : spLock (SpP K mg n F) vs c.H Q E := by
  refine ⟨fun a => a ∈ c.ρ ∧ ∃ xs, c.H a = some (.lst xs), fun b h => h.2, fun z hz => ?_⟩
  have k : LkZ c z := ⟨fun b o y => (hz b).mpr (by rw [y]; rfl), fun b xs h1 h2 => Option.isSome_iff_exists.mp ((hz b).mp ⟨h1, xs, h2⟩)⟩
  have lenE : ∀ {ds es : List D}, lkD.go h ds = some es → es.length = ds.length := by
    intro ds
    induction ds with
    | nil => intro es e; cases e; rfl
    | cons d ds ih =>
      intro es e
      rw [lkD.go] at e
      cases g1 : lkD h d with
      | none => rw [g1] at e; cases e
      | some d' =>
        cases g2 : lkD.go h ds with
        | none => rw [g1, g2] at e; cases e
        | some es' => rw [g1, g2] at e; cases e; rw [List.length_cons, List.length_cons, ih g2]
  refine ⟨lockC c z, es, r, hK, ?_, rfl, rfl, fun a y => ?_, Reps.lk k s rv ek, (lenE ek).trans hn, er, fun d ed c' v l hρ rd hf => ?_, fun x ex c' cls dx l hρ xr hf => ?_⟩
  · exact ⟨hm.e, fun y => k.tabs (hm.t y)⟩
  · rcases y with y | y
    · obtain ⟨o, e⟩ := s.bt a y; exact lock_some e
    · obtain ⟨o, e⟩ := s.ex y; exact lock_some e
  · obtain ⟨l2, s2⟩ := lock_back k s l
    refine go d ed (unlkC c c' z) v l2 s2 ?_
    subst ed
    exact Rep.unlk (c := c') (c2 := unlkC c c' z) rfl rfl (fun a u e n => unlk_same e n) (back_fr l hρ) hρ rd nr
  · obtain ⟨l2, s2⟩ := lock_back k s l
    refine gx x ex (unlkC c c' z) cls dx l2 s2 ?_
    subst ex
    obtain ⟨Ca, d, us, h1, h2, h3, h4, h5, h6⟩ := xr
    exact ⟨Ca, d, us, h1, h2, h3, unlk_same h4 (fun _ _ q => by cases q), back_fr l hρ _ h5, RepF.unlk (c := c') (c2 := unlkC c c' z) rfl rfl (fun a u e n => unlk_same e n) (back_fr l hρ) hρ h6 nr⟩
end
end PD
namespace PX
open PySem PySem.Spec PyProof.Rows L2 PySem.Calls PD
variable [LamTab]
/-- a def keeps its promise over locked lists -/
theorem fnOk_lock {P : Program} {w : World} {K : PySem.W.Frag} {mg : Str → Option Value} {base : Heap} {k : Nat} {f : Addr} {fd : FuncData} {ps : List Str} {sp : Sp} (F : FnOk P w K mg base (L2.CX P w) k f fd ps sp) : FnOk P w K mg base (L2.CX P w) k f fd ps (spLock sp) := by
  classical
  refine ⟨fun vs H Q E h => ?_, fun A outer s H args us vs Q E hr e0 hb hv h => ?_⟩
  · obtain ⟨S, h1, h2⟩ := h
    refine F.len _ _ _ _ (h2 (fun b => if S b then some { cls := .none, data := .fields #[] } else none) fun b => ?_)
    by_cases q : S b
    · simp [q]
    · simp [q]
  · obtain ⟨S, h1, h2⟩ := h
    let z : Addr → Option Obj := fun b => if S b then s.heap.get? b else none
    have hz : ∀ b, S b ↔ (z b).isSome = true := fun b => by
      show S b ↔ (if S b then s.heap.get? b else none).isSome = true
      by_cases q : S b
      · rw [if_pos q]
        obtain ⟨xs, e⟩ := h1 b q
        obtain ⟨_, its, n, _, e2⟩ := e0.hok b _ e
        rw [e2]
        exact ⟨fun _ => rfl, fun _ => q⟩
      · rw [if_neg q]
        exact ⟨fun y => absurd y q, fun y => by cases y⟩
    have hg : ∀ b o, z b = some o → s.heap.get? b = some o := fun b o y => by
      have y' : (if S b then s.heap.get? b else none) = some o := y
      by_cases q : S b
      · rw [if_pos q] at y'; exact y'
      · rw [if_neg q] at y'; cases y'
    have hl : InL z H := fun b o y => h1 b ((hz b).mpr (by rw [y]; rfl))
    exact codeAny_mono (F.run A outer s (lock z H) args us vs _ _ hr (env0_lock e0 hl hg) hb hv (h2 z hz)) fun r s' q => cr_lock hl (fun v H' q hf => q hf) (fun cls d H' q hf => q hf) q
end PX
namespace PD
open PySem PySem.Spec PyProof.Rows L2 PX LamX
/-- a call of a plain def; the arguments' lists may be cells -/
def mCallPL (F : PF) (a : M (List D)) : M D := fun ε h => bR (a ε h) fun ds h1 => match lkL h1 ds with
  | some es => (match F es with
    | some r => if noScrR r = true then some (r, h1) else none
    | none => none)
  | none => none
variable [LamTab]
section
variable {X : Cx} {W : WX}
theorem callPL_of {K : PySem.W.Frag} {mg : Str → Option Value} {n : Nat} {F : PF} {a : M (List D)} {σ : L2.St} {H : Hp} {Q : VK} (hn : ArN n a) (h : tE K mg W (mCallPL F a) σ H Q) :
    tCallSD (spLock (SpP K mg n F)) [] (fun σ cls d H' => W cls d σ H') (tA K mg W a) σ H Q := by
  obtain ⟨c, ε, h, r, h', hK, hm, rfl, sr, er, e, px, go⟩ := h
  unfold tCallSD
  cases q : a ε h with
  | none => rw [mCallPL, q] at e; cases e
  | some z =>
    obtain ⟨ra, h1⟩ := z
    rw [mCallPL, q] at e
    cases ra with
    | ex x =>
      cases e
      exact ⟨c, ε, h, .ex x, _, hK, hm, rfl, sr, er, q, fun y ey => px y (by cases ey; rfl), fun a' ea => nomatch ea⟩
    | ok ds =>
      refine ⟨c, ε, h, .ok ds, h1, hK, hm, rfl, sr, er, q, Px.ok, fun ds' eds c1 vs l1 s1 r1 => ?_⟩
      cases eds
      have e' : (match lkL h1 ds with
        | some es => (match F es with
          | some r => if noScrR r = true then some (r, h1) else none
          | none => none)
        | none => none) = some (r, h') := e
      cases g1 : lkL h1 ds with
      | none => rw [g1] at e'; cases e'
      | some es =>
        rw [g1] at e'
        dsimp only at e'
        cases g2 : F es with
        | none => rw [g2] at e'; cases e'
        | some r2 =>
          rw [g2] at e'
          dsimp only at e'
          by_cases nr : noScrR r2 = true
          · rw [if_pos nr] at e'
            cases e'
            rw [List.append_nil]
            exact spP_lock (l1.K.trans hK) (l1.mg.trans hm) s1 r1 (hn _ _ _ _ q) g1 g2 nr (fun d ed c' v l s2 rd => go d ed c' v (l1.trans l) s2 rd) (fun x ex c' cls dx l s2 xr => px x ex c' cls dx (l1.trans l) s2 xr)
          · rw [if_neg nr] at e'; cases e'
theorem re_callPL {x : Str} {p pos : Pos} {e : Expr} {es : List Expr} {k j n : Nat} {F : PF} {ma : M (List D)} (G : FnP X.prog X.w X.K X.mg X.base x k n F) (hr : Room j X.A) (tk : Takes X W) (ha : RA X W (e :: es) ma) (hk : k ≤ j := by decide)
    (hn : ArN n ma := by repeat (first | exact ar_nil | refine ar_cons ?_)) (hg : Gl X x := by rfl)
    (hdb : (x == ("__debug__" : Str)) = false := by decide) (he : starEach (e :: es) X.env = (false, eval e X.env) :: starEach es X.env := by rfl) (hpl : (backTo pos (starEach es X.env)).any (·.1) = false := by rfl) :
    RE X W (.Call (.Name x p) (e :: es) [] pos) (mCallPL F ma) := by
  obtain ⟨f, fd, ps, hm, hkp, hb, hl, F⟩ := G.ex
  exact pe_imp (pe_callSD (fnOk_lock F) (hr.mono hk) hg hm hkp hb .nil (fun σ => passAt tk σ) ha hdb he hpl) fun σ H Q h => callPL_of hn h
end
end PD
namespace PD
open PySem PySem.Spec PyProof.Rows L2 PX LamX
end PD
namespace PD
open PySem PySem.Spec PyProof.Rows L2 PX LamX
end PD
namespace PD
open PySem PySem.Spec PyProof.Rows L2 PX LamX
end PD
namespace PD
open PySem PySem.Spec PyProof.Rows L2 PX LamX
variable [LamTab]
/-- tX.bind that tells the value's way, too -/
theorem tX.bindE {α β γ : Type} {Rl : RC → α → β → Prop} {K : PySem.W.Frag} {mg : Str → Option Value} {W : WX} {m : M α} {k : α → EH → O γ} {c : RC} {ε : Ev} {h h' : EH} {r : R γ} {σ : L2.St} {Q : β → Hp → Prop}
    (hK : c.K = K) (hm : MgE c mg) (sr : SR c h) (er : EnvR c ε σ) (e : bR (m ε h) k = some (r, h')) (px : Px W c σ r h')
    (go : ∀ a h1, m ε h = some (.ok a, h1) → ∀ c1 b, k a h1 = some (r, h') → c.Le c1 → SR c1 h1 → Rl c1 a b → Q b c1.H) : tX Rl K mg W m σ c.H Q := by
  cases q : m ε h with
  | none => rw [q] at e; cases e
  | some z =>
    obtain ⟨r1, h1⟩ := z
    cases r1 with
    | ok a =>
      rw [q] at e
      exact ⟨c, ε, h, .ok a, h1, hK, hm, rfl, sr, er, q, Px.ok, fun a' ea c1 b l s rb => by cases ea; exact go a h1 q c1 b e l s rb⟩
    | ex x =>
      rw [q] at e
      cases e
      exact ⟨c, ε, h, .ex x, _, hK, hm, rfl, sr, er, q, fun y ey => px y (by cases ey; rfl), fun a' ea => nomatch ea⟩
end PD
namespace PD
open PySem PySem.Spec PyProof.Rows L2 PX LamX
end PD
namespace PD
open PySem PySem.Spec PyProof.Rows L2 PX LamX
end PD
namespace PD
open PySem PySem.Spec PyProof.Rows L2 PX LamX
end PD
namespace PX
open PySem PySem.Spec PyProof.Rows L2 PySem.Calls
end PX
namespace PD
open PySem PySem.Spec PyProof.Rows L2 PX LamX
end PD
namespace PX
open PySem PySem.Spec PyProof.Rows L2 PySem.Calls
end PX
namespace PD
open PySem PySem.Spec PyProof.Rows L2 PX LamX
end PD
namespace PX
open PySem PySem.Spec PyProof.Rows L2 PySem.Calls
/-- what super().__init__ gets: the parameter, or a constant -/
inductive SArg
  | par
  | con (c : Str)
def SArg.N : SArg → List Str
  | .par => ["self", "code"]
  | .con _ => ["self"]
def SArg.is : SArg → List V → Addr → V → Prop
  | .par, vs, a, y => vs = [.ref a, y]
  | .con c, vs, a, y => vs = [.ref a] ∧ y = .str c
def SArg.ex : SArg → Expr → Prop
  | .par, e => ∃ p, e = .Name "code" p
  | .con c, e => ∃ j p, e = .Constant (.str c) j p
def SArg.te : SArg → TE
  | .par => tVar 1
  | .con c => tC (.str c)
end PX
namespace PX
open PySem PySem.Spec PyProof.Rows L2 PySem.Calls
theorem SArg.val {g : SArg} {vs : List V} {a : Addr} {y : V} {H : Hp} {Q : VK} (h : g.is vs a y) (q : Q y H) : g.te (vs.map some) H Q := by
  cases g with
  | par =>
    have h : vs = [.ref a, y] := h
    subst h
    exact ⟨y, rfl, q⟩
  | con c =>
    obtain ⟨rfl, rfl⟩ := h
    exact q
theorem SArg.len {g : SArg} {vs : List V} {a : Addr} {y : V} (h : g.is vs a y) : vs.length = g.N.length := by
  cases g with
  | par =>
    have h : vs = [.ref a, y] := h
    subst h; rfl
  | con c =>
    obtain ⟨rfl, _⟩ := h
    rfl
theorem SArg.self {g : SArg} {vs : List V} {us : List Value} {a : Addr} {y : V} (h : g.is vs a y) (r : Vals vs us) : (g.N.zip us).reverse.lookup ("self" : Str) = some (.ref a) ∧ ∀ (i : Nat) (x : Str) (v : V), g.N[i]? = some x → (vs.map some)[i]? = some (some v) → ∃ u, RelV v u ∧ (g.N.zip us).reverse.lookup x = some u := by
  cases g with
  | par =>
    have h : vs = [.ref a, y] := h
    subst h
    obtain ⟨u0, u1, rfl, r0, r1⟩ := r.two
    cases (show u0 = Value.ref a from r0)
    refine ⟨rfl, fun i x v h1 h2 => ?_⟩
    rcases i with _ | _ | n
    · cases h1; cases h2; exact ⟨_, r0, rfl⟩
    · cases h1; cases h2; exact ⟨_, r1, rfl⟩
    · simp at h2
  | con c =>
    obtain ⟨rfl, _⟩ := h
    match us, r with
    | [u0], .cons r0 .nil =>
      cases (show u0 = Value.ref a from r0)
      refine ⟨rfl, fun i x v h1 h2 => ?_⟩
      rcases i with _ | n
      · cases h1; cases h2; exact ⟨_, r0, rfl⟩
      · simp at h2
end PX
namespace PX
open PySem PySem.Spec PyProof.Rows L2 PySem.Calls
end PX
namespace PD
open PySem PySem.Spec PyProof.Rows L2 PX
end PD
namespace PX
open PySem PySem.Spec PyProof.Rows L2 PySem.Calls
end PX
namespace PD
open PySem PySem.Spec PyProof.Rows L2 PX LamX
end PD
namespace PX
open PySem PySem.Spec PyProof.Rows L2 PySem.Calls
/-- the operators that are served -/
inductive OpK | add | sub
def OpK.nm : OpK → String
  | .add => "add"
  | .sub => "sub"
end PX
namespace PD
open PySem PySem.Spec PyProof.Rows L2 PX LamX
end PD
namespace PX
open PySem PyProof.Rows TS
def hd0 (h : Heap) (v : Value) : Int := (intsOf h v).headD 0
structure TupsH (h : Heap) (vs : List Value) : Prop where
  ok : ∀ v ∈ vs, ∃ m ns, TupInts h v (m :: ns)
  un : ∀ u ∈ vs, ∀ v ∈ vs, hd0 h u = hd0 h v → u = v
theorem hd0_eq {h : Heap} {v : Value} {m : Int} {ns : List Int} (x : TupInts h v (m :: ns)) : hd0 h v = m := by
  unfold hd0; rw [x.ints]; rfl
theorem hd0_keep {h h' : Heap} {v : Value} {m : Int} {ns : List Int} (x : TupInts h v (m :: ns)) (k : ∀ b o, h.get? b = some o → o.cls = .type "tuple" → h'.get? b = some o) : hd0 h' v = hd0 h v := (hd0_eq (x.keeps k)).trans (hd0_eq x).symm
theorem TupsH.keeps {h h' : Heap} {vs : List Value} (x : TupsH h vs) (k : ∀ b o, h.get? b = some o → o.cls = .type "tuple" → h'.get? b = some o) : TupsH h' vs :=
  ⟨fun v hv => let ⟨m, ns, t⟩ := x.ok v hv; ⟨m, ns, t.keeps k⟩, fun u hu v hv e => by
    obtain ⟨m, ns, t⟩ := x.ok u hu
    obtain ⟨m', ns', t'⟩ := x.ok v hv
    exact x.un u hu v hv (by rw [← hd0_keep t k, ← hd0_keep t' k]; exact e)⟩
end PX
namespace PX
open PySem PySem.Spec PyProof.Rows L2 PD
end PX
namespace PD
open PySem PySem.Spec PyProof.Rows L2 PX LamX
end PD
namespace PD
open PySem PySem.Spec PyProof.Rows L2 PX LamX
end PD
namespace L2
open PySem PySem.Spec PyProof.Rows
/-- what a turn at depth k does: the store, the tests, then inner, then the loop again -/
def TurnEq (node : Expr) (k : Nat) (it acc : Value) (env : Env) (t : Expr) (p : Pos) (ifs : List Expr) (inner : Sem Fin → Sem Fin) : Prop :=
  compTurn node k it acc env = (do
    standAt p
    match ← pyNext it with
    | none => pure (.done .next)
    | some v => do
      letOwnedTupleGo t it v
      assign t env v
      let ok ← forIn ifs true (fun c r => if r = true then do let ok ← isTrue c env (eval c env); pure (ForInStep.yield ok) else pure (ForInStep.yield r))
      if ok = true then inner (again (.compLoop node k it acc env)) else again (.compLoop node k it acc env))
/-- the next for -/
def innerFor (node : Expr) (k : Nat) (acc : Value) (env : Env) (iter : Expr) : Sem Fin → Sem Fin := fun rest => do
  let x ← eval iter env
  standAt iter.pos
  let x ← foldedSetIterable iter env x
  let _ ← runOwn (.compStart node k (← holding [x] (pyIter x)) acc env) env
  rest
def innerApp (elt : Expr) (acc : Value) (env : Env) : Sem Fin → Sem Fin := fun rest => do
  (do let _ ← call (.builtin "list.append") [acc, ← eval elt env])
  rest
/-- the code of a node's start and of its turns -/
structure NodeIs (prog : Program) (w : World) (A : Around) (node : Expr) : Prop where
  u : ∀ k it acc env, A.under (.compLoop node k it acc env) = A
  u0 : ∀ k it acc env, A.under (.compStart node k it acc env) = A
  d : ∀ k it acc env, (model prog w).den (.compLoop node k it acc env) = (compTurn node k it acc env).onRaise (fun x => do noteFrame x env; theTreesLotGoes x)
  d0 : ∀ k it acc env, (model prog w).den (.compStart node k it acc env) = (compStart node k it acc env).onRaise (fun x => do noteFrame x env; standAt theWindowsPlace)
theorem node_lc {prog : Program} {w : World} {A : Around} {elt : Expr} {gs : List Comprehension} {scope : Scope} {pos : Pos} : NodeIs prog w A (.ListComp elt gs scope pos) := ⟨fun _ _ _ _ => rfl, fun _ _ _ _ => rfl, fun _ _ _ _ => rfl, fun _ _ _ _ => rfl⟩
section
variable {prog : Program} {w : World} {A : Around} {R : Result → Shared → Prop} {s : Shared} {node t : Expr} {k : Nat} {p : Pos} {ifs : List Expr} {inner : Sem Fin → Sem Fin} {it acc : Value} {env : Env}
/-- a start at any depth -/
theorem compStartN (N : NodeIs prog w A node) {g : Comprehension} (hg : (clausesOf node)[k]? = some g) (ha : g.is_async = 0) (h0 : codeAny (model prog w) A (.compLoop node k it acc env) R s)
    (h : wpAny (model prog w) A (pyIter it) (fun it' s' => codeAny (model prog w) A (.compLoop node k it' acc env) R s') (notedBy (model prog w) A env fun x s' => R (.error x) s') s) :
    codeAny (model prog w) A (.compStart node k it acc env) R s := by
  refine codeAny_of_tree ?_
  rw [N.u0, N.d0]
  refine wpAny_notedAt ?_
  unfold compStart
  rw [hg]
  have e : (some g).elim false (fun x => x.is_async != 0) = false := by
    show (g.is_async != 0) = false
    rw [ha]; rfl
  rw [if_neg (by rw [e]; exact Bool.false_ne_true)]
  show wpAny _ _ (ask >>= _) _ _ s
  refine wpAny_bind (wpAny_askSetting (wpAny_ite ?_))
  split
  · first
      | exact wpAny_bind (wpAny_pure (wpAny_pure (And.intro rfl h0)))
      | exact wpAny_pure (And.intro rfl h0)
  · first
      | exact wpAny_bind (wpAny_rule (wpAny_bind (wpAny_standAt (wpAny_bind (wpAny_mono h (fun it' s' h' => wpAny_pure (And.intro rfl h')) fun _ _ x => x)))))
      | (refine wpAny_bind (wpAny_rule ?_); show wpAny _ _ (standAt g.iter.pos >>= _) _ _ s; exact wpAny_bind (wpAny_standAt (wpAny_bind (wpAny_mono h (fun it' s' h' => wpAny_pure (And.intro rfl h')) fun _ _ x => x))))
/-- a loop at any depth -/
theorem compLoopN (N : NodeIs prog w A node) (T : TurnEq node k it acc env t p ifs inner) (I : Nat → Shared → Prop)
    (turn : ∀ n s, I n s →
      wpAny (model prog w) A (pyNext it) (fun r s₁ => match r with
      | none => R (.ok .next) s₁
      | some v => wpAny (model prog w) A (letOwnedTupleGo t it v) (fun _ s₁' => wpAny (model prog w) A (assign t env v) (fun _ s₂ =>
          wpAny (model prog w) A (forIn ifs true fun c r => if r = true then do let ok ← isTrue c env (eval c env); pure (ForInStep.yield ok) else pure (ForInStep.yield r)) (fun ok s₃ =>
            if ok = true then ∀ (rest : Sem Fin) (Qr : Fin → Shared → Prop) (Er : Value → Shared → Prop), (∀ s', (∃ m, m < n ∧ I m s') → wpAny (model prog w) A rest Qr Er s') → wpAny (model prog w) A (inner rest) Qr Er s₃
            else ∃ m, m < n ∧ I m s₃) (fun _ _ => False) s₂) (fun _ _ => False) s₁') (fun _ _ => False) s₁) (fun _ _ => False) s)
    (n : Nat) (h : I n s) :
    codeAny (model prog w) A (.compLoop node k it acc env) R s := by
  refine codeAny_loop rfl I (fun n s hI => ?_) n h
  rw [N.u, N.d]
  refine wpAny_noted ?_
  rw [T]
  refine wpAny_bind (wpAny_standAt (wpAny_bind (wpAny_mono (turn n s hI) (fun r s₁ h₁ => ?_) fun _ _ h' => h'.elim)))
  cases r with
  | none => exact wpAny_pure h₁
  | some v =>
    refine wpAny_bind (wpAny_mono h₁ (fun _ s₁' h₁' => ?_) fun _ _ h' => h'.elim)
    refine wpAny_bind (wpAny_mono h₁' (fun _ s₂ h₂ => wpAny_bind (wpAny_mono h₂ (fun ok s₃ h₃ => ?_) fun _ _ h' => h'.elim)) fun _ _ h' => h'.elim)
    cases ok with
    | false => exact wpAny_pure ⟨rfl, h₃⟩
    | true => exact h₃ _ _ _ fun s' h' => wpAny_pure ⟨rfl, h'⟩
end
end L2
namespace L2
open PySem PySem.Spec PyProof.Rows
/-- what stands within a for: from slots and heap to a heap where Nx -/
abbrev BodyT := L2.St → Hp → (Hp → Prop) → Prop
def tForB (wi : TI) (g : TG) (tt : TT) (vs : List Nat) (body : BodyT) : BodyT := fun σ H Nx => wi σ H fun J H1 => ∃ W : Nat → Nat → Hp → Prop, (∃ m, W 0 m H1) ∧ ∀ i m H, W i m H →
  (J.stop i H ∧ Nx H) ∨ (J.go i H ∧ ∃ Nx1 : Hp → Prop, (∀ H', Nx1 H' → ∃ m', m' < m ∧ W (i + 1) m' H') ∧ ∀ x H', J.yld i H x H' → g x (wipe σ vs) H' fun σ2 H2 => wipe σ2 vs = wipe σ vs ∧ tt σ2 H2 fun b H3 => if b = true then body σ2 H3 Nx1 else Nx1 H3)
/-- inner, run in the block, goes from body to Nx -/
def RunsB (X : Cx) (inner : Sem Fin → Sem Fin) (vs : List Nat) (body : BodyT) : Prop :=
  ∀ (pins : List (Addr × Obj)) (s : Shared) (σ : L2.St) (H : Hp) (Nx : Hp → Prop), Inv X pins σ H s → body σ H Nx → ∀ (rest : Sem Fin) (Qr : Fin → Shared → Prop) (Er : Value → Shared → Prop),
    (∀ s' H', Inv X pins (wipe σ vs) H' s' → Nx H' → wpAny (model X.prog X.w) X.A rest Qr Er s') → wpAny (model X.prog X.w) X.A (inner rest) Qr Er s
section
variable {X : Cx} {s3 : Shared} {H3 : Hp} {scope : Scope} {ce : Env} {fp : List Addr} {node t : Expr} {k : Nat} {p : Pos} {ifs : List Expr} {inner : Sem Fin → Sem Fin} {acc : Value} {g : TG} {tt : TT} {vs vsIn : List Nat} {body : BodyT}
theorem wipe_in {σ σ2 : L2.St} (hw : wipe σ2 vs = wipe σ vs) (hv : ∀ i ∈ vsIn, i ∈ vs) : (wipe σ vs).length = (wipe σ2 vsIn).length ∧ ∀ (j : Nat) v, (wipe σ vs)[j]? = some (some v) → (wipe σ2 vsIn)[j]? = some (some v) := by
  refine ⟨by rw [← hw, wipe_length, wipe_length], fun j v e => ?_⟩
  rw [← hw] at e
  obtain ⟨e1, e2⟩ := wipe_some e
  rw [wipe_out fun z => e2 (hv j z)]
  exact e1
/-- the loop of one for in the block -/
theorem loopB (hc : X.calm = true) (N : NodeIs X.prog X.w X.A node) {it : Addr} (T : TurnEq node k (.ref it) acc ce t p ifs inner) (hv : ∀ i ∈ vsIn, i ∈ vs)
    (pg : PG (X.blk s3 H3 scope ce fp) t g) (pt : PTs (X.blk s3 H3 scope ce fp) ifs tt) (pb : RunsB (X.blk s3 H3 scope ce fp) inner vsIn body)
    {J : It} {fp1 : List Addr} {tn1 : Nat → Heap → Prop} {K : PySem.W.Frag} (hK : X.K = K) (T1 : Turn X.prog X.w K t J fp1 it tn1) {pins : List (Addr × Obj)} {σ : L2.St} {H : Hp} {s : Shared} (I : Inv (X.blk s3 H3 scope ce fp) pins (wipe σ vs) H s) (st : tn1 0 s.heap)
    (f1 : ∀ {H'}, (∀ b ∈ fp1, H' b = none) → ∀ b ∈ fp1, FpOk (X.blk s3 H3 scope ce fp) pins H' b) (n1 : ∀ b ∈ fp1, H b = none) {Nx : Hp → Prop} {W : Nat → Nat → Hp → Prop} {m : Nat} (w0 : W 0 m H)
    (turn : ∀ i m H, W i m H → (J.stop i H ∧ Nx H) ∨ (J.go i H ∧ ∃ Nx1 : Hp → Prop, (∀ H', Nx1 H' → ∃ m', m' < m ∧ W (i + 1) m' H') ∧ ∀ x H', J.yld i H x H' → g x (wipe σ vs) H' fun σ2 H2 => wipe σ2 vs = wipe σ vs ∧ tt σ2 H2 fun b H3 => if b = true then body σ2 H3 Nx1 else Nx1 H3)) :
    codeAny (model X.prog X.w) X.A (.compLoop node k (.ref it) acc ce) (fun r s' => match r with
      | .ok f => f = .next ∧ ∃ H', Inv (X.blk s3 H3 scope ce fp) pins (wipe σ vs) H' s' ∧ Nx H'
      | .error _ => False) s := by
  subst hK
  refine compLoopN N T (fun n s' => ∃ i H', Inv (X.blk s3 H3 scope ce fp) pins (wipe σ vs) H' s' ∧ tn1 i s'.heap ∧ (∀ b ∈ fp1, H' b = none) ∧ W i n H') ?_ m ⟨0, H, I, st, n1, w0⟩
  rintro n s5 ⟨i, H5, I5, st5, n5, w5⟩
  rcases turn i n H5 w5 with ⟨stop, qq⟩ | ⟨go, Nx1, hNx, step⟩
  · have td := T1.done (X.blk s3 H3 scope ce fp) rfl rfl rfl hc i pins s5 _ H5 (fun _ _ => False) I5 (f1 n5) st5 stop
    refine thnF td fun r s6 ⟨hr, I6⟩ => ?_
    subst hr
    exact ⟨rfl, H5, I6, qq⟩
  · have ti := T1.item (X.blk s3 H3 scope ce fp) rfl rfl rfl hc i pins s5 _ H5 (fun _ _ => False) I5 (f1 n5) st5 go
    refine thnF ti fun r s6 ⟨u, hr, h6⟩ => ?_
    subst hr
    refine thnF h6 fun _ s7 ⟨x, H7, I7, r7, y7, st7, n7⟩ => ?_
    have I7' := I7.pinned (f1 n7) (T1.obj _ _ st7)
    refine thnF (pg.run _ s7 _ H7 x u _ I7' r7 (step x H7 y7)) fun _ s8 ⟨σ8, H8, I8, hw8, q8⟩ => ?_
    refine thnF (pt.run _ s8 σ8 H8 _ I8 q8) fun b s9 ⟨H9, I9, q9⟩ => ?_
    have fin : ∀ {σ9 : L2.St} {s' : Shared} {H' : Hp}, Inv (X.blk s3 H3 scope ce fp) (pins ++ pinsAt fp1 s7.heap) σ9 H' s' → (wipe σ vs).length = σ9.length ∧ (∀ (j : Nat) v, (wipe σ vs)[j]? = some (some v) → σ9[j]? = some (some v)) → Nx1 H' →
        ∃ m, m < n ∧ ∃ i H', Inv (X.blk s3 H3 scope ce fp) pins (wipe σ vs) H' s' ∧ tn1 i s'.heap ∧ (∀ b ∈ fp1, H' b = none) ∧ W i m H' := fun {σ9 s' H'} I' hl nx => by
      obtain ⟨m', hm, w'⟩ := hNx H' nx
      have pin' : ∀ b ∈ fp1, ∀ o, s7.heap.get? b = some o → s'.heap.get? b = some o ∧ H' b = none := fun b hb o e =>
        let z := I'.pin (b, o) (List.mem_append_right _ (List.mem_append_right _ (mem_pinsAt hb e)))
        ⟨z.1, z.2.1⟩
      refine ⟨m', hm, i + 1, H', (I'.unpinned (pins := pins)).weak hl.1 hl.2, T1.keep _ _ _ st7 fun b hb o e => (pin' b hb o e).1, fun b hb => ?_, w'⟩
      obtain ⟨o, e, _⟩ := T1.obj _ _ st7 b hb
      exact (pin' b hb o e).2
    cases b with
    | false =>
      simp only [Bool.false_eq_true, if_false] at q9 ⊢
      exact fin I9 (wipe_in (vsIn := []) hw8 (fun _ z => by cases z)) q9
    | true =>
      simp only [if_true] at q9 ⊢
      intro rest Qr Er hr
      exact pb _ s9 σ8 H9 Nx1 I9 q9 rest Qr Er fun s' H' I' nx => hr s' (fin I' (wipe_in hw8 hv) nx)
/-- a for within a for -/
theorem runs_for {iter : Expr} {wi : TI} {g' : Comprehension} (hc : X.calm = true) (N : NodeIs X.prog X.w X.A node) (hg : (clausesOf node)[k]? = some g') (ha : g'.is_async = 0) (T : ∀ it, TurnEq node k (.ref it) acc ce t p ifs inner) (hv : ∀ i ∈ vsIn, i ∈ vs) (hs : ∀ x, foldedSetIterable iter ce x = pure x)
    (pi : PI (X.blk s3 H3 scope ce fp) t iter wi) (hce : (X.blk s3 H3 scope ce fp).env = ce) (pg : PG (X.blk s3 H3 scope ce fp) t g) (pt : PTs (X.blk s3 H3 scope ce fp) ifs tt) (pb : RunsB (X.blk s3 H3 scope ce fp) inner vsIn body) :
    RunsB (X.blk s3 H3 scope ce fp) (innerFor node k acc ce iter) vs (tForB wi g tt vs body) := by
  intro pins s σ H Nx I hb rest Qr Er hr
  unfold innerFor
  have r1 := pi.run pins s σ H _ I hb
  rw [hce] at r1
  refine wpAny_bind (thnF r1 fun xv s10 hx => ?_)
  refine wpAny_bind (wpAny_standAt (wpAny_bind (wpAny_of_eq (hs xv) (wpAny_bind (wpAny_holding (thnF hx fun itv s11 h11 => ?_))))))
  obtain ⟨it1, fp1, tn1, J1, H11, e1, I11, T1, st11, f11, W1, ⟨m1, w1⟩, turn1⟩ := h11
  subst e1
  have loop1 := loopB (X := X) (s3 := s3) (H3 := H3) (scope := scope) (ce := ce) (fp := fp) hc N (T it1) hv pg pt pb rfl T1 (I11.weak (wipe_length _ _) (fun j v e => (wipe_some e).1)) st11 (fun hn b hb => ⟨hn b hb, (f11 b hb).2⟩) (fun b hb => (f11 b hb).1) w1 turn1
  refine wpAny_bind (wpAny_runOwn ?_)
  show codeAny (model X.prog X.w) (X.A.mark none) _ _ _
  rw [Around.mark_none]
  refine codeAny_mono (compStartN N hg ha loop1 (T1.self X.A 0 _ _ _ st11 loop1)) fun r s' hr' => ?_
  cases r with
  | error e => exact hr'.elim
  | ok f =>
    obtain ⟨ef, H', I', nx⟩ := hr'
    subst ef
    first
      | exact hr s' H' I' nx
      | exact wpAny_bind (wpAny_pure (hr s' H' I' nx))
/-- the end: one more at the list -/
def tApp (te : TE) (D : Addr) : BodyT := fun σ H Nx => te σ H fun y H4 => ∃ acc, H4 D = some (.lst acc) ∧ acc.length < sizeLine ∧ Nx (upd H4 D (.lst (acc ++ [y])))
theorem runs_app {elt : Expr} {te : TE} {D : Addr} (hce : (X.blk s3 H3 scope ce fp).env = ce) (pe : PE (X.blk s3 H3 scope ce fp) elt te) : RunsB (X.blk s3 H3 scope ce fp) (innerApp elt (.ref D) ce) [] (tApp te D) := by
  intro pins s σ H Nx I hb rest Qr Er hr
  unfold innerApp
  have r1 := pe.run pins s σ H _ I hb
  rw [hce] at r1
  refine wpAny_bind (wpAny_bind (thnF r1 fun z s17 ⟨yv, H17, I17, r17, acc, hD17, hz17, nx⟩ => wpAny_bind ?_))
  exact app_ok (X := X.blk s3 H3 scope ce fp) I17 hD17 hz17 r17 fun s18 I18 => wpAny_pure (hr s18 _ I18 nx)
end
end L2
namespace L2
open PySem PySem.Spec PyProof.Rows
def tLcN (o0 : Addr → HO) (wi : TI) (g : TG) (tt : TT) (vs : List Nat) (body : Addr → BodyT) : TE := fun σ H Q => wi σ H fun J H1 => ∀ D, H1 D = none → ∃ W : Nat → Nat → Hp → Prop, (∃ m, W 0 m (upd H1 D (o0 D))) ∧ ∀ i m H, W i m H →
  (J.stop i H ∧ Q (.ref D) H) ∨ (J.go i H ∧ ∃ Nx : Hp → Prop, (∀ H', Nx H' → ∃ m', m' < m ∧ W (i + 1) m' H') ∧ ∀ x H', J.yld i H x H' → g x (wipe σ vs) H' fun σ2 H2 => wipe σ2 vs = wipe σ vs ∧ tt σ2 H2 fun b H3 => if b = true then body D σ2 H3 Nx else Nx H3)
section
variable {X : Cx}
theorem lcN_core {pins : List (Addr × Obj)} {s : Shared} {σ : L2.St} {H : Hp} {Q : VK} {node tg iter : Expr} {ifs : List Expr} {gs : List Comprehension} {scope : Scope} {own : List (Str × Nat)} {vsIn : List Nat} {pos' : Pos} {wi : TI} {g : TG} {tt : TT} {body : Addr → BodyT} {inner : Env → Addr → Sem Fin → Sem Fin} {use : Option (Value → Sem Unit)} {Qf : Value → Shared → Prop} {newAcc : Sem Value} {o0 : Addr → HO} {ob0 : Obj}
    (hc : X.calm = true) (hN : X.N.Nodup) (hcl : clausesOf node = ⟨tg, iter, ifs, 0⟩ :: gs) (Nd : NodeIs X.prog X.w X.A node) (Te : ∀ it D env, TurnEq node 0 (.ref it) (.ref D) env tg iter.pos ifs (inner env D)) (I : Inv X pins σ H s) (hi : PI X tg iter wi) (ok : BlkOk X.N X.env.scope scope own) (hv : ∀ i ∈ vsIn, i ∈ own.map (·.2))
    (hnew : ∀ {s : Shared} {Q : Value → Shared → Prop}, Q (.ref s.heap.objs.size) { s with heap := s.heap.push ob0 } → wpAny (model X.prog X.w) X.A newAcc Q X.xe s) (hob : ∀ (H : Hp) (h : Heap), ObjOk X.prog X.w H (h.push ob0) h.objs.size (o0 h.objs.size))
    (hg : ∀ (s : Shared) (H : Hp) (C : Addr) (cl : List (Str × Addr)) (fp : List Addr), PG (X.blk s H scope (compEnvC scope cl C X.env) fp) tg g) (ht : ∀ (s : Shared) (H : Hp) (C : Addr) (cl : List (Str × Addr)) (fp : List Addr), PTs (X.blk s H scope (compEnvC scope cl C X.env) fp) ifs tt)
    (hb : ∀ (s : Shared) (H : Hp) (C : Addr) (cl : List (Str × Addr)) (fp : List Addr) (D : Addr), RunsB (X.blk s H scope (compEnvC scope cl C X.env) fp) (inner (compEnvC scope cl C X.env) D) vsIn (body D)) (hs : ∀ x, foldedSetIterable iter X.env x = pure x)
    (h : tLcN o0 wi g tt (own.map (·.2)) body σ H Q)
    (hRR : ∀ D C s' m H', Inv X pins σ H' s' → Q (.ref D) H' → s'.heap.Ns C m → FpOk X pins H' C → compPost (model X.prog X.w) X.A X.xe use Qf (.ref D) C (.ok .next) s') :
    wpAny (model X.prog X.w) X.A (comprehension node scope X.env pos' newAcc false (eval iter X.env) use) Qf X.xe s := by
  have hfree : ∀ y ∈ scope.names, y.2 = .free → ∃ c, X.env.cells.lookup y.1 = some c := fun y hy e => by
    rcases ok.free y hy e with k | k
    · exact I.ok.has _ (.inl k)
    · exact I.ok.has _ (.inr k)
  refine wpAny_comprehension_free (use := use) hcl hs (closure_ok hfree) ok.kind (fun y hy e => by rw [ok.uniq y hy, e])
    (thn (hi.run pins s σ H _ I h) fun xv s1 hx => thn hx fun itv s2 h2 => ?_)
  obtain ⟨it, fp, tn, J, H2, e, I2, T, st2, f2, q⟩ := h2
  subst e
  refine hnew (newEnv_comp ?_)
  generalize hD : s2.heap.objs.size = D
  have hDn : H2 D = none := I2.hok.fresh (Nat.le_of_eq hD)
  obtain ⟨W, ⟨m0, w0⟩, turn⟩ := q D hDn
  generalize hs3 : ({ s2 with heap := s2.heap.push ob0 } : Shared) = s3
  have I3 : Inv X pins σ (upd H2 D (o0 D)) s3 := by
    rw [← hs3]
    refine I2.laid (t' := s2.toks) (fun b o e => Heap.get?_push_of_some _ e) (Nat.le_of_eq hD) ?_
    rw [← hD]
    exact hob _ _
  have h3 : s3.heap = s2.heap.push ob0 := by rw [← hs3]
  have sz : ∀ b ∈ fp, b < s2.heap.objs.size := fun b hb => by
    obtain ⟨o, e, _⟩ := T.obj _ _ st2 b hb
    exact Heap.lt_size e
  have f3 : ∀ b ∈ fp, FpOk X pins (upd H2 D (o0 D)) b ∧ b < s3.heap.objs.size := fun b hb => by
    have hlt := sz b hb
    refine ⟨⟨?_, (f2 b hb).2⟩, by rw [h3, Heap.size_push]; exact Nat.lt_succ_of_lt hlt⟩
    rw [upd_ne (by rw [← hD]; exact Nat.ne_of_lt hlt)]
    exact (f2 b hb).1
  have st3 : tn 0 s3.heap := T.keep _ _ _ st2 fun b _ o e => by rw [h3]; exact Heap.get?_push_of_some _ e
  have I4 := block_start I3 ok hN f3
  have pg := hg s3 (upd H2 D (o0 D)) s3.heap.objs.size (cellsFrom (s3.heap.objs.size + 1) scope.names (cloFrom X.env.cells scope.names [])) fp
  have pt := ht s3 (upd H2 D (o0 D)) s3.heap.objs.size (cellsFrom (s3.heap.objs.size + 1) scope.names (cloFrom X.env.cells scope.names [])) fp
  have pb := hb s3 (upd H2 D (o0 D)) s3.heap.objs.size (cellsFrom (s3.heap.objs.size + 1) scope.names (cloFrom X.env.cells scope.names [])) fp D
  show codeAny _ _ (.compStart node 0 (.ref it) (.ref D) (compEnvC scope (cellsFrom (s3.heap.objs.size + 1) scope.names (cloFrom X.env.cells scope.names [])) s3.heap.objs.size X.env)) (compPost (model X.prog X.w) X.A X.xe use Qf (.ref D) s3.heap.objs.size) { s3 with heap := pushCells (s3.heap.push { cls := .type "dict", data := .dict #[] }) scope.names }
  have nfp : ∀ b ∈ fp, (upd H2 D (o0 D)) b = none := fun b hb => (f3 b hb).1.1
  generalize hce : compEnvC scope (cellsFrom (s3.heap.objs.size + 1) scope.names (cloFrom X.env.cells scope.names [])) s3.heap.objs.size X.env = ce at I4 pg pt pb ⊢
  have cL : ce.locals = s3.heap.objs.size := by subst hce; rfl
  generalize hH3 : upd H2 D (o0 D) = H3 at I3 I4 pg pt pb w0 nfp f3
  generalize hs4 : ({ s3 with heap := pushCells (s3.heap.push { cls := .type "dict", data := .dict #[] }) scope.names } : Shared) = s4 at I4 ⊢
  have st4 : tn 0 s4.heap := T.keep _ _ _ st3 fun b _ o e => by rw [← hs4]; exact pushCells_keeps _ _ _ _ (Heap.get?_push_of_some _ e)
  have stat : ∀ {H' : Hp}, (∀ b ∈ fp, H' b = none) → ∀ b ∈ fp, FpOk (X.blk s3 H3 scope ce fp) [] H' b := fun {H'} hn b hb =>
    ⟨hn b hb, (I4.ok.exf b hb).1, I4.ok.exfs b hb, .inl hb, fun x c e => (I4.ok.exf b hb).2 x c e, fun p hp => absurd (show p ∈ ([] : List (Addr × Obj)) ++ [] from hp) (by simp)⟩
  have loop0 := loopB (X := X) (s3 := s3) (H3 := H3) (scope := scope) (ce := ce) (fp := fp) hc Nd (Te it D ce) hv pg pt pb rfl T I4 st4 stat nfp w0 turn
  have loop : codeAny (model X.prog X.w) X.A (.compLoop node 0 (.ref it) (.ref D) ce) (compPost (model X.prog X.w) X.A X.xe use Qf (.ref D) s3.heap.objs.size) s4 := by
    refine codeAny_mono loop0 fun r s6 hr => ?_
    cases r with
    | error e => exact hr.elim
    | ok f =>
      obtain ⟨ef, H5, I6, qq⟩ := hr
      subst ef
      have I7 : Inv X pins σ H5 s6 := I3.call' (ch := fp) I6.os I6.base I6.hok I6.bare fun b hb => ⟨(f3 b hb).1.2.2.2.1, (f3 b hb).1.2.1, (f3 b hb).1.2.2.2.2.1, (f3 b hb).1.2.2.2.2.2⟩
      have nC : H5 s3.heap.objs.size = none := by
        have z : H5 ce.locals = none := I6.free
        rw [cL] at z
        exact z
      obtain ⟨m, hn, _⟩ := I6.loc
      have hn : s6.heap.Ns ce.locals m := hn
      rw [cL] at hn
      exact hRR D s3.heap.objs.size s6 m H5 I7 qq hn (I3.fpOk (Nat.le_refl _) nC)
  exact compStartN Nd (by rw [hcl]; rfl) rfl loop (T.self X.A 0 _ _ _ st4 loop)
/-- [e for .. for .. for ..], as a value -/
theorem pe_lcN {elt tg iter : Expr} {ifs : List Expr} {gs : List Comprehension} {scope : Scope} {own : List (Str × Nat)} {vsIn : List Nat} {pos : Pos} {wi : TI} {g : TG} {tt : TT} {body : Addr → BodyT} {inner : Env → Addr → Sem Fin → Sem Fin}
    (hc : X.calm = true) (hN : X.N.Nodup) (Te : ∀ it D env, TurnEq (.ListComp elt (⟨tg, iter, ifs, 0⟩ :: gs) scope pos) 0 (.ref it) (.ref D) env tg iter.pos ifs (inner env D)) (hi : PI X tg iter wi) (ok : BlkOk X.N X.env.scope scope own) (hv : ∀ i ∈ vsIn, i ∈ own.map (·.2))
    (hg : ∀ (s : Shared) (H : Hp) (C : Addr) (cl : List (Str × Addr)) (fp : List Addr), PG (X.blk s H scope (compEnvC scope cl C X.env) fp) tg g) (ht : ∀ (s : Shared) (H : Hp) (C : Addr) (cl : List (Str × Addr)) (fp : List Addr), PTs (X.blk s H scope (compEnvC scope cl C X.env) fp) ifs tt)
    (hb : ∀ (s : Shared) (H : Hp) (C : Addr) (cl : List (Str × Addr)) (fp : List Addr) (D : Addr), RunsB (X.blk s H scope (compEnvC scope cl C X.env) fp) (inner (compEnvC scope cl C X.env) D) vsIn (body D)) (hs : ∀ x, foldedSetIterable iter X.env x = pure x := by intro _; rfl) :
    PE X (.ListComp elt (⟨tg, iter, ifs, 0⟩ :: gs) scope pos) (tLcN (fun _ => .lst []) wi g tt (own.map (·.2)) body) := by
  refine ⟨fun pins s σ H Q I h => ?_⟩
  rw [eval_ListComp]
  refine lcN_core (o0 := fun _ => .lst []) (ob0 := { cls := .type "list", data := .seq ([] : List Value).toArray }) hc hN rfl node_lc Te I hi ok hv (fun {s Q} h => wpAny_newObj_type h (by show 0 ≤ sizeLine; decide)) (fun H h => ⟨Nat.zero_le _, [], 0, .nil, Heap.get?_push_size _ rfl⟩) hg ht hb hs h fun D C s' m H' I' q hn f => ⟨m, hn, fun h'' sb => ?_⟩
  obtain ⟨f0, f1, f2, f3, f4, f5⟩ := f
  exact ⟨.ref D, H', I'.turned (t' := s'.toks) (fun b o hb e => (sb.2 b hb).trans e) f0 f1 f3 f4 f5, rfl, q⟩
end
end L2
namespace PD
open PySem PySem.Spec PyProof.Rows L2
variable [LamTab]
abbrev MB := Ev → EH → Option (List D × EH)
def mbE (e : M D) : MB := fun ε h => match e ε h with
  | some (.ok y, h1) => some ([y], h1)
  | _ => none
def lpB (g : MG) (t : M Bool) (b : MB) (ε : Ev) : List D → EH → Option (List D × EH)
  | [], h => some ([], h)
  | d :: ds, h => match g d ε h with
    | none => none
    | some (ε1, h1) => match t ε1 h1 with
      | some (.ok true, h2) => (match b ε1 h2 with
        | some (ys, h3) => (match lpB g t b ε ds h3 with
          | some (zs, h4) => some (ys ++ zs, h4)
          | none => none)
        | none => none)
      | some (.ok false, h2) => lpB g t b ε ds h2
      | _ => none
def mbFor (mi : M (List D)) (g : MG) (t : M Bool) (vs : List Nat) (b : MB) : MB := fun ε h => match mi ε h with
  | some (.ok ds, h1) => lpB g t b (wipeE ε vs) ds h1
  | _ => none
/-- what stands within does what the mirror says, the list at p growing -/
def BodyR (K : PySem.W.Frag) (mg : Str → Option Value) (O : List V → HO) (Z : Nat) (p : Addr) (body : BodyT) (mb : MB) : Prop :=
  ∀ (c1 c2 : RC) (h2 hE : EH) (σ : L2.St) (ε : Ev) (acc ys : List D) (xs : List V) (Nx : Hp → Prop), c2.K = K → MgE c2 mg → Over c1 c2 p → SR c2 h2 → c2.H p = some (O xs) → Reps c2 acc xs → EnvR c2 ε σ → mb ε h2 = some (ys, hE) → (acc ++ ys).length ≤ Z →
    (∀ c3 xs3, c3.K = K → MgE c3 mg → Over c1 c3 p → SR c3 hE → c3.H p = some (O xs3) → Reps c3 (acc ++ ys) xs3 → c2.LeW c3 → (∀ ε' σ', EnvR c2 ε' σ' → EnvR c3 ε' σ') → Nx c3.H) → body σ c2.H Nx
theorem bodyR_app {K : PySem.W.Frag} {mg : Str → Option Value} {p : Addr} {el : M D} : BodyR K mg HO.lst sizeLine p (tApp (tE K mg W0 el) p) (mbE el) := by
  intro c1 c2 h2 hE σ ε acc ys xs Nx hK hm o s hxs racc en e2 hz next
  unfold mbE at e2
  cases q4 : el ε h2 with
  | none => rw [q4] at e2; cases e2
  | some z =>
    obtain ⟨ry, h6⟩ := z
    rw [q4] at e2
    cases ry with
    | ex x6 => cases e2
    | ok y0 =>
      cases e2
      refine ⟨c2, ε, h2, .ok y0, _, hK, hm, rfl, s, en, q4, Px.ok, fun y' ey c6 yv l6 s6 ry => ?_⟩
      cases ey
      have o6 := o.step l6
      have p6 := (l6.keep p _ hxs (fun _ z => by cases z) fun z => s.nb p z o.Bp).1
      have hlen : xs.length < sizeLine := by
        rw [← racc.length]
        simp only [List.length_append, List.length_cons, List.length_nil] at hz
        omega
      refine ⟨xs, p6, hlen, ?_⟩
      obtain ⟨o7, s7⟩ := o6.putB (ys := xs ++ [yv]) s6 p6
      exact next (c6.put p (.lst (xs ++ [yv]))) (xs ++ [yv]) (l6.K.trans hK) (MgE.put (noTab_lst p6) (l6.mg.trans hm)) o7 s7 upd_same (((racc.le l6).append (.cons ry .nil)).putB o6.Bp p6) (l6.toW.trans (lew_putB s6 o6.Bp p6)) (fun _ _ en' => (en'.le l6).putB o6.Bp p6)
theorem lp_of {K : PySem.W.Frag} {mg : Str → Option Value} {O : List V → HO} {Z : Nat} {p : Addr} {g : MG} {S vs : List Nat} {t : M Bool} {body : BodyT} {mb : MB} {σ : L2.St} {ε : Ev} {c1 cb c2 : RC} {J : It} {ds acc ys : List D} {xs : List V} {h2 hE : EH} {Nx : Hp → Prop} (hO : ∀ xs ps, O xs ≠ .tbl ps) (hS : ∀ i ∈ S, i ∈ vs) (hB : BodyR K mg O Z p body mb)
    (rJ : WalkR cb ds J) (hK2 : c2.K = K) (hm2 : MgE c2 mg) (l2 : cb.LeW c2) (o : Over c1 c2 p) (s : SR c2 h2) (hxs : c2.H p = some (O xs)) (racc : Reps c2 acc xs) (en : EnvR c2 (wipeE ε vs) (wipe σ vs)) (e2 : lpB g t mb (wipeE ε vs) ds h2 = some (ys, hE)) (hz : (acc ++ ys).length ≤ Z)
    (fin : ∀ c3 xs3, c3.K = K → MgE c3 mg → Over c1 c3 p → SR c3 hE → c3.H p = some (O xs3) → Reps c3 (acc ++ ys) xs3 → c2.LeW c3 → (∀ ε' σ', EnvR c2 ε' σ' → EnvR c3 ε' σ') → Nx c3.H) :
    ∃ W : Nat → Nat → Hp → Prop, (∃ m, W 0 m c2.H) ∧ ∀ i m H, W i m H →
      (J.stop i H ∧ Nx H) ∨ (J.go i H ∧ ∃ Nx1 : Hp → Prop, (∀ H', Nx1 H' → ∃ m', m' < m ∧ W (i + 1) m' H') ∧ ∀ x H', J.yld i H x H' → tG K mg S g x (wipe σ vs) H' fun σ2 H2 => wipe σ2 vs = wipe σ vs ∧ tT K mg W0 t σ2 H2 fun b H3 => if b = true then body σ2 H3 Nx1 else Nx1 H3) := by
  obtain ⟨G, Y, hw, hG, hY⟩ := rJ
  let Pv : Nat → Hp → Prop := fun i H => ∃ c3 h3 acc3 xs3 rest, c3.K = K ∧ MgE c3 mg ∧ c2.LeW c3 ∧ Over c1 c3 p ∧ c3.H = H ∧ SR c3 h3 ∧ H p = some (O xs3) ∧ Reps c3 acc3 xs3 ∧ (∀ ε' σ', EnvR c2 ε' σ' → EnvR c3 ε' σ') ∧ lpB g t mb (wipeE ε vs) (ds.drop i) h3 = some (rest, hE) ∧ acc3 ++ rest = acc ++ ys
  refine ⟨fun i m H => m = ds.length - i ∧ i ≤ ds.length ∧ Pv i H, ⟨ds.length, by simp, Nat.zero_le _, c2, h2, acc, xs, ys, hK2, hm2, RC.Le.toW (.refl c2), o, rfl, s, hxs, racc, fun _ _ e => e, e2, rfl⟩, ?_⟩
  rintro i m H ⟨rfl, hi, c3, h3, acc3, xs3, rest, hK3, hm3, lw3, o3, rfl, s3, hxs3, racc3, eu3, e3, ea3⟩
  by_cases hlt : i < ds.length
  · refine .inr ⟨hw.goes i _ hlt (hG c3 (l2.trans lw3)), Pv (i + 1), fun H' p' => ⟨ds.length - (i + 1), by omega, rfl, hlt, p'⟩, fun x H' y => ?_⟩
    obtain ⟨c4, rfl, l4, s4, d, hd, rd⟩ := hY i x c3 h3 H' (l2.trans lw3) s3 (hw.yields i _ x H' hlt (hG c3 (l2.trans lw3)) y)
    have hdr : ds.drop i = d :: ds.drop (i + 1) := by
      rw [List.drop_eq_getElem_cons hlt]
      have : ds[i] = d := by
        have := List.getElem?_eq_getElem hlt
        rw [this] at hd
        exact Option.some.inj hd
      rw [this]
    rw [hdr] at e3
    unfold lpB at e3
    have o4 := o3.step l4
    have p4 := (l4.keep p _ hxs3 (hO _) fun z => s3.nb p z o3.Bp).1
    have hK4 : c4.K = K := l4.K.trans hK3
    have hm4 : MgE c4 mg := l4.mg.trans hm3
    cases q2 : g d (wipeE ε vs) h3 with
    | none => rw [q2] at e3; cases e3
    | some z =>
      obtain ⟨ε5, h5⟩ := z
      rw [q2] at e3
      dsimp only at e3
      refine ⟨c4, d, wipeE ε vs, h3, ε5, h5, hK4, hm4, rfl, s4, rd, (eu3 _ _ en).le l4, q2, fun c5 σ5 l5 s5 en5 sv => ⟨wipe_save sv hS, ?_⟩⟩
      have o5 := o4.step l5
      have p5 := (l5.keep p _ p4 (hO _) fun z => s4.nb p z o4.Bp).1
      have hK5 : c5.K = K := l5.K.trans hK4
      have hm5 : MgE c5 mg := l5.mg.trans hm4
      cases q3 : t ε5 h5 with
      | none => rw [q3] at e3; cases e3
      | some z =>
        obtain ⟨rb, h6⟩ := z
        rw [q3] at e3
        cases rb with
        | ex x5 => cases e3
        | ok b =>
          refine ⟨c5, ε5, h5, .ok b, h6, hK5, hm5, rfl, s5, en5, q3, Px.ok, fun b' eb c6 b'' l6 s6 rb => ?_⟩
          cases eb
          subst rb
          have o6 := o5.step l6
          have p6 := (l6.keep p _ p5 (hO _) fun z => s5.nb p z o5.Bp).1
          have racc6 := ((racc3.le l4).le l5).le l6
          have hK6 : c6.K = K := l6.K.trans hK5
          have hm6 : MgE c6 mg := l6.mg.trans hm5
          have lw6 : c2.LeW c6 := lw3.trans ((l4.trans l5).trans l6).toW
          have eu6 : ∀ ε' σ', EnvR c2 ε' σ' → EnvR c6 ε' σ' := fun ε' σ' e => (((eu3 _ _ e).le l4).le l5).le l6
          cases b with
          | false =>
            rw [if_neg Bool.false_ne_true]
            exact ⟨c6, h6, acc3, xs3, rest, hK6, hm6, lw6, o6, rfl, s6, p6, racc6, eu6, e3, ea3⟩
          | true =>
            rw [if_pos rfl]
            dsimp only at e3
            cases q4 : mb ε5 h6 with
            | none => rw [q4] at e3; cases e3
            | some z =>
              obtain ⟨y1, h7⟩ := z
              rw [q4] at e3
              dsimp only at e3
              cases q5 : lpB g t mb (wipeE ε vs) (ds.drop (i + 1)) h7 with
              | none => rw [q5] at e3; cases e3
              | some z =>
                obtain ⟨zs, h8⟩ := z
                rw [q5] at e3
                cases e3
                refine hB c1 c6 h6 h7 σ5 ε5 acc3 y1 xs3 _ hK6 hm6 o6 s6 p6 racc6 (en5.le l6) q4 ?_ fun c7 xs7 hK7 hm7 o7 s7 p7 racc7 lw7 eu7 => ?_
                · have := congrArg List.length ea3
                  simp only [List.length_append] at this hz ⊢
                  omega
                · exact ⟨c7, h7, acc3 ++ y1, xs7, zs, hK7, hm7, lw6.trans lw7, o7, rfl, s7, p7, racc7, fun _ _ e => eu7 _ _ (eu6 _ _ e), q5, by rw [List.append_assoc]; exact ea3⟩
  · have ei : i = ds.length := by omega
    subst ei
    refine .inl ⟨hw.stops _ (hG c3 (l2.trans lw3)), ?_⟩
    rw [List.drop_length] at e3
    cases e3
    rw [List.append_nil] at ea3
    subst ea3
    exact fin c3 xs3 hK3 hm3 o3 s3 hxs3 racc3 lw3 eu3
theorem bodyR_for {K : PySem.W.Frag} {mg : Str → Option Value} {O : List V → HO} {Z : Nat} {p : Addr} {mi : M (List D)} {g : MG} {S vs : List Nat} {t : M Bool} {body : BodyT} {mb : MB} (hO : ∀ xs ps, O xs ≠ .tbl ps) (hS : ∀ i ∈ S, i ∈ vs) (hB : BodyR K mg O Z p body mb) :
    BodyR K mg O Z p (tForB (tI K mg W0 mi) (tG K mg S g) (tT K mg W0 t) vs body) (mbFor mi g t vs mb) := by
  intro c1 c2 h2 hE σ ε acc ys xs Nx hK hm o s hxs racc en e2 hz next
  unfold mbFor at e2
  cases q4 : mi ε h2 with
  | none => rw [q4] at e2; cases e2
  | some z =>
    obtain ⟨ry, h6⟩ := z
    rw [q4] at e2
    cases ry with
    | ex x6 => cases e2
    | ok ds =>
      dsimp only at e2
      refine ⟨c2, ε, h2, .ok ds, h6, hK, hm, rfl, s, en, q4, Px.ok, fun y' ey c6 J l6 s6 rJ => ?_⟩
      cases ey
      have p6 := (l6.keep p _ hxs (hO _) fun z => s.nb p z o.Bp).1
      exact lp_of hO hS hB rJ (l6.K.trans hK) (l6.mg.trans hm) (RC.Le.toW (.refl c6)) (o.step l6) s6 p6 (racc.le l6) (wipe_envR vs (en.le l6)) e2 hz fun c3 xs3 hK3 hm3 o3 s3 p3 r3 lw3 eu3 => next c3 xs3 hK3 hm3 o3 s3 p3 r3 (l6.toW.trans lw3) fun _ _ e => eu3 _ _ (e.le l6)
end PD
namespace PD
open PySem PySem.Spec PyProof.Rows L2
end PD
namespace PD
open PySem PySem.Spec PyProof.Rows L2
end PD
namespace PD
open PySem PySem.Spec PyProof.Rows L2 PX
end PD
namespace L2
open PySem PySem.Spec PyProof.Rows
end L2
namespace PD
open PySem PySem.Spec PyProof.Rows L2 PX LamX
end PD
namespace PD
open PySem PySem.Spec PyProof.Rows L2 PX
end PD
namespace PD
open PySem PySem.Spec PyProof.Rows L2 PX
end PD
namespace L2
open PySem PySem.Spec PyProof.Rows GenW
section
variable {prog : Program} {w : World} {A : Around} {E : Value → Shared → Prop} {s : Shared}
theorem special_lst_item {it l : Addr} {i : Nat} {items : Array Value} {x : Value} {Q : Option Value → Shared → Prop} (hit : s.heap.IsListIter it l i) (hl : s.heap.IsList l items) (hx : items[i]? = some x)
    (hQ : ∀ h', h'.IsListIter it l (i + 1) → Heap.SameBut it s.heap h' → Q (some x) { s with heap := h' }) : wpAny (model prog w) A (callSpecial? (.ref it) "__next__") Q E s := by
  obtain ⟨o, ho, hc, hd⟩ := id hit
  obtain ⟨ol, hol, _, nl, hdl⟩ := hl
  refine wpAny_callSpecial?_slot (name := Str.ofString "__next__") hit.typeIs slot_listiter_next (wpAny_call_entry slot_listiter_next hit.typeIs entry_listiter_next ?_ (args_listiter_next _))
  show wpAny _ _ (field (.ref it) 0 >>= _) _ _ s
  refine wpAny_bind (wpAny_field ho hd (x := .ref l) rfl ?_)
  show wpAny _ _ (if (Value.ref l == Value.none) = true then _ else _) _ _ s
  rw [if_neg (show ¬ ((Value.ref l == Value.none) = true) from Bool.false_ne_true)]
  show wpAny _ _ (field (.ref it) 1 >>= _) _ _ s
  refine wpAny_bind (wpAny_field ho hd (x := .int i 0) rfl ?_)
  show wpAny _ _ (seqItems? (.ref l) >>= _) _ _ s
  refine wpAny_bind (wpAny_seqItems hol hdl ?_)
  simp only [Int.toNat_natCast, hx]
  refine wpAny_bind (wpAny_setField ho hd (by simp) (wpAny_pure ⟨x, rfl, hQ _ ?_ (Heap.SameBut.update ..)⟩))
  exact ⟨_, Heap.get?_update_self _ ho (Obj.isFreed_of_fields (Obj.data_mapFields hd _)), (Obj.cls_mapFields ..).trans hc, by
    rw [Obj.data_mapFields hd]; simp [rawInt]⟩
theorem special_lst_end {it l : Addr} {i : Nat} {items : Array Value} {Q : Option Value → Shared → Prop} (hh : A.handled = none) (hit : s.heap.IsListIter it l i) (hl : s.heap.IsList l items) (hx : items[i]? = none)
    (hE : ∀ e h', StopX e h' → Heap.ExtBut it s.heap h' → E e { s with heap := h' }) : wpAny (model prog w) A (callSpecial? (.ref it) "__next__") Q E s := by
  obtain ⟨o, ho, hc, hd⟩ := id hit
  obtain ⟨ol, hol, _, nl, hdl⟩ := hl
  refine wpAny_callSpecial?_slot (name := Str.ofString "__next__") hit.typeIs slot_listiter_next (wpAny_call_entry slot_listiter_next hit.typeIs entry_listiter_next ?_ (args_listiter_next _))
  show wpAny _ _ (field (.ref it) 0 >>= _) _ _ s
  refine wpAny_bind (wpAny_field ho hd (x := .ref l) rfl ?_)
  show wpAny _ _ (if (Value.ref l == Value.none) = true then _ else _) _ _ s
  rw [if_neg (show ¬ ((Value.ref l == Value.none) = true) from Bool.false_ne_true)]
  show wpAny _ _ (field (.ref it) 1 >>= _) _ _ s
  refine wpAny_bind (wpAny_field ho hd (x := .int i 0) rfl ?_)
  show wpAny _ _ (seqItems? (.ref l) >>= _) _ _ s
  refine wpAny_bind (wpAny_seqItems hol hdl ?_)
  simp only [Int.toNat_natCast, hx]
  refine wpAny_bind (wpAny_rule (wpAny_bind (wpAny_setField ho hd (by simp) ?_)))
  show wpAny _ _ (newExc (.type "StopIteration") [] >>= _) _ _ _
  refine wpAny_bind ?_
  simp only [newExc, newTuple]
  refine wpAny_bind (wpAny_newObj_type ?_ (by size_fits))
  refine wpAny_bind (m := firstArgMember _ _) (wpAny_of_eq (a := Value.none) (by first | rfl | (simp only [firstArgMember]; rfl)) ?_)
  refine wpAny_newObj_type ?_ (by size_fits)
  simp only [raiseNew]
  refine wpAny_bind (wpAny_handled ?_)
  first | rw [show A.in1.handled = none from hh] | rw [hh]
  refine wpAny_bind (wpAny_pure (wpAny_throw ?_))
  refine hE _ _ ⟨_, _, _, rfl, Heap.get?_push_size _ rfl, rfl, rfl, ?_⟩ (((Heap.SameBut.update ..).extBut.push _).push _)
  first
    | rfl
    | (rw [Array.getElem?_append_left (by decide)]; rfl)
    | kernel_rfl
end
section
variable {X : Cx} {e : Expr} {te : TE}
def tYfLst (te : TE) : TYf := fun σ H Q => te σ H fun x H1 => ∃ a xs, x = .ref a ∧ H1 a = some (.lst xs) ∧ Q xs H1
theorem close_lst : typeLookup (.type "list_iterator") "close" = pure none := by rw [typeLookup_type, builtinLookup_eq_fast]; kernel_rfl
theorem yf_lst (he : PE X e te) : YfE X e (tYfLst te) := by
  refine ⟨fun pins s σ H Q I h => ?_⟩
  refine thn (he.run pins s σ H _ I h) fun v s1 ⟨x, H1, I1, r1, a, xs, ex, ha, hq⟩ => ?_
  subst ex
  obtain rfl : v = Value.ref a := r1
  obtain ⟨hlen, its, nc, rits, eo⟩ := I1.hok a _ ha
  have hl : s1.heap.IsList a its.toArray := ⟨_, eo, rfl, nc, rfl⟩
  have hlt : a < s1.heap.objs.size := Heap.lt_size eo
  refine ⟨"list", hl.typeIs, by decide, wpAny_pyIter_list hl ?_⟩
  have ksz : ∀ b o, s1.heap.get? b = some o → b ≠ s1.heap.objs.size := fun b o e => Nat.ne_of_lt (Heap.lt_size e)
  have kp : ∀ b o, s1.heap.get? b = some o → (s1.heap.push { cls := .type "list_iterator", data := .fields #[.ref a, .int 0 0] }).get? b = some o := fun b o e => Heap.get?_push_of_some _ e
  refine ⟨s1.heap.objs.size, H1, xs, fun j h => h.IsListIter s1.heap.objs.size a j ∧ h.IsList a its.toArray, rfl, I1.kept (t' := s1.toks) kp, .inr I1.sz, Nat.ne_of_gt I1.lt, fun y c hy => ?_, I1.hok.fresh (Nat.le_refl _), fun p hp => ?_,
    ⟨⟨_, Heap.get?_push_size _ rfl, rfl, rfl⟩, hl.push _⟩, ⟨⟨"list_iterator", fun j h q => ?_, close_lst, by decide⟩, fun j h h' q hk => ?_, fun A' j x s2 Q' E' hA hx q hQ => ?_, fun A' s2 Q' E' hA q hE => ?_⟩, hq⟩
  · obtain ⟨v, o, ho, _⟩ := I1.cell y c hy
    exact ksz c o ho
  · exact ksz p.1 _ (I1.pin p hp).1
  · obtain ⟨⟨o, ho, hc, _⟩, _⟩ := q
    exact ⟨o, ho, hc⟩
  · obtain ⟨⟨o, ho, r⟩, o2, ho2, r2⟩ := q
    exact ⟨⟨o, hk _ o (.inl rfl) ho, r⟩, o2, hk _ o2 (.inr (by rw [ha]; exact fun z => by cases z)) ho2, r2⟩
  · obtain ⟨q1, q2⟩ := q
    obtain ⟨u, hu, ru⟩ := rits.get hx
    have hne : a ≠ s1.heap.objs.size := Nat.ne_of_lt hlt
    exact special_lst_item q1 q2 (x := u) (by simpa using hu) fun h' q1' hs => hQ u h' s2.toks ru ⟨q1', q2.extBut hs.extBut hne⟩ fun b o hb eb => hs.extBut b o hb eb
  · obtain ⟨q1, q2⟩ := q
    have hnone : its.toArray[xs.length]? = none := by
      have e := rits.length
      have e2 : its[xs.length]? = none := List.getElem?_eq_none_iff.mpr (by omega)
      simpa using e2
    exact special_lst_end hA q1 q2 hnone fun e h' hS hk => hE e h' s2.toks hS fun b o hb eb => hk b o hb eb
end
end L2
namespace L2
open PySem PySem.Spec PyProof.Rows GenW
/-- between two turns the consumer puts v behind the list at S and writes its block at C -/
structure SleptC (S C : Addr) (v : Value) (s s' : Shared) : Prop where
  os : s'.os = s.os
  bare : AllBare s'.gens
  keep : ∀ b o, b ≠ S → b ≠ C → s.heap.get? b = some o → s'.heap.get? b = some o
  own : ∀ acc c, s.heap.get? S = some (lstObj acc c) → ∃ c', s'.heap.get? S = some (lstObj (acc.push v) c')
  blk : ∃ o, s'.heap.get? C = some o ∧ ∀ u, o.data ≠ .cell u
def GIC (X : Cx) (S C : Addr) (oC : Obj) (ys : List V) (σ : St) (H : Hp) (s : Shared) : Prop :=
  ∃ (acc : Array Value) (c : Nat), Vals ys acc.toList ∧ Inv X [(S, lstObj acc c), (C, oC)] σ H s
structure ApartC (X : Cx) (S C : Addr) : Prop where
  s : Apart X S
  c : Apart X C
  ne : S ≠ C
  pn : ∀ p ∈ X.pn, p.1 ≠ S ∧ p.1 ≠ C
section
variable {X : Cx} {S C : Addr} {oC : Obj} {ys : List V} {σ : St} {H : Hp} {s s' : Shared}
theorem GIC.at (h : GIC X S C oC ys σ H s) : H S = none ∧ H C = none ∧ s.heap.get? C = some oC ∧ ∃ (acc : Array Value) (c : Nat), Vals ys acc.toList ∧ s.heap.get? S = some (lstObj acc c) := by
  obtain ⟨acc, c, r, I⟩ := h
  obtain ⟨h1, h2, _⟩ := I.pin (S, lstObj acc c) (List.mem_append_right _ List.mem_cons_self)
  obtain ⟨h3, h4, _⟩ := I.pin (C, oC) (List.mem_append_right _ (List.mem_cons_of_mem _ List.mem_cons_self))
  exact ⟨h2, h4, h3, acc, c, r, h1⟩
theorem GIC.woken {x : V} {v : Value} (A : ApartC X S C) (h : GIC X S C oC ys σ H s) (rv : RelV x v) (z : SleptC S C v s s') : ∃ oC', s'.heap.get? C = some oC' ∧ GIC X S C oC' (ys ++ [x]) σ H s' := by
  obtain ⟨hS0, hC0, _⟩ := h.at
  obtain ⟨acc, c, r, I⟩ := h
  obtain ⟨eS, _, hSL, hSf, _⟩ := I.pin (S, lstObj acc c) (List.mem_append_right _ List.mem_cons_self)
  obtain ⟨eC, _, hCL, hCf, _⟩ := I.pin (C, oC) (List.mem_append_right _ (List.mem_cons_of_mem _ List.mem_cons_self))
  have I0 : Inv X [] σ H s := I.pins_of fun p hp => by cases hp
  have nt : ∀ b u, H b = some u → b ≠ S ∧ b ≠ C := fun b u q => ⟨fun hb => by rw [hb, hS0] at q; (cases q), fun hb => by rw [hb, hC0] at q; (cases q)⟩
  obtain ⟨z1, z2, z3, z4, oC', eC', dC'⟩ := z
  obtain ⟨c', eS'⟩ := z4 acc c eS
  obtain ⟨hh, g, d, t, o⟩ := s'
  have ho : o = s.os := z1
  subst ho
  have nc : ∀ b, b ∉ [S, C] → b ≠ S ∧ b ≠ C := fun b hb => ⟨fun e => hb (by rw [e]; exact List.mem_cons_self), fun e => hb (by rw [e]; exact List.mem_cons_of_mem _ List.mem_cons_self)⟩
  have J : Inv X [] σ H { s with heap := hh, gens := g, drawn := d, toks := t } := by
    refine I0.step (g' := g) (t' := t) (d' := d) (ch := [S, C]) (fun b hb => ?_)
      (fun b ob _ _ hc q _ => z3 b ob (nc b hc).1 (nc b hc).2 q) (fun b ob _ _ hc q _ => ⟨ob.slots, z3 b ob (nc b hc).1 (nc b hc).2 q⟩) (fun _ _ _ _ n => n) (fun b ob hc q => ⟨ob, z3 b ob (nc b hc).1 (nc b hc).2 q⟩)
      (fun _ _ q => q) (fun _ _ _ q => q) (fun b ps q => ⟨#[], by rw [q]; simp⟩) (fun m hm => ?_) (fun b u q => ?_) z2
    · rcases List.mem_cons.mp hb with e | hb
      · rw [e]
        refine ⟨.inr A.s.1, A.s.2.1, A.s.2.2, fun p hp => ?_⟩
        rcases List.mem_append.mp hp with hp | hp
        · exact (A.pn p hp).1
        · cases hp
      · rw [List.mem_singleton.mp hb]
        refine ⟨.inr A.c.1, A.c.2.1, A.c.2.2, fun p hp => ?_⟩
        rcases List.mem_append.mp hp with hp | hp
        · exact (A.pn p hp).2
        · cases hp
    · obtain ⟨ob, es, ep, ho, r⟩ := hm
      exact ⟨ob, es, ep, z3 _ ob (Ne.symm hSL) (Ne.symm hCL) ho, r⟩
    · refine (I0.hok b u q).stay (fun c v hc y => ?_) (fun _ y => y) fun _ _ y => y
      rcases hc with y' | y'
      · rw [y'] at y ⊢; exact z3 _ v (nt b u q).1 (nt b u q).2 y
      · exact z3 c v (nt c _ y').1 (nt c _ y').2 y
  refine ⟨oC', eC', acc.push v, c', ?_, J.pins_of fun p hp => ?_⟩
  · rw [Array.toList_push]
    exact r.append (.cons rv .nil)
  · rcases List.mem_cons.mp hp with hp | hp
    · rw [hp]
      exact ⟨eS', hS0, hSL, hSf, fun v q => by cases q⟩
    · rw [List.mem_singleton.mp hp]
      exact ⟨eC', hC0, hCL, hCf, dC'⟩
/-- the protocol: an item is out; the consumer's block stands as it stood when it woke the generator -/
def GYC (X : Cx) (S C : Addr) : Protocol := fun n s₀ v s kap =>
  ∃ ys x σ H oC, n + 1 + ys.length = sizeLine ∧ RelV x v ∧ s₀.heap.get? C = some oC ∧ GIC X S C oC ys σ H s ∧ ∀ s', SleptC S C v s s' → kap (.send .none) s'
/-- where the generator's code stands -/
structure GCC (X : Cx) (S C : Addr) (A : Around) (c : Code) (fs : List Frame) (gd : Bool → Bool) : Prop where
  ap : ApartC X S C
  over : A.over c fs = X.A
  split : splitAtGen fs = none
  guard : fs.any Frame.guarded = false
  gd : gd false = false
/-- the turns of «yield from» -/
theorem seg_yfC {A : Around} {R : GenEnd} {fs : List Frame} {it : Addr} {xs : List V} {Stt : Nat → Heap → Prop} (hA : ApartC X S C) (hpi : ∀ p ∈ X.pn, p.1 ≠ it)
    (hex : it ∈ X.ex ∨ X.s_0.heap.objs.size ≤ it) (hL : it ≠ X.env.locals) (hcell : ∀ x c, X.env.cells.lookup x = some c → c ≠ it) (hSi : it ≠ S) (hCi : it ≠ C) (hH : H it = none) (q : QIt X H it xs Stt)
    (ho : (A.over (.builtin "proto.yield_from" ⟨[.ref it, .bool false, .none], []⟩) fs).handled = none) (hsp : splitAtGen fs = none) (hgd : fs.any Frame.guarded = false) (hle : xs.length ≤ sizeLine)
    (hend : ∀ (n : Nat) (s₀ s : Shared) (oC : Obj), n + xs.length = sizeLine → s₀.heap.get? C = some oC → GIC X S C oC xs σ H s → Seg (model X.prog X.w) A R (GYC X S C) n s₀ (.builtin "proto.yield_from" ⟨[.ref it, .bool false, .none], []⟩) (.pure (.done (.ret .none))) fs s) :
    ∀ (r j n : Nat) (s₀ s : Shared) (oC : Obj), j + r = xs.length → n + j = sizeLine → s₀.heap.get? C = some oC → GIC X S C oC (xs.take j) σ H s → Stt j s.heap →
      Seg (model X.prog X.w) A R (GYC X S C) n s₀ (.builtin "proto.yield_from" ⟨[.ref it, .bool false, .none], []⟩) ((model X.prog X.w).den (.builtin "proto.yield_from" ⟨[.ref it, .bool false, .none], []⟩)) fs s := by
  obtain ⟨T, hT, hcl, hng⟩ := q.ty
  have turned : ∀ {zs : List V} {oC : Obj} {s : Shared} {h' : Heap} {tk : Nat}, GIC X S C oC zs σ H s → (∀ b o, b ≠ it → s.heap.get? b = some o → h'.get? b = some o) → GIC X S C oC zs σ H { s with heap := h', toks := tk } := fun {zs oC s h' tk} hI hk => by
    obtain ⟨acc, cc, r, I⟩ := hI
    refine ⟨acc, cc, r, I.turned (it := it) hk hH hL hex hcell fun p hp => ?_⟩
    rcases List.mem_append.mp hp with hp | hp
    · exact hpi p hp
    · rcases List.mem_cons.mp hp with hp | hp
      · rw [hp]; exact Ne.symm hSi
      · rw [List.mem_singleton.mp hp]; exact Ne.symm hCi
  intro r
  induction r with
  | zero =>
    intro j n s₀ s oC hj hn h0 hI hst
    have hj' : j = xs.length := by omega
    subst hj'
    rw [List.take_length] at hI
    rw [den_yf]
    unfold Builtin.«proto.yield_from»
    try dsimp only
    refine seg_bind (wpAny_pure ?_)
    try dsimp only
    refine seg_bind (wpAny_attempt (wpAny_holding ?_))
    rw [if_neg Bool.false_ne_true, if_pos (show (Value.none == Value.none) = true from rfl)]
    refine wpAny_bind (wpAny_rule (wpAny_bind ?_))
    refine q.done _ s _ _ ho hst fun e h' tk hS hk => ?_
    obtain ⟨a, o, vs, rfl, hoa, hcls, hdat, h5⟩ := hS
    try dsimp only
    refine seg_bind (wpAny_endsTurn hoa hcls ?_)
    try dsimp only
    rw [if_pos rfl]
    first
      | refine seg_bind (wpAny_rule ?_)
      | (rw [if_neg Bool.false_ne_true]; refine seg_bind (wpAny_rule ?_))
      | (rw [if_neg Bool.false_ne_true]; refine seg_bind (wpAny_pure ?_); refine seg_bind (wpAny_rule ?_))
    refine seg_bind (wpAny_field hoa hdat h5 ?_)
    exact hend n s₀ _ oC hn h0 (turned hI hk)
  | succ r ih =>
    intro j n s₀ s oC hj hn h0 hI hst
    have hjl : j < xs.length := by omega
    obtain ⟨x, hx⟩ : ∃ x, xs[j]? = some x := ⟨xs[j], List.getElem?_eq_getElem hjl⟩
    obtain ⟨n, rfl⟩ : ∃ m, n = m + 1 := ⟨n - 1, by omega⟩
    have htl : (xs.take j).length = j := by rw [List.length_take]; omega
    rw [den_yf]
    unfold Builtin.«proto.yield_from»
    try dsimp only
    refine seg_bind (wpAny_pure ?_)
    try dsimp only
    refine seg_bind (wpAny_attempt (wpAny_holding ?_))
    rw [if_neg Bool.false_ne_true, if_pos (show (Value.none == Value.none) = true from rfl)]
    refine wpAny_bind (wpAny_rule (wpAny_bind ?_))
    refine q.item _ j x s _ _ ho hx hst fun v h' tk rv hst' hk => ?_
    have hI' := turned (tk := tk) hI hk
    obtain ⟨oi, hoi, hoc⟩ := hT (j + 1) h' hst'
    refine wpAny_pure ?_
    try dsimp only
    refine seg_bind (wpAny_typeOf (T := T) ⟨oi, hoi, hoc⟩ ?_)
    try dsimp only
    first
      | (refine seg_bind (wpAny_of_eq hcl ?_); refine seg_bind (wpAny_pure ?_))
      | refine seg_bind (wpAny_bind (wpAny_of_eq hcl (wpAny_pure ?_)))
      | refine seg_bind (wpAny_of_eq hcl ?_)
    try dsimp only
    refine seg_bind (wpAny_sleptOver hoi hoc hng ?_)
    refine seg_yield hsp rfl hgd ?_
    refine ⟨xs.take j, x, σ, H, oC, ?_, rv, h0, hI', fun s'' z => ?_⟩
    · rw [htl]; exact hn
    have hS0 := hI'.at.1
    have hC0 := hI'.at.2.1
    obtain ⟨oC2, h02, hI2⟩ := hI'.woken hA rv z
    have hst2 : Stt (j + 1) s''.heap := q.frame (j + 1) h' s''.heap hst' fun b o hb e => z.keep b o (fun hm => by
      rcases hb with y | y
      · exact hSi (y.symm.trans hm)
      · exact y (by rw [hm]; exact hS0)) (fun hm => by
      rcases hb with y | y
      · exact hCi (y.symm.trans hm)
      · exact y (by rw [hm]; exact hC0)) e
    obtain ⟨oj, hoj, hojc⟩ := hT (j + 1) s''.heap hst2
    have etk : xs.take j ++ [x] = xs.take (j + 1) := by
      rw [List.take_add_one, hx]; rfl
    rw [etk] at hI2
    show Seg _ _ _ _ n s'' _ (Builtin.Generator.sleptOver (.ref it) false >>= fun _ => _) fs s''
    refine seg_bind (wpAny_sleptOver hoj hojc hng ?_)
    try dsimp only
    refine seg_bind (wpAny_pure ?_)
    exact seg_again (plainId_quiet plain_yf _) (ih (j + 1) n s'' s'' oC2 (by omega) (by omega) h02 hI2 hst2)
/-- the body: a plain statement, then «yield from» -/
theorem seg_bodyC {st : Stmt} {e : Expr} {yp pos : Pos} {t1 : TS} {t2 : TYf} (h1 : PS X st t1) (h2 : YfE X e t2) (hh : X.A.handled = none) {A : Around} {R : GenEnd} {s₀ : Shared} {c : Code} {fs : List Frame} {K : Flow → Sem PySem.Fin} {J : Value → Sem PySem.Fin} {gd : Bool → Bool} {lv : List Value → List Value} {Q : List V → Hp → Prop}
    (g : GCC X S C A c fs gd) (hx : ∀ (n : Nat) (s₀ : Shared) (e : Value) (s : Shared), X.xe e s → Seg (model X.prog X.w) A R (GYC X S C) n s₀ c (J e) fs s)
    (hok : ∀ (n : Nat) (ys : List V) (s₀ s : Shared) (σ : St) (H : Hp) (oC : Obj), n + ys.length = sizeLine → s₀.heap.get? C = some oC → GIC X S C oC ys σ H s → Q ys H → Seg (model X.prog X.w) A R (GYC X S C) n s₀ c (K .next) fs s)
    (h0 : s₀.heap.get? C = some oC) (hI : GIC X S C oC [] σ H s)
    (ht : t1 { nx := fun σ1 H1 => t2 σ1 H1 fun xs H2 => xs.length ≤ sizeLine ∧ Q xs H2, rt := fun _ _ => False, bk := fun _ _ => False, ct := fun _ _ => False } σ H) (hi : interactive X.env = false := by rfl) :
    Seg (model X.prog X.w) A R (GYC X S C) sizeLine s₀ c ((execs [st, .Expr (.YieldFrom e yp) pos] X.env).wrap K J gd lv) fs s := by
  refine seg_execs_cons ?_
  obtain ⟨acc, cc, r, I⟩ := hI
  refine seg_wrap ?_
  rw [g.over]
  refine wpAny_mono (h1.run _ s σ H _ I ht) (fun f s1 hs => ?_) fun x s' hx' => hx _ s₀ x s' hx'
  cases f with
  | brk => obtain ⟨_, _, _, q⟩ := hs; exact False.elim q
  | cont => obtain ⟨_, _, _, q⟩ := hs; exact False.elim q
  | ret u => obtain ⟨_, _, _, _, _, q⟩ := hs; exact False.elim q
  | next =>
    obtain ⟨σ1, H1, I1, q1⟩ := hs
    refine seg_execs_cons ?_
    rw [exec_Expr X.env _ pos hi rfl]
    show Seg _ _ _ _ sizeLine s₀ c (.at pos fun _ => ((eval e X.env >>= fun v => (standAt yp >>= fun _ => yieldFrom X.env v)) >>= fun x => dropValue (.YieldFrom e yp) pos x).wrap _ J gd lv) fs s1
    refine seg_at ?_
    refine segw_bind2 ?_
    rw [g.over]
    refine wpAny_mono (h2.run _ s1 σ1 H1 _ I1 q1) (fun v s2 hv => ?_) fun x s' hx' => hx _ s₀ x s' hx'
    obtain ⟨T, hT, hne, hit⟩ := hv
    have hne' : ¬ ((Value.type T == Value.type "coroutine") = true) := by rw [hne]; exact Bool.false_ne_true
    refine seg_at ?_
    show Seg _ _ _ _ sizeLine s₀ c ((yieldFrom X.env v).wrap (fun b => (dropValue (.YieldFrom e yp) pos b).wrap _ J gd lv) J gd lv) fs s2
    unfold yieldFrom
    refine seg_bind_wrap (wpAny_typeOf hT ?_)
    rw [if_neg hne']
    refine seg_bind_wrap (wpAny_holding ?_)
    rw [g.over]
    refine wpAny_mono hit (fun u s3 hu => ?_) fun x s' hx' => hx _ s₀ x s' hx'
    obtain ⟨it, H', xs, Stt, rfl, I3, q1, q2, q3, q4, q5, q6, q7, hle, hq⟩ := hu
    refine seg_call fun p => ?_
    have hSi : it ≠ S := fun z => q5 (S, lstObj acc cc) (List.mem_append_right _ List.mem_cons_self) z.symm
    have hCi : it ≠ C := fun z => q5 (C, oC) (List.mem_append_right _ (List.mem_cons_of_mem _ List.mem_cons_self)) z.symm
    refine seg_yfC (xs := xs) g.ap (fun p hp => q5 p (List.mem_append_left _ hp)) q1 q2 q3 hSi hCi q4 q7 ?_ ?_ ?_ hle
      (fun n' s₀' s' oC' hn' h0' hG => ?_) xs.length 0 sizeLine s₀ s3 oC (Nat.zero_add _) (Nat.add_zero _) h0 ⟨acc, cc, by rw [List.take_zero]; exact r, I3⟩ q6
    · show (A.over c fs).handled = none
      rw [g.over]; exact hh
    · show (splitAtGen fs).map _ = none
      rw [g.split]; rfl
    · show (gd false || fs.any Frame.guarded) = false
      rw [g.gd, g.guard]; rfl
    · refine seg_leaf (.ok (.ret .none)) ?_
      exact seg_execs_nil (env := X.env) (H := J) (gd := gd) (lv := lv) (hok n' xs s₀' s' σ1 H' oC' hn' h0' hG hq)
end
end L2
namespace L2
open PySem PySem.Spec PyProof.Rows GenW
abbrev SpC := List V → Hp → (List V → Hp → Prop) → Prop
def FEndC (P : Program) (w : World) (outer : List Env) (H : Hp) (s : Shared) (S C : Addr) (Q : List V → Hp → Prop) (s₀ s1 : Shared) : Prop :=
  ∃ H' ys acc c, s1.os = s.os ∧ AllBare s1.gens ∧ Un (frs outer) [] H H' s.heap s1.heap ∧ HOk P w H' s1.heap ∧ H' S = none ∧ H' C = none ∧ s1.heap.get? S = some (lstObj acc c) ∧ (∃ oC, s₀.heap.get? C = some oC ∧ s1.heap.get? C = some oC) ∧ Vals ys acc.toList ∧ ys.length ≤ sizeLine ∧ Q ys H'
def REndC (P : Program) (w : World) (outer : List Env) (H : Hp) (s : Shared) (S C : Addr) (Q : List V → Hp → Prop) : GenEnd := fun n s₀ r s1 =>
  ((r = .ok (.ret .none) ∨ r = .ok .next) ∧ FEndC P w outer H s S C Q s₀ s1) ∨ ∃ e, r = .error e ∧ False
def YItemC (s : Shared) (S C a : Addr) (g : Nat) : Protocol := fun n s₀ v s1 kap =>
  s1.os = s.os ∧ AllBare s1.gens ∧ s1.heap.NoLimit ∧ s1.heap.IsGen a g ∧ (∃ (acc : Array Value) (c : Nat), s1.heap.get? S = some (lstObj acc c) ∧ n + 1 + acc.size = sizeLine) ∧ (∃ oC, s₀.heap.get? C = some oC ∧ s1.heap.get? C = some oC) ∧ ∀ s', SleptC S C v s1 s' → kap (.send .none) s'
def GMadeC (P : Program) (w : World) (k : Nat) (outer : List Env) (H : Hp) (s : Shared) (Q : List V → Hp → Prop) (u : Value) (s' : Shared) : Prop :=
  ∃ (a : Addr) (g : Nat) (c : Code), u = .ref a ∧ s.heap.objs.size ≤ a ∧ a < s'.heap.objs.size ∧ s'.heap.IsGen a g ∧ s'.gens[g]? = some (.fresh c) ∧ s'.os = s.os ∧ AllBare s'.gens ∧ s'.heap.NoLimit ∧ (∀ b o, s.heap.get? b = some o → s'.heap.get? b = some o) ∧
    ∀ (A : Around) (S C : Addr) (s2 : Shared), Room k A → A.frames = some outer → s'.heap.objs.size ≤ S → s'.heap.objs.size ≤ C → S ≠ C → (∀ b o, s'.heap.get? b = some o → s2.heap.get? b = some o) → (∃ c, s2.heap.get? S = some (lstObj #[] c)) → (∃ oC, s2.heap.get? C = some oC ∧ ∀ v, oC.data ≠ .cell v) → s2.os = s.os → AllBare s2.gens →
      Seg (model P w) A (REndC P w outer H s S C Q) (YItemC s S C a g) sizeLine s2 c ((model P w).den c) [] s2
structure GFnC (P : Program) (w : World) (K : PySem.W.Frag) (mg : Str → Option Value) (base : Heap) (k : Nat) (f : Addr) (fd : FuncData) (ps : List Str) (sp : SpC) : Prop where
  len : ∀ vs H Q, sp vs H Q → vs.length = ps.length
  run : ∀ (A : Around) (outer : List Env) (s : Shared) (H : Hp) (args : Args) (us : List Value) (vs : List V) (Q : List V → Hp → Prop), Room k A → Env0 P w K mg base A outer s H → BindsTo s fd args (ps.zip us) → Vals vs us → sp vs H Q →
    codeAny (model P w) A (.call (.ref f) args) (fun r s' => match r with | .ok (.ret u) => GMadeC P w k outer H s Q u s' | _ => False) s
/-- no exception leaves it -/
def noE : XK := fun _ _ _ => False
theorem gfnC_of {P : Program} {w : World} {K : PySem.W.Frag} {mg : Str → Option Value} {base : Heap} {k : Nat} {f : Addr} {name qual : Str} {params : Arguments} {st : Stmt} {e : Expr} {yp pos : Pos} {scope : Scope} {dV kV doc pm cdv ct oc : Value} {an od : Option Addr}
    {osl : Array (Option Value)} {N ps : List Str} {sp : SpC} (lk : K.lookup f = some ⟨oc, od, .func (PySem.W.fnOf name qual params [st, .Expr (.YieldFrom e yp) pos] scope dV kV doc pm an cdv ct), osl⟩) (hcd : PySem.W.codeIn K cdv qual = true) (S : GScope N ps scope)
    (len : ∀ vs H Q, sp vs H Q → vs.length = ps.length)
    (hbody : ∀ (A : Around) (outer : List Env) (s : Shared) (H : Hp) (vs : List V) (Q : List V → Hp → Prop) (pn : List (Addr × Obj)), Room k (A.deeper (envOfC qual scope s.heap.objs.size f cdv)) → sp vs H Q →
      ∃ t1 t2, PS (gcxOf P w K mg base N qual scope f cdv A outer s H noE pn) st t1 ∧ YfE (gcxOf P w K mg base N qual scope f cdv A outer s H noE pn) e t2 ∧
        t1 { nx := fun σ1 H1 => t2 σ1 H1 fun xs H2 => xs.length ≤ sizeLine ∧ Q xs H2, rt := fun _ _ => False, bk := fun _ _ => False, ct := fun _ _ => False } (start N vs) H) :
    GFnC P w K mg base (k + 1) f (PySem.W.fnOf name qual params [st, .Expr (.YieldFrom e yp) pos] scope dV kV doc pm an cdv ct) ps sp := by
  refine ⟨len, fun A outer s H args us vs Q hr e0 hb r hsp => ?_⟩
  have hl := len _ _ _ hsp
  have KX : K.In s.heap := e0.mod.kin.keeps fun b o e => (e0.bs b o e).1
  have lim : s.heap.NoLimit := e0.mod.nolimit.keeps fun b o e => (e0.bs b o e).1
  have hkind : ∀ y ∈ ps.zip us, scope.names.lookup y.1 = some .local ∨ (scope.names.lookup y.1 = some .cell ∧ ((cellsFrom (s.heap.objs.size + 1) scope.names []).lookup y.1).isSome = true) := fun ⟨n, v⟩ hy => by
    rcases S.par n (List.of_mem_zip hy).1 with q | q
    · exact .inl q
    · exact .inr ⟨q, PySem.W.cellsFrom_some _ _ _ (.inl q)⟩
  refine codeAny_call_generator hr.depth (KX _ _ lk) rfl S.co S.gen rfl (PySem.W.codeRec_of KX hcd) (hb _ _ _ _ ?_)
  refine wpAny_newFunctionEnv_cells S.kind hkind fun env he s1 x => ?_
  subst he
  have lim1 : s1.heap.NoLimit := lim.keeps x.toInCall.keep
  refine ⟨lim1, ?_⟩
  obtain ⟨h1, tk, es1, hk1⟩ := x.done
  have os1 : s1.os = s.os := by rw [es1]
  have gen1 : s1.gens = s.gens := by rw [es1]
  have lt1 : s.heap.objs.size < s1.heap.objs.size := x.toInCall.ns.lt
  have sz1 : s.heap.objs.size ≤ s1.heap.objs.size := Nat.le_of_lt lt1
  have kp1 : ∀ b o, s.heap.get? b = some o → s1.heap.get? b = some o := x.toInCall.keep
  have main : ∀ (go : Obj) (nm qn : Value) (tk2 : Nat), go.cls = .type "generator" → go.data = .fields #[.int s1.gens.size 0, nm, qn] → go.slots = #[] → (∀ h : Heap, (h.push go).get? h.objs.size = some go) →
      GMadeC P w (k + 1) outer H s Q (.ref s1.heap.objs.size) { s1 with gens := s1.gens.push (.fresh (.func [st, .Expr (.YieldFrom e yp) pos] (envOfC qual scope s.heap.objs.size f cdv))), toks := tk2, heap := s1.heap.push go } := by
    intro go nm qn tk2 hgc hgd0 hgs hgp
    have hgen : ∀ h : Heap, h.get? s1.heap.objs.size = some go → h.IsGen s1.heap.objs.size s1.gens.size := fun h e => ⟨go, nm, qn, e, hgc, hgd0, hgs⟩
    have hpushed : (s1.heap.push go).get? s1.heap.objs.size = some go := hgp _
    refine ⟨s1.heap.objs.size, s1.gens.size, _, rfl, sz1, ?_, hgen _ hpushed, Array.getElem?_push_size .., os1, ?_, lim1.keeps fun b o e => Heap.get?_push_of_some _ e, fun b o e => Heap.get?_push_of_some _ (kp1 b o e), ?_⟩
    · show _ < (s1.heap.push _).objs.size
      rw [Heap.size_push]; exact Nat.lt_succ_self _
    · exact AllBare.push (by rw [gen1]; exact e0.bare) rfl
    intro Aw Sx Cx2 s2 hrw hfr hSx hCx hne hk2 hSo hCo hos hba
    have e0w : Env0 P w K mg base Aw outer s H := ⟨hfr, e0.mod, e0.bs, e0.bsz, e0.funs, e0.frf, e0.hok, e0.bare⟩
    obtain ⟨t1, t2, ht1, ht2, hq⟩ := hbody Aw outer s H vs Q [(s1.heap.objs.size, go)] (hrw.deeper _) hsp
    have I1 : Inv (gcxOf P w K mg base N qual scope f cdv Aw outer s H noE []) [] (start N vs) H s1 := inv_startG S hrw.hd e0w hl r x
    have kp2 : ∀ b o, s1.heap.get? b = some o → s2.heap.get? b = some o := fun b o e => hk2 b o (Heap.get?_push_of_some _ e)
    have I2 : Inv (gcxOf P w K mg base N qual scope f cdv Aw outer s H noE []) [] (start N vs) H s2 :=
      I1.call' (ch := []) (hos.trans os1.symm) (Un.kept kp2) (I1.hok.kept kp2) hba fun b z => by simp at z
    have big : ∀ b, (s1.heap.push go).objs.size ≤ b → s1.heap.objs.size < b := fun b hb => by
      rw [Heap.size_push] at hb
      exact hb
    have hSz : s1.heap.objs.size < Sx := big _ hSx
    have hCz : s1.heap.objs.size < Cx2 := big _ hCx
    obtain ⟨cS, heS⟩ := hSo
    obtain ⟨oC, heC, hdC⟩ := hCo
    have hea : s2.heap.get? s1.heap.objs.size = some go := hk2 s1.heap.objs.size go hpushed
    have hgd : ∀ v, go.data ≠ .cell v := fun v q => by rw [hgd0] at q; cases q
    have young : ∀ b, s1.heap.objs.size ≤ b → H b = none ∧ b ≠ s.heap.objs.size ∧ b ∉ frs outer ∧ s.heap.objs.size ≤ b ∧ ∀ y c, (cellsFrom (s.heap.objs.size + 1) scope.names []).lookup y = some c → c ≠ b := fun b hb => by
      refine ⟨I1.hok.fresh hb, Nat.ne_of_gt (Nat.lt_of_lt_of_le lt1 hb), I1.nofs hb, Nat.le_trans sz1 hb, fun y c e z => ?_⟩
      obtain ⟨v, ob, ho, _⟩ := I1.cell y c e
      have := Heap.lt_size ho
      rw [z] at this
      exact absurd (Nat.lt_of_lt_of_le this hb) (Nat.lt_irrefl _)
    have hG : GIC (gcxOf P w K mg base N qual scope f cdv Aw outer s H noE [(s1.heap.objs.size, go)]) Sx Cx2 oC [] (start N vs) H s2 := by
      refine ⟨#[], cS, .nil, Inv.pinnedG I2 fun p hp => ?_⟩
      rcases List.mem_append.mp hp with z | z
      · rw [List.mem_singleton.mp z]
        obtain ⟨y1, y2, y3, _, _⟩ := young s1.heap.objs.size (Nat.le_refl _)
        exact ⟨hea, y1, y2, y3, hgd⟩
      · rcases List.mem_cons.mp z with z | z
        · rw [z]
          obtain ⟨y1, y2, y3, _, _⟩ := young Sx (Nat.le_of_lt hSz)
          exact ⟨heS, y1, y2, y3, fun v q => by cases q⟩
        · rw [List.mem_singleton.mp z]
          obtain ⟨y1, y2, y3, _, _⟩ := young Cx2 (Nat.le_of_lt hCz)
          exact ⟨heC, y1, y2, y3, hdC⟩
    have hAp : ApartC (gcxOf P w K mg base N qual scope f cdv Aw outer s H noE [(s1.heap.objs.size, go)]) Sx Cx2 := by
      obtain ⟨_, y2, _, y4, y5⟩ := young Sx (Nat.le_of_lt hSz)
      obtain ⟨_, z2, _, z4, z5⟩ := young Cx2 (Nat.le_of_lt hCz)
      refine ⟨⟨y4, y2, y5⟩, ⟨z4, z2, z5⟩, hne, fun p hp => ?_⟩
      rw [List.mem_singleton.mp hp]
      exact ⟨Nat.ne_of_lt hSz, Nat.ne_of_lt hCz⟩
    have pinned : ∀ {oC : Obj} {ys : List V} {s' : Shared} {σ' : L2.St} {H' : Hp}, GIC (gcxOf P w K mg base N qual scope f cdv Aw outer s H noE [(s1.heap.objs.size, go)]) Sx Cx2 oC ys σ' H' s' → s'.heap.IsGen s1.heap.objs.size s1.gens.size := fun {oC ys s' σ' H'} hI => by
      obtain ⟨acc, cc, _, J⟩ := hI
      exact hgen _ (J.pin (s1.heap.objs.size, go) (List.mem_append_left _ (List.mem_singleton.mpr rfl))).1
    refine seg_func ?_
    refine seg_imp (R := REndC P w outer H s Sx Cx2 Q)
      (Y := GYC (gcxOf P w K mg base N qual scope f cdv Aw outer s H noE [(s1.heap.objs.size, go)]) Sx Cx2) (fun n s₀ r s1' hR => hR) (fun n s₀ v s1' kap kap' hkk hY => ?_) sizeLine ?_
    · obtain ⟨ys, xx, σ', H', oC', hn, h2, h0, hI, h3⟩ := hY
      obtain ⟨_, _, eC', acc, cc, ra, ea⟩ := hI.at
      have hg := pinned hI
      obtain ⟨_, _, _, J⟩ := hI
      have hsz : acc.size = ys.length := by
        have e1 := ra.length
        have e2 : acc.toList.length = acc.size := by simp
        omega
      exact ⟨J.os, J.bare, J.nolimit, hg, ⟨acc, cc, ea, by rw [hsz]; exact hn⟩, ⟨oC', h0, eC'⟩, fun s' z => hkk _ _ (h3 s' z)⟩
    · have hint : interactive (envOfC qual scope s.heap.objs.size f cdv) = false := by
        show (scope.kind == .module && _) = false
        rw [S.kind]; rfl
      refine seg_bodyC ht1 ht2 hrw.hd (K := _) (J := _) (gd := id) (lv := id) (Q := Q) ⟨hAp, over_func, rfl, rfl, rfl⟩ (fun n s₀ e s' hx => ?_) (fun n ys s₀ s' σ' H' oC' hn h0 hI hQ => ?_) heC hG hq hint
      · refine seg_wrap ?_
        rw [over_func]
        refine wpAny_mono (show wpAny (model P w) (Aw.deeper (envOfC qual scope s.heap.objs.size f cdv)) (leaving (envOfC qual scope s.heap.objs.size f cdv) e) (fun _ s'' => CX P w outer H s noE e s'' ∧ ∀ p ∈ [(s1.heap.objs.size, go)], s''.heap.get? p.1 = some p.2) (fun _ _ => False) s' from hx) (fun _ s'' q => ?_) fun _ s'' q => q.elim
        obtain ⟨_, _, _, _, _, _, _, _, _, _, _, _, q⟩ := q.1
        exact q.elim
      · obtain ⟨a1, a2, eC', acc, cc, ra, ea⟩ := hI.at
        obtain ⟨_, _, _, J⟩ := hI
        exact seg_end (.ok (.ret .none)) (.inl ⟨.inl rfl, H', ys, acc, cc, J.os, J.bare, J.base, J.hok, a1, a2, ea, ⟨oC', h0, eC'⟩, ra, by omega, hQ⟩)
  exact main _ _ _ _ rfl rfl rfl fun h => Heap.get?_push_size _ rfl
end L2
namespace L2
open PySem PySem.Spec PyProof.Rows GenW
theorem SleptC.push {S C : Addr} {v : Value} {s : Shared} {acc : Array Value} {c : Nat} {G : Array GenState} {oC : Obj} (hne : S ≠ C) (hS : s.heap.get? S = some (lstObj acc c)) (hG : AllBare G) (hC : s.heap.get? C = some oC) (hd : ∀ u, oC.data ≠ .cell u) :
    SleptC S C v s { s with gens := G, heap := s.heap.update S (Obj.mapSeq (·.push v)) } where
  os := rfl
  bare := hG
  keep := fun b o hb _ e => (Heap.get?_update_other _ _ (Ne.symm hb)).trans e
  own := fun acc' c' e => by
    rw [hS] at e
    cases e
    exact ⟨_, Heap.get?_update_self _ hS rfl⟩
  blk := ⟨oC, (Heap.get?_update_other _ _ hne).trans hC, hd⟩
theorem lc1_0 {elt t0 i0 : Expr} {f0 : List Expr} {scope : Scope} {pos : Pos} {it acc : Value} {env : Env} : TurnEq (.ListComp elt [⟨t0, i0, f0, 0⟩] scope pos) 0 it acc env t0 i0.pos f0 (innerApp elt acc env) := by rfl
section
variable {X : Cx}
structure PGenC (X : Cx) (k : Nat) (e : Expr) (tg : TGen) : Prop where
  run : ∀ (pins : List (Addr × Obj)) (s : Shared) (σ : L2.St) (H : Hp) (cont : List V → Hp → Prop), Inv X pins σ H s → tg σ H cont → wpAny (model X.prog X.w) X.A (eval e X.env)
    (fun u s' => ∃ H1 sc, Inv X pins σ H1 sc ∧ GMadeC X.prog X.w k X.stack H1 sc cont u s') X.xe s
def tCallC (sp : SpC) (t : TA) : TGen := fun σ H cont => t σ H fun vs H1 => sp vs H1 cont
theorem pgenC_call {x : Str} {p pos' : Pos} {e : Expr} {es : List Expr} {k : Nat} {f : Addr} {fd : FuncData} {ps : List Str} {sp : SpC} {t : TA} (F : GFnC X.prog X.w X.K X.mg X.base k f fd ps sp) (hr : Room k X.A) (hg : Gl X x) (hm : X.mg x = some (.ref f)) (hk : PySem.W.keepIn X.K (.ref f) = true) (hb : Binds X.K fd ps [])
    (ha : PA X (e :: es) t) (hdb : (x == ("__debug__" : Str)) = false := by decide) (he : starEach (e :: es) X.env = (false, eval e X.env) :: starEach es X.env := by rfl) (hpl : (backTo pos' (starEach es X.env)).any (·.1) = false := by rfl) :
    PGenC X k (.Call (.Name x p) (e :: es) [] pos') (tCallC sp t) := by
  refine ⟨fun pins s σ H cont I h => ?_⟩
  refine wpAny_Call_Name_kw (ld_glob I hg hm ?_ hdb)
  refine PySem.W.callWith_K (h₀ := X.base) I.ok.mod.kin hk (thn (ha.run pos' pins s σ H _ I h) fun us s1 ⟨vs, H1, I1, r, q⟩ => ⟨I1.kIn, ?_⟩) he hpl
  have hl2 : us.length = ps.length := by rw [← r.length]; exact F.len _ _ _ q
  have hbb := hb s1 us I1.kIn (by rw [List.append_nil]; exact hl2)
  rw [List.append_nil] at hbb
  refine wpAny_call (codeAny_mono (F.run X.A X.stack s1 H1 ⟨us, []⟩ us vs cont hr I1.env0 hbb r q) fun r s' hq => ?_)
  cases r with
  | error e => exact False.elim hq
  | ok fl =>
    cases fl with
    | ret u => exact ⟨H1, s1, I1, hq⟩
    | next => exact False.elim hq
    | brk => exact False.elim hq
    | cont => exact False.elim hq
/-- the comprehension: its value is the list of what is handed out -/
theorem pe_lcG {x : Str} {tp ep pos : Pos} {iter : Expr} {scope : Scope} {own : List (Str × Nat)} {k : Nat} {tg : TGen} (hi : PGenC X k iter tg) (hr : Room (k + 3) X.A) (ok : BlkOk X.N X.env.scope scope own) (hx : scope.names.lookup x = some .local)
    (hdb : (x == ("__debug__" : Str)) = false := by decide) (hs : ∀ y, foldedSetIterable iter X.env y = pure y := by intro _; rfl) :
    PE X (.ListComp (.Name x ep) [⟨.Name x tp, iter, [], 0⟩] scope pos) (tListG tg) := by
  refine ⟨fun pins s σ H Q I h => ?_⟩
  rw [eval_ListComp]
  have hfree : ∀ y ∈ scope.names, y.2 = .free → ∃ c, X.env.cells.lookup y.1 = some c := fun y hy e => by
    rcases ok.free y hy e with k | k
    · exact I.ok.has _ (.inl k)
    · exact I.ok.has _ (.inr k)
  refine wpAny_comprehension_free (use := none) rfl hs (closure_ok hfree) ok.kind (fun y hy e => by rw [ok.uniq y hy, e])
    (thn (hi.run pins s σ H _ I h) fun u s1 hG => ?_)
  obtain ⟨H1, sc, I1, a, g, c, rfl, ha1, ha2, hg, hgs, hos, hbr, hl, hkp, wake⟩ := hG
  refine wpAny_pyIter_gen hg ?_
  refine wpAny_newObj_type ?_ (by show 0 ≤ sizeLine; decide)
  refine newEnv_comp ?_
  have hb1 : sc.heap.objs.size ≤ s1.heap.objs.size := Nat.le_trans ha1 (Nat.le_of_lt ha2)
  generalize hD : s1.heap.objs.size = D at *
  generalize hs3 : ({ s1 with heap := s1.heap.push { cls := .type "list", data := .seq #[] } } : Shared) = s3
  have h3 : s3.heap = s1.heap.push { cls := .type "list", data := .seq #[] } := by rw [← hs3]
  have hC3 : s3.heap.objs.size = D + 1 := by rw [h3, Heap.size_push, hD]
  generalize hC : s3.heap.objs.size = C at hC3 ⊢
  have hDC : D ≠ C := by rw [hC3]; exact Nat.ne_of_lt (Nat.lt_succ_self _)
  show codeAny _ _ (.compStart (.ListComp (.Name x ep) [⟨.Name x tp, iter, [], 0⟩] scope pos) 0 (.ref a) (.ref D) (compEnvC scope (cellsFrom (C + 1) scope.names (cloFrom X.env.cells scope.names [])) C X.env)) (compPost (model X.prog X.w) X.A X.xe none _ (.ref D) C) { s3 with heap := pushCells (s3.heap.push { cls := .type "dict", data := .dict #[] }) scope.names }
  generalize hce : compEnvC scope (cellsFrom (C + 1) scope.names (cloFrom X.env.cells scope.names [])) C X.env = ce
  have cL : ce.locals = C := by subst hce; rfl
  have cK : ce.scope.kind = .function := by subst hce; exact ok.kind
  have cX : ce.kindOf x = some .local := by subst hce; exact lookup_relabel_local hx
  generalize hs4 : ({ s3 with heap := pushCells (s3.heap.push { cls := .type "dict", data := .dict #[] }) scope.names } : Shared) = s4
  have h4 : s4.heap = pushCells (s3.heap.push { cls := .type "dict", data := .dict #[] }) scope.names := by rw [← hs4]
  have k13 : ∀ b o, s1.heap.get? b = some o → s3.heap.get? b = some o := fun b o e => by rw [h3]; exact Heap.get?_push_of_some _ e
  have k34 : ∀ b o, s3.heap.get? b = some o → s4.heap.get? b = some o := fun b o e => by rw [h4]; exact pushCells_keeps _ _ _ _ (Heap.get?_push_of_some _ e)
  have k14 : ∀ b o, s1.heap.get? b = some o → s4.heap.get? b = some o := fun b o e => k34 b o (k13 b o e)
  have eD : s4.heap.get? D = some (lstObj #[] 0) := k34 _ _ (by rw [h3, ← hD]; exact Heap.get?_push_size _ rfl)
  have eC : s4.heap.get? C = some { cls := .type "dict", data := .dict #[] } := by
    rw [h4, ← hC]; exact pushCells_keeps _ _ _ _ (Heap.get?_push_size _ rfl)
  have nsC : s4.heap.Ns C fun _ => none := ⟨_, _, _, eC, rfl, by intro _ h; simp at h, fun _ => rfl⟩
  have os4 : s4.os = s1.os := by rw [← hs4, ← hs3]
  have gen4 : s4.gens = s1.gens := by rw [← hs4, ← hs3]
  have hcl : cStatics < D := by rw [← hD]; exact (let ⟨_, hn, _⟩ := hl; hn.lt)
  have hSc : D ≠ cStatics := Nat.ne_of_gt hcl
  have hCc : C ≠ cStatics := by rw [hC3]; exact Nat.ne_of_gt (Nat.lt_succ_of_lt hcl)
  have haD : a ≠ D := Nat.ne_of_lt ha2
  have haC : a ≠ C := by rw [hC3]; exact Nat.ne_of_lt (Nat.lt_succ_of_lt ha2)
  have hg4 : s4.heap.IsGen a g := hg.keeps k14
  have loop : codeAny (model X.prog X.w) X.A (.compLoop (.ListComp (.Name x ep) [⟨.Name x tp, iter, [], 0⟩] scope pos) 0 (.ref a) (.ref D) ce)
      (compPost (model X.prog X.w) X.A X.xe none (fun v s' => ∃ x H', Inv X pins σ H' s' ∧ RelV x v ∧ Q x H') (.ref D) C) s4 := by
    refine compLoopN node_lc lc1_0 (fun m s => ∃ gs, s.gens[g]? = some gs ∧ gs.Goes (model X.prog X.w) X.A.in1 (REndC X.prog X.w X.stack H1 sc D C (fun ys H' => ∀ p, H' p = none → Q (.ref p) (upd H' p (.lst ys)))) (YItemC sc D C a g) m (.send .none) (s.setGen g .running) ∧ s.heap.IsGen a g ∧ s.heap.NoLimit ∧ (∃ mm, s.heap.Ns C mm)) ?_ sizeLine
      ⟨.fresh c, by rw [gen4]; exact hgs, ⟨rfl, ?_⟩, hg4, hl.keeps k14, _, nsC⟩
    · rintro m s ⟨gs, hgs, hgo, hgen, hlim, mm, hns⟩
      have hgl : g < s.gens.size := (Array.getElem?_eq_some_iff.mp hgs).1
      have hgo' : gs.Goes (model X.prog X.w) X.A.in1 (fun n s₀ r s₁ => ((r = .ok (.ret .none) ∨ r = .ok .next) ∧ (fun _ s₀ s₁ => FEndC X.prog X.w X.stack H1 sc D C (fun ys H' => ∀ p, H' p = none → Q (.ref p) (upd H' p (.lst ys))) s₀ s₁) n s₀ s₁) ∨ ∃ e, r = .error e ∧ (fun _ _ => False) e s₁) (YItemC sc D C a g) m (.send .none) (s.setGen g .running) := hgo
      refine wpAny_gsz (n := g + 1) hgl (next_genG (A := X.A) hr.hd hlim hr.depth hgen hgs hgo' (fun v s₁ gs' hbare hv => ?_) (fun s₁ hp h' hk => ?_) fun e s₁ he => he.elim)
      · intro hsz
        obtain ⟨os1, hb1', hl1, hg1, ⟨acc, cc, hS1, hasz⟩, ⟨oC, h0C, h1C⟩, hk⟩ := hv
        have e0 : s.heap.get? C = some oC := h0C
        obtain ⟨oC', es, ep', ho', hd', hrest⟩ := hns
        rw [ho'] at e0
        have e0' : oC = oC' := (Option.some.inj e0).symm
        rw [e0'] at h1C
        have hdC : ∀ u, oC'.data ≠ .cell u := fun u z => by rw [hd'] at z; cases z
        cases m with
        | zero => exact (hk _ (SleptC.push hDC hS1 hb1' h1C hdC)).elim
        | succ m =>
          have hns1 : (s₁.setGen g gs').heap.Ns ce.locals mm := by rw [cL]; exact ⟨oC', es, ep', h1C, hd', hrest⟩
          obtain ⟨go, nm, qn, hgo1, hgc, hgd, hgsl⟩ := hg1
          refine go_of (s := s₁.setGen g gs') (n := "generator") (vs := _) hgo1 hgc hgd (by decide) ?_
          refine wpAny_assign_Name (wpAny_storeName_local cX hns1 (fun h' hn' hsb => ?_) (by rw [cK]; rfl))
          refine wpAny_tests_nil ?_
          rw [if_pos rfl]
          intro rest Qr Er hrest'
          have kb : ∀ b o, b ≠ C → s₁.heap.get? b = some o → h'.get? b = some o := fun b o hb e => (hsb.2 b (by rw [cL]; exact hb)).trans e
          have hS2 : h'.get? D = some (lstObj acc cc) := kb D _ hDC hS1
          unfold innerApp
          refine wpAny_bind (wpAny_bind ?_)
          rw [eval_Name ce x ep hdb]
          refine wpAny_bind (wpAny_standAt ?_)
          refine wpAny_loadName_local cK cX hn' (v := v) (by simp) ?_
          refine wpAny_bind (append_at (hsz := by omega) hS2 fun h2 sb2 ho2 => wpAny_pure (hrest' _ ⟨m, Nat.lt_succ_self _, gs', ?_, ?_, ?_, ?_, ?_⟩))
          all_goals (try dsimp only)
          · have hsz1 : g < s₁.gens.size := by
              have q : (s₁.setGen g gs').gens.size = s₁.gens.size := setGen_size _ _ _
              have hsz' : g + 1 ≤ (s₁.setGen g gs').gens.size := hsz
              omega
            exact setGen_at hsz1
          · refine hk _ ⟨rfl, allBare_setGen (allBare_setGen hb1' hbare) rfl, fun b o hb1 hb2 e => (sb2.2 b hb1).trans (kb b o hb2 e), fun acc' c' e => ?_, ?_⟩
            · rw [hS1] at e
              cases e
              exact ⟨_, ho2⟩
            · obtain ⟨o2, es2, ep2, q1, q2, _⟩ := hn'
              rw [cL] at q1
              exact ⟨o2, (sb2.2 C (Ne.symm hDC)).trans q1, fun u z => by rw [q2] at z; cases z⟩
          · exact ⟨go, nm, qn, (sb2.2 a haD).trans (kb a _ haC hgo1), hgc, hgd, hgsl⟩
          · obtain ⟨mc, hns', hnn⟩ := hl1
            exact ⟨mc, hns'.at' fun o e => (sb2.2 _ (Ne.symm hSc)).trans (kb _ o (Ne.symm hCc) e), hnn⟩
          · rw [cL] at hn'
            exact ⟨_, hn'.sameBut sb2 (Ne.symm hDC)⟩
      · intro hsz
        obtain ⟨H', ys, acc, cc, os1, hb1', un, hok, hSn, hCn, hS1, ⟨oC, h0C, h1C⟩, hv, hle, hQ⟩ := hp
        have I2 := I1.drained (S := D) (s' := { s₁.setGen g .finished with heap := h' }) (by rw [← hD] at *; exact hb1) hle (hk _ _ hS1) hv ExOk.nil os1 (allBare_setGen hb1' rfl) (un.trans (Un.kept hk)) (hok.kept hk) hSn
        obtain ⟨oC', es, ep', ho', hd', hrest⟩ := hns
        have e0 : s.heap.get? C = some oC := h0C
        rw [ho'] at e0
        have e0' : oC = oC' := (Option.some.inj e0).symm
        rw [e0'] at h1C
        refine ⟨mm, ⟨oC', es, ep', hk _ _ h1C, hd', hrest⟩, fun h'' sb => ?_⟩
        have nC : (upd H' D (.lst ys)) C = none := by rw [upd_ne (Ne.symm hDC)]; exact hCn
        obtain ⟨f0, f1, f2, f3, f4, f5⟩ := I1.fpOk (b := C) (H' := upd H' D (.lst ys)) (by rw [hC3]; exact Nat.le_succ_of_le hb1) nC
        exact ⟨.ref D, upd H' D (.lst ys), I2.turned (t' := _) (fun b o hb e => (sb.2 b hb).trans e) f0 f1 f3 f4 f5, rfl, hQ D hSn⟩
    · refine wake X.A.in1 D C _ ⟨hr.hd, ?_, ?_⟩ I1.ok.frames (Nat.le_refl _) (by rw [hC3]; exact Nat.le_succ _) hDC k14 ⟨_, eD⟩ ⟨_, eC, fun v z => by cases z⟩ (os4.trans hos) (allBare_setGen (by rw [gen4]; exact hbr) rfl)
      · have := hr.dp
        show X.A.depth + 3 * k + 5 < _
        omega
      · have := hr.un
        show X.A.units + 1 + 16 * k + 200 < _
        omega
  exact compStartN node_lc rfl rfl loop (wpAny_pyIter_gen hg4 loop)
end
end L2
namespace PD
open PySem PySem.Spec PyProof.Rows L2 PX LamX
/-- a plain statement, then «yield from» a list -/
def genL (n : Nat) (m : MS) (me : M D) (ds : List D) : Option (List D) := match m (startE n ds) [] with
  | some (.nx ε1, h1) => (match me ε1 h1 with
    | some (.ok (.lst items), _) => if noRef.go items = true ∧ items.length ≤ sizeLine then some items else none
    | _ => none)
  | _ => none
def mListGC (F : List D → Option (List D)) (a : M (List D)) : M D := fun ε h => bR (a ε h) fun ds h1 => if noRef.go ds = true then (match F ds with
  | some items => some (.ok (.ref h1.length), h1 ++ [.lst items])
  | none => none) else none
def mLcG (F : List D → Option (List D)) (a : M (List D)) : M D := fun ε h => bR (a ε h) fun ds h1 => if noRef.go ds = true then (match F ds with
  | some items => some (.ok (.lst items), h1)
  | none => none) else none
variable [LamTab]
def SpCL (K : PySem.W.Frag) (mg : Str → Option Value) (n : Nat) (F : List D → Option (List D)) : SpC := fun vs H cont => ∃ (c : RC) (ds items : List D), c.K = K ∧ MgE c mg ∧ c.H = H ∧ c.ρ = [] ∧ (∀ a, c.B a → ∃ o, H a = some o) ∧ Reps c ds vs ∧ ds.length = n ∧ F ds = some items ∧
  (∀ c' xs, c.Le c' → c'.ρ = [] → Reps c' items xs → xs.length ≤ sizeLine → cont xs c'.H)
def SpGL (K : PySem.W.Frag) (mg : Str → Option Value) (n : Nat) (F : List D → Option (List D)) : SpG := fun vs H cont _ => SpCL K mg n F vs H cont
structure FnGL (P : Program) (w : World) (K : PySem.W.Frag) (mg : Str → Option Value) (base : Heap) (x : Str) (k n : Nat) (F : List D → Option (List D)) : Prop where
  ex : ∃ (f : Addr) (fd : FuncData) (ps : List Str), mg x = some (.ref f) ∧ PySem.W.keepIn K (.ref f) = true ∧ Binds K fd ps [] ∧ ps.length = n ∧ GFn P w K mg base k f fd ps (SpGL K mg n F) ∧ GFnC P w K mg base k f fd ps (SpCL K mg n F)
theorem bodyL_of {K : PySem.W.Frag} {mg : Str → Option Value} {W : WX} {N : List Str} {m : MS} {me : M D} {vs : List V} {H : Hp} {Pr Pr' : List V → Hp → Prop} {n : Nat} {rt : VK} {bk ct : L2.St → Hp → Prop} (hP : ∀ xs H2, xs.length ≤ sizeLine → Pr xs H2 → Pr' xs H2) (h : SpCL K mg n (genL N.length m me) vs H Pr) :
    tS K mg W m { nx := fun σ1 H1 => tYfLst (tE K mg W me) σ1 H1 Pr', rt := rt, bk := bk, ct := ct } (L2.start N vs) H := by
  obtain ⟨c, ds, items, hK, hm, rfl, hρ, bt, rv, hn, er, gx⟩ := h
  have sr := SR.nil hρ bt
  unfold genL at er
  cases q : m (startE N.length ds) [] with
  | none => rw [q] at er; cases er
  | some z =>
    obtain ⟨rs, h1⟩ := z
    rw [q] at er
    cases rs with
    | nx ε1 =>
      dsimp only at er
      cases q2 : me ε1 h1 with
      | none => rw [q2] at er; cases er
      | some z2 =>
        obtain ⟨r2, h2⟩ := z2
        rw [q2] at er
        cases r2 with
        | ex x => cases er
        | ok d =>
          cases d with
          | lst it2 =>
            dsimp only at er
            by_cases hc : noRef.go it2 = true ∧ it2.length ≤ sizeLine
            · rw [if_pos hc] at er
              cases er
              have back : ∀ c', c.Le c' → c.Le (c'.bare c.B) := fun c' l => ⟨l.K, l.mg, fun _ h => h, fun _ h => .inl h, l.dom, fun n a e => by rw [hρ] at e; simp at e, fun a o e t n => ⟨(l.keep a o e t n).1, List.not_mem_nil⟩, l.tup, l.frz⟩
              refine ⟨c, startE N.length ds, [], .nx ε1, h1, hK, hm, rfl, sr, start_envR rv, q, ?_⟩
              intro c' σ' l s en
              refine ⟨c', ε1, h1, .ok (.lst items), h2, l.K.trans hK, l.mg.trans hm, rfl, s, en, q2, Px.ok, fun d ed c2 v l2 s2 rv2 => ?_⟩
              cases ed
              cases rv2 with
              | lst e1 e2 e3 =>
                have hl : ∀ {xs}, Reps c2 items xs → xs.length ≤ sizeLine := fun r => by rw [← r.length]; exact hc.2
                exact ⟨_, _, rfl, e1, hP _ _ (hl e3) (gx (c2.bare c.B) _ (back c2 (l.trans l2)) rfl (e3.bare (fun a z => .inl ((l.trans l2).B a z)) hc.1) (hl e3))⟩
            · rw [if_neg hc] at er; cases er
          | _ => cases er
    | _ => cases er
section
variable {P : Program} {w : World} {K : PySem.W.Frag} {mg : Str → Option Value} {base : Heap}
theorem fnGL {x : Str} {qual : Str} {params : Arguments} {st : Stmt} {e : Expr} {yp pos : Pos} {scope : Scope} {f : Addr} {fd : FuncData} {N ps : List Str} {k : Nat} {m : MS} {me : M D} {dvs : List V} {kws : List (Str × V)} (F : FunD K x qual params [st, .Expr (.YieldFrom e yp) pos] scope dvs kws f fd) (S : GScope N ps scope)
    (hb : ∀ (cdv : Value) (A : Around) (outer : List Env) (s : Shared) (H : Hp) (E : XK) (pn : List (Addr × Obj)), Room k (A.deeper (envOfC qual scope s.heap.objs.size f cdv)) → RSt (gcxOf P w K mg base N qual scope f cdv A outer s H E pn) (fun cls d _ H' => E cls d H') st m)
    (he : ∀ (cdv : Value) (A : Around) (outer : List Env) (s : Shared) (H : Hp) (E : XK) (pn : List (Addr × Obj)), Room k (A.deeper (envOfC qual scope s.heap.objs.size f cdv)) → RE (gcxOf P w K mg base N qual scope f cdv A outer s H E pn) (fun cls d _ H' => E cls d H') e me) :
    GFn P w K mg base (k + 1) f fd ps (SpGL K mg ps.length (genL N.length m me)) ∧ GFnC P w K mg base (k + 1) f fd ps (SpCL K mg ps.length (genL N.length m me)) := by
  obtain ⟨oc, od, dV, kV, doc, pm, an, cdv, ct, osl, rfl, lk, hcd, hD, hK⟩ := F.ex
  have len : ∀ vs H Q, SpCL K mg ps.length (genL N.length m me) vs H Q → vs.length = ps.length := fun vs H Q h => by
    obtain ⟨c, ds, it, _, _, _, _, _, rv, hn, _⟩ := h
    rw [← rv.length, hn]
  refine ⟨gfn_of lk hcd S (fun vs H Q E h => len vs H Q h) fun A outer s H vs Q E pn hr h => ?_, gfnC_of lk hcd S len fun A outer s H vs Q pn hr h => ⟨_, _, hb cdv A outer s H noE pn hr, yf_lst (he cdv A outer s H noE pn hr), bodyL_of (fun _ _ hl hp => ⟨hl, hp⟩) h⟩⟩
  have hint : interactive (envOfC qual scope s.heap.objs.size f cdv) = false := by
    show (scope.kind == .module && _) = false
    rw [S.kind]; rfl
  refine ⟨_, gss_cons (gs_ps (hb cdv A outer s H E pn hr)) (gss_cons (gs_yieldFrom (yf_lst (he cdv A outer s H E pn hr)) hr.hd hint) gss_nil), ?_⟩
  exact bodyL_of (Pr' := fun xs H1 => ([] : List V).length + xs.length ≤ sizeLine ∧ Q ([] ++ xs) H1) (fun xs H2 hl hp => ⟨by simpa using hl, hp⟩) h
end
section
variable {X : Cx} {W : WX}
/-- from the call's arguments to what the list gives -/
theorem spL_of {K : PySem.W.Frag} {mg : Str → Option Value} {n : Nat} {F : List D → Option (List D)} {c1 : RC} {h1 : EH} {ds items : List D} {vs : List V} {cont : List V → Hp → Prop} (hK1 : c1.K = K) (hm1 : MgE c1 mg) (s1 : SR c1 h1) (r1 : Reps c1 ds vs) (hc : noRef.go ds = true) (hn : ds.length = n) (q2 : F ds = some items)
    (fin : ∀ c2 xs, c1.Le c2 → SR c2 h1 → Reps c2 items xs → xs.length ≤ sizeLine → cont xs c2.H) : SpCL K mg n F vs c1.H cont := by
  have r1' : Reps (c1.bare fun a => c1.B a ∨ a ∈ c1.ρ) ds vs := r1.bare (fun _ z => z) hc
  have back : ∀ c', (c1.bare fun a => c1.B a ∨ a ∈ c1.ρ).Le c' → c1.Le { c' with ρ := c1.ρ, B := c1.B } ∧ SR { c' with ρ := c1.ρ, B := c1.B } h1 := fun c' l => by
    have l2 : c1.Le { c' with ρ := c1.ρ, B := c1.B } := ⟨l.K, l.mg, fun _ h => h, fun _ h => .inl h, l.dom, fun _ _ h => h, fun a o e t n => ⟨(l.keep a o e t List.not_mem_nil).1, n⟩, l.tup, l.frz⟩
    refine ⟨l2, s1.len, s1.nd, fun n a k e1 e2 => ?_, s1.nb, fun a hb => ?_⟩
    · have cr := s1.cells n a k e1 e2
      obtain ⟨o, eo⟩ := cr.ex
      refine cr.le l2 ?_
      have nt : ∀ ps, o ≠ .tbl ps := fun ps z => by
        subst z
        exact cr.noTab.1 ps eo
      exact (l.keep a o eo nt List.not_mem_nil).1.trans eo.symm
    · obtain ⟨o, eo⟩ := s1.bt a hb
      exact l.dom a o eo
  refine ⟨c1.bare fun a => c1.B a ∨ a ∈ c1.ρ, ds, items, hK1, hm1, rfl, rfl, fun a z => ?_, r1', hn, q2, fun c' xs l hρ xr hl => ?_⟩
  · rcases z with z | z
    · exact s1.bt a z
    · exact s1.ex z
  · obtain ⟨l2, s2⟩ := back c' l
    exact fin { c' with ρ := c1.ρ, B := c1.B } xs l2 s2 (Reps.unbare (fun a ha => l.B a (.inr ha)) (fun a ha => l.B a (.inl ha)) hρ xr) hl
theorem genA_of {K : PySem.W.Frag} {mg : Str → Option Value} {n : Nat} {F : List D → Option (List D)} {a : M (List D)} {G : List D → EH → R D × EH} {σ : L2.St} {H : Hp} {Q : VK} (hn : ArN n a)
    (hG : ∀ c1 items xs h1, SR c1 h1 → Reps c1 items xs → (∀ c' v, c1.Le c' → SR c' (G items h1).2 → (∀ d, (G items h1).1 = .ok d → Rep c' d v) → Q v c'.H) → ∀ p, c1.H p = none → Q (.ref p) (upd c1.H p (.lst xs))) (hok : ∀ items h1, ∃ d, (G items h1).1 = .ok d)
    (h : tE K mg W (fun ε h => bR (a ε h) fun ds h1 => if noRef.go ds = true then (match F ds with
      | some items => some (G items h1)
      | none => none) else none) σ H Q) :
    tA K mg W a σ H fun vs H1 => SpCL K mg n F vs H1 fun xs H2 => ∀ p, H2 p = none → Q (.ref p) (upd H2 p (.lst xs)) := by
  obtain ⟨c, ε, h, r, h', hK, hm, rfl, sr, er, e, px, go⟩ := h
  cases q : a ε h with
  | none => simp only [q] at e; cases e
  | some z =>
    obtain ⟨ra, h1⟩ := z
    simp only [q] at e
    cases ra with
    | ex x =>
      cases e
      exact ⟨c, ε, h, .ex x, _, hK, hm, rfl, sr, er, q, fun y ey => px y (by cases ey; rfl), fun a' ea => nomatch ea⟩
    | ok ds =>
      refine ⟨c, ε, h, .ok ds, h1, hK, hm, rfl, sr, er, q, Px.ok, fun ds' eds c1 vs l1 s1 r1 => ?_⟩
      cases eds
      have e' : (if noRef.go ds = true then (match F ds with
        | some items => some (G items h1)
        | none => none) else none) = some (r, h') := e
      by_cases hc : noRef.go ds = true
      · rw [if_pos hc] at e'
        cases q2 : F ds with
        | none => rw [q2] at e'; cases e'
        | some items =>
          rw [q2] at e'
          have e2 : G items h1 = (r, h') := Option.some.inj e'
          refine spL_of (l1.K.trans hK) (l1.mg.trans hm) s1 r1 hc (hn _ _ _ _ q) q2 fun c2 xs l2 s2 r2 hl => ?_
          refine hG c2 items xs h1 s2 r2 fun c' v l' s' rv => ?_
          obtain ⟨d, ed⟩ := hok items h1
          have er2 : r = .ok d := by rw [← ed, e2]
          exact go d er2 c' v ((l1.trans l2).trans l') (by rw [e2] at s'; exact s') (rv d ed)
      · rw [if_neg hc] at e'; cases e'
theorem re_listGC {x : Str} {p p1 pos pos1 : Pos} {e : Expr} {es : List Expr} {k j n : Nat} {F : List D → Option (List D)} {ma : M (List D)} (G : FnGL X.prog X.w X.K X.mg X.base x k n F) (hr : Room j X.A) (ha : RA X W (e :: es) ma)
    (hml : X.mg "list" = none) (hk : k + 3 ≤ j := by decide)
    (hn : ArN n ma := by repeat (first | exact ar_nil | refine ar_cons ?_)) (hg : Gl X x := by rfl) (hgl : Gl X "list" := by rfl)
    (hdb : (x == ("__debug__" : Str)) = false := by decide) (he : starEach (e :: es) X.env = (false, eval e X.env) :: starEach es X.env := by rfl) (hpl : (backTo pos1 (starEach es X.env)).any (·.1) = false := by rfl)
    (he2 : starEach [.Call (.Name x p1) (e :: es) [] pos1] X.env = (false, eval (.Call (.Name x p1) (e :: es) [] pos1) X.env) :: starEach [] X.env := by rfl) :
    RE X W (.Call (.Name "list" p) [.Call (.Name x p1) (e :: es) [] pos1] [] pos) (mListGC F ma) := by
  obtain ⟨f, fd, ps, hm, hkp, hb, hl, Fo, _⟩ := G.ex
  have psx : Passes (L2.CX X.prog X.w) X noE := fun pins σ H s u s' I c => by
    obtain ⟨a, B, H', cls, d, h1, h2, h3, h4, h5, h6, h7, h8⟩ := c
    exact h8.elim
  refine pe_imp (pe_listG (pgen_call Fo (hr.mono (Nat.le_trans (Nat.le_add_right _ _) hk)) hg hm hkp hb .nil ha hdb he hpl) psx (fun cls d H h => h.elim) (hr.mono hk) hgl hml (by decide +kernel) (by decide) (by decide) he2) fun σ H Q h => ?_
  have h2 := genA_of (G := fun items h1 => (R.ok (.ref h1.length), h1 ++ [.lst items])) hn (fun c1 items xs h1 s1 r1 go => put_cell s1 (fun c' v l s r => go c' v l s fun d ed => by cases ed; exact r) r1) (fun _ _ => ⟨_, rfl⟩) h
  obtain ⟨c, ε, eh, r, h', hK, hm', hH, sr, er, ev, px, go⟩ := h2
  refine ⟨c, ε, eh, r, h', hK, hm', hH, sr, er, ev, px, fun ds eds c1 vs l1 s1 r1 => ?_⟩
  have := go ds eds c1 vs l1 s1 r1
  show SpGL X.K X.mg n F (vs ++ []) c1.H _ noE
  rw [List.append_nil]
  exact this
theorem re_lcG {x y : Str} {tp ep p1 pos pos1 : Pos} {e : Expr} {es : List Expr} {scope : Scope} {own : List (Str × Nat)} {k j n : Nat} {F : List D → Option (List D)} {ma : M (List D)} (G : FnGL X.prog X.w X.K X.mg X.base y k n F) (hr : Room j X.A) (ok : BlkOk X.N X.env.scope scope own) (ha : RA X W (e :: es) ma)
    (hx : scope.names.lookup x = some .local := by rfl) (hk : k + 3 ≤ j := by decide)
    (hn : ArN n ma := by repeat (first | exact ar_nil | refine ar_cons ?_)) (hg : Gl X y := by rfl)
    (hdx : (x == ("__debug__" : Str)) = false := by decide) (hdb : (y == ("__debug__" : Str)) = false := by decide) (he : starEach (e :: es) X.env = (false, eval e X.env) :: starEach es X.env := by rfl) (hpl : (backTo pos1 (starEach es X.env)).any (·.1) = false := by rfl)
    (hs : ∀ z, foldedSetIterable (.Call (.Name y p1) (e :: es) [] pos1) X.env z = pure z := by intro _; rfl) :
    RE X W (.ListComp (.Name x ep) [⟨.Name x tp, .Call (.Name y p1) (e :: es) [] pos1, [], 0⟩] scope pos) (mLcG F ma) := by
  obtain ⟨f, fd, ps, hm, hkp, hb, hl, _, Fc⟩ := G.ex
  refine pe_imp (pe_lcG (pgenC_call Fc (hr.mono (Nat.le_trans (Nat.le_add_right _ _) hk)) hg hm hkp hb ha hdb he hpl) (hr.mono hk) ok hx hdx hs) fun σ H Q h => ?_
  exact genA_of (G := fun items h1 => (R.ok (.lst items), h1)) hn (fun c1 items xs h1 s1 r1 go => put_lst s1 (fun c' v l s r => go c' v l s fun d ed => by cases ed; exact r) r1) (fun _ _ => ⟨_, rfl⟩) h
end
end PD
/-- how many of the first ones a slice with the step -1 takes -/
def PD.revK (n : Nat) : Option Int → Nat
  | none => n
  | some i => ((if i < 0 then max (i + n) (-1) else min i ((n : Int) - 1)) + 1).toNat
namespace L2
open PySem PySem.Spec PyProof.Rows PD
theorem revK_le (n : Nat) : ∀ lo, revK n lo ≤ n
  | none => Nat.le_refl _
  | some i => by
    show ((if i < 0 then max (i + n) (-1) else min i ((n : Int) - 1)) + 1).toNat ≤ n
    by_cases h : i < 0
    · rw [if_pos h]; omega
    · rw [if_neg h]; omega
theorem pick_rev (xs : Array Value) : ∀ m, m ≤ xs.size → (List.range m).filterMap (fun k : Nat => xs[((m : Int) - 1 + (k : Int) * (-1)).toNat]?) = (xs.toList.take m).reverse
  | 0, _ => by simp
  | m + 1, h => by
    rw [List.range_succ_eq_map, List.filterMap_cons]
    have e0 : (((m + 1 : Nat) : Int) - 1 + ((0 : Nat) : Int) * (-1)).toNat = m := by omega
    rw [e0, List.filterMap_map]
    have e1 : ((fun k : Nat => xs[(((m + 1 : Nat) : Int) - 1 + (k : Int) * (-1)).toNat]?) ∘ Nat.succ) = fun k : Nat => xs[((m : Int) - 1 + (k : Int) * (-1)).toNat]? := by
      funext k
      have : (((m + 1 : Nat) : Int) - 1 + ((Nat.succ k : Nat) : Int) * (-1)).toNat = ((m : Int) - 1 + (k : Int) * (-1)).toNat := by omega
      show xs[_]? = _
      rw [this]
    rw [e1, pick_rev xs m (by omega)]
    have hm : m < xs.size := by omega
    rw [Array.getElem?_eq_getElem hm]
    have hl : m < xs.toList.length := by simpa using hm
    rw [List.take_succ_eq_append_getElem hl, List.reverse_append]
    simp
theorem slicePick_rev (items : Array Value) (lo : Option Int) : slicePick items lo none (some (-1)) = ((items.toList.take (revK items.size lo)).reverse).toArray := by
  have hk := revK_le items.size lo
  have eb : sliceBounds lo none (some (-1)) items.size = ((revK items.size lo : Int) - 1, -1, -1) := by
    unfold sliceBounds revK
    cases lo with
    | none => simp
    | some i =>
      simp only [Option.getD_some]
      rw [if_neg (show ¬ ((-1 : Int) > 0) by decide)]
      refine Prod.ext ?_ (Prod.ext rfl rfl)
      dsimp only
      try rw [if_neg (show ¬ ((-1 : Int) > 0) by decide)]
      by_cases h : i < 0
      · simp only [if_pos h]; omega
      · simp only [if_neg h]; omega
  unfold slicePick
  rw [eb]
  dsimp only
  have er : sliceRange ((revK items.size lo : Int) - 1) (-1) (-1) = (List.range (revK items.size lo)).map fun k : Nat => ((revK items.size lo : Int) - 1 + (k : Int) * (-1)).toNat := by
    unfold sliceRange
    dsimp only
    rw [if_neg (show ¬ ((-1 : Int) > 0) by decide)]
    have ec : (if (revK items.size lo : Int) - 1 > -1 then ((revK items.size lo : Int) - 1 - (-1) - (-1) - 1) / (-(-1)) else 0) = (revK items.size lo : Int) := by
      by_cases h : (revK items.size lo : Int) - 1 > -1
      · rw [if_pos h]
        rw [show (-(-1 : Int)) = 1 from rfl, Int.ediv_one]; omega
      · rw [if_neg h]; omega
    rw [ec, Int.toNat_natCast]
    refine List.map_congr_left fun k _ => ?_
    rw [Int.mul_comm]
  rw [er, List.filterMap_map]
  exact congrArg List.toArray (pick_rev items _ hk)
section
variable {prog : Program} {w : World} {A : Around} {E : Value → Shared → Prop} {s : Shared}
theorem sliceApplied_rev {sl : Addr} {vl vs : Value} {lo : Option Int} {n : Nat} {Q : Int × Int × Nat → Shared → Prop} (hs : s.heap.IsSliceOf sl vl .none vs) (pl : IsPart vl lo) (ps : IsPart vs (some (-1)))
    (h : Q ((revK n lo : Int) - 1, -1, revK n lo) s) : wpAny (model prog w) A (Builtin.Slice.sliceApplied (.ref sl) (pure (n : Int))) Q E s := by
  obtain ⟨os, hos, hcs, hds⟩ := id hs
  unfold Builtin.Slice.sliceApplied Builtin.Slice.sliceFields
  refine wpAny_bind (wpAny_bind (wpAny_field hos hds (x := vl) rfl (wpAny_bind (wpAny_field hos hds (x := .none) rfl (wpAny_bind (wpAny_field hos hds (x := vs) rfl (wpAny_pure ?_)))))))
  refine wpAny_bind (HT.slicePart_ ps ?_)
  show wpAny _ _ (if ((-1 : Int) == 0) = true then _ else _) _ _ s
  rw [if_neg (by decide)]
  refine wpAny_bind (HT.slicePart_ pl (wpAny_bind (HT.slicePart_ .none (wpAny_bind (wpAny_pure ?_)))))
  show wpAny _ _ (match Builtin.Slice.sliceAdjust lo none (-1) (n : Int) with | (lo, hi) => pure (lo, (-1 : Int), Builtin.Slice.slicePlaces lo hi (-1))) _ _ s
  have ea : Builtin.Slice.sliceAdjust lo none (-1) (n : Int) = ((revK n lo : Int) - 1, -1) := by
    unfold Builtin.Slice.sliceAdjust revK
    cases lo with
    | none => simp
    | some i =>
      refine Prod.ext ?_ rfl
      dsimp only
      rw [if_pos (show ((-1 : Int) < 0) by decide), if_pos (show ((-1 : Int) < 0) by decide)]
      by_cases h : i < 0
      · simp only [if_pos h]; omega
      · simp only [if_neg h]; omega
  rw [ea]
  show wpAny _ _ (pure ((revK n lo : Int) - 1, (-1 : Int), Builtin.Slice.slicePlaces ((revK n lo : Int) - 1) (-1) (-1))) _ _ s
  have ep : Builtin.Slice.slicePlaces ((revK n lo : Int) - 1) (-1) (-1) = revK n lo := by
    unfold Builtin.Slice.slicePlaces
    rw [if_neg (show ¬ ((-1 : Int) > 0) by decide)]
    by_cases h : (revK n lo : Int) - 1 > -1
    · rw [if_pos h, show (-(-1 : Int)) = 1 from rfl, Int.ediv_one]; omega
    · rw [if_neg h]; omega
  rw [ep]
  exact wpAny_pure h
theorem getItem_tuple_rev {t sl : Addr} {items : Array Value} {vl vs : Value} {lo : Option Int} {Q : Value → Shared → Prop} (ht : IsTup s.heap t items) (hs : s.heap.IsSliceOf sl vl .none vs) (pl : IsPart vl lo) (ps : IsPart vs (some (-1)))
    (h : Q (.ref s.heap.objs.size) { s with heap := s.heap.push { cls := .type "tuple", data := .seq ((items.toList.take (revK items.size lo)).reverse).toArray } })
    (hsz : items.size ≤ sizeLine) : wpAny (model prog w) A (getItem (.ref t) (.ref sl)) Q E s := by
  have htake : sizeOk (.seq ((items.toList.take (revK items.size lo)).reverse).toArray) := by
    show ((items.toList.take (revK items.size lo)).reverse).toArray.size ≤ sizeLine
    rw [List.size_toArray, List.length_reverse, List.length_take, Array.length_toList]
    omega
  obtain ⟨os, hos, hcs, hds⟩ := id hs
  have hTs : s.TypeIs (.ref sl) "slice" := ⟨os, hos, hcs⟩
  unfold getItem
  try with_reducible refine wpAny_holding ?_
  first | refine wpAny_bind (wpAny_pure ?_) | skip
  refine wpAny_bind (wpAny_sequenceKey ht.typeIs (by decide) ?_)
  refine wpAny_bind (wpAny_callSpecial?_slot (name := Str.ofString "__getitem__") ht.typeIs PyProof.Rows.slot_tuple_getitem
    (wpAny_call_entry PyProof.Rows.slot_tuple_getitem ht.typeIs entry_tuple_getitem ?_ (args_tuple_getitem _ _)))
  show wpAny _ _ (Builtin.Tuple.tupleItemsOf (.ref t) >>= _) _ _ s
  refine wpAny_bind (tupleItemsOf_ ht ?_)
  refine wpAny_bind (wpAny_typeOf hTs ?_)
  rw [if_pos (by decide)]
  refine wpAny_bind (sliceApplied_rev hs pl ps ?_)
  have hno : ¬ ((((revK items.size lo : Int) - 1) == 0 && (-1 : Int) == 1 && (revK items.size lo) == items.size) = true) := by
    intro q
    rw [Bool.and_eq_true, Bool.and_eq_true] at q
    exact absurd q.1.2 (by decide)
  show wpAny _ _ (if (((revK items.size lo : Int) - 1) == 0 && (-1 : Int) == 1 && (revK items.size lo) == items.size) = true then _ else _) _ _ s
  rw [if_neg hno, pick_rev items _ (revK_le items.size lo)]
  first
    | exact wpAny_bind (m := Builtin.Tuple.tupleExact _) (wpAny_newObj_type (wpAny_pure ⟨_, rfl, wpAny_pure h⟩) htake)
    | exact wpAny_bind (m := Builtin.Tuple.tupleExact _) (wpAny_newObj_type (wpAny_bind (wpAny_pure (wpAny_pure ⟨_, rfl, wpAny_pure h⟩))) htake)
    | exact wpAny_bind (wpAny_bind (m := Builtin.Tuple.tupleExact _) (wpAny_newObj_type (wpAny_pure (wpAny_pure ⟨_, rfl, wpAny_pure h⟩)) htake))
    | exact wpAny_bind (wpAny_bind (m := Builtin.Tuple.tupleExact _) (wpAny_newObj_type (wpAny_pure ⟨_, rfl, wpAny_pure h⟩) htake))
end
def revV (xs : List V) (lo : Option Int) : List V := (xs.take (revK xs.length lo)).reverse
theorem revV_length (xs : List V) (lo : Option Int) : (revV xs lo).length ≤ xs.length := by
  unfold revV
  rw [List.length_reverse, List.length_take]
  omega
theorem Vals.rev' : ∀ {xs : List V} {us : List Value}, Vals xs us → Vals xs.reverse us.reverse
  | _, _, .nil => .nil
  | _, _, .cons h t => by
    rw [List.reverse_cons, List.reverse_cons]
    exact (Vals.rev' t).append (.cons h .nil)
section
variable {X : Cx} {e st : Expr} {lo : Option Expr} {p2 pos : Pos} {te ts : TE} {tl : TO}
def rRev (K : PySem.W.Frag) : V → Option Int → Hp → VK → Prop := fun x lo H Q =>
  (∃ a xs, x = .ref a ∧ SqL K H a xs ∧ ∀ p, H p = none → Q (.ref p) (upd H p (.lst (revV xs lo)))) ∨ (∃ a xs, x = .ref a ∧ SqT K H a xs ∧ ∀ p, H p = none → Q (.ref p) (upd H p (.tup (revV xs lo))))
def tSlR (r : V → Option Int → Hp → VK → Prop) (te : TE) (tl : TO) (ts : TE) : TE := fun σ H Q => te σ H fun x H1 => tl σ H1 fun l H2 => ts σ H2 fun z H3 => z = .int (-1) ∧ r x l H3 Q
theorem pe_sliceR (he : PE X e te) (hl : PO X lo tl) (hs : PE X st ts) : PE X (.Subscript e (.Slice lo none (some st) p2) pos) (tSlR (rRev X.K) te tl ts) := by
  refine ⟨fun pins s σ H Q I h => ?_⟩
  refine Subscript_ (thn (he.run pins s σ H _ I h) fun v s1 ⟨x, H1, I1, r1, q1⟩ => ?_)
  refine wpAny_Slice (thn (hl.run pins s1 σ H1 _ I1 q1) fun vl s2 ⟨l, H2, I2, pl, q2⟩ => ?_)
  rw [evalPart_none]
  refine wpAny_pure ?_
  rw [evalPart_some]
  refine thn (hs.run pins s2 σ H2 _ I2 q2) fun vs s3 ⟨z, H3, I3, rz, ez, q3⟩ => ?_
  subst ez
  obtain ⟨tk, evs⟩ : ∃ t, vs = .int (-1) t := rz
  subst evs
  have I4 : Inv X pins σ H3 { s3 with heap := s3.heap.push { cls := .type "slice", data := .fields #[vl, .none, .int (-1) tk] } } := I3.kept (t' := s3.toks) fun b ob q => Heap.get?_push_of_some _ q
  have hsl : ({ s3 with heap := s3.heap.push { cls := .type "slice", data := .fields #[vl, .none, .int (-1) tk] } } : Shared).heap.IsSliceOf s3.heap.objs.size vl .none (.int (-1) tk) := Heap.IsSliceOf.new ..
  show wpAny (model X.prog X.w) X.A (subscriptTail e (.Slice lo none (some st) p2) v (.ref s3.heap.objs.size)) (EP X pins σ Q) X.xe { s3 with heap := s3.heap.push { cls := .type "slice", data := .fields #[vl, .none, .int (-1) tk] } }
  generalize ({ s3 with heap := s3.heap.push { cls := .type "slice", data := .fields #[vl, .none, .int (-1) tk] } } : Shared) = s4 at I4 hsl ⊢
  rcases q3 with ⟨a, xs, rfl, hx, q⟩ | ⟨a, xs, rfl, hx, q⟩
  · cases r1
    obtain ⟨its, r, ht, hz⟩ := I4.list hx
    have hlen := r.length
    have hg : wpAny (model X.prog X.w) X.A (getItem (.ref a) (.ref s3.heap.objs.size)) (EP X pins σ Q) X.xe s4 := by
      refine wpAny_getItem_list_slice ht.isList hsl pl .none (.int (-1) tk) (by decide) ?_ (by rw [List.size_toArray] <;> omega)
      rw [slicePick_rev]
      have e1 : (its.toArray.toList.take (revK its.toArray.size l)).reverse = (its.take (revK xs.length l)).reverse := by simp [hlen]
      rw [e1]
      refine ⟨.ref s4.heap.objs.size, _, I4.laid (t' := s4.toks) (o := .lst (revV xs l)) (fun b ob q => Heap.get?_push_of_some _ q) (Nat.le_refl _) ?_, rfl, q _ (I4.hok.fresh (Nat.le_refl _))⟩
      exact ⟨Nat.le_trans (revV_length xs l) hz, _, 0, (r.take (revK xs.length l)).rev', Heap.get?_push_size _ rfl⟩
    first
      | exact tail_any (ops := [.ref s3.heap.objs.size, .ref a]) ht.isList.typeIs slot_list_getitem.lookup hg (by with_unfolding_all rfl)
      | exact tail_any (ops := [.ref a, .ref s3.heap.objs.size]) ht.isList.typeIs slot_list_getitem.lookup hg (by with_unfolding_all rfl)
  · cases r1
    obtain ⟨its, r, ht, hz⟩ := I4.tuple hx
    have hlen := r.length
    have hg : wpAny (model X.prog X.w) X.A (getItem (.ref a) (.ref s3.heap.objs.size)) (EP X pins σ Q) X.xe s4 := by
      refine getItem_tuple_rev ht hsl pl (.int (-1) tk) ?_ (by rw [List.size_toArray] <;> omega)
      have e1 : (its.toArray.toList.take (revK its.toArray.size l)).reverse = (its.take (revK xs.length l)).reverse := by simp [hlen]
      rw [e1]
      refine ⟨.ref s4.heap.objs.size, _, I4.laid (t' := s4.toks) (o := .tup (revV xs l)) (fun b ob q => Heap.get?_push_of_some _ q) (Nat.le_refl _) ?_, rfl, q _ (I4.hok.fresh (Nat.le_refl _))⟩
      exact ⟨Nat.le_trans (revV_length xs l) hz, _, (r.take (revK xs.length l)).rev', IsTup.new _ _⟩
    first
      | exact tail_any (ops := [.ref s3.heap.objs.size, .ref a]) ht.typeIs PyProof.Rows.slot_tuple_getitem.lookup hg (by with_unfolding_all rfl)
      | exact tail_any (ops := [.ref a, .ref s3.heap.objs.size]) ht.typeIs PyProof.Rows.slot_tuple_getitem.lookup hg (by with_unfolding_all rfl)
end
end L2
namespace PD
open PySem PySem.Spec PyProof.Rows L2
def revD (ds : List D) (lo : Option Int) : List D := (ds.take (revK ds.length lo)).reverse
def dSlR (x : D) (lo : Option Int) (z : D) : Option D := match z with
  | .int i => if i = -1 then (match x with
    | .tup ds => some (.tup (revD ds lo))
    | .lst ds => some (.lst (revD ds lo))
    | _ => none) else none
  | _ => none
def mSlR (a : M D) (lo : M (Option Int)) (st : M D) : M D := fun ε h => bR (a ε h) fun x h1 => bR (lo ε h1) fun l h2 => bR (st ε h2) fun z h3 => rt (dSlR x l z) h3
variable [LamTab]
theorem Reps.rev {c : RC} : ∀ {ds : List D} {vs : List V}, Reps c ds vs → Reps c ds.reverse vs.reverse
  | _, _, .nil => .nil
  | _, _, .cons h t => by
    rw [List.reverse_cons, List.reverse_cons]
    exact (Reps.rev t).append (.cons h .nil)
section
variable {X : Cx} {W : WX}
theorem re_sliceR {a st : Expr} {lo : Option Expr} {ma ms : M D} {ml : M (Option Int)} {p2 pos : Pos} (ha : RE X W a ma) (hl : RO X W lo ml) (hs : RE X W st ms) : RE X W (.Subscript a (.Slice lo none (some st) p2) pos) (mSlR ma ml ms) := by
  refine pe_imp (pe_sliceR ha hl hs) fun σ H Q h => ?_
  obtain ⟨c, ε, h, r', h', hK, hm, rfl, sr, er, e, px, go⟩ := h
  unfold tSlR
  refine tX.bind hK hm sr er e px fun x h1 c1 v e1 l1 s1 r1 => ?_
  refine tX.bind (l1.K.trans hK) (l1.mg.trans hm) s1 (er.le l1) e1 (px.le l1) fun lo' h2 c2 lo2 e2 l2 s2 r2 => ?_
  refine tX.bind ((l2.K.trans l1.K).trans hK) ((l2.mg.trans l1.mg).trans hm) s2 ((er.le l1).le l2) e2 ((px.le l1).le l2) fun z h3 c3 zv e3 l3 s3 r3 => ?_
  subst r2
  have r1' := (r1.le l2).le l3
  have hK3 : c3.K = X.K := ((l3.K.trans l2.K).trans l1.K).trans hK
  cases q : dSlR x lo' z with
  | none => rw [q] at e3; cases e3
  | some d =>
    rw [q] at e3
    cases e3
    have go' : ∀ c' v, c3.Le c' → SR c' _ → Rep c' d v → Q v c'.H := fun c' v l s r => go d rfl c' v (((l1.trans l2).trans l3).trans l) s r
    cases r3 with
    | int i =>
      unfold dSlR at q
      by_cases hi : i = -1
      · subst hi
        refine ⟨rfl, ?_⟩
        dsimp only at q
        rw [if_pos rfl] at q
        have er : ∀ {ds : List D} {xs : List V}, Reps c3 ds xs → Reps c3 (revD ds lo') (revV xs lo') := fun {ds xs} r => by
          unfold revD revV
          rw [← r.length]
          exact (r.take _).rev
        cases r1' with
        | @tup a ds xs k1 k2 =>
          cases q
          exact .inr ⟨a, xs, rfl, by rw [← hK3]; exact k1, put_tup s3 go' (er k2)⟩
        | @lst a ds xs k1 k2 k3 =>
          cases q
          exact .inl ⟨a, xs, rfl, SqL.of k1, put_lst s3 go' (er k3)⟩
        | _ => cases q
      · dsimp only at q
        rw [if_neg hi] at q
        cases q
    | _ => cases q
end
end PD
namespace PD
open PySem PySem.Spec PyProof.Rows L2 PX LamX
def mTupM (a : M (List D)) : M (List D) := fun ε h => bR (a ε h) fun ds h1 => if ds.length ≤ sizeLine then some (.ok [.tup ds], h1) else none
def mCallS (F : PF) (a : M (List D)) : M D := mCallP F (mTupM a)
theorem bind_star0 {B : List Value → Sem (List (Str × Value))} {pv : Str} (h0 : B [] = (newTuple [] >>= fun t => pure [(pv, t)])) (h1 : ∀ r rs, B (r :: rs) = (newTuple (r :: rs) >>= fun t => pure [(pv, t)])) :
    ∀ us rest : List Value, us.length = ([] : List Str).length → B (us ++ rest) = (newTuple rest >>= fun t => pure (([] : List Str).zip us ++ [(pv, t)]))
  | [], [], _ => h0
  | [], r :: rs, _ => h1 r rs
variable [LamTab]
def SpS (K : PySem.W.Frag) (mg : Str → Option Value) (F : PF) : Sp := fun vs H Q E => vs.length ≤ sizeLine ∧ ∀ p, H p = none → SpP K mg 1 F [.ref p] (upd H p (.tup vs)) Q E
structure FnS (P : Program) (w : World) (K : PySem.W.Frag) (mg : Str → Option Value) (base : Heap) (x : Str) (k : Nat) (F : PF) : Prop where
  ex : ∃ f : Addr, mg x = some (.ref f) ∧ PySem.W.keepIn K (.ref f) = true ∧ FnR P w K mg base (L2.CX P w) k f (SpS K mg F)
section
variable {P : Program} {w : World} {K : PySem.W.Frag} {mg : Str → Option Value} {base : Heap}
theorem fnS {x pv name qual : Str} {params : Arguments} {body : List Stmt} {scope : Scope} {f : Addr} {fd : FuncData} {N : List Str} {k : Nat} {m : MS} (hm : mg x = some (.ref f)) (F : FunD K name qual params body scope [] [] f fd) (S : FnScope N [pv] scope)
    (bind : ∀ (kV doc pm : Value) (an : Option Addr) (cdv ct : Value) (us rest : List Value), us.length = ([] : List Str).length → bindArgs (PySem.W.fnOf name qual params body scope .none kV doc pm an cdv ct) ⟨us ++ rest, []⟩ = (newTuple rest >>= fun t => pure (([] : List Str).zip us ++ [(pv, t)])))
    (hb : ∀ (cdv : Value) (A : Around) (outer : List Env) (s : Shared) (H : Hp) (E : XK), Room k (A.deeper (envOfC qual scope s.heap.objs.size f cdv)) → RSs (cxOf (L2.CX P w) P w K mg base N qual scope f cdv A outer s H E) (fun cls d _ H' => E cls d H') body m) :
    FnS P w K mg base x (k + 1) (runP N.length m) := by
  have kp := F.kp
  obtain ⟨oc, od, dV, kV, doc, pm, an, cdv, ct, osl, rfl, lk, hcd, hD, _⟩ := F.ex
  rcases hD with ⟨_, rfl⟩ | ⟨e, _⟩
  · refine ⟨f, hm, kp, (StX.fn_star (CX := L2.CX P w) (N := N) (ps := []) (pv := pv) (k := k) (sp := SpP K mg 1 (runP N.length m)) lk hcd S StX.cxUp (fun us rest hl => bind kV doc pm an cdv ct us rest hl) fun A outer s H vs Q E hr h => ⟨_, hb cdv A outer s H E hr, body_of h⟩).imp ?_⟩
    rintro vs H Q E ⟨hz, h⟩
    exact ⟨[], vs, rfl, rfl, hz, h⟩
  · exact absurd rfl e
end
section
variable {X : Cx} {W : WX}
/-- a def's promise at hand, for arguments that stand -/
theorem spP_at {K : PySem.W.Frag} {mg : Str → Option Value} {n : Nat} {F : PF} {c1 : RC} {h1 : EH} {ds : List D} {vs : List V} {r : R D} {σ : L2.St} {Q : VK} (fl : Flat W) (hK1 : c1.K = K) (hm1 : MgE c1 mg) (s1 : SR c1 h1) (r1 : Reps c1 ds vs) (hc : noRef.go ds = true) (hn : ds.length = n) (q2 : F ds = some r)
    (px : Px W c1 σ r h1) (go : ∀ d, r = .ok d → ∀ c' v, c1.Le c' → SR c' h1 → Rep c' d v → Q v c'.H) : SpP K mg n F vs c1.H Q (EW W) := by
  have r1' : Reps (c1.bare fun a => c1.B a ∨ a ∈ c1.ρ) ds vs := r1.bare (fun _ z => z) hc
  have back : ∀ c', (c1.bare fun a => c1.B a ∨ a ∈ c1.ρ).Le c' → c1.Le { c' with ρ := c1.ρ, B := c1.B } ∧ SR { c' with ρ := c1.ρ, B := c1.B } h1 := fun c' l => by
    have l2 : c1.Le { c' with ρ := c1.ρ, B := c1.B } := ⟨l.K, l.mg, fun _ h => h, fun _ h => .inl h, l.dom, fun _ _ h => h, fun a o e t n => ⟨(l.keep a o e t List.not_mem_nil).1, n⟩, l.tup, l.frz⟩
    refine ⟨l2, s1.len, s1.nd, fun n a k e1 e2 => ?_, s1.nb, fun a hb => ?_⟩
    · have cr := s1.cells n a k e1 e2
      obtain ⟨o, eo⟩ := cr.ex
      refine cr.le l2 ?_
      have nt : ∀ ps, o ≠ .tbl ps := fun ps z => by
        subst z
        exact cr.noTab.1 ps eo
      exact (l.keep a o eo nt List.not_mem_nil).1.trans eo.symm
    · obtain ⟨o, eo⟩ := s1.bt a hb
      exact l.dom a o eo
  refine ⟨c1.bare fun a => c1.B a ∨ a ∈ c1.ρ, ds, r, hK1, hm1, rfl, rfl, fun a z => ?_, r1', hn, q2, fun d ed c' v l hρ rd => ?_, fun x ex c' cls dx l hρ xr => ?_⟩
  · rcases z with z | z
    · exact s1.bt a z
    · exact s1.ex z
  · obtain ⟨l2, s2⟩ := back c' l
    exact go d ed { c' with ρ := c1.ρ, B := c1.B } v l2 s2 (Rep.unbare (fun a ha => l.B a (.inr ha)) (fun a ha => l.B a (.inl ha)) hρ rd)
  · obtain ⟨l2, s2⟩ := back c' l
    refine fl _ _ _ _ _ (px x ex { c' with ρ := c1.ρ, B := c1.B } cls dx l2 s2 ?_)
    obtain ⟨Ca, d, us, h1, h2, h3, h4, h5, h6⟩ := xr
    exact ⟨Ca, d, us, h1, h2, h3, h4, ⟨fun z => h5.1 (l.B _ (.inl z)), fun z => h5.1 (l.B _ (.inr z))⟩, RepF.unbare (fun a ha => l.B a (.inr ha)) (fun a ha => l.B a (.inl ha)) hρ h6⟩
theorem callS_of {K : PySem.W.Frag} {mg : Str → Option Value} {F : PF} {a : M (List D)} {σ : L2.St} {H : Hp} {Q : VK} (fl : Flat W) (h : tE K mg W (mCallS F a) σ H Q) :
    tA K mg W a σ H fun vs H1 => SpS K mg F vs H1 Q (EW W) := by
  obtain ⟨c, ε, h, r, h', hK, hm, rfl, sr, er, e, px, go⟩ := h
  have e' : bR (a ε h) (fun ds h1 => bR (if ds.length ≤ sizeLine then some (R.ok [D.tup ds], h1) else none) fun ds h1 => if noRef.go ds = true then (F ds).map fun r => (r, h1) else none) = some (r, h') := by
    rw [← e]
    unfold mCallS mCallP mTupM
    cases a ε h with
    | none => rfl
    | some z => obtain ⟨r1, h1⟩ := z; cases r1 <;> rfl
  refine tX.bindE (k := fun (ds : List D) h1 => bR (if ds.length ≤ sizeLine then some (R.ok [D.tup ds], h1) else none) fun ds h1 => if noRef.go ds = true then (F ds).map fun r => (r, h1) else none) hK hm sr er e' px fun ds h1 e1 c1 vs z1 l1 s1 r1 => ?_
  by_cases hz : ds.length ≤ sizeLine
  · rw [if_pos hz] at z1
    refine ⟨by rw [← r1.length]; exact hz, fun p hp => ?_⟩
    obtain ⟨l2, s2, f2⟩ := s1.new (o := .tup vs) hp
    have hK2 := l2.K.trans (l1.K.trans hK)
    have hm2 := l2.mg.trans (l1.mg.trans hm)
    have z2 : (if noRef.go [D.tup ds] = true then (F [D.tup ds]).map fun r => (r, h1) else none) = some (r, h') := z1
    by_cases hc : noRef.go [D.tup ds] = true
    · rw [if_pos hc] at z2
      cases q2 : F [D.tup ds] with
      | none => rw [q2] at z2; cases z2
      | some r2 =>
        rw [q2] at z2
        cases z2
        have r2 : Reps (c1.put p (.tup vs)) [.tup ds] [.ref p] := .cons (.tup (.inl (.inl upd_same)) (r1.le l2)) .nil
        exact spP_at (σ := σ) fl hK2 hm2 s2 r2 hc rfl q2 ((px.le l1).le l2) fun d ed c' v l s rv => go d ed c' v ((l1.trans l2).trans l) s rv
    · rw [if_neg hc] at z2; cases z2
  · rw [if_neg hz] at z1; cases z1
theorem re_callS {x : Str} {p pos : Pos} {e : Expr} {es : List Expr} {k j : Nat} {F : PF} {ma : M (List D)} (G : FnS X.prog X.w X.K X.mg X.base x k F) (hr : Room j X.A) (tk : Takes X W) (fl : Flat W) (ha : RA X W (e :: es) ma) (hk : k ≤ j := by decide) (hg : Gl X x := by rfl)
    (hdb : (x == ("__debug__" : Str)) = false := by decide) (he : starEach (e :: es) X.env = (false, eval e X.env) :: starEach es X.env := by rfl) (hpl : (backTo pos (starEach es X.env)).any (·.1) = false := by rfl) :
    RE X W (.Call (.Name x p) (e :: es) [] pos) (mCallS F ma) := by
  obtain ⟨f, hm, hkp, Fo⟩ := G.ex
  refine ⟨fun pins s σ H Q I h => ?_⟩
  refine wpAny_Call_Name_kw (ld_glob I hg hm ?_ hdb)
  refine PySem.W.callWith_K (h₀ := X.base) I.ok.mod.kin hkp (thn (ha.run pos pins s σ H _ I (callS_of fl h)) fun us s1 ⟨vs, H1, I1, r, q⟩ => ⟨I1.kIn, ?_⟩) he hpl
  exact wpAny_call (run_fnR Fo (hr.mono hk) (passE tk fl) I1 r q)
theorem re_callS0 {x : Str} {p pos : Pos} {k j : Nat} {F : PF} (G : FnS X.prog X.w X.K X.mg X.base x k F) (hr : Room j X.A) (tk : Takes X W) (fl : Flat W) (hk : k ≤ j := by decide) (hg : Gl X x := by rfl)
    (hdb : (x == ("__debug__" : Str)) = false := by decide) : RE X W (.Call (.Name x p) [] [] pos) (mCallS F mNil) := by
  obtain ⟨f, hm, hkp, Fo⟩ := G.ex
  refine ⟨fun pins s σ H Q I h => ?_⟩
  have h2 := callS_of (a := mNil) fl h
  have h3 : SpS X.K X.mg F [] H Q (EW W) := by
    obtain ⟨c, ε, eh, r, h', hK, hm', rfl, sr, er, e, px, go⟩ := h2
    cases e
    exact go [] rfl c [] (.refl c) sr .nil
  refine wpAny_Call_Name_kw (ld_glob I hg hm ?_ hdb)
  exact PySem.W.callWith_K0 I.kIn hkp (wpAny_call (run_fnR (us := []) (vs := []) Fo (hr.mono hk) (passE tk fl) I .nil h3))
end
end PD
namespace L2
open PySem PySem.Spec PyProof.Rows
section
variable {elt t0 i0 t1 i1 : Expr} {f0 f1 : List Expr} {scope : Scope} {pos : Pos} {it acc : Value} {env : Env}
theorem lc2n_0 : TurnEq (.ListComp elt [⟨t0, i0, f0, 0⟩, ⟨t1, i1, f1, 0⟩] scope pos) 0 it acc env t0 i0.pos f0 (innerFor (.ListComp elt [⟨t0, i0, f0, 0⟩, ⟨t1, i1, f1, 0⟩] scope pos) 1 acc env i1) := by rfl
theorem lc2n_1 : TurnEq (.ListComp elt [⟨t0, i0, f0, 0⟩, ⟨t1, i1, f1, 0⟩] scope pos) 1 it acc env t1 i1.pos f1 (innerApp elt acc env) := by rfl
end
end L2
namespace PD
open PySem PySem.Spec PyProof.Rows L2
def mLcNC (vs : List Nat) (mi : M (List D)) (g : MG) (t : M Bool) (b : MB) : M D := fun ε h => bR (mi ε h) fun ds h1 => okLC (lpB g t b (wipeE ε vs) ds h1)
variable [LamTab]
theorem lcNC_of {K : PySem.W.Frag} {mg : Str → Option Value} {W : WX} {mi : M (List D)} {g : MG} {S vs : List Nat} {t : M Bool} {body : Addr → BodyT} {mb : MB} {σ : L2.St} {H : Hp} {Q : VK} (hS : ∀ i ∈ S, i ∈ vs) (hB : ∀ p, BodyR K mg HO.lst sizeLine p (body p) mb) (h : tE K mg W (mLcNC vs mi g t mb) σ H Q) :
    tLcN (fun _ => .lst []) (tI K mg W mi) (tG K mg S g) (tT K mg W0 t) vs body σ H Q := by
  obtain ⟨c, ε, h, r, h', hK, hm, rfl, sr, er, e, px, go⟩ := h
  unfold tLcN
  refine tX.bind hK hm sr er e px fun ds h1 c1 J e1 l1 s1 r1 => ?_
  intro p hp
  have hK1 := l1.K.trans hK
  have hm1 := l1.mg.trans hm
  cases q : lpB g t mb (wipeE ε vs) ds h1 with
  | none => rw [q] at e1; cases e1
  | some z =>
    obtain ⟨all, hE⟩ := z
    rw [q] at e1
    have e1' : (if all.length ≤ sizeLine then some (PD.R.ok (D.ref hE.length), hE ++ [Cell.lst all]) else none) = some (r, h') := e1
    by_cases hz : all.length ≤ sizeLine
    · rw [if_pos hz] at e1'
      cases e1'
      obtain ⟨o2, s2⟩ := Over.start (xs := []) s1 hp
      refine lp_of (c2 := { c1 with B := fun a => c1.B a ∨ a = p, H := upd c1.H p (.lst []) }) (acc := []) (O := HO.lst) (fun _ _ z => by cases z) hS (hB p) r1 (o2.le.K.trans hK1) (o2.le.mg.trans hm1) o2.le.toW o2 s2 upd_same .nil (EnvR.more hp (wipe_envR vs (er.le l1))) q hz fun c3 xs3 hK3 hm3 o3 s3 p3 racc lw3 eu3 => ?_
      obtain ⟨l4, s4, e4⟩ := o3.adopt s3 p3 racc
      exact go _ rfl { c3 with B := c1.B, ρ := c3.ρ ++ [p] } _ (l1.trans l4) s4 (.ref e4)
    · rw [if_neg hz] at e1'; cases e1'
section
variable {X : Cx} {W : WX}
theorem re_lc2C {elt tg iter tg1 iter1 : Expr} {ifs ifs1 : List Expr} {scope : Scope} {own : List (Str × Nat)} {vs1 : List Nat} {pos : Pos} {mi mi1 : M (List D)} {g g1 : MG} {S S1 : List Nat} {t t1 : M Bool} {e : M D} (hc : X.calm = true) (hN : X.N.Nodup) (hi : RI X W tg iter mi) (ok : BlkOk X.N X.env.scope scope own)
    (hS : ∀ i ∈ S, i ∈ own.map (·.2)) (hS1 : ∀ i ∈ S1, i ∈ vs1) (hv : ∀ i ∈ vs1, i ∈ own.map (·.2))
    (hg : ∀ (s : Shared) (H : Hp) (C : Addr) (cl : List (Str × Addr)) (fp : List Addr), RG (X.blk s H scope (compEnvC scope cl C X.env) fp) tg S g) (ht : ∀ (s : Shared) (H : Hp) (C : Addr) (cl : List (Str × Addr)) (fp : List Addr), RTs (X.blk s H scope (compEnvC scope cl C X.env) fp) W0 ifs t)
    (hi1 : ∀ (s : Shared) (H : Hp) (C : Addr) (cl : List (Str × Addr)) (fp : List Addr), RI (X.blk s H scope (compEnvC scope cl C X.env) fp) W0 tg1 iter1 mi1)
    (hg1 : ∀ (s : Shared) (H : Hp) (C : Addr) (cl : List (Str × Addr)) (fp : List Addr), RG (X.blk s H scope (compEnvC scope cl C X.env) fp) tg1 S1 g1) (ht1 : ∀ (s : Shared) (H : Hp) (C : Addr) (cl : List (Str × Addr)) (fp : List Addr), RTs (X.blk s H scope (compEnvC scope cl C X.env) fp) W0 ifs1 t1)
    (he : ∀ (s : Shared) (H : Hp) (C : Addr) (cl : List (Str × Addr)) (fp : List Addr), RE (X.blk s H scope (compEnvC scope cl C X.env) fp) W0 elt e) (hs : ∀ x, foldedSetIterable iter X.env x = pure x := by intro _; rfl) (hs1 : ∀ env x, foldedSetIterable iter1 env x = pure x := by intro _ _; rfl) :
    RE X W (.ListComp elt [⟨tg, iter, ifs, 0⟩, ⟨tg1, iter1, ifs1, 0⟩] scope pos) (mLcNC (own.map (·.2)) mi g t (mbFor mi1 g1 t1 vs1 (mbE e))) := by
  refine pe_imp (pe_lcN (g := tG X.K X.mg S g) (tt := tT X.K X.mg W0 t) (body := fun p => tForB (tI X.K X.mg W0 mi1) (tG X.K X.mg S1 g1) (tT X.K X.mg W0 t1) vs1 (tApp (tE X.K X.mg W0 e) p)) hc hN (fun _ _ _ => lc2n_0) hi ok hv hg ht (fun s H C cl fp D => ?_) hs) fun σ H Q h => ?_
  · exact runs_for hc node_lc rfl rfl (fun _ => lc2n_1) (vsIn := []) (fun _ z => by cases z) (hs1 _) (hi1 s H C cl fp) rfl (hg1 s H C cl fp) (ht1 s H C cl fp) (runs_app rfl (he s H C cl fp))
  · exact lcNC_of hS (fun p => bodyR_for (fun _ _ z => by cases z) hS1 bodyR_app) h
end
structure FnIK (P : Program) (w : World) (K : PySem.W.Frag) (mg : Str → Option Value) (base : Heap) (x : Str) (k n : Nat) (F : IF) (ks : List Str) (p : List Nat) : Prop where
  ex : ∃ (f : Addr) (fd : FuncData) (ps : List Str), mg x = some (.ref f) ∧ PySem.W.keepIn K (.ref f) = true ∧ KBn K fd ps 0 ks (fun _ ws => permL p ws) (fun _ zs => permL p zs) ∧ ps.length = n ∧ FnOk P w K mg base (L2.CX P w) k f fd ps (SpI K mg n F)
section
variable {X : Cx} {W : WX}
theorem re_callIK {x : Str} {p pos : Pos} {kws : List Keyword} {ks : List Str} {pm : List Nat} {k j n : Nat} {F : IF} {ma : M (List D)} (G : FnIK X.prog X.w X.K X.mg X.base x k n F ks pm) (hr : Room j X.A) (tk : Takes X W) (ha : RK X W kws ma) (hk : k ≤ j := by decide)
    (hn : ArN ks.length ma := by repeat (first | exact ar_nil | refine ar_cons ?_)) (hpn : ∀ ds : List D, ds.length = ks.length → (permL pm ds).length = n := by intro ds hl; match ds, hl with | [_], _ => rfl)
    (hall : (backToKw pos (keywordEach kws X.env)).all (·.1.isSome) = true := by rfl) (hks : (backToKw pos (keywordEach kws X.env)).filterMap (·.1) = ks := by rfl) (hg : Gl X x := by rfl)
    (hdb : (x == ("__debug__" : Str)) = false := by decide) (hpl : ((backTo pos (starEach [] X.env)).any (·.1) || (backToKw pos (keywordEach kws X.env)).any (·.1.isNone)) = false := by rfl) :
    RE X W (.Call (.Name x p) [] kws pos) (mCallI F (mPerm pm ma)) := by
  obtain ⟨f, fd, ps, hm, hkp, hb, hl, Fo⟩ := G.ex
  refine ⟨fun pins s σ H Q I h => ?_⟩
  have h2 := callI_of (n := n) (fun ε h ds h' e => by
    unfold mPerm at e
    cases q : ma ε h with
    | none => rw [q] at e; cases e
    | some z =>
      obtain ⟨r1, h1⟩ := z
      rw [q] at e
      cases r1 with
      | ex x => cases e
      | ok xs => cases e; exact hpn _ (hn _ _ _ _ q)) h
  have h3 : tA X.K X.mg W ma σ H fun zs H' => zs.length = ks.length ∧ SpI X.K X.mg n F (permL pm zs) H' Q (fun cls d H' => W cls d σ H') := by
    obtain ⟨c, ε, eh, r, h', hK, hm', rfl, sr, er, e, px, go⟩ := h2
    unfold mPerm at e
    cases q : ma ε eh with
    | none => rw [q] at e; cases e
    | some z =>
      obtain ⟨r1, h1⟩ := z
      rw [q] at e
      cases r1 with
      | ex x => cases e; exact ⟨c, ε, eh, .ex x, _, hK, hm', rfl, sr, er, q, fun y ey => px y (by cases ey; rfl), fun a' ea => nomatch ea⟩
      | ok ds =>
        cases e
        refine ⟨c, ε, eh, .ok ds, _, hK, hm', rfl, sr, er, q, Px.ok, fun ds' eds c1 vs l1 s1 r1 => ?_⟩
        cases eds
        have := go _ rfl c1 _ l1 s1 (permL_reps r1)
        dsimp only at this
        rw [List.append_nil] at this
        exact ⟨by rw [← r1.length]; exact hn _ _ _ _ q, this⟩
  refine wpAny_Call_Name_kw (ld_glob I hg hm ?_ hdb)
  refine PySem.W.callWith_KW0 (h₀ := X.base) I.ok.mod.kin hkp hall (thn (ha.run pos pins s σ H _ I h3) fun ws s1 ⟨zs, H1, I1, rz, l1, q⟩ => ⟨I1.kIn, ?_⟩) hpl
  rw [hks]
  have r2 := hb.rel (vs := []) (us := []) .nil rz
  refine wpAny_call (codeAny_mono (Fo.run X.A X.stack s1 H1 ⟨[], ks.zip ws⟩ (permL pm ws) (permL pm zs) Q (fun cls d H' => W cls d σ H') (hr.mono hk) I1.env0 (hb.to s1 [] ws I1.kIn rfl (rz.length.symm.trans l1)) r2 q) fun r s' hq => ?_)
  cases r with
  | error e => exact passAt tk σ pins H1 s1 e s' I1 hq
  | ok fl =>
    cases fl with
    | ret u => exact I1.after hq
    | next => exact False.elim hq
    | brk => exact False.elim hq
    | cont => exact False.elim hq
end
end PD
namespace PD
open PySem PySem.Spec PyProof.Rows L2
/-- the run lemmas of the layer ask for a LamTab; any will do -/
instance (priority := low) lamTab0 : LamTab := ⟨fun _ => ⟨"", ⟨[], [], none, [], [], none, []⟩, .Constant .none 0 ⟨0, 0, 0, 0⟩, { kind := .function, names := [], isGenerator := false, isCoroutine := false }, [], false⟩, []⟩
def sq (x : Option (RS × EH)) (b : MS) : Option (RS × EH) := match x with
  | some (.nx ε1, h1) => b ε1 h1
  | some (r, h1) => some (r, h1)
  | none => none
section
variable {α : Type} {ε ε1 : Ev} {h h1 : EH}
theorem seq_ap (a b : MS) : msSeq a b ε h = sq (a ε h) b := (rfl)
theorem sq_nx (b : MS) : sq (some (.nx ε, h)) b = b ε h := (rfl)
theorem sq_rt (d : D) (b : MS) : sq (some (.rt d, h)) b = some (.rt d, h) := (rfl)
theorem sq_bk (b : MS) : sq (some (.bk ε, h)) b = some (.bk ε, h) := (rfl)
theorem sq_ct (b : MS) : sq (some (.ct ε, h)) b = some (.ct ε, h) := (rfl)
theorem sq_ex (e : Ex) (b : MS) : sq (some (.ex e ε, h)) b = some (.ex e ε, h) := (rfl)
theorem bS_ok (a : α) (f : α → EH → Option (RS × EH)) : bS (some (.ok a, h)) ε f = f a h := (rfl)
theorem bS_ex (e : Ex) (f : α → EH → Option (RS × EH)) : bS (some (.ex e, h)) ε f = some (.ex e ε, h) := (rfl)
theorem var_ap (i : Nat) : mVar i ε h = rt (ε.getD i none) h := (rfl)
theorem c_ap (d : D) : mC d ε h = some (.ok d, h) := (rfl)
def binK2 (f : EH → D → D → Option D) (x y : D) (h2 : EH) : O D := rt (f h2 x y) h2
def binK1 (f : EH → D → D → Option D) (b : M D) (ε : Ev) (x : D) (h1 : EH) : O D := bR (b ε h1) (binK2 f x)
theorem bin_ap (f : EH → D → D → Option D) (a b : M D) : mBin f a b ε h = bR (a ε h) (binK1 f b ε) := (rfl)
theorem binK1_ap (f : EH → D → D → Option D) (b : M D) (x : D) : binK1 f b ε x h = bR (b ε h) (binK2 f x) := (rfl)
theorem binK2_ap (f : EH → D → D → Option D) (x y : D) : binK2 f x y h = rt (f h x y) h := (rfl)
def tstK (x : D) (h1 : EH) : O Bool := rt (asB x) h1
theorem tst_ap (m : M D) : mTst m ε h = bR (m ε h) tstK := (rfl)
theorem tstK_b (b : Bool) : tstK (.bl b) h = some (.ok b, h) := (rfl)
def notK (b : Bool) (h1 : EH) : O Bool := some (.ok (!b), h1)
theorem not_ap (a : M Bool) : mNot a ε h = bR (a ε h) notK := (rfl)
theorem notK_ap (b : Bool) : notK b h = some (.ok (!b), h) := (rfl)
def andK (b : M Bool) (ε : Ev) (x : Bool) (h1 : EH) : O Bool := if x = true then b ε h1 else some (.ok false, h1)
def orK (b : M Bool) (ε : Ev) (x : Bool) (h1 : EH) : O Bool := if x = true then some (.ok true, h1) else b ε h1
def ifK (a b : M α) (ε : Ev) (x : Bool) (h1 : EH) : O α := if x = true then a ε h1 else b ε h1
theorem and_ap (a b : M Bool) : mAnd a b ε h = bR (a ε h) (andK b ε) := (rfl)
theorem or_ap (a b : M Bool) : mOr a b ε h = bR (a ε h) (orK b ε) := (rfl)
theorem if_ap (t : M Bool) (a b : M α) : mIf t a b ε h = bR (t ε h) (ifK a b ε) := (rfl)
theorem andK_t (b : M Bool) : andK b ε true h = b ε h := (rfl)
theorem andK_f (b : M Bool) : andK b ε false h = some (.ok false, h) := (rfl)
theorem orK_t (b : M Bool) : orK b ε true h = some (.ok true, h) := (rfl)
theorem orK_f (b : M Bool) : orK b ε false h = b ε h := (rfl)
theorem ifK_t (a b : M α) : ifK a b ε true h = a ε h := (rfl)
theorem ifK_f (a b : M α) : ifK a b ε false h = b ε h := (rfl)
def andV (b : M D) (ε : Ev) (x : D) (h : EH) : O D := match x with
  | .bl true => b ε h
  | .bl false => some (.ok (.bl false), h)
  | _ => none
def orV (b : M D) (ε : Ev) (x : D) (h : EH) : O D := match x with
  | .bl true => some (.ok (.bl true), h)
  | .bl false => b ε h
  | _ => none
theorem andv_ap (a b : M D) : mAndV a b ε h = bR (a ε h) (andV b ε) := (rfl)
theorem orv_ap (a b : M D) : mOrV a b ε h = bR (a ε h) (orV b ε) := (rfl)
theorem andV_t (b : M D) : andV b ε (.bl true) h = b ε h := (rfl)
theorem andV_f (b : M D) : andV b ε (.bl false) h = some (.ok (.bl false), h) := (rfl)
theorem orV_t (b : M D) : orV b ε (.bl true) h = some (.ok (.bl true), h) := (rfl)
theorem orV_f (b : M D) : orV b ε (.bl false) h = b ε h := (rfl)
def notV (x : D) (h : EH) : O D := match x with
  | .bl b => some (.ok (.bl (!b)), h)
  | _ => none
theorem notv_ap (a : M D) : mNotV a ε h = bR (a ε h) notV := (rfl)
theorem notV_c (c : Bool) : notV (.bl c) h = some (.ok (.bl (!c)), h) := (rfl)
theorem nil_ap : mNil ε h = some (.ok [], h) := (rfl)
def consK2 (x : D) (xs : List D) (h2 : EH) : O (List D) := some (.ok (x :: xs), h2)
def consK1 (b : M (List D)) (ε : Ev) (x : D) (h1 : EH) : O (List D) := bR (b ε h1) (consK2 x)
theorem cons_ap (a : M D) (b : M (List D)) : mCons a b ε h = bR (a ε h) (consK1 b ε) := (rfl)
theorem consK1_ap (b : M (List D)) (x : D) : consK1 b ε x h = bR (b ε h) (consK2 x) := (rfl)
theorem consK2_ap (x : D) (xs : List D) : consK2 x xs h = some (.ok (x :: xs), h) := (rfl)
def tupK (ds : List D) (h1 : EH) : O D := rt (szL ds (.tup ds)) h1
def lstK (ds : List D) (h1 : EH) : O D := rt (szL ds (.lst ds)) h1
theorem tup_ap (m : M (List D)) : mTup m ε h = bR (m ε h) tupK := (rfl)
theorem lst_ap (m : M (List D)) : mLst m ε h = bR (m ε h) lstK := (rfl)
theorem tupK_ok {ds : List D} (e : ds.length ≤ 16777216) : tupK ds h = some (.ok (.tup ds), h) := by
  show rt (szL ds (.tup ds)) h = _
  rw [show szL ds (.tup ds) = some (.tup ds) from if_pos e]; rfl
theorem lstK_ok {ds : List D} (e : ds.length ≤ 16777216) : lstK ds h = some (.ok (.lst ds), h) := by
  show rt (szL ds (.lst ds)) h = _
  rw [show szL ds (.lst ds) = some (.lst ds) from if_pos e]; rfl
def callK (f : EH → List D → Option D) (xs : List D) (h1 : EH) : O D := rt (f h1 xs) h1
theorem call_ap (f : EH → List D → Option D) (a : M (List D)) : mCall f a ε h = bR (a ε h) (callK f) := (rfl)
theorem callK_ap (f : EH → List D → Option D) (xs : List D) : callK f xs h = rt (f h xs) h := (rfl)
def callPK (F : PF) (ds : List D) (h1 : EH) : O D := if noRef.go ds = true then (F ds).map fun r => (r, h1) else none
theorem callP_ap (F : PF) (a : M (List D)) : mCallP F a ε h = bR (a ε h) (callPK F) := (rfl)
theorem callPK_ok {F : PF} {ds : List D} {r : R D} (e2 : F ds = some r) (e : noRef.go ds = true) : callPK F ds h = some (r, h) := by
  unfold callPK
  rw [if_pos e, e2]; rfl
theorem callI_ap (F : IF) (a : M (List D)) : mCallI F a ε h = bR (a ε h) F := (rfl)
def permK (p : List Nat) (ds : List D) (h1 : EH) : O (List D) := some (.ok (permL p ds), h1)
theorem perm_ap (p : List Nat) (a : M (List D)) : mPerm p a ε h = bR (a ε h) (permK p) := (rfl)
theorem permK_ap (p : List Nat) (ds : List D) : permK p ds h = some (.ok (permL p ds), h) := (rfl)
theorem nop_ap : mNoP ε h = some (.ok none, h) := (rfl)
def smP (x : D) (h1 : EH) : O (Option Int) := match x with
  | .int i => some (.ok (some i), h1)
  | _ => none
theorem smp_ap (m : M D) : mSmP m ε h = bR (m ε h) smP := (rfl)
theorem smP_int (i : Int) : smP (.int i) h = some (.ok (some i), h) := (rfl)
def slK3 (x : D) (l u : Option Int) (h3 : EH) : O D := rt (dSl h3 x l u) h3
def slK2 (hi : M (Option Int)) (ε : Ev) (x : D) (l : Option Int) (h2 : EH) : O D := bR (hi ε h2) (slK3 x l)
def slK1 (lo hi : M (Option Int)) (ε : Ev) (x : D) (h1 : EH) : O D := bR (lo ε h1) (slK2 hi ε x)
theorem sl_ap (a : M D) (lo hi : M (Option Int)) : mSl a lo hi ε h = bR (a ε h) (slK1 lo hi ε) := (rfl)
theorem slK1_ap (lo hi : M (Option Int)) (x : D) : slK1 lo hi ε x h = bR (lo ε h) (slK2 hi ε x) := (rfl)
theorem slK2_ap (hi : M (Option Int)) (x : D) (l : Option Int) : slK2 hi ε x l h = bR (hi ε h) (slK3 x l) := (rfl)
theorem slK3_ap (x : D) (l u : Option Int) : slK3 x l u h = rt (dSl h x l u) h := (rfl)
theorem sl_lst (ds : List D) (l u : Option Int) : dSl h (.lst ds) l u = some (.lst (cutD ds l u)) := (rfl)
theorem sl_scr (ds : List D) (l u : Option Int) : dSl h (.scr ds) l u = some (.lst (cutD ds l u)) := (rfl)
theorem sl_tup (ds : List D) (l u : Option Int) : dSl h (.tup ds) l u = some (.tup (cutD ds l u)) := (rfl)
theorem sl_str {z : List Nat} (l u : Option Int) (e : z.length ≤ 16777216) : dSl h (.str z) l u = some (.str (cutD z l u)) := if_pos e
def chK4 (g : EH → D → D → Option D) (y z : D) (h4 : EH) : O D := rt (g h4 y z) h4
def chK3 (g : EH → D → D → Option D) (c : M D) (ε : Ev) (y : D) (k : Bool) (h3 : EH) : O D := if k = true then bR (c ε h3) (chK4 g y) else some (.ok (.bl false), h3)
def chK2 (f g : EH → D → D → Option D) (c : M D) (ε : Ev) (x y : D) (h2 : EH) : O D := bR (rt ((f h2 x y).bind asB) h2) (chK3 g c ε y)
def chK1 (f g : EH → D → D → Option D) (b c : M D) (ε : Ev) (x : D) (h1 : EH) : O D := bR (b ε h1) (chK2 f g c ε x)
theorem chain_ap (f g : EH → D → D → Option D) (a b c : M D) : mChain f g a b c ε h = bR (a ε h) (chK1 f g b c ε) := (rfl)
theorem chK1_ap (f g : EH → D → D → Option D) (b c : M D) (x : D) : chK1 f g b c ε x h = bR (b ε h) (chK2 f g c ε x) := (rfl)
theorem chK2_ap (f g : EH → D → D → Option D) (c : M D) (x y : D) : chK2 f g c ε x y h = bR (rt ((f h x y).bind asB) h) (chK3 g c ε y) := (rfl)
theorem chK3_t (g : EH → D → D → Option D) (c : M D) (y : D) : chK3 g c ε y true h = bR (c ε h) (chK4 g y) := (rfl)
theorem chK3_f (g : EH → D → D → Option D) (c : M D) (y : D) : chK3 g c ε y false h = some (.ok (.bl false), h) := (rfl)
theorem chK4_ap (g : EH → D → D → Option D) (y z : D) : chK4 g y z h = rt (g h y z) h := (rfl)
def isiK (ts : List Ty) (d : D) (h1 : EH) : O D := match tyD h1 d with
  | some t => some (.ok (.bl (ts.any (isa t))), h1)
  | none => none
theorem isi_ap (ts : List Ty) (a : M D) : mIsi ts a ε h = bR (a ε h) (isiK ts) := (rfl)
theorem isiK_int (ts : List Ty) (i : Int) : isiK ts (.int i) h = some (.ok (.bl (ts.any (isa .int))), h) := (rfl)
theorem isiK_str (ts : List Ty) (i : List Nat) : isiK ts (.str i) h = some (.ok (.bl (ts.any (isa .str))), h) := (rfl)
theorem isiK_bl (ts : List Ty) (i : Bool) : isiK ts (.bl i) h = some (.ok (.bl (ts.any (isa .bool))), h) := (rfl)
theorem isiK_non (ts : List Ty) : isiK ts .non h = some (.ok (.bl (ts.any (isa .non))), h) := (rfl)
theorem isiK_tup (ts : List Ty) (i : List D) : isiK ts (.tup i) h = some (.ok (.bl (ts.any (isa .tup))), h) := (rfl)
theorem isiK_lst (ts : List Ty) (i : List D) : isiK ts (.lst i) h = some (.ok (.bl (ts.any (isa .lst))), h) := (rfl)
def lcK (vs : List Nat) (g : MG) (t : M Bool) (e : M D) (ε : Ev) (ds : List D) (h1 : EH) : O D := okL (lcL g t e ds (wipeE ε vs) h1)
theorem lc_ap (vs : List Nat) (it : M (List D)) (g : MG) (t : M Bool) (e : M D) : mLc vs it g t e ε h = bR (it ε h) (lcK vs g t e ε) := (rfl)
theorem lcK_ok {vs : List Nat} {g : MG} {t : M Bool} {e : M D} {ds ys : List D} {h' : EH} (q : lcL g t e ds (wipeE ε vs) h = some (ys, h')) (l : ys.length ≤ 16777216) : lcK vs g t e ε ds h = some (.ok (.lst ys), h') := by
  unfold lcK
  rw [q]
  exact if_pos l
def lstCK (ds : List D) (h1 : EH) : O D := if ds.length ≤ sizeLine then some (.ok (.ref h1.length), h1 ++ [.lst ds]) else none
theorem lstC_ap (m : M (List D)) : mLstC m ε h = bR (m ε h) lstCK := (rfl)
theorem lstCK_ok {ds : List D} (e : ds.length ≤ 16777216) : lstCK ds h = some (.ok (.ref h.length), h ++ [.lst ds]) := if_pos e
def mtsK2 (f : EH → List Nat → List D → Option D) (z : List Nat) (ds : List D) (h2 : EH) : O D := rt (f h2 z ds) h2
def mtsK (f : EH → List Nat → List D → Option D) (a : M (List D)) (ε : Ev) (x : D) (h1 : EH) : O D := match x with
  | .str z => bR (a ε h1) (mtsK2 f z)
  | _ => none
theorem mts_ap (f : EH → List Nat → List D → Option D) (o : M D) (a : M (List D)) : mMtS f o a ε h = bR (o ε h) (mtsK f a ε) := (rfl)
theorem mtsK_str (f : EH → List Nat → List D → Option D) (a : M (List D)) (z : List Nat) : mtsK f a ε (.str z) h = bR (a ε h) (mtsK2 f z) := (rfl)
theorem mtsK2_ap (f : EH → List Nat → List D → Option D) (z : List Nat) (ds : List D) : mtsK2 f z ds h = rt (f h z ds) h := (rfl)
theorem yes_ap : mYes ε h = some (.ok true, h) := (rfl)
def ilK (x : D) (h1 : EH) : O (List D) := match x with
  | .lst ds => some (.ok ds, h1)
  | .scr ds => some (.ok ds, h1)
  | _ => none
theorem il_ap (a : M D) : miL a ε h = bR (a ε h) ilK := (rfl)
theorem ilK_lst (ds : List D) : ilK (.lst ds) h = some (.ok ds, h) := (rfl)
theorem ilK_scr (ds : List D) : ilK (.scr ds) h = some (.ok ds, h) := (rfl)
def itK (x : D) (h1 : EH) : O (List D) := match x with
  | .tup ds => some (.ok ds, h1)
  | _ => none
theorem it_ap (a : M D) : miT a ε h = bR (a ε h) itK := (rfl)
theorem itK_tup (ds : List D) : itK (.tup ds) h = some (.ok ds, h) := (rfl)
def isK (x : D) (h1 : EH) : O (List D) := match x with
  | .str z => some (.ok (z.map fun c => .str [c]), h1)
  | _ => none
theorem is_ap (a : M D) : miS a ε h = bR (a ε h) isK := (rfl)
theorem isK_str (z : List Nat) : isK (.str z) h = some (.ok (z.map fun c => .str [c]), h) := (rfl)
def ir1K (xs : List D) (h1 : EH) : O (List D) := match xs with
  | [.int j] => if -(2 ^ 62) ≤ j ∧ j < 2 ^ 62 then some (.ok (rngD 0 j.toNat), h1) else none
  | _ => none
theorem ir1_ap (a : M (List D)) : miR1 a ε h = bR (a ε h) ir1K := (rfl)
theorem ir1K_ok {j : Int} (e : -(2 ^ 62) ≤ j ∧ j < 2 ^ 62) : ir1K [.int j] h = some (.ok (rngD 0 j.toNat), h) := if_pos e
def izK (xs : List D) (h1 : EH) : O (List D) := match xs with
  | [x, y] => (match x, y with
    | .lst as, .lst bs => some (.ok (zipD as bs), h1)
    | .tup as, .tup bs => some (.ok (zipD as bs), h1)
    | .scr as, .lst bs => some (.ok (zipD as bs), h1)
    | .lst as, .scr bs => some (.ok (zipD as bs), h1)
    | .scr as, .scr bs => some (.ok (zipD as bs), h1)
    | _, _ => none)
  | _ => none
theorem iz_ap (a : M (List D)) : miZip a ε h = bR (a ε h) izK := (rfl)
theorem izK_l (as bs : List D) : izK [.lst as, .lst bs] h = some (.ok (zipD as bs), h) := (rfl)
theorem izK_t (as bs : List D) : izK [.tup as, .tup bs] h = some (.ok (zipD as bs), h) := (rfl)
theorem snil_ap : msNil ε h = some (.nx ε, h) := (rfl)
def retK (d : D) (h1 : EH) : Option (RS × EH) := some (.rt d, h1)
theorem ret_ap (a : M D) : msRet a ε h = bS (a ε h) ε retK := (rfl)
theorem retK_ap (d : D) : retK d h = some (.rt d, h) := (rfl)
def sifK (a b : MS) (ε : Ev) (k : Bool) (h1 : EH) : Option (RS × EH) := if k = true then a ε h1 else b ε h1
theorem sif_ap (t : M Bool) (a b : MS) : msIf t a b ε h = bS (t ε h) ε (sifK a b ε) := (rfl)
theorem sifK_t (a b : MS) : sifK a b ε true h = a ε h := (rfl)
theorem sifK_f (a b : MS) : sifK a b ε false h = b ε h := (rfl)
def sexprK (ε : Ev) (_ : D) (h1 : EH) : Option (RS × EH) := some (.nx ε, h1)
theorem sexpr_ap (a : M D) : msExpr a ε h = bS (a ε h) ε (sexprK ε) := (rfl)
theorem sexprK_ap (d : D) : sexprK ε d h = some (.nx ε, h) := (rfl)
theorem bk_ap : msBk ε h = some (.bk ε, h) := (rfl)
theorem ct_ap : msCt ε h = some (.ct ε, h) := (rfl)
def asgK (g : MG) (ε : Ev) (d : D) (h1 : EH) : Option (RS × EH) := bG (g d ε h1)
theorem asg_ap (a : M D) (g : MG) : msAsg a g ε h = bS (a ε h) ε (asgK g ε) := (rfl)
theorem asgK_ap (g : MG) (d : D) : asgK g ε d h = bG (g d ε h) := (rfl)
theorem bG_ok : bG (some (ε, h)) = some (.nx ε, h) := (rfl)
def forK (g : MG) (b : MS) (ε : Ev) (ds : List D) (h1 : EH) : Option (RS × EH) := forL g b ds ε h1
theorem for_ap (it : M (List D)) (g : MG) (b : MS) : msFor it g b ε h = bS (it ε h) ε (forK g b ε) := (rfl)
theorem forK_ap (g : MG) (b : MS) (ds : List D) : forK g b ε ds h = forL g b ds ε h := (rfl)
def parK (i j : Nat) (ε : Ev) (ds : List D) (h1 : EH) : Option (RS × EH) := match ds with
  | [d, e] => some (.nx ((ε.set i (some d)).set j (some e)), h1)
  | _ => none
theorem par_ap (i j : Nat) (m : M (List D)) : msPar i j m ε h = bS (m ε h) ε (parK i j ε) := (rfl)
theorem parK_ok (i j : Nat) (d e : D) : parK i j ε [d, e] h = some (.nx ((ε.set i (some d)).set j (some e)), h) := (rfl)
theorem gname_ap (i : Nat) (d : D) : mgName i d ε h = some (ε.set i (some d), h) := (rfl)
theorem gnil_ap : mgNil [] ε h = some (ε, h) := (rfl)
def gK (x : Option (Ev × EH)) (b : MGs) (r : List D) : Option (Ev × EH) := match x with
  | some (ε1, h1) => b r ε1 h1
  | none => none
theorem gcons_ap (a : MG) (b : MGs) (d : D) (r : List D) : mgCons a b (d :: r) ε h = gK (a d ε h) b r := (rfl)
theorem gK_ok (b : MGs) (r : List D) : gK (some (ε, h)) b r = b r ε h := (rfl)
theorem gtup_ap (n : Nat) (ms : MGs) (ds : List D) : mgTup n ms (.tup ds) ε h = if ds.length = n then ms ds ε h else none := (rfl)
def subK2 (v x : D) (ε : Ev) (z : O D) : Option (Ev × EH) := match z with
  | some (.ok y, h2) => (putL h2 x y v).map fun h3 => (ε, h3)
  | _ => none
def subK1 (v : D) (i : M D) (ε : Ev) (z : O D) : Option (Ev × EH) := match z with
  | some (.ok x, h1) => subK2 v x ε (i ε h1)
  | _ => none
theorem gsub_ap (o i : M D) (v : D) : mgSub o i v ε h = subK1 v i ε (o ε h) := by
  unfold mgSub subK1 subK2
  cases o ε h with
  | none => rfl
  | some z =>
    obtain ⟨r, h1⟩ := z
    cases r <;> rfl
theorem subK1_ok (v x : D) (i : M D) : subK1 v i ε (some (.ok x, h)) = subK2 v x ε (i ε h) := (rfl)
theorem subK2_ok (v x y : D) : subK2 v x ε (some (.ok y, h)) = (putL h x y v).map fun h3 => (ε, h3) := (rfl)
theorem add_int (i j : Int) : dAdd h (.int i) (.int j) = some (.int (i + j)) := (rfl)
theorem add_str {a b : List Nat} (e : a.length + b.length ≤ 16777216) : dAdd h (.str a) (.str b) = some (.str (a ++ b)) := by
  unfold dAdd dCatS dI2
  simp [show a.length + b.length ≤ sizeLine from e]
theorem add_lst {a b : List D} (e : a.length + b.length ≤ 16777216) : dAdd h (.lst a) (.lst b) = some (.lst (a ++ b)) := by
  unfold dAdd dCatS dCatT dCatL dI2
  simp [asO, show a.length + b.length ≤ sizeLine from e]
theorem add_tup {a b : List D} (e : a.length + b.length ≤ 16777216) : dAdd h (.tup a) (.tup b) = some (.tup (a ++ b)) := by
  unfold dAdd dCatS dCatT dCatL dI2
  simp [asO, show a.length + b.length ≤ sizeLine from e]
theorem sub_int (i j : Int) : dSub h (.int i) (.int j) = some (.int (i - j)) := (rfl)
theorem mul_int {i j : Int} (e : CMul i j) : dMul h (.int i) (.int j) = some (.int (i * j)) := if_pos e
theorem div_int {i j : Int} (e : CDiv i j) : dDiv h (.int i) (.int j) = some (.int (i / j)) := if_pos e
theorem mod_int {i j : Int} (e : 0 < j) : dMod h (.int i) (.int j) = some (.int (i % j)) := if_pos e
theorem pow_int {i j : Int} (e : CPow i j) : dPow h (.int i) (.int j) = some (.int (i ^ j.toNat)) := if_pos e
theorem lt_int (i j : Int) : dLt h (.int i) (.int j) = some (.bl (decide (i < j))) := (rfl)
theorem le_int (i j : Int) : dLe h (.int i) (.int j) = some (.bl (decide (i ≤ j))) := (rfl)
theorem gt_int (i j : Int) : dGt h (.int i) (.int j) = some (.bl (decide (j < i))) := (rfl)
theorem ge_int (i j : Int) : dGe h (.int i) (.int j) = some (.bl (decide (j ≤ i))) := (rfl)
theorem eq_int (i j : Int) : dEq h (.int i) (.int j) = some (.bl (decide (i = j))) := (rfl)
theorem eq_str (i j : List Nat) : dEq h (.str i) (.str j) = some (.bl (decide (i = j))) := (rfl)
theorem eq_bl (i j : Bool) : dEq h (.bl i) (.bl j) = some (.bl (decide (i = j))) := (rfl)
theorem eq_is (i : Int) (j : List Nat) : dEq h (.int i) (.str j) = some (.bl false) := (rfl)
theorem eq_si (i : Int) (j : List Nat) : dEq h (.str j) (.int i) = some (.bl false) := (rfl)
theorem eq_bs (i : Bool) (j : List Nat) : dEq h (.bl i) (.str j) = some (.bl false) := (rfl)
theorem eq_sb (i : Bool) (j : List Nat) : dEq h (.str j) (.bl i) = some (.bl false) := (rfl)
theorem eq_nn : dEq h .non .non = some (.bl true) := (rfl)
theorem ne_int (i j : Int) : dNe h (.int i) (.int j) = some (.bl (!decide (i = j))) := (rfl)
theorem ne_str (i j : List Nat) : dNe h (.str i) (.str j) = some (.bl (!decide (i = j))) := (rfl)
theorem ne_bl (i j : Bool) : dNe h (.bl i) (.bl j) = some (.bl (!decide (i = j))) := (rfl)
theorem isn_ap (neg : Bool) (x : D) : dIsN neg h x .non = some (.bl (neg != isNon x)) := (rfl)
theorem isN_int (i : Int) : isNon (.int i) = false := (rfl)
theorem isN_str (i : List Nat) : isNon (.str i) = false := (rfl)
theorem isN_bl (i : Bool) : isNon (.bl i) = false := (rfl)
theorem isN_tup (i : List D) : isNon (.tup i) = false := (rfl)
theorem isN_lst (i : List D) : isNon (.lst i) = false := (rfl)
theorem isN_non : isNon .non = true := (rfl)
theorem ix_lst (ds : List D) (i : Int) : dIx h (.lst ds) (.int i) = atI ds i := (rfl)
theorem ix_tup (ds : List D) (i : Int) : dIx h (.tup ds) (.int i) = atI ds i := (rfl)
theorem ix_scr (ds : List D) (i : Int) : dIx h (.scr ds) (.int i) = atI ds i := (rfl)
theorem ix_str {z : List Nat} {i : Int} (e : z.length ≤ 16777216) : dIx h (.str z) (.int i) = (atI z i).map fun k => .str [k] := if_pos e
theorem len_str {z : List Nat} (e : z.length ≤ 16777216) : dLen h [.str z] = some (.int z.length) := if_pos e
theorem len_lst (ds : List D) : dLen h [.lst ds] = some (.int ds.length) := (rfl)
theorem len_tup (ds : List D) : dLen h [.tup ds] = some (.int ds.length) := (rfl)
theorem int_int (i : Int) : dInt h [.int i] = some (.int i) := (rfl)
theorem list_lst (ds : List D) : dList h [.lst ds] = some (.lst ds) := (rfl)
theorem list_tup (ds : List D) : dList h [.tup ds] = some (.lst ds) := (rfl)
theorem tuple_lst (ds : List D) : dTuple h [.lst ds] = some (.tup ds) := (rfl)
theorem tuple_tup (ds : List D) : dTuple h [.tup ds] = some (.tup ds) := (rfl)
theorem all_lst {ds : List D} {bs : List Bool} (e : asBs ds = some bs) : dAll h [.lst ds] = some (.bl (bs.all id)) := by
  show (asBs ds).map _ = _
  rw [e]; rfl
theorem asB_bl (b : Bool) : asB (.bl b) = some b := (rfl)
theorem getD0 {α : Type} (a : Option α) (r : List (Option α)) : (a :: r).getD 0 none = a := (rfl)
theorem getDS {α : Type} (a : Option α) (r : List (Option α)) (n : Nat) : (a :: r).getD (n + 1) none = r.getD n none := by
  simp
theorem set0 {α : Type} (a b : α) (r : List α) : (a :: r).set 0 b = b :: r := (rfl)
theorem setS {α : Type} (a b : α) (r : List α) (n : Nat) : (a :: r).set (n + 1) b = a :: r.set n b := (rfl)
theorem at0 {α : Type} (a : α) (r : List α) : (a :: r)[0]? = some a := (rfl)
theorem atS {α : Type} (a : α) (r : List α) (n : Nat) : (a :: r)[n + 1]? = r[n]? := (rfl)
theorem atI_nat {α : Type} (xs : List α) (n : Nat) (i : Int) (e : i = (n : Int)) : atI xs i = xs[n]? := by
  subst e
  unfold atI ixN
  by_cases hn : n < xs.length
  · rw [if_pos (by omega), if_pos (by omega)]
    rfl
  · rw [if_pos (by omega), if_neg (by omega), List.getElem?_eq_none (by omega)]
    rfl
theorem endI_rt {d d' : D} {n : Nat} (e : h.length = n) (f : frzI n h d = some d') : endI n (some (.rt d, h)) = some (.ok d', h) := by
  unfold endI trim
  simp only [f, e, if_true]
theorem endP_rt {d : D} (e : noRef d = true) (f : frz h d = some d) : endP (some (.rt d, h)) = some (.ok d) := by
  show (frz h d).map _ = _
  rw [f]; rfl
theorem map_some' {α β : Type} (f : α → β) (a : α) : (some a).map f = some (f a) := (rfl)
theorem bind_some' {α β : Type} (f : α → Option β) (a : α) : (some a).bind f = f a := (rfl)
end
theorem frz_id {h : EH} : ∀ {d : D}, noRef d = true → frz1 h d = some d
  | .non, _ => rfl
  | .bl _, _ => rfl
  | .int _, _ => rfl
  | .str _, _ => rfl
  | .dic _ _, e => if_pos e
  | .ref _, e => by cases e
  | .tup ds, e => if_pos e
  | .lst ds, e => if_pos e
  | .scr ds, e => if_pos e
  | .obj C fs, e => if_pos e
  | .fn _ _, e => if_pos e
  | .exc _ _, e => if_pos e
theorem frzL_id {h : EH} : ∀ {ds : List D}, noRef.go ds = true → frzL h ds = some ds
  | [], _ => rfl
  | d :: ds, e => by
    rw [noRef.go, Bool.and_eq_true] at e
    unfold frzL
    rw [frz_id e.1, frzL_id e.2]
theorem frzT {h : EH} : ∀ {d : D}, noRef d = true → frz h d = some d
  | .tup ds, e => by
    show (frzL h ds).map D.tup = _
    rw [frzL_id (by rw [noRef] at e; exact e)]; rfl
  | .lst ds, e => by
    show (frzL h ds).map D.lst = _
    rw [frzL_id (by rw [noRef] at e; exact e)]; rfl
  | .non, _ => rfl
  | .bl _, _ => rfl
  | .int _, _ => rfl
  | .str _, _ => rfl
  | .dic _ _, e => if_pos e
  | .ref _, e => by cases e
  | .scr ds, e => if_pos e
  | .obj C fs, e => if_pos e
  | .fn _ _, e => if_pos e
  | .exc _ _, e => if_pos e
theorem frzI_id1 {n : Nat} {h : EH} : ∀ {d : D}, noRef d = true → frz1I n h d = some d
  | .non, _ => rfl
  | .bl _, _ => rfl
  | .int _, _ => rfl
  | .str _, _ => rfl
  | .dic _ _, e => if_pos e
  | .ref _, e => by cases e
  | .tup ds, e => if_pos e
  | .lst ds, e => if_pos e
  | .scr ds, e => if_pos e
  | .obj C fs, e => if_pos e
  | .fn _ _, e => if_pos e
  | .exc _ _, e => if_pos e
theorem frzLI_id {n : Nat} {h : EH} : ∀ {ds : List D}, noRef.go ds = true → frzLI n h ds = some ds
  | [], _ => rfl
  | d :: ds, e => by
    rw [noRef.go, Bool.and_eq_true] at e
    unfold frzLI
    rw [frzI_id1 e.1, frzLI_id e.2]
theorem frzIT {n : Nat} {h : EH} : ∀ {d : D}, noRef d = true → frzI n h d = some d
  | .tup ds, e => by
    show (frzLI n h ds).map D.tup = _
    rw [frzLI_id (by rw [noRef] at e; exact e)]; rfl
  | .lst ds, e => by
    show (frzLI n h ds).map D.lst = _
    rw [frzLI_id (by rw [noRef] at e; exact e)]; rfl
  | .non, _ => rfl
  | .bl _, _ => rfl
  | .int _, _ => rfl
  | .str _, _ => rfl
  | .dic _ _, e => if_pos e
  | .ref _, e => by cases e
  | .scr ds, e => if_pos e
  | .obj C fs, e => if_pos e
  | .fn _ _, e => if_pos e
  | .exc _ _, e => if_pos e
section
variable {h h' : EH} {d : D} {n : Nat}
theorem endP_ok (e : noRef d = true) : endP (some (.rt d, h)) = some (.ok d) := endP_rt e (frzT e)
theorem endI_ok (l : h.length = n) (e : noRef d = true) : endI n (some (.rt d, h)) = some (.ok d, h) := endI_rt l (frzIT e)
end
end PD
namespace PD
open PySem PySem.Spec PyProof.Rows L2
def bagC (cs : List D) (i b s c : Int) : Cell := .lst [.lst cs, .int i, .int b, .int s, .int c]
/-- a bag between two pulls -/
structure BagI (k : Cell) : Prop where
  ex : ∃ (cs : List Int) (i b s c : Int), k = bagC (cs.map .int) i b s c ∧ cs.length ≤ 63 ∧ 0 ≤ i ∧ 0 ≤ b ∧ 0 ≤ s ∧ s < 2147483549
def mPull : MS :=
    (msSeq (msAsg (mBin dAdd (mBin dIx (mVar 0) (mC (.int 4))) (mC (.int 1))) (mgSub (mVar 0) (mC (.int 4))))
    (msSeq (msIf (mAnd (mTst (mBin dEq (mBin dIx (mVar 0) (mC (.int 2))) (mC (.int 0)))) (mTst (mBin dLt (mBin dIx (mVar 0) (mC (.int 1))) (mCall dLen (mCons (mBin dIx (mVar 0) (mC (.int 0))) mNil))))) (msSeq (msAsg (mTup (mCons (mBin dIx (mBin dIx (mVar 0) (mC (.int 0))) (mBin dIx (mVar 0) (mC (.int 1)))) (mCons (mBin dAdd (mBin dIx (mVar 0) (mC (.int 1))) (mC (.int 1))) mNil))) (mgTup 2 (mgCons (mgName 3) (mgCons (mgSub (mVar 0) (mC (.int 1))) mgNil))))
    (msSeq (msIf (mTst (mBin dGe (mVar 3) (mBin dPow (mC (.int 10)) (mC (.int 18))))) (msAsg (mVar 3) (mgSub (mVar 0) (mC (.int 2)))) msNil)
    (msAsg (mBin dMod (mCall dInt (mCons (mBin dAdd (mBin dAdd (mBin dMul (mBin dIx (mVar 0) (mC (.int 3))) (mC (.int 38377))) (mBin dMul (mBin dMod (mCall dInt (mCons (mVar 3) mNil)) (mC (.int 2147483489))) (mC (.int 41143)))) (mC (.int 61))) mNil)) (mC (.int 2147483549))) (mgSub (mVar 0) (mC (.int 3)))))) msNil)
    (msSeq (msIf (mTst (mBin dGt (mBin dIx (mVar 0) (mC (.int 2))) (mC (.int 0)))) (msSeq (msAsg (mTup (mCons (mBin dMod (mCall dInt (mCons (mBin dIx (mVar 0) (mC (.int 2))) mNil)) (mVar 1)) (mCons (mBin dDiv (mBin dIx (mVar 0) (mC (.int 2))) (mVar 1)) mNil))) (mgTup 2 (mgCons (mgName 4) (mgCons (mgSub (mVar 0) (mC (.int 2))) mgNil))))
    (msRet (mVar 4))) msNil)
    (msSeq (msAsg (mBin dIx (mVar 0) (mC (.int 3))) (mgName 2))
    (msSeq (msAsg (mBin dMod (mCall dInt (mCons (mBin dAdd (mBin dAdd (mBin dAdd (mBin dPow (mVar 2) (mC (.int 3))) (mBin dMul (mVar 2) (mC (.int 37813)))) (mBin dMul (mBin dIx (mVar 0) (mC (.int 4))) (mC (.int 1299689)))) (mC (.int 65437))) mNil)) (mC (.int 2147483549))) (mgSub (mVar 0) (mC (.int 3))))
    (msRet (mBin dMod (mCall dInt (mCons (mBin dAdd (mBin dDiv (mBin dIx (mVar 0) (mC (.int 3))) (mC (.int 89))) (mBin dMul (mBin dMod (mCall dInt (mCons (mBin dIx (mVar 0) (mC (.int 3))) mNil)) (mC (.int 7919))) (mC (.int 71)))) mNil)) (mVar 1))))))))
section
variable {cs : List D} {i b s c : Int} {t : EH}
theorem bag0 : dIx (bagC cs i b s c :: t) (.ref 0) (.int 0) = some (.lst cs) := rfl
theorem bag1 : dIx (bagC cs i b s c :: t) (.ref 0) (.int 1) = some (.int i) := rfl
theorem bag2 : dIx (bagC cs i b s c :: t) (.ref 0) (.int 2) = some (.int b) := rfl
theorem bag3 : dIx (bagC cs i b s c :: t) (.ref 0) (.int 3) = some (.int s) := rfl
theorem bag4 : dIx (bagC cs i b s c :: t) (.ref 0) (.int 4) = some (.int c) := rfl
theorem put1 (x : Int) : putL (bagC cs i b s c :: t) (.ref 0) (.int 1) (.int x) = some (bagC cs x b s c :: t) := rfl
theorem put2 (x : Int) : putL (bagC cs i b s c :: t) (.ref 0) (.int 2) (.int x) = some (bagC cs i x s c :: t) := rfl
theorem put3 (x : Int) : putL (bagC cs i b s c :: t) (.ref 0) (.int 3) (.int x) = some (bagC cs i b x c :: t) := rfl
theorem put4 (x : Int) : putL (bagC cs i b s c :: t) (.ref 0) (.int 4) (.int x) = some (bagC cs i b s x :: t) := rfl
end
theorem mul_rc {h : EH} {i j : Int} (e : -18446744073709551616 < j ∧ j < 18446744073709551616) : dMul h (.int i) (.int j) = some (.int (i * j)) := mul_int (.inr e)
theorem pow_c {h : EH} {i j : Int} (e : 0 ≤ j ∧ j ≤ 1000000) (e2 : i.natAbs < 18446744073709551616) : dPow h (.int i) (.int j) = some (.int (i ^ j.toNat)) := pow_int ⟨e.1, e.2, e2⟩
theorem p10_18 {h : EH} : dPow h (.int 10) (.int 18) = some (.int 1000000000000000000) := pow_int ⟨by decide, by decide, by decide⟩
theorem div_c {h : EH} {i j : Int} (e : 0 < j ∧ j < 1073741824) : dDiv h (.int i) (.int j) = some (.int (i / j)) := div_int e
theorem pull_ok {k : Cell} (hk : BagI k) {n : Int} (hn : 0 < n) (hn2 : n < 1073741824) (t : EH) : ∃ d k', runI 5 mPull [.ref 0, .int n] (k :: t) = some (.ok (.int d), k' :: t) ∧ 0 ≤ d ∧ d < n ∧ BagI k' := by
  obtain ⟨cs, i, b, s, c, rfl, hcs, hi, hb, hs, hs2⟩ := hk.ex
  have fin : ∀ {d : Int} {k' : Cell} {ε : Ev}, mPull (startE 5 [.ref 0, .int n]) (bagC (cs.map .int) i b s c :: t) = some (.rt (.int d), k' :: t) → runI 5 mPull [.ref 0, .int n] (bagC (cs.map .int) i b s c :: t) = some (.ok (.int d), k' :: t) := fun e => by
    unfold runI
    rw [e]
    exact endI_ok rfl rfl
  have e0 : startE 5 [.ref 0, .int n] = [some (.ref 0), some (.int n), none, none, none] := rfl
  rw [e0] at fin
  have hs3 : s.natAbs < 18446744073709551616 := by omega
  by_cases q1 : b = 0
  · subst q1
    have M : ∀ z : Int, 0 ≤ z % 2147483549 ∧ z % 2147483549 < 2147483549 := fun z => ⟨Int.emod_nonneg _ (by decide), Int.emod_lt_of_pos _ (by decide)⟩
    by_cases q2 : i < (cs.length : Int)
    · obtain ⟨j, rfl⟩ : ∃ j : Nat, i = (j : Int) := ⟨i.toNat, by omega⟩
      have hj : j < cs.length := by omega
      have eX : atI (cs.map D.int) (j : Int) = some (.int cs[j]) := by
        rw [atI_nat _ j _ rfl, List.getElem?_map, List.getElem?_eq_getElem hj]; rfl
      by_cases q3 : (1000000000000000000 : Int) ≤ cs[j]
      · have q4 : 0 < cs[j] := by omega
        refine ⟨cs[j] % n, bagC (cs.map .int) (j + 1) (cs[j] / n) ((s * 38377 + cs[j] % 2147483489 * 41143 + 61) % 2147483549) (c + 1), ?_, Int.emod_nonneg _ (by omega), Int.emod_lt_of_pos _ hn, ⟨_, _, _, _, _, rfl, hcs, by omega, Int.ediv_nonneg (by omega) (by omega), (M _).1, (M _).2⟩⟩
        refine fin (ε := []) ?_
        simp only [mPull, ↓seq_ap, ↓var_ap, ↓c_ap, ↓bin_ap, ↓tst_ap, ↓not_ap, ↓and_ap, ↓or_ap, ↓if_ap, ↓andv_ap, ↓orv_ap, ↓notv_ap, ↓nil_ap, ↓cons_ap, ↓tup_ap, ↓lst_ap, ↓call_ap, ↓callP_ap, ↓callI_ap, ↓perm_ap, ↓nop_ap, ↓smp_ap, ↓sl_ap, ↓chain_ap, ↓isi_ap, ↓lc_ap, ↓lstC_ap, ↓mts_ap, ↓yes_ap, ↓il_ap, ↓it_ap, ↓is_ap, ↓ir1_ap, ↓iz_ap, ↓snil_ap, ↓ret_ap, ↓sif_ap, ↓sexpr_ap, ↓bk_ap, ↓ct_ap, ↓asg_ap, ↓for_ap, ↓par_ap, ↓gname_ap, ↓gnil_ap, ↓gcons_ap, ↓gtup_ap, ↓gsub_ap, bR_ok, bR_ex, rt_some, sq_nx, sq_rt, sq_bk, sq_ct, sq_ex, bS_ok, bS_ex, binK1_ap, binK2_ap, tstK_b, notK_ap, andK_t, andK_f, orK_t, orK_f, ifK_t, ifK_f, andV_t, andV_f, orV_t, orV_f, notV_c, consK1_ap, consK2_ap, tupK_ok, lstK_ok, callK_ap, permK_ap, smP_int, slK1_ap, slK2_ap, slK3_ap, sl_lst, sl_scr, sl_tup, chK1_ap, chK2_ap, chK3_t, chK3_f, chK4_ap, isiK_int, isiK_str, isiK_bl, isiK_non, isiK_tup, isiK_lst, mtsK_str, mtsK2_ap, ilK_lst, ilK_scr, itK_tup, isK_str, izK_l, izK_t, retK_ap, sifK_t, sifK_f, sexprK_ap, asgK_ap, bG_ok, forK_ap, parK_ok, gK_ok, subK1_ok, subK2_ok, add_int, sub_int, mod_int, lt_int, le_int, gt_int, ge_int, eq_int, eq_str, eq_bl, eq_is, eq_si, eq_bs, eq_sb, eq_nn, ne_int, ne_str, ne_bl, isn_ap, isN_int, isN_str, isN_bl, isN_tup, isN_lst, isN_non, ix_lst, ix_tup, ix_scr, len_lst, len_tup, int_int, list_lst, list_tup, tuple_lst, tuple_tup, asB_bl, getD0, getDS, set0, setS, at0, atS, map_some', bind_some', List.length_cons, List.length_nil, List.any_cons, List.any_nil, bag0, bag1, bag2, bag3, bag4, put1, put2, put3, put4, hn, hn2, q2, q3, q4, eX, decide_true, decide_false, and_self, div_c, mul_rc, p10_18, pow_c, Nat.reduceLeDiff, Nat.reduceAdd, if_true, List.length_map, Int.reduceLT, Int.reduceNeg, Int.reducePow, Int.reduceToNat, Int.reduceLE, Nat.reduceLT]
      · have hs4 := M (s * 38377 + cs[j] % 2147483489 * 41143 + 61)
        generalize hs' : (s * 38377 + cs[j] % 2147483489 * 41143 + 61) % 2147483549 = s' at hs4
        have hs5 : s'.natAbs < 18446744073709551616 := by omega
        generalize hz : (s' ^ 3 + s' * 37813 + (c + 1) * 1299689 + 65437) % 2147483549 = z
        refine ⟨(z / 89 + z % 7919 * 71) % n, bagC (cs.map .int) (j + 1) 0 z (c + 1), ?_, Int.emod_nonneg _ (by omega), Int.emod_lt_of_pos _ hn, ⟨_, _, _, _, _, rfl, hcs, by omega, by omega, by rw [← hz]; exact (M _).1, by rw [← hz]; exact (M _).2⟩⟩
        refine fin (ε := []) ?_
        simp only [mPull, ↓seq_ap, ↓var_ap, ↓c_ap, ↓bin_ap, ↓tst_ap, ↓not_ap, ↓and_ap, ↓or_ap, ↓if_ap, ↓andv_ap, ↓orv_ap, ↓notv_ap, ↓nil_ap, ↓cons_ap, ↓tup_ap, ↓lst_ap, ↓call_ap, ↓callP_ap, ↓callI_ap, ↓perm_ap, ↓nop_ap, ↓smp_ap, ↓sl_ap, ↓chain_ap, ↓isi_ap, ↓lc_ap, ↓lstC_ap, ↓mts_ap, ↓yes_ap, ↓il_ap, ↓it_ap, ↓is_ap, ↓ir1_ap, ↓iz_ap, ↓snil_ap, ↓ret_ap, ↓sif_ap, ↓sexpr_ap, ↓bk_ap, ↓ct_ap, ↓asg_ap, ↓for_ap, ↓par_ap, ↓gname_ap, ↓gnil_ap, ↓gcons_ap, ↓gtup_ap, ↓gsub_ap, bR_ok, bR_ex, rt_some, sq_nx, sq_rt, sq_bk, sq_ct, sq_ex, bS_ok, bS_ex, binK1_ap, binK2_ap, tstK_b, notK_ap, andK_t, andK_f, orK_t, orK_f, ifK_t, ifK_f, andV_t, andV_f, orV_t, orV_f, notV_c, consK1_ap, consK2_ap, tupK_ok, lstK_ok, callK_ap, permK_ap, smP_int, slK1_ap, slK2_ap, slK3_ap, sl_lst, sl_scr, sl_tup, chK1_ap, chK2_ap, chK3_t, chK3_f, chK4_ap, isiK_int, isiK_str, isiK_bl, isiK_non, isiK_tup, isiK_lst, mtsK_str, mtsK2_ap, ilK_lst, ilK_scr, itK_tup, isK_str, izK_l, izK_t, retK_ap, sifK_t, sifK_f, sexprK_ap, asgK_ap, bG_ok, forK_ap, parK_ok, gK_ok, subK1_ok, subK2_ok, add_int, sub_int, mod_int, lt_int, le_int, gt_int, ge_int, eq_int, eq_str, eq_bl, eq_is, eq_si, eq_bs, eq_sb, eq_nn, ne_int, ne_str, ne_bl, isn_ap, isN_int, isN_str, isN_bl, isN_tup, isN_lst, isN_non, ix_lst, ix_tup, ix_scr, len_lst, len_tup, int_int, list_lst, list_tup, tuple_lst, tuple_tup, asB_bl, getD0, getDS, set0, setS, at0, atS, map_some', bind_some', List.length_cons, List.length_nil, List.any_cons, List.any_nil, bag0, bag1, bag2, bag3, bag4, put1, put2, put3, put4, hn, hn2, q2, q3, eX, decide_true, decide_false, and_self, div_c, mul_rc, p10_18, pow_c, Nat.reduceLeDiff, Nat.reduceAdd, if_true, List.length_map, Int.reduceLT, Int.reduceNeg, Int.reducePow, Int.reduceToNat, Int.reduceLE, Nat.reduceLT, hs', hs5, hz]
    · have hs5 : s.natAbs < 18446744073709551616 := by omega
      generalize hz : (s ^ 3 + s * 37813 + (c + 1) * 1299689 + 65437) % 2147483549 = z
      refine ⟨(z / 89 + z % 7919 * 71) % n, bagC (cs.map .int) i 0 z (c + 1), ?_, Int.emod_nonneg _ (by omega), Int.emod_lt_of_pos _ hn, ⟨_, _, _, _, _, rfl, hcs, by omega, by omega, by rw [← hz]; exact (M _).1, by rw [← hz]; exact (M _).2⟩⟩
      refine fin (ε := []) ?_
      simp only [mPull, ↓seq_ap, ↓var_ap, ↓c_ap, ↓bin_ap, ↓tst_ap, ↓not_ap, ↓and_ap, ↓or_ap, ↓if_ap, ↓andv_ap, ↓orv_ap, ↓notv_ap, ↓nil_ap, ↓cons_ap, ↓tup_ap, ↓lst_ap, ↓call_ap, ↓callP_ap, ↓callI_ap, ↓perm_ap, ↓nop_ap, ↓smp_ap, ↓sl_ap, ↓chain_ap, ↓isi_ap, ↓lc_ap, ↓lstC_ap, ↓mts_ap, ↓yes_ap, ↓il_ap, ↓it_ap, ↓is_ap, ↓ir1_ap, ↓iz_ap, ↓snil_ap, ↓ret_ap, ↓sif_ap, ↓sexpr_ap, ↓bk_ap, ↓ct_ap, ↓asg_ap, ↓for_ap, ↓par_ap, ↓gname_ap, ↓gnil_ap, ↓gcons_ap, ↓gtup_ap, ↓gsub_ap, bR_ok, bR_ex, rt_some, sq_nx, sq_rt, sq_bk, sq_ct, sq_ex, bS_ok, bS_ex, binK1_ap, binK2_ap, tstK_b, notK_ap, andK_t, andK_f, orK_t, orK_f, ifK_t, ifK_f, andV_t, andV_f, orV_t, orV_f, notV_c, consK1_ap, consK2_ap, tupK_ok, lstK_ok, callK_ap, permK_ap, smP_int, slK1_ap, slK2_ap, slK3_ap, sl_lst, sl_scr, sl_tup, chK1_ap, chK2_ap, chK3_t, chK3_f, chK4_ap, isiK_int, isiK_str, isiK_bl, isiK_non, isiK_tup, isiK_lst, mtsK_str, mtsK2_ap, ilK_lst, ilK_scr, itK_tup, isK_str, izK_l, izK_t, retK_ap, sifK_t, sifK_f, sexprK_ap, asgK_ap, bG_ok, forK_ap, parK_ok, gK_ok, subK1_ok, subK2_ok, add_int, sub_int, mod_int, lt_int, le_int, gt_int, ge_int, eq_int, eq_str, eq_bl, eq_is, eq_si, eq_bs, eq_sb, eq_nn, ne_int, ne_str, ne_bl, isn_ap, isN_int, isN_str, isN_bl, isN_tup, isN_lst, isN_non, ix_lst, ix_tup, ix_scr, len_lst, len_tup, int_int, list_lst, list_tup, tuple_lst, tuple_tup, asB_bl, getD0, getDS, set0, setS, at0, atS, map_some', bind_some', List.length_cons, List.length_nil, List.any_cons, List.any_nil, bag0, bag1, bag2, bag3, bag4, put1, put2, put3, put4, hn, hn2, q2, decide_true, decide_false, and_self, div_c, mul_rc, p10_18, pow_c, Nat.reduceLeDiff, Nat.reduceAdd, if_true, List.length_map, Int.reduceLT, Int.reduceNeg, Int.reducePow, Int.reduceToNat, Int.reduceLE, Nat.reduceLT, hs5, hz]
  · have q2 : 0 < b := by omega
    refine ⟨b % n, bagC (cs.map .int) i (b / n) s (c + 1), ?_, Int.emod_nonneg _ (by omega), Int.emod_lt_of_pos _ hn, ⟨_, _, _, _, _, rfl, hcs, hi, Int.ediv_nonneg hb (by omega), hs, hs2⟩⟩
    refine fin (ε := []) ?_
    simp only [mPull, ↓seq_ap, ↓var_ap, ↓c_ap, ↓bin_ap, ↓tst_ap, ↓not_ap, ↓and_ap, ↓or_ap, ↓if_ap, ↓andv_ap, ↓orv_ap, ↓notv_ap, ↓nil_ap, ↓cons_ap, ↓tup_ap, ↓lst_ap, ↓call_ap, ↓callP_ap, ↓callI_ap, ↓perm_ap, ↓nop_ap, ↓smp_ap, ↓sl_ap, ↓chain_ap, ↓isi_ap, ↓lc_ap, ↓lstC_ap, ↓mts_ap, ↓yes_ap, ↓il_ap, ↓it_ap, ↓is_ap, ↓ir1_ap, ↓iz_ap, ↓snil_ap, ↓ret_ap, ↓sif_ap, ↓sexpr_ap, ↓bk_ap, ↓ct_ap, ↓asg_ap, ↓for_ap, ↓par_ap, ↓gname_ap, ↓gnil_ap, ↓gcons_ap, ↓gtup_ap, ↓gsub_ap, bR_ok, bR_ex, rt_some, sq_nx, sq_rt, sq_bk, sq_ct, sq_ex, bS_ok, bS_ex, binK1_ap, binK2_ap, tstK_b, notK_ap, andK_t, andK_f, orK_t, orK_f, ifK_t, ifK_f, andV_t, andV_f, orV_t, orV_f, notV_c, consK1_ap, consK2_ap, tupK_ok, lstK_ok, callK_ap, permK_ap, smP_int, slK1_ap, slK2_ap, slK3_ap, sl_lst, sl_scr, sl_tup, chK1_ap, chK2_ap, chK3_t, chK3_f, chK4_ap, isiK_int, isiK_str, isiK_bl, isiK_non, isiK_tup, isiK_lst, mtsK_str, mtsK2_ap, ilK_lst, ilK_scr, itK_tup, isK_str, izK_l, izK_t, retK_ap, sifK_t, sifK_f, sexprK_ap, asgK_ap, bG_ok, forK_ap, parK_ok, gK_ok, subK1_ok, subK2_ok, add_int, sub_int, mod_int, lt_int, le_int, gt_int, ge_int, eq_int, eq_str, eq_bl, eq_is, eq_si, eq_bs, eq_sb, eq_nn, ne_int, ne_str, ne_bl, isn_ap, isN_int, isN_str, isN_bl, isN_tup, isN_lst, isN_non, ix_lst, ix_tup, ix_scr, len_lst, len_tup, int_int, list_lst, list_tup, tuple_lst, tuple_tup, asB_bl, getD0, getDS, set0, setS, at0, atS, map_some', bind_some', List.length_cons, List.length_nil, List.any_cons, List.any_nil, bag0, bag1, bag2, bag3, bag4, put1, put2, put3, put4, hn, hn2, q1, q2, decide_true, decide_false, and_self, div_c, Nat.reduceLeDiff, Nat.reduceAdd, if_true]
end PD
local macro_rules
  | `(tactic| simp? only [$xs,*] $[$l]?) => `(tactic| simp only [↓PD.seq_ap, ↓PD.var_ap, ↓PD.c_ap, ↓PD.bin_ap, ↓PD.tst_ap, ↓PD.not_ap, ↓PD.and_ap, ↓PD.or_ap, ↓PD.if_ap, ↓PD.andv_ap, ↓PD.orv_ap, ↓PD.notv_ap, ↓PD.nil_ap, ↓PD.cons_ap, ↓PD.tup_ap, ↓PD.lst_ap, ↓PD.call_ap, ↓PD.callP_ap, ↓PD.callI_ap, ↓PD.perm_ap, ↓PD.nop_ap, ↓PD.smp_ap, ↓PD.sl_ap, ↓PD.chain_ap, ↓PD.isi_ap, ↓PD.lc_ap, ↓PD.lstC_ap, ↓PD.mts_ap, ↓PD.yes_ap, ↓PD.il_ap, ↓PD.it_ap, ↓PD.is_ap, ↓PD.ir1_ap, ↓PD.iz_ap, ↓PD.snil_ap, ↓PD.ret_ap, ↓PD.sif_ap, ↓PD.sexpr_ap, ↓PD.bk_ap, ↓PD.ct_ap, ↓PD.asg_ap, ↓PD.for_ap, ↓PD.par_ap, ↓PD.gname_ap, ↓PD.gnil_ap, ↓PD.gcons_ap, ↓PD.gtup_ap, ↓PD.gsub_ap, PD.bR_ok, PD.bR_ex, PD.rt_some, PD.sq_nx, PD.sq_rt, PD.sq_bk, PD.sq_ct, PD.sq_ex, PD.bS_ok, PD.bS_ex, PD.binK1_ap, PD.binK2_ap, PD.tstK_b, PD.notK_ap, PD.andK_t, PD.andK_f, PD.orK_t, PD.orK_f, PD.ifK_t, PD.ifK_f, PD.andV_t, PD.andV_f, PD.orV_t, PD.orV_f, PD.notV_c, PD.consK1_ap, PD.consK2_ap, PD.tupK_ok, PD.lstK_ok, PD.callK_ap, PD.permK_ap, PD.smP_int, PD.slK1_ap, PD.slK2_ap, PD.slK3_ap, PD.sl_lst, PD.sl_scr, PD.sl_tup, PD.chK1_ap, PD.chK2_ap, PD.chK3_t, PD.chK3_f, PD.chK4_ap, PD.isiK_int, PD.isiK_str, PD.isiK_bl, PD.isiK_non, PD.isiK_tup, PD.isiK_lst, PD.mtsK_str, PD.mtsK2_ap, PD.ilK_lst, PD.ilK_scr, PD.itK_tup, PD.isK_str, PD.izK_l, PD.izK_t, PD.retK_ap, PD.sifK_t, PD.sifK_f, PD.sexprK_ap, PD.asgK_ap, PD.bG_ok, PD.forK_ap, PD.parK_ok, PD.gK_ok, PD.subK1_ok, PD.subK2_ok, PD.add_int, PD.sub_int, PD.mod_int, PD.lt_int, PD.le_int, PD.gt_int, PD.ge_int, PD.eq_int, PD.eq_str, PD.eq_bl, PD.eq_is, PD.eq_si, PD.eq_bs, PD.eq_sb, PD.eq_nn, PD.ne_int, PD.ne_str, PD.ne_bl, PD.isn_ap, PD.isN_int, PD.isN_str, PD.isN_bl, PD.isN_tup, PD.isN_lst, PD.isN_non, PD.ix_lst, PD.ix_tup, PD.ix_scr, PD.len_lst, PD.len_tup, PD.int_int, PD.list_lst, PD.list_tup, PD.tuple_lst, PD.tuple_tup, PD.asB_bl, PD.getD0, PD.getDS, PD.set0, PD.setS, PD.at0, PD.atS, PD.map_some', PD.bind_some', List.length_cons, List.length_nil, List.any_cons, List.any_nil, decide_true, decide_false, and_self, Nat.reduceLeDiff, Nat.reduceAdd, if_true, Int.reduceLT, Int.reduceNeg, Int.reducePow, Int.reduceToNat, Int.reduceLE, Nat.reduceLT, Int.reduceAdd, Int.reduceSub, Bool.not_true, Bool.not_false, Int.reduceEq, bne_self_eq_false, Bool.false_bne, Bool.true_bne, Int.reduceBNe, $xs,*] $[$l]?)
namespace PD
open PySem PySem.Spec PyProof.Rows L2
def F_pull : IF := runI 5 mPull
theorem lcL_map {g : MG} {t : M Bool} {e : M D} (f : D → D) {ε : Ev} {h : EH} : ∀ {ds : List D}, (∀ d ∈ ds, ∃ ε1, g d ε h = some (ε1, h) ∧ t ε1 h = some (.ok true, h) ∧ e ε1 h = some (.ok (f d), h)) → lcL g t e ds ε h = some (ds.map f, h)
  | [], _ => rfl
  | d :: ds, H => by
    obtain ⟨ε1, h1, h2, h3⟩ := H d List.mem_cons_self
    unfold lcL
    simp only [h1, h2, h3, lcL_map f fun x hx => H x (List.mem_cons_of_mem _ hx), List.map_cons]
theorem lcL_bag {g : MG} {e : M D} {ε : Ev} (P : D → Prop) : ∀ {ds : List D}, (∀ d ∈ ds, ∀ k t, BagI k → ∃ ε1 y k', g d ε (k :: t) = some (ε1, k :: t) ∧ e ε1 (k :: t) = some (.ok y, k' :: t) ∧ P y ∧ BagI k') →
    ∀ k t, BagI k → ∃ ys k', lcL g mYes e ds ε (k :: t) = some (ys, k' :: t) ∧ ys.length = ds.length ∧ (∀ y ∈ ys, P y) ∧ BagI k'
  | [], _, k, t, hk => ⟨[], k, rfl, rfl, (fun _ h => nomatch h), hk⟩
  | d :: ds, H, k, t, hk => by
    obtain ⟨ε1, y, k1, h1, h2, h3, h4⟩ := H d List.mem_cons_self k t hk
    obtain ⟨ys, k2, i1, i2, i3, i4⟩ := lcL_bag P (fun x hx => H x (List.mem_cons_of_mem _ hx)) k1 t h4
    refine ⟨y :: ys, k2, ?_, congrArg Nat.succ i2, fun z hz => ?_, i4⟩
    · unfold lcL
      simp only [h1, yes_ap, h2, i1]
    · rcases List.mem_cons.mp hz with e | e
      · rw [e]; exact h3
      · exact i3 z e
theorem asBs_map {α : Type} (f : α → Bool) : ∀ ds : List α, asBs (ds.map fun d => .bl (f d)) = some (ds.map f)
  | [] => rfl
  | d :: ds => by
    rw [List.map_cons]
    unfold asBs
    rw [asBs_map f ds]; rfl
theorem atI_in {α : Type} {ds : List α} {i : Int} (h0 : 0 ≤ i) (h1 : i < (ds.length : Int)) : ∃ x ∈ ds, atI ds i = some x := by
  have hj : i.toNat < ds.length := by omega
  exact ⟨ds[i.toNat], List.getElem_mem hj, by rw [atI_nat ds i.toNat i (by omega), List.getElem?_eq_getElem hj]⟩
def mAny : MS :=
    (msRet (mBin dIx (mVar 1) (mCallI F_pull (mCons (mVar 0) (mCons (mCall dLen (mCons (mVar 1) mNil)) mNil)))))
def F_any : IF := runI 2 mAny
theorem any_lst {k : Cell} (hk : BagI k) {ds : List D} (h0 : 0 < ds.length) (h1 : ds.length < 1073741824) (hr : ∀ d ∈ ds, noRef d = true) (t : EH) : ∃ d k', F_any [.ref 0, .lst ds] (k :: t) = some (.ok d, k' :: t) ∧ d ∈ ds ∧ BagI k' := by
  obtain ⟨i, k', e, i0, i1, hk'⟩ := pull_ok hk (n := (ds.length : Int)) (by omega) (by omega) t
  obtain ⟨d, hd, ed⟩ := atI_in i0 i1
  refine ⟨d, k', ?_, hd, hk'⟩
  show endI _ (mAny [some (.ref 0), some (.lst ds)] (k :: t)) = _
  have e' : F_pull [.ref 0, .int ds.length] (k :: t) = some (.ok (.int i), k' :: t) := e
  simp only [mAny, ↓seq_ap, ↓var_ap, ↓c_ap, ↓bin_ap, ↓tst_ap, ↓not_ap, ↓and_ap, ↓or_ap, ↓if_ap, ↓andv_ap, ↓orv_ap, ↓notv_ap, ↓nil_ap, ↓cons_ap, ↓tup_ap, ↓lst_ap, ↓call_ap, ↓callP_ap, ↓callI_ap, ↓perm_ap, ↓nop_ap, ↓smp_ap, ↓sl_ap, ↓chain_ap, ↓isi_ap, ↓lc_ap, ↓lstC_ap, ↓mts_ap, ↓yes_ap, ↓il_ap, ↓it_ap, ↓is_ap, ↓ir1_ap, ↓iz_ap, ↓snil_ap, ↓ret_ap, ↓sif_ap, ↓sexpr_ap, ↓bk_ap, ↓ct_ap, ↓asg_ap, ↓for_ap, ↓par_ap, ↓gname_ap, ↓gnil_ap, ↓gcons_ap, ↓gtup_ap, ↓gsub_ap, bR_ok, bR_ex, rt_some, sq_nx, sq_rt, sq_bk, sq_ct, sq_ex, bS_ok, bS_ex, binK1_ap, binK2_ap, tstK_b, notK_ap, andK_t, andK_f, orK_t, orK_f, ifK_t, ifK_f, andV_t, andV_f, orV_t, orV_f, notV_c, consK1_ap, consK2_ap, tupK_ok, lstK_ok, callK_ap, permK_ap, smP_int, slK1_ap, slK2_ap, slK3_ap, sl_lst, sl_scr, sl_tup, chK1_ap, chK2_ap, chK3_t, chK3_f, chK4_ap, isiK_int, isiK_str, isiK_bl, isiK_non, isiK_tup, isiK_lst, mtsK_str, mtsK2_ap, ilK_lst, ilK_scr, itK_tup, isK_str, izK_l, izK_t, retK_ap, sifK_t, sifK_f, sexprK_ap, asgK_ap, bG_ok, forK_ap, parK_ok, gK_ok, subK1_ok, subK2_ok, add_int, sub_int, mod_int, lt_int, le_int, gt_int, ge_int, eq_int, eq_str, eq_bl, eq_is, eq_si, eq_bs, eq_sb, eq_nn, ne_int, ne_str, ne_bl, isn_ap, isN_int, isN_str, isN_bl, isN_tup, isN_lst, isN_non, ix_lst, ix_tup, ix_scr, len_lst, len_tup, int_int, list_lst, list_tup, tuple_lst, tuple_tup, asB_bl, getD0, getDS, set0, setS, at0, atS, map_some', bind_some', List.length_cons, List.length_nil, List.any_cons, List.any_nil, e', ed]
  exact endI_ok rfl (hr d hd)
theorem any_str {k : Cell} (hk : BagI k) {z : List Nat} (h0 : 0 < z.length) (h1 : z.length ≤ 16777216) (t : EH) : ∃ c k', F_any [.ref 0, .str z] (k :: t) = some (.ok (.str [c]), k' :: t) ∧ c ∈ z ∧ BagI k' := by
  obtain ⟨i, k', e, i0, i1, hk'⟩ := pull_ok hk (n := (z.length : Int)) (by omega) (by omega) t
  obtain ⟨c, hd, ed⟩ := atI_in i0 i1
  refine ⟨c, k', ?_, hd, hk'⟩
  show endI _ (mAny [some (.ref 0), some (.str z)] (k :: t)) = _
  have e' : F_pull [.ref 0, .int z.length] (k :: t) = some (.ok (.int i), k' :: t) := e
  simp only [mAny, ↓seq_ap, ↓var_ap, ↓c_ap, ↓bin_ap, ↓tst_ap, ↓not_ap, ↓and_ap, ↓or_ap, ↓if_ap, ↓andv_ap, ↓orv_ap, ↓notv_ap, ↓nil_ap, ↓cons_ap, ↓tup_ap, ↓lst_ap, ↓call_ap, ↓callP_ap, ↓callI_ap, ↓perm_ap, ↓nop_ap, ↓smp_ap, ↓sl_ap, ↓chain_ap, ↓isi_ap, ↓lc_ap, ↓lstC_ap, ↓mts_ap, ↓yes_ap, ↓il_ap, ↓it_ap, ↓is_ap, ↓ir1_ap, ↓iz_ap, ↓snil_ap, ↓ret_ap, ↓sif_ap, ↓sexpr_ap, ↓bk_ap, ↓ct_ap, ↓asg_ap, ↓for_ap, ↓par_ap, ↓gname_ap, ↓gnil_ap, ↓gcons_ap, ↓gtup_ap, ↓gsub_ap, bR_ok, bR_ex, rt_some, sq_nx, sq_rt, sq_bk, sq_ct, sq_ex, bS_ok, bS_ex, binK1_ap, binK2_ap, tstK_b, notK_ap, andK_t, andK_f, orK_t, orK_f, ifK_t, ifK_f, andV_t, andV_f, orV_t, orV_f, notV_c, consK1_ap, consK2_ap, tupK_ok, lstK_ok, callK_ap, permK_ap, smP_int, slK1_ap, slK2_ap, slK3_ap, sl_lst, sl_scr, sl_tup, chK1_ap, chK2_ap, chK3_t, chK3_f, chK4_ap, isiK_int, isiK_str, isiK_bl, isiK_non, isiK_tup, isiK_lst, mtsK_str, mtsK2_ap, ilK_lst, ilK_scr, itK_tup, isK_str, izK_l, izK_t, retK_ap, sifK_t, sifK_f, sexprK_ap, asgK_ap, bG_ok, forK_ap, parK_ok, gK_ok, subK1_ok, subK2_ok, add_int, sub_int, mod_int, lt_int, le_int, gt_int, ge_int, eq_int, eq_str, eq_bl, eq_is, eq_si, eq_bs, eq_sb, eq_nn, ne_int, ne_str, ne_bl, isn_ap, isN_int, isN_str, isN_bl, isN_tup, isN_lst, isN_non, ix_lst, ix_tup, ix_scr, len_lst, len_tup, int_int, list_lst, list_tup, tuple_lst, tuple_tup, asB_bl, getD0, getDS, set0, setS, at0, atS, map_some', bind_some', List.length_cons, List.length_nil, List.any_cons, List.any_nil, len_str h1, ix_str h1, e', ed]
  exact endI_ok rfl rfl
def mDraws : MS :=
    (msSeq (msAsg (mC (.int 5648)) (mgName 1))
    (msSeq (msFor (miL (mSl (mVar 0) mNoP (mSmP (mC (.int 63))))) (mgName 2) (msAsg (mBin dMod (mCall dInt (mCons (mBin dAdd (mBin dAdd (mBin dMul (mVar 1) (mC (.int 44021))) (mBin dMod (mCall dInt (mCons (mVar 2) mNil)) (mC (.int 2147483489)))) (mC (.int 53))) mNil)) (mC (.int 2147483549))) (mgName 1)))
    (msRet (mLstC (mCons (mCall dList (mCons (mSl (mVar 0) mNoP (mSmP (mC (.int 63)))) mNil)) (mCons (mC (.int 0)) (mCons (mC (.int 0)) (mCons (mVar 1) (mCons (mC (.int 0)) mNil)))))))))
def F_draws : IF := runA 3 mDraws
theorem draws_loop {x : D} : ∀ (ns : List Int) (s : Int) (o : Option D), 0 ≤ s → s < 2147483549 → ∃ s' o', forL (mgName 2) (msAsg (mBin dMod (mCall dInt (mCons (mBin dAdd (mBin dAdd (mBin dMul (mVar 1) (mC (.int 44021))) (mBin dMod (mCall dInt (mCons (mVar 2) mNil)) (mC (.int 2147483489)))) (mC (.int 53))) mNil)) (mC (.int 2147483549))) (mgName 1)) (ns.map .int) [some x, some (.int s), o] [] = some (.nx [some x, some (.int s'), o'], []) ∧ 0 ≤ s' ∧ s' < 2147483549
  | [], s, o, h0, h1 => ⟨s, o, rfl, h0, h1⟩
  | n :: ns, s, o, h0, h1 => by
    obtain ⟨s', o', e, r⟩ := draws_loop ns ((s * 44021 + n % 2147483489 + 53) % 2147483549) (some (.int n)) (Int.emod_nonneg _ (by decide)) (Int.emod_lt_of_pos _ (by decide))
    refine ⟨s', o', ?_, r⟩
    rw [List.map_cons]
    unfold forL
    simp? only [mul_rc]
    exact e
theorem cut63 {α : Type} {ns : List α} (h : ns.length ≤ 63) : cutD ns none (some 63) = ns := by
  unfold cutD
  have e1 : HT.sIx ns.length 0 none = 0 := rfl
  have e2 : HT.sIx ns.length ns.length (some 63) = ns.length := by
    show (if (63 : Int) < 0 then ((63 : Int) + (ns.length : Int)).toNat else min (63 : Int).toNat ns.length) = _
    rw [if_neg (by decide)]
    show min 63 ns.length = _
    omega
  rw [e1, e2]
  simp
theorem draws_ok {ns : List Int} (h : ns.length ≤ 63) : ∃ k, F_draws [.scr (ns.map .int)] [] = some (.ok (.ref 0), [k]) ∧ BagI k := by
  obtain ⟨s', o', e, r0, r1⟩ := draws_loop (x := .scr (ns.map .int)) ns 5648 none (by decide) (by decide)
  refine ⟨bagC (ns.map .int) 0 0 s' 0, ?_, ⟨_, _, _, _, _, rfl, h, by decide, by decide, r0, r1⟩⟩
  show endA _ (mDraws [some (.scr (ns.map .int)), none, none] []) = _
  have l : (ns.map D.int).length ≤ 63 := by simpa using h
  simp? only [mDraws, cut63 l, e, lstCK_ok]
  rfl
def mLike (F : PF) : MS :=
    (msSeq (msIf (mTst (mIsi [.lst, .tup] (mVar 1))) (msSeq (msAsg (mAndV (mBin dEq (mIsi [.lst] (mVar 0)) (mIsi [.lst] (mVar 1))) (mBin dEq (mIsi [.tup] (mVar 0)) (mIsi [.tup] (mVar 1)))) (mgName 2))
    (msRet (mAndV (mVar 2) (mAndV (mBin dEq (mCall dLen (mCons (mVar 0) mNil)) (mCall dLen (mCons (mVar 1) mNil))) (mCall dAll (mCons (mLc [3, 4] (miZip (mCons (mVar 0) (mCons (mVar 1) mNil))) (mgTup 2 (mgCons (mgName 3) (mgCons (mgName 4) mgNil))) mYes (mCallP F (mCons (mVar 3) (mCons (mVar 4) mNil)))) mNil)))))) msNil)
    (msSeq (msIf (mOr (mTst (mBin (dIsN false) (mVar 0) (mC .non))) (mOr (mTst (mBin (dIsN false) (mVar 1) (mC .non))) (mTst (mBin dNe (mIsi [.bool] (mVar 0)) (mIsi [.bool] (mVar 1)))))) (msRet (mAndV (mBin (dIsN false) (mVar 0) (mC .non)) (mBin (dIsN false) (mVar 1) (mC .non)))) msNil)
    (msRet (mAndV (mBin dEq (mIsi [.int] (mVar 0)) (mIsi [.int] (mVar 1))) (mAndV (mBin dEq (mIsi [.str] (mVar 0)) (mIsi [.str] (mVar 1))) (mBin dEq (mVar 0) (mVar 1)))))))
def F_like_ : Nat → PF
  | 0 => fun _ => none
  | t + 1 => runP 5 (mLike (F_like_ t))
/-- data of a depth -/
def okD : Nat → D → Bool
  | 0, _ => false
  | _ + 1, .non => true
  | _ + 1, .bl _ => true
  | _ + 1, .int _ => true
  | _ + 1, .str _ => true
  | t + 1, .tup ds => decide (ds.length ≤ 16777216) && ds.all (okD t)
  | t + 1, .lst ds => decide (ds.length ≤ 16777216) && ds.all (okD t)
  | _ + 1, _ => false
theorem noRef_all : ∀ {ds : List D}, (∀ d ∈ ds, noRef d = true) → noRef.go ds = true
  | [], _ => rfl
  | d :: ds, h => by
    rw [noRef.go, h d List.mem_cons_self, noRef_all fun x hx => h x (List.mem_cons_of_mem _ hx)]; rfl
theorem okD_noRef : ∀ {t : Nat} {d : D}, okD t d = true → noRef d = true
  | 0, _, e => by cases e
  | t + 1, .non, _ => rfl
  | t + 1, .bl _, _ => rfl
  | t + 1, .int _, _ => rfl
  | t + 1, .str _, _ => rfl
  | t + 1, .tup ds, e => by
    rw [noRef]
    exact noRef_all fun d hd => okD_noRef (t := t) (List.all_eq_true.mp (Bool.and_eq_true_iff.mp (show (decide (ds.length ≤ 16777216) && ds.all (okD t)) = true from e)).2 d hd)
  | t + 1, .lst ds, e => by
    rw [noRef]
    exact noRef_all fun d hd => okD_noRef (t := t) (List.all_eq_true.mp (Bool.and_eq_true_iff.mp (show (decide (ds.length ≤ 16777216) && ds.all (okD t)) = true from e)).2 d hd)
  | t + 1, .scr _, e => by cases e
  | t + 1, .dic _ _, e => by cases e
  | t + 1, .obj _ _, e => by cases e
  | t + 1, .ref _, e => by cases e
theorem okD_up : ∀ {t : Nat} {d : D}, okD t d = true → okD (t + 1) d = true
  | 0, _, e => by cases e
  | t + 1, .non, _ => rfl
  | t + 1, .bl _, _ => rfl
  | t + 1, .int _, _ => rfl
  | t + 1, .str _, _ => rfl
  | t + 1, .tup ds, e => by
    have e' := Bool.and_eq_true_iff.mp (show (decide (ds.length ≤ 16777216) && ds.all (okD t)) = true from e)
    exact Bool.and_eq_true_iff.mpr ⟨e'.1, List.all_eq_true.mpr fun d hd => okD_up (List.all_eq_true.mp e'.2 d hd)⟩
  | t + 1, .lst ds, e => by
    have e' := Bool.and_eq_true_iff.mp (show (decide (ds.length ≤ 16777216) && ds.all (okD t)) = true from e)
    exact Bool.and_eq_true_iff.mpr ⟨e'.1, List.all_eq_true.mpr fun d hd => okD_up (List.all_eq_true.mp e'.2 d hd)⟩
  | t + 1, .scr _, e => by cases e
  | t + 1, .dic _ _, e => by cases e
  | t + 1, .obj _ _, e => by cases e
  | t + 1, .ref _, e => by cases e
theorem okD_le {t u : Nat} {d : D} (h : okD t d = true) (l : t ≤ u) : okD u d = true := by
  induction l with
  | refl => exact h
  | step _ ih => exact okD_up ih
theorem zip_self : ∀ ds : List D, zipD ds ds = ds.map fun d => .tup [d, d]
  | [] => rfl
  | d :: ds => by
    have := zip_self ds
    unfold zipD at this ⊢
    rw [List.zip_cons_cons, List.map_cons, this, List.map_cons]
theorem like_lc {t : Nat} {ds : List D} {a b c : Option D} (hl : ds.length ≤ 16777216) (hd : ∀ d ∈ ds, noRef d = true) (ih : ∀ d ∈ ds, F_like_ t [d, d] = some (.ok (.bl true))) :
    lcL (mgTup 2 (mgCons (mgName 3) (mgCons (mgName 4) mgNil))) mYes (mCallP (F_like_ t) (mCons (mVar 3) (mCons (mVar 4) mNil))) (zipD ds ds) [a, b, c, none, none] [] = some (ds.map fun _ => .bl true, []) := by
  have := lcL_map (g := mgTup 2 (mgCons (mgName 3) (mgCons (mgName 4) mgNil))) (t := mYes) (e := mCallP (F_like_ t) (mCons (mVar 3) (mCons (mVar 4) mNil))) (fun _ => .bl true) (ε := [a, b, c, none, none]) (h := []) (ds := zipD ds ds) fun x hx => by
    rw [zip_self] at hx
    obtain ⟨d, hd1, rfl⟩ := List.mem_map.mp hx
    refine ⟨[a, b, c, some d, some d], rfl, rfl, ?_⟩
    have e2 : noRef.go [d, d] = true := by rw [noRef.go, noRef.go, hd d hd1]; rfl
    simp only [↓seq_ap, ↓var_ap, ↓c_ap, ↓bin_ap, ↓tst_ap, ↓not_ap, ↓and_ap, ↓or_ap, ↓if_ap, ↓andv_ap, ↓orv_ap, ↓notv_ap, ↓nil_ap, ↓cons_ap, ↓tup_ap, ↓lst_ap, ↓call_ap, ↓callP_ap, ↓callI_ap, ↓perm_ap, ↓nop_ap, ↓smp_ap, ↓sl_ap, ↓chain_ap, ↓isi_ap, ↓lc_ap, ↓lstC_ap, ↓mts_ap, ↓yes_ap, ↓il_ap, ↓it_ap, ↓is_ap, ↓ir1_ap, ↓iz_ap, ↓snil_ap, ↓ret_ap, ↓sif_ap, ↓sexpr_ap, ↓bk_ap, ↓ct_ap, ↓asg_ap, ↓for_ap, ↓par_ap, ↓gname_ap, ↓gnil_ap, ↓gcons_ap, ↓gtup_ap, ↓gsub_ap, bR_ok, bR_ex, rt_some, sq_nx, sq_rt, sq_bk, sq_ct, sq_ex, bS_ok, bS_ex, binK1_ap, binK2_ap, tstK_b, notK_ap, andK_t, andK_f, orK_t, orK_f, ifK_t, ifK_f, andV_t, andV_f, orV_t, orV_f, notV_c, consK1_ap, consK2_ap, tupK_ok, lstK_ok, callK_ap, permK_ap, smP_int, slK1_ap, slK2_ap, slK3_ap, sl_lst, sl_scr, sl_tup, chK1_ap, chK2_ap, chK3_t, chK3_f, chK4_ap, isiK_int, isiK_str, isiK_bl, isiK_non, isiK_tup, isiK_lst, mtsK_str, mtsK2_ap, ilK_lst, ilK_scr, itK_tup, isK_str, izK_l, izK_t, retK_ap, sifK_t, sifK_f, sexprK_ap, asgK_ap, bG_ok, forK_ap, parK_ok, gK_ok, subK1_ok, subK2_ok, add_int, sub_int, mod_int, lt_int, le_int, gt_int, ge_int, eq_int, eq_str, eq_bl, eq_is, eq_si, eq_bs, eq_sb, eq_nn, ne_int, ne_str, ne_bl, isn_ap, isN_int, isN_str, isN_bl, isN_tup, isN_lst, isN_non, ix_lst, ix_tup, ix_scr, len_lst, len_tup, int_int, list_lst, list_tup, tuple_lst, tuple_tup, asB_bl, getD0, getDS, set0, setS, at0, atS, map_some', bind_some', List.length_cons, List.length_nil, List.any_cons, List.any_nil, callPK_ok (ih d hd1) e2]
  rw [this, zip_self, List.map_map]
  rfl
theorem like_refl : ∀ {t : Nat} {d : D}, okD t d = true → F_like_ t [d, d] = some (.ok (.bl true))
  | 0, _, e => by cases e
  | t + 1, .non, _ => by
    show endP (mLike (F_like_ t) [some .non, some .non, none, none, none] []) = _
    simp? only [mLike, isa, Bool.or_false, Bool.or_true, Bool.and_true, Bool.and_false, Bool.or_self]
    exact endP_ok rfl
  | t + 1, .bl b, _ => by
    show endP (mLike (F_like_ t) [some (.bl b), some (.bl b), none, none, none] []) = _
    simp? only [mLike, isa, Bool.or_false, Bool.or_true, Bool.and_true, Bool.and_false, Bool.or_self]
    exact endP_ok rfl
  | t + 1, .int i, _ => by
    show endP (mLike (F_like_ t) [some (.int i), some (.int i), none, none, none] []) = _
    simp? only [mLike, isa, Bool.or_false, Bool.or_true, Bool.and_true, Bool.and_false, Bool.or_self]
    exact endP_ok rfl
  | t + 1, .str z, _ => by
    show endP (mLike (F_like_ t) [some (.str z), some (.str z), none, none, none] []) = _
    simp? only [mLike, isa, Bool.or_false, Bool.or_true, Bool.and_true, Bool.and_false, Bool.or_self]
    exact endP_ok rfl
  | t + 1, .tup ds, e => by
    obtain ⟨e1, e2⟩ := Bool.and_eq_true_iff.mp (show (decide (ds.length ≤ 16777216) && ds.all (okD t)) = true from e)
    have hl : ds.length ≤ 16777216 := of_decide_eq_true e1
    have hA := List.all_eq_true.mp e2
    have lc := like_lc (t := t) (a := some (.tup ds)) (b := some (.tup ds)) (c := some (.bl true)) hl (fun d hd => okD_noRef (hA d hd)) fun d hd => like_refl (hA d hd)
    have lk := lcK_ok (vs := [3, 4]) (ε := [some (.tup ds), some (.tup ds), some (.bl true), none, none]) (h := []) lc (by simpa using hl)
    show endP (mLike (F_like_ t) [some (.tup ds), some (.tup ds), none, none, none] []) = _
    simp? only [mLike, isa, Bool.or_false, Bool.or_true, Bool.and_true, Bool.and_false, Bool.or_self, lk, all_lst (asBs_map (fun _ => true) ds)]
    rw [show (ds.map fun _ => true).all id = true by simp]
    exact endP_ok rfl
  | t + 1, .lst ds, e => by
    obtain ⟨e1, e2⟩ := Bool.and_eq_true_iff.mp (show (decide (ds.length ≤ 16777216) && ds.all (okD t)) = true from e)
    have hl : ds.length ≤ 16777216 := of_decide_eq_true e1
    have hA := List.all_eq_true.mp e2
    have lc := like_lc (t := t) (a := some (.lst ds)) (b := some (.lst ds)) (c := some (.bl true)) hl (fun d hd => okD_noRef (hA d hd)) fun d hd => like_refl (hA d hd)
    have lk := lcK_ok (vs := [3, 4]) (ε := [some (.lst ds), some (.lst ds), some (.bl true), none, none]) (h := []) lc (by simpa using hl)
    show endP (mLike (F_like_ t) [some (.lst ds), some (.lst ds), none, none, none] []) = _
    simp? only [mLike, isa, Bool.or_false, Bool.or_true, Bool.and_true, Bool.and_false, Bool.or_self, lk, all_lst (asBs_map (fun _ => true) ds)]
    rw [show (ds.map fun _ => true).all id = true by simp]
    exact endP_ok rfl
  | t + 1, .scr _, e => by cases e
  | t + 1, .dic _ _, e => by cases e
  | t + 1, .obj _ _, e => by cases e
  | t + 1, .ref _, e => by cases e
end PD
namespace PD
open PySem PySem.Spec PyProof.Rows L2
def abc : List Nat := [97, 98, 99, 100, 101, 102, 103, 104, 105, 106, 107, 108, 109, 110, 111, 112, 113, 114, 115, 116, 117, 118, 119, 120, 121, 122]
def resv : List (List Nat) := [[97, 110, 100], [102, 111, 117, 110, 100], [107, 101, 121], [110, 101, 120, 116], [110, 111, 116], [111, 114], [111, 119, 110], [115, 101, 116], [116, 114, 117, 101], [119, 104, 101, 114, 101]]
def isNm (z : List Nat) : Bool := decide (1 ≤ z.length) && (decide (z.length ≤ 6) && (!decide (z ∈ resv) && z.all fun c => decide (c ∈ abc)))
def isCol (z : List Nat) : Bool := decide (z = [107, 101, 121]) || isNm z
def dGreat : D := (.int 1000000000000000000000000000000)
def dAbc : D := (.str abc)
def dResv : D := (.tup [(.str [97, 110, 100]), (.str [102, 111, 117, 110, 100]), (.str [107, 101, 121]), (.str [110, 101, 120, 116]), (.str [110, 111, 116]), (.str [111, 114]), (.str [111, 119, 110]), (.str [115, 101, 116]), (.str [116, 114, 117, 101]), (.str [119, 104, 101, 114, 101])])
theorem in_strs {h : EH} {z : List Nat} (ws : List (List Nat)) : dInA h (.str z) (.tup (ws.map .str)) = some (.bl (decide (z ∈ ws))) := by
  show (dInS false h (.str z) (.tup (ws.map .str))).or (dIn false h (.str z) (.tup (ws.map .str))) = _
  have e1 : dInS false h (.str z) (.tup (ws.map .str)) = none := rfl
  have e2 : (ws.map D.str).all flatD = true := by
    rw [List.all_eq_true]
    intro d hd
    obtain ⟨w, _, rfl⟩ := List.mem_map.mp hd
    rfl
  have e3 : dIn false h (.str z) (.tup (ws.map .str)) = some (.bl (false != (ws.map D.str).any fun y => eqF y (.str z))) := if_pos ⟨rfl, e2⟩
  rw [e1, e3]
  show some (D.bl (false != (ws.map D.str).any fun y => eqF y (.str z))) = _
  congr 2
  rw [Bool.eq_iff_iff]
  simp only [Bool.false_bne, List.any_eq_true, List.mem_map, decide_eq_true_eq]
  constructor
  · rintro ⟨d, ⟨w, hw, rfl⟩, e⟩
    have : w = z := by simpa [eqF] using e
    exact this ▸ hw
  · intro hz
    exact ⟨.str z, ⟨z, hz, rfl⟩, by simp [eqF]⟩
theorem in_strsL {h : EH} {z : List Nat} (ws : List (List Nat)) : dInA h (.str z) (.lst (ws.map .str)) = some (.bl (decide (z ∈ ws))) := by
  show (dInS false h (.str z) (.lst (ws.map .str))).or (dIn false h (.str z) (.lst (ws.map .str))) = _
  have e1 : dInS false h (.str z) (.lst (ws.map .str)) = none := rfl
  have e2 : (ws.map D.str).all flatD = true := by
    rw [List.all_eq_true]
    intro d hd
    obtain ⟨w, _, rfl⟩ := List.mem_map.mp hd
    rfl
  have e3 : dIn false h (.str z) (.lst (ws.map .str)) = some (.bl (false != (ws.map D.str).any fun y => eqF y (.str z))) := if_pos ⟨rfl, e2⟩
  rw [e1, e3]
  show some (D.bl (false != (ws.map D.str).any fun y => eqF y (.str z))) = _
  congr 2
  rw [Bool.eq_iff_iff]
  simp only [Bool.false_bne, List.any_eq_true, List.mem_map, decide_eq_true_eq]
  constructor
  · rintro ⟨d, ⟨w, hw, rfl⟩, e⟩
    have : w = z := by simpa [eqF] using e
    exact this ▸ hw
  · intro hz
    exact ⟨.str z, ⟨z, hz, rfl⟩, by simp [eqF]⟩
theorem in_resv {h : EH} {z : List Nat} : dInA h (.str z) dResv = some (.bl (decide (z ∈ resv))) := in_strs resv
theorem in_sign {h : EH} {c : Nat} {z : List Nat} : dInA h (.str [c]) (.str z) = some (.bl (decide (c ∈ z))) := by
  show (some (D.bl (false != decide (c ∈ z)))).or _ = _
  rw [Bool.false_bne]; rfl
def mIsName : MS :=
    (msSeq (msIf (mOr (mNot (mTst (mIsi [.str] (mVar 0)))) (mOr (mNot (mTst (mChain dLe dLe (mC (.int 1)) (mCall dLen (mCons (mVar 0) mNil)) (mC (.int 6))))) (mTst (mBin dInA (mVar 0) (mC dResv))))) (msRet (mC (.bl false))) msNil)
    (msRet (mCall dAll (mCons (mLc [1] (miS (mVar 0)) (mgName 1) mYes (mBin dInA (mVar 1) (mC dAbc))) mNil))))
def F_isName : PF := runP 2 mIsName
theorem isName_str {z : List Nat} (hz : z.length ≤ 16777216) : F_isName [.str z] = some (.ok (.bl (isNm z))) := by
  show endP (mIsName [some (.str z), none] []) = _
  by_cases q1 : 1 ≤ z.length
  · by_cases q2 : z.length ≤ 6
    · by_cases q3 : z ∈ resv
      · have e1 : (1 : Int) ≤ z.length := by omega
        have e2 : (z.length : Int) ≤ 6 := by omega
        simp? only [mIsName, isa, Bool.or_false, len_str hz, e1, e2, in_resv, q3, isNm, q1, q2, Bool.true_and, Bool.false_and]
        rfl
      · have e1 : (1 : Int) ≤ z.length := by omega
        have e2 : (z.length : Int) ≤ 6 := by omega
        have lc := lcL_map (g := mgName 1) (t := mYes) (e := mBin dInA (mVar 1) (mC dAbc)) (ε := [some (.str z), none]) (h := []) (ds := z.map fun c => D.str [c]) (fun d => match d with
          | .str [c] => .bl (decide (c ∈ abc))
          | _ => .non) fun d hd => by
            obtain ⟨c, _, rfl⟩ := List.mem_map.mp hd
            refine ⟨[some (.str z), some (.str [c])], rfl, rfl, ?_⟩
            simp only [↓seq_ap, ↓var_ap, ↓c_ap, ↓bin_ap, ↓tst_ap, ↓not_ap, ↓and_ap, ↓or_ap, ↓if_ap, ↓andv_ap, ↓orv_ap, ↓notv_ap, ↓nil_ap, ↓cons_ap, ↓tup_ap, ↓lst_ap, ↓call_ap, ↓callP_ap, ↓callI_ap, ↓perm_ap, ↓nop_ap, ↓smp_ap, ↓sl_ap, ↓chain_ap, ↓isi_ap, ↓lc_ap, ↓lstC_ap, ↓mts_ap, ↓yes_ap, ↓il_ap, ↓it_ap, ↓is_ap, ↓ir1_ap, ↓iz_ap, ↓snil_ap, ↓ret_ap, ↓sif_ap, ↓sexpr_ap, ↓bk_ap, ↓ct_ap, ↓asg_ap, ↓for_ap, ↓par_ap, ↓gname_ap, ↓gnil_ap, ↓gcons_ap, ↓gtup_ap, ↓gsub_ap, bR_ok, bR_ex, rt_some, sq_nx, sq_rt, sq_bk, sq_ct, sq_ex, bS_ok, bS_ex, binK1_ap, binK2_ap, tstK_b, notK_ap, andK_t, andK_f, orK_t, orK_f, ifK_t, ifK_f, andV_t, andV_f, orV_t, orV_f, notV_c, consK1_ap, consK2_ap, tupK_ok, lstK_ok, callK_ap, permK_ap, smP_int, slK1_ap, slK2_ap, slK3_ap, sl_lst, sl_scr, sl_tup, chK1_ap, chK2_ap, chK3_t, chK3_f, chK4_ap, isiK_int, isiK_str, isiK_bl, isiK_non, isiK_tup, isiK_lst, mtsK_str, mtsK2_ap, ilK_lst, ilK_scr, itK_tup, isK_str, izK_l, izK_t, retK_ap, sifK_t, sifK_f, sexprK_ap, asgK_ap, bG_ok, forK_ap, parK_ok, gK_ok, subK1_ok, subK2_ok, add_int, sub_int, mod_int, lt_int, le_int, gt_int, ge_int, eq_int, eq_str, eq_bl, eq_is, eq_si, eq_bs, eq_sb, eq_nn, ne_int, ne_str, ne_bl, isn_ap, isN_int, isN_str, isN_bl, isN_tup, isN_lst, isN_non, ix_lst, ix_tup, ix_scr, len_lst, len_tup, int_int, list_lst, list_tup, tuple_lst, tuple_tup, asB_bl, getD0, getDS, set0, setS, at0, atS, map_some', bind_some', List.length_cons, List.length_nil, List.any_cons, List.any_nil, dAbc, in_sign]
        rw [List.map_map] at lc
        have lk := lcK_ok (vs := [1]) (ε := [some (.str z), none]) (h := []) lc (by simpa using hz)
        have ab : asBs (z.map fun c => D.bl (decide (c ∈ abc))) = some (z.map fun c => decide (c ∈ abc)) := asBs_map _ z
        have lk' : lcK [1] (mgName 1) mYes (mBin dInA (mVar 1) (mC dAbc)) [some (D.str z), none] (z.map fun c => D.str [c]) [] = some (.ok (.lst (z.map fun c => D.bl (decide (c ∈ abc)))), []) := lk
        simp? only [mIsName, isa, Bool.or_false, len_str hz, e1, e2, in_resv, q3, isNm, q1, q2, Bool.true_and, Bool.false_and, lk', all_lst ab]
        rw [endP_ok rfl, List.all_map]
        rfl
    · have e1 : (1 : Int) ≤ z.length := by omega
      have e2 : ¬ (z.length : Int) ≤ 6 := by omega
      simp? only [mIsName, isa, Bool.or_false, len_str hz, e1, e2, isNm, q1, q2, Bool.true_and, Bool.false_and]
      rfl
  · have e1 : ¬ (1 : Int) ≤ z.length := by omega
    simp? only [mIsName, isa, Bool.or_false, len_str hz, e1, isNm, q1, Bool.true_and, Bool.false_and]
    rfl
theorem isNm_len {z : List Nat} (h : isNm z = true) : 1 ≤ z.length ∧ z.length ≤ 6 := by
  unfold isNm at h
  simp only [Bool.and_eq_true, decide_eq_true_eq] at h
  exact ⟨h.1, h.2.1⟩
theorem isName_nm {z : List Nat} (h : isNm z = true) : F_isName [.str z] = some (.ok (.bl true)) := by
  rw [isName_str (by have := isNm_len h; omega), h]
def mIsCol : MS :=
    (msRet (mAndV (mIsi [.str] (mVar 0)) (mOrV (mBin dEq (mVar 0) (mC (.str [107, 101, 121]))) (mCallP F_isName (mCons (mVar 0) mNil)))))
def F_isCol : PF := runP 1 mIsCol
theorem isCol_str {z : List Nat} (hz : z.length ≤ 16777216) : F_isCol [.str z] = some (.ok (.bl (isCol z))) := by
  show endP (mIsCol [some (.str z)] []) = _
  by_cases q : z = [107, 101, 121]
  · simp? only [mIsCol, isa, Bool.or_false, q, isCol, Bool.true_or]
    rfl
  · simp? only [mIsCol, isa, Bool.or_false, q, isCol, Bool.false_or, callPK_ok (isName_str hz) rfl]
    rfl
theorem isCol_len {z : List Nat} (h : isCol z = true) : 1 ≤ z.length ∧ z.length ≤ 6 := by
  unfold isCol at h
  rw [Bool.or_eq_true] at h
  rcases h with h | h
  · rw [of_decide_eq_true h]; decide
  · exact isNm_len h
theorem isCol_c {z : List Nat} (h : isCol z = true) : F_isCol [.str z] = some (.ok (.bl true)) := by
  rw [isCol_str (by have := isCol_len h; omega), h]
def mIsInt : MS :=
    (msRet (mAndV (mIsi [.int] (mVar 0)) (mNotV (mIsi [.bool] (mVar 0)))))
def F_isInt : PF := runP 1 mIsInt
theorem isInt_int (i : Int) : F_isInt [.int i] = some (.ok (.bl true)) := by
  show endP (mIsInt [some (.int i)] []) = _
  simp? only [mIsInt, isa, Bool.or_false]
  rfl
def mIsCon : MS :=
    (msRet (mAndV (mCallP F_isInt (mCons (mVar 0) mNil)) (mChain dLe dLe (mBin dSub (mC (.int 0)) (mC dGreat)) (mVar 0) (mC dGreat))))
def F_isCon : PF := runP 1 mIsCon
def isCon (i : Int) : Bool := decide (0 - 1000000000000000000000000000000 ≤ i) && decide (i ≤ 1000000000000000000000000000000)
theorem isCon_int (i : Int) : F_isCon [.int i] = some (.ok (.bl (isCon i))) := by
  show endP (mIsCon [some (.int i)] []) = _
  by_cases q : 0 - 1000000000000000000000000000000 ≤ i
  · simp only [mIsCon, ↓seq_ap, ↓var_ap, ↓c_ap, ↓bin_ap, ↓tst_ap, ↓not_ap, ↓and_ap, ↓or_ap, ↓if_ap, ↓andv_ap, ↓orv_ap, ↓notv_ap, ↓nil_ap, ↓cons_ap, ↓tup_ap, ↓lst_ap, ↓call_ap, ↓callP_ap, ↓callI_ap, ↓perm_ap, ↓nop_ap, ↓smp_ap, ↓sl_ap, ↓chain_ap, ↓isi_ap, ↓lc_ap, ↓lstC_ap, ↓mts_ap, ↓yes_ap, ↓il_ap, ↓it_ap, ↓is_ap, ↓ir1_ap, ↓iz_ap, ↓snil_ap, ↓ret_ap, ↓sif_ap, ↓sexpr_ap, ↓bk_ap, ↓ct_ap, ↓asg_ap, ↓for_ap, ↓par_ap, ↓gname_ap, ↓gnil_ap, ↓gcons_ap, ↓gtup_ap, ↓gsub_ap, bR_ok, bR_ex, rt_some, sq_nx, sq_rt, sq_bk, sq_ct, sq_ex, bS_ok, bS_ex, binK1_ap, binK2_ap, tstK_b, notK_ap, andK_t, andK_f, orK_t, orK_f, ifK_t, ifK_f, andV_t, andV_f, orV_t, orV_f, notV_c, consK1_ap, consK2_ap, tupK_ok, lstK_ok, callK_ap, permK_ap, smP_int, slK1_ap, slK2_ap, slK3_ap, sl_lst, sl_scr, sl_tup, chK1_ap, chK2_ap, chK3_t, chK3_f, chK4_ap, isiK_int, isiK_str, isiK_bl, isiK_non, isiK_tup, isiK_lst, mtsK_str, mtsK2_ap, ilK_lst, ilK_scr, itK_tup, isK_str, izK_l, izK_t, retK_ap, sifK_t, sifK_f, sexprK_ap, asgK_ap, bG_ok, forK_ap, parK_ok, gK_ok, subK1_ok, subK2_ok, add_int, sub_int, mod_int, lt_int, le_int, gt_int, ge_int, eq_int, eq_str, eq_bl, eq_is, eq_si, eq_bs, eq_sb, eq_nn, ne_int, ne_str, ne_bl, isn_ap, isN_int, isN_str, isN_bl, isN_tup, isN_lst, isN_non, ix_lst, ix_tup, ix_scr, len_lst, len_tup, int_int, list_lst, list_tup, tuple_lst, tuple_tup, asB_bl, getD0, getDS, set0, setS, at0, atS, map_some', bind_some', List.length_cons, List.length_nil, List.any_cons, List.any_nil, dGreat, callPK_ok (isInt_int i) rfl, q, decide_true, isCon, Bool.true_and]
    rfl
  · simp only [mIsCon, ↓seq_ap, ↓var_ap, ↓c_ap, ↓bin_ap, ↓tst_ap, ↓not_ap, ↓and_ap, ↓or_ap, ↓if_ap, ↓andv_ap, ↓orv_ap, ↓notv_ap, ↓nil_ap, ↓cons_ap, ↓tup_ap, ↓lst_ap, ↓call_ap, ↓callP_ap, ↓callI_ap, ↓perm_ap, ↓nop_ap, ↓smp_ap, ↓sl_ap, ↓chain_ap, ↓isi_ap, ↓lc_ap, ↓lstC_ap, ↓mts_ap, ↓yes_ap, ↓il_ap, ↓it_ap, ↓is_ap, ↓ir1_ap, ↓iz_ap, ↓snil_ap, ↓ret_ap, ↓sif_ap, ↓sexpr_ap, ↓bk_ap, ↓ct_ap, ↓asg_ap, ↓for_ap, ↓par_ap, ↓gname_ap, ↓gnil_ap, ↓gcons_ap, ↓gtup_ap, ↓gsub_ap, bR_ok, bR_ex, rt_some, sq_nx, sq_rt, sq_bk, sq_ct, sq_ex, bS_ok, bS_ex, binK1_ap, binK2_ap, tstK_b, notK_ap, andK_t, andK_f, orK_t, orK_f, ifK_t, ifK_f, andV_t, andV_f, orV_t, orV_f, notV_c, consK1_ap, consK2_ap, tupK_ok, lstK_ok, callK_ap, permK_ap, smP_int, slK1_ap, slK2_ap, slK3_ap, sl_lst, sl_scr, sl_tup, chK1_ap, chK2_ap, chK3_t, chK3_f, chK4_ap, isiK_int, isiK_str, isiK_bl, isiK_non, isiK_tup, isiK_lst, mtsK_str, mtsK2_ap, ilK_lst, ilK_scr, itK_tup, isK_str, izK_l, izK_t, retK_ap, sifK_t, sifK_f, sexprK_ap, asgK_ap, bG_ok, forK_ap, parK_ok, gK_ok, subK1_ok, subK2_ok, add_int, sub_int, mod_int, lt_int, le_int, gt_int, ge_int, eq_int, eq_str, eq_bl, eq_is, eq_si, eq_bs, eq_sb, eq_nn, ne_int, ne_str, ne_bl, isn_ap, isN_int, isN_str, isN_bl, isN_tup, isN_lst, isN_non, ix_lst, ix_tup, ix_scr, len_lst, len_tup, int_int, list_lst, list_tup, tuple_lst, tuple_tup, asB_bl, getD0, getDS, set0, setS, at0, atS, map_some', bind_some', List.length_cons, List.length_nil, List.any_cons, List.any_nil, dGreat, callPK_ok (isInt_int i) rfl, q, decide_false, isCon, Bool.false_and]
    rfl
def sField : List Nat := [102, 105, 101, 108, 100]
def sNumber : List Nat := [110, 117, 109, 98, 101, 114]
def sName : List Nat := [110, 97, 109, 101]
def sOwn : List Nat := [111, 119, 110]
def sNext : List Nat := [110, 101, 120, 116]
def sPlus : List Nat := [112, 108, 117, 115]
inductive Pl where
  | num (n : Int) | name (z : List Nat) | field (z y : List Nat) | own (y : List Nat) | next (y : List Nat)
  deriving DecidableEq
def Pl.d : Pl → D
  | .num n => .tup [.str sNumber, .int n]
  | .name z => .tup [.str sName, .str z]
  | .field z y => .tup [.str sField, .str z, .str y]
  | .own y => .tup [.str sOwn, .str y]
  | .next y => .tup [.str sNext, .str y]
def Pl.ok : Pl → Bool
  | .num n => isCon n
  | .name z => isNm z
  | .field z y => isNm z && isCol y
  | .own y => isCol y
  | .next y => isCol y
inductive Vl where
  | pl (p : Pl) | plus (p : Pl) (m : Int)
  deriving DecidableEq
def Vl.d : Vl → D
  | .pl p => p.d
  | .plus p m => .tup [.str sPlus, p.d, .int m]
def Vl.ok : Vl → Bool
  | .pl p => p.ok
  | .plus p m => p.ok && isCon m
def mIsPlain : MS :=
    (msSeq (msIf (mOr (mNot (mTst (mIsi [.tup] (mVar 0)))) (mOr (mTst (mBin dLt (mCall dLen (mCons (mVar 0) mNil)) (mC (.int 2)))) (mNot (mTst (mIsi [.str] (mBin dIx (mVar 0) (mC (.int 0)))))))) (msRet (mC (.bl false))) msNil)
    (msSeq (msIf (mTst (mBin dEq (mBin dIx (mVar 0) (mC (.int 0))) (mC (.str [102, 105, 101, 108, 100])))) (msRet (mAndV (mBin dEq (mCall dLen (mCons (mVar 0) mNil)) (mC (.int 3))) (mAndV (mCallP F_isName (mCons (mBin dIx (mVar 0) (mC (.int 1))) mNil)) (mCallP F_isCol (mCons (mBin dIx (mVar 0) (mC (.int 2))) mNil))))) msNil)
    (msSeq (msIf (mTst (mBin dNe (mCall dLen (mCons (mVar 0) mNil)) (mC (.int 2)))) (msRet (mC (.bl false))) msNil)
    (msSeq (msIf (mTst (mBin dEq (mBin dIx (mVar 0) (mC (.int 0))) (mC (.str [110, 117, 109, 98, 101, 114])))) (msRet (mCallP F_isCon (mCons (mBin dIx (mVar 0) (mC (.int 1))) mNil))) msNil)
    (msSeq (msIf (mTst (mBin dEq (mBin dIx (mVar 0) (mC (.int 0))) (mC (.str [110, 97, 109, 101])))) (msRet (mCallP F_isName (mCons (mBin dIx (mVar 0) (mC (.int 1))) mNil))) msNil)
    (msRet (mAndV (mBin dInA (mBin dIx (mVar 0) (mC (.int 0))) (mTup (mCons (mC (.str [111, 119, 110])) (mCons (mC (.str [110, 101, 120, 116])) mNil)))) (mCallP F_isCol (mCons (mBin dIx (mVar 0) (mC (.int 1))) mNil)))))))))
def F_isPlain : PF := runP 1 mIsPlain
theorem atl0 {a : D} {r : List D} : atI (a :: r) 0 = some a := by
  rw [atI_nat _ 0 0 rfl]; rfl
theorem atl1 {a b : D} {r : List D} : atI (a :: b :: r) 1 = some b := by
  rw [atI_nat _ 1 1 rfl]; rfl
theorem atl2 {a b c : D} {r : List D} : atI (a :: b :: c :: r) 2 = some c := by
  rw [atI_nat _ 2 2 rfl]; rfl
theorem len0 : ((0 : Nat) : Int) = 0 := rfl
theorem len1 : ((1 : Nat) : Int) = 1 := rfl
theorem len2 : ((2 : Nat) : Int) = 2 := rfl
theorem len3 : ((3 : Nat) : Int) = 3 := rfl
theorem in_on {h : EH} {z : List Nat} : dInA h (.str z) (.tup [.str [111, 119, 110], .str [110, 101, 120, 116]]) = some (.bl (decide (z ∈ [[111, 119, 110], [110, 101, 120, 116]]))) := in_strs [[111, 119, 110], [110, 101, 120, 116]]
theorem isPlain_ok : ∀ {p : Pl}, p.ok = true → F_isPlain [p.d] = some (.ok (.bl true))
  | .num n, h => by
    show endP (mIsPlain [some (Pl.num n).d] []) = _
    have e := isCon_int n
    rw [show isCon n = true from h] at e
    simp? only [mIsPlain, Pl.d, isa, Bool.or_false, atl0, atl1, len0, len1, len2, len3, sNumber, show ¬ ([110, 117, 109, 98, 101, 114] = [102, 105, 101, 108, 100]) by decide, callPK_ok e rfl]
    rfl
  | .name z, h => by
    show endP (mIsPlain [some (Pl.name z).d] []) = _
    simp? only [mIsPlain, Pl.d, isa, Bool.or_false, atl0, atl1, len0, len1, len2, len3, sName, show ¬ ([110, 97, 109, 101] = [102, 105, 101, 108, 100]) by decide, show ¬ ([110, 97, 109, 101] = [110, 117, 109, 98, 101, 114]) by decide, callPK_ok (isName_nm h) rfl]
    rfl
  | .field z y, h => by
    show endP (mIsPlain [some (Pl.field z y).d] []) = _
    have h' := Bool.and_eq_true_iff.mp (show (isNm z && isCol y) = true from h)
    simp? only [mIsPlain, Pl.d, isa, Bool.or_false, atl0, atl1, atl2, len0, len1, len2, len3, sField, callPK_ok (isName_nm h'.1) rfl, callPK_ok (isCol_c h'.2) rfl]
    rfl
  | .own y, h => by
    show endP (mIsPlain [some (Pl.own y).d] []) = _
    simp? only [mIsPlain, Pl.d, isa, Bool.or_false, atl0, atl1, atl2, len0, len1, len2, len3, sOwn, show ¬ ([111, 119, 110] = [102, 105, 101, 108, 100]) by decide, show ¬ ([111, 119, 110] = [110, 117, 109, 98, 101, 114]) by decide, show ¬ ([111, 119, 110] = [110, 97, 109, 101]) by decide, in_on, show [111, 119, 110] ∈ [[111, 119, 110], [110, 101, 120, 116]] by decide, callPK_ok (isCol_c h) rfl]
    rfl
  | .next y, h => by
    show endP (mIsPlain [some (Pl.next y).d] []) = _
    simp? only [mIsPlain, Pl.d, isa, Bool.or_false, atl0, atl1, atl2, len0, len1, len2, len3, sNext, show ¬ ([110, 101, 120, 116] = [102, 105, 101, 108, 100]) by decide, show ¬ ([110, 101, 120, 116] = [110, 117, 109, 98, 101, 114]) by decide, show ¬ ([110, 101, 120, 116] = [110, 97, 109, 101]) by decide, in_on, show [110, 101, 120, 116] ∈ [[111, 119, 110], [110, 101, 120, 116]] by decide, callPK_ok (isCol_c h) rfl]
    rfl
theorem Pl.noRef : ∀ p : Pl, PD.noRef p.d = true
  | .num _ => rfl
  | .name _ => rfl
  | .field _ _ => rfl
  | .own _ => rfl
  | .next _ => rfl
theorem Vl.noRef : ∀ v : Vl, PD.noRef v.d = true
  | .pl p => p.noRef
  | .plus p m => by
    show (true && (PD.noRef p.d && (true && true))) = true
    rw [p.noRef]; rfl
def mIsValue : MS :=
    (msSeq (msIf (mAnd (mTst (mIsi [.tup] (mVar 0))) (mAnd (mTst (mBin dEq (mCall dLen (mCons (mVar 0) mNil)) (mC (.int 3)))) (mAnd (mTst (mIsi [.str] (mBin dIx (mVar 0) (mC (.int 0))))) (mTst (mBin dEq (mBin dIx (mVar 0) (mC (.int 0))) (mC (.str [112, 108, 117, 115]))))))) (msRet (mAndV (mCallP F_isPlain (mCons (mBin dIx (mVar 0) (mC (.int 1))) mNil)) (mCallP F_isCon (mCons (mBin dIx (mVar 0) (mC (.int 2))) mNil)))) msNil)
    (msRet (mCallP F_isPlain (mCons (mVar 0) mNil))))
def F_isValue : PF := runP 1 mIsValue
theorem go1 {d : D} (h : noRef d = true) : noRef.go [d] = true := by rw [noRef.go, h]; rfl
theorem isValue_ok : ∀ {v : Vl}, v.ok = true → F_isValue [v.d] = some (.ok (.bl true))
  | .plus p m, h => by
    have h' := Bool.and_eq_true_iff.mp (show (p.ok && isCon m) = true from h)
    have e := isCon_int m
    rw [h'.2] at e
    show endP (mIsValue [some (.tup [.str sPlus, p.d, .int m])] []) = _
    simp? only [mIsValue, isa, Bool.or_false, atl0, atl1, atl2, len0, len1, len2, len3, sPlus, callPK_ok (isPlain_ok h'.1) (go1 p.noRef), callPK_ok e rfl]
    rfl
  | .pl p, h => by
    have e := isPlain_ok (p := p) h
    show endP (mIsValue [some p.d] []) = _
    cases p with
    | num n =>
      have e' : F_isPlain [.tup [.str [110, 117, 109, 98, 101, 114], .int n]] = some (.ok (.bl true)) := e
      simp? only [mIsValue, Pl.d, isa, Bool.or_false, atl0, atl1, atl2, len0, len1, len2, len3, sNumber, callPK_ok e' rfl]
      rfl
    | name z =>
      have e' : F_isPlain [.tup [.str [110, 97, 109, 101], .str z]] = some (.ok (.bl true)) := e
      simp? only [mIsValue, Pl.d, isa, Bool.or_false, atl0, atl1, atl2, len0, len1, len2, len3, sName, callPK_ok e' rfl]
      rfl
    | field z y =>
      have e' : F_isPlain [.tup [.str [102, 105, 101, 108, 100], .str z, .str y]] = some (.ok (.bl true)) := e
      simp? only [mIsValue, Pl.d, isa, Bool.or_false, atl0, atl1, atl2, len0, len1, len2, len3, sField, show ¬ ([102, 105, 101, 108, 100] = [112, 108, 117, 115]) by decide, callPK_ok e' rfl]
      rfl
    | own y =>
      have e' : F_isPlain [.tup [.str [111, 119, 110], .str y]] = some (.ok (.bl true)) := e
      simp? only [mIsValue, Pl.d, isa, Bool.or_false, atl0, atl1, atl2, len0, len1, len2, len3, sOwn, callPK_ok e' rfl]
      rfl
    | next y =>
      have e' : F_isPlain [.tup [.str [110, 101, 120, 116], .str y]] = some (.ok (.bl true)) := e
      simp? only [mIsValue, Pl.d, isa, Bool.or_false, atl0, atl1, atl2, len0, len1, len2, len3, sNext, callPK_ok e' rfl]
      rfl
end PD
namespace PD
open PySem PySem.Spec PyProof.Rows L2
theorem asTs_map : ∀ zs : List (List Nat), asTs (zs.map .str) = some zs
  | [] => rfl
  | z :: zs => by
    rw [List.map_cons]
    unfold asTs
    rw [asTs_map zs]; rfl
theorem join_nil : ∀ zs : List (List Nat), joinT [] zs = zs.flatten
  | [] => rfl
  | [x] => by simp [joinT]
  | x :: y :: r => by
    have := join_nil (y :: r)
    unfold joinT
    rw [this]
    simp
theorem join_lst {h : EH} {zs : List (List Nat)} (e : (zs.map List.length).sum ≤ 16777216) : dJoin h [] [.lst (zs.map .str)] = some (.str zs.flatten) := by
  show (match asTs (zs.map .str) with
      | some zs => if (zs.map List.length).sum + zs.length * 0 ≤ 16777216 then some (D.str (joinT [] zs)) else none
      | none => none) = _
  rw [asTs_map]
  show (if (zs.map List.length).sum + zs.length * 0 ≤ 16777216 then some (D.str (joinT [] zs)) else none) = _
  rw [if_pos (by omega), join_nil]
theorem singles : ∀ {ys : List D}, (∀ y ∈ ys, ∃ c ∈ abc, y = .str [c]) → ∃ cs : List Nat, cs.length = ys.length ∧ (∀ c ∈ cs, c ∈ abc) ∧ ys = (cs.map fun c => [c]).map .str
  | [], _ => ⟨[], rfl, (fun _ h => nomatch h), rfl⟩
  | y :: ys, h => by
    obtain ⟨c, hc, e⟩ := h y List.mem_cons_self
    obtain ⟨cs, h1, h2, h3⟩ := singles fun z hz => h z (List.mem_cons_of_mem _ hz)
    refine ⟨c :: cs, congrArg Nat.succ h1, fun z hz => ?_, by rw [e, h3]; rfl⟩
    rcases List.mem_cons.mp hz with e | e
    · rw [e]; exact hc
    · exact h2 z e
theorem flat_singles (cs : List Nat) : (cs.map fun c => [c]).flatten = cs := by
  induction cs with
  | nil => rfl
  | cons c cs ih => simp [ih]
theorem sum_singles (cs : List Nat) : ((cs.map fun c => [c]).map List.length).sum = cs.length := by
  induction cs with
  | nil => rfl
  | cons c cs ih =>
    simp only [List.map_cons, List.sum_cons, ih, List.length_cons, List.length_nil]
    omega
theorem cut_lo {α : Type} {xs : List α} {a : Nat} (h : a ≤ xs.length) : cutD xs none (some (a : Int)) = xs.take a := by
  unfold cutD
  have e1 : HT.sIx xs.length 0 none = 0 := rfl
  have e2 : HT.sIx xs.length xs.length (some (a : Int)) = a := by
    show (if ((a : Int)) < 0 then ((a : Int) + (xs.length : Int)).toNat else min (a : Int).toNat xs.length) = _
    rw [if_neg (by omega)]
    show min a xs.length = _
    omega
  rw [e1, e2]
  simp
theorem cut_hi {α : Type} {xs : List α} {a : Nat} (h : a ≤ xs.length) : cutD xs (some (a : Int)) none = xs.drop a := by
  unfold cutD
  have e1 : HT.sIx xs.length xs.length none = xs.length := rfl
  have e2 : HT.sIx xs.length 0 (some (a : Int)) = a := by
    show (if ((a : Int)) < 0 then ((a : Int) + (xs.length : Int)).toNat else min (a : Int).toNat xs.length) = _
    rw [if_neg (by omega)]
    show min a xs.length = _
    omega
  rw [e1, e2]
  rw [List.take_of_length_le (by rw [List.length_drop]; omega)]
def abcAt (n : Nat) : Nat := abc.getD (n % 26) 0
theorem abc_at {f k : Nat} (hf : f < 26) (hk : k ≤ 26) : atI abc ((f : Int) + (k : Int) - 26) = some (abcAt (f + k)) := by
  have key : ∀ n : Nat, n < 52 → atI abc ((n : Int) - 26) = some (abcAt n) := by decide +kernel
  have := key (f + k) (by omega)
  rw [← this]
  congr 1
theorem abcAt_mem (n : Nat) : abcAt n ∈ abc := by
  have key : ∀ m : Nat, m < 26 → abc.getD m 0 ∈ abc := by decide +kernel
  exact key _ (Nat.mod_lt _ (by decide))
theorem abcAt_inj {f i j : Nat} (hi : i < 26) (hj : j < 26) (e : abcAt (f + i) = abcAt (f + j)) : i = j := by
  have key : ∀ a : Nat, a < 26 → ∀ b : Nat, b < 26 → abc.getD a 0 = abc.getD b 0 → a = b := by decide +kernel
  have := key _ (Nat.mod_lt (f + i) (by decide)) _ (Nat.mod_lt (f + j) (by decide)) e
  omega
def row (stem : List Nat) (a f k : Nat) : List Nat := stem.take a ++ [abcAt (f + k)] ++ stem.drop a
def fixR (r : List Nat) : List Nat := if r ∈ resv then r ++ [113] else r
theorem row_len {stem : List Nat} {a f k : Nat} (h : a ≤ stem.length) : (row stem a f k).length = stem.length + 1 := by
  unfold row
  simp
  omega
theorem row_abc {stem : List Nat} {a f k : Nat} (h : ∀ c ∈ stem, c ∈ abc) : ∀ c ∈ row stem a f k, c ∈ abc := by
  intro c hc
  unfold row at hc
  simp only [List.mem_append, List.mem_singleton] at hc
  rcases hc with (hc | hc) | hc
  · exact h c (List.mem_of_mem_take hc)
  · rw [hc]; exact abcAt_mem _
  · exact h c (List.mem_of_mem_drop hc)
theorem row_inj {stem : List Nat} {a f i j : Nat} (hi : i < 26) (hj : j < 26) (e : row stem a f i = row stem a f j) : i = j := by
  unfold row at e
  have e1 := List.append_inj_left e (by simp)
  have e2 := List.append_inj_right e1 rfl
  exact abcAt_inj hi hj (by simpa using e2)
theorem fix_nm {r : List Nat} (h1 : 1 ≤ r.length) (h5 : r.length ≤ 5) (ha : ∀ c ∈ r, c ∈ abc) : isNm (fixR r) = true := by
  unfold fixR
  by_cases q : r ∈ resv
  · rw [if_pos q]
    have key : ∀ w ∈ resv, isNm (w ++ [113]) = true := by decide +kernel
    exact key r q
  · rw [if_neg q]
    unfold isNm
    simp only [Bool.and_eq_true, decide_eq_true_eq, List.all_eq_true, Bool.not_eq_true', decide_eq_false_iff_not]
    exact ⟨h1, by omega, q, ha⟩
theorem fix_inj {r s : List Nat} (l : r.length = s.length) (e : fixR r = fixR s) : r = s := by
  unfold fixR at e
  by_cases q : r ∈ resv <;> by_cases p : s ∈ resv
  · rw [if_pos q, if_pos p] at e
    exact List.append_inj_left e l
  · rw [if_pos q, if_neg p] at e
    have := congrArg List.length e
    simp at this
    omega
  · rw [if_neg q, if_pos p] at e
    have := congrArg List.length e
    simp at this
    omega
  · rw [if_neg q, if_neg p] at e
    exact e
def mReserved : MS :=
    (msRet (mLst (mCons (mC (.str [97, 110, 100])) (mCons (mC (.str [102, 111, 117, 110, 100])) (mCons (mC (.str [107, 101, 121])) (mCons (mC (.str [110, 101, 120, 116])) (mCons (mC (.str [110, 111, 116])) (mCons (mC (.str [111, 114])) (mCons (mC (.str [111, 119, 110])) (mCons (mC (.str [115, 101, 116])) (mCons (mC (.str [116, 114, 117, 101])) (mCons (mC (.str [119, 104, 101, 114, 101])) mNil))))))))))))
def F_reserved : PF := runP 0 mReserved
theorem reserved_ok : F_reserved [] = some (.ok (.lst (resv.map .str))) := rfl
def mNew : MS :=
    (msSeq (msAsg (mC (.str [97, 98, 99, 100, 101, 102, 103, 104, 105, 106, 107, 108, 109, 110, 111, 112, 113, 114, 115, 116, 117, 118, 119, 120, 121, 122])) (mgName 2))
    (msSeq (msAsg (mMtS dJoin (mC (.str [])) (mCons (mLc [7] (miR1 (mCons (mCallI F_pull (mCons (mVar 0) (mCons (mC (.int 5)) mNil))) mNil)) (mgName 7) mYes (mCallI F_any (mCons (mVar 0) (mCons (mVar 2) mNil)))) mNil)) (mgName 3))
    (msSeq (msAsg (mTup (mCons (mCallI F_pull (mCons (mVar 0) (mCons (mBin dAdd (mCall dLen (mCons (mVar 3) mNil)) (mC (.int 1))) mNil))) (mCons (mCallI F_pull (mCons (mVar 0) (mCons (mC (.int 26)) mNil))) mNil))) (mgTup 2 (mgCons (mgName 5) (mgCons (mgName 6) mgNil))))
    (msSeq (msAsg (mLc [7] (miR1 (mCons (mVar 1) mNil)) (mgName 7) mYes (mBin dAdd (mBin dAdd (mSl (mVar 3) mNoP (mSmP (mVar 5))) (mBin dIx (mVar 2) (mBin dSub (mBin dAdd (mVar 6) (mVar 7)) (mC (.int 26))))) (mSl (mVar 3) (mSmP (mVar 5)) mNoP))) (mgName 4))
    (msRet (mLc [8] (miL (mVar 4)) (mgName 8) mYes (mIf (mTst (mBin dInA (mVar 8) (mCallP F_reserved mNil))) (mBin dAdd (mVar 8) (mC (.str [113]))) (mVar 8))))))))
def F_new : IF := runI 9 mNew
/-- no drawn name: six letters that are the same -/
def six (c : Nat) : List Nat := [c, c, c, c, c, c]
theorem fix_six {z : List Nat} (l : z.length ≤ 5) (c : Nat) (hc : c ≠ 113) : fixR z ≠ six c := fun e => by
  unfold fixR at e
  by_cases q : z ∈ resv
  · rw [if_pos q] at e
    have h := congrArg List.getLast? e
    rw [List.getLast?_append] at h
    simp [six] at h
    omega
  · rw [if_neg q] at e
    have h := congrArg List.length e
    simp [six] at h
    omega
theorem new_namesX {k : Cell} (hk : BagI k) {many : Nat} (hm : many ≤ 26) (t : EH) : ∃ (zs : List (List Nat)) (k' : Cell), F_new [.ref 0, .int many] (k :: t) = some (.ok (.lst (zs.map .str)), k' :: t) ∧ BagI k' ∧ zs.length = many ∧ (∀ z ∈ zs, isNm z = true ∧ ∀ c, c ≠ 113 → z ≠ six c) ∧ zs.Nodup := by
  obtain ⟨n, k1, e1, n0, n5, hk1⟩ := pull_ok hk (n := 5) (by decide) (by decide) t
  obtain ⟨ys, k2, e2, ly, py, hk2⟩ := lcL_bag (g := mgName 7) (e := mCallI F_any (mCons (mVar 0) (mCons (mVar 2) mNil))) (ε := [some (.ref 0), some (.int many), some (.str abc), none, none, none, none, none, none]) (fun y => ∃ c ∈ abc, y = .str [c]) (ds := rngD 0 n.toNat) (fun d _ k t hk => by
    obtain ⟨c, k', e, hc, hk'⟩ := any_str hk (z := abc) (by decide) (by decide) t
    refine ⟨[some (.ref 0), some (.int many), some (.str abc), none, none, none, none, some d, none], .str [c], k', rfl, ?_, ⟨c, hc, rfl⟩, hk'⟩
    simp only [↓seq_ap, ↓var_ap, ↓c_ap, ↓bin_ap, ↓tst_ap, ↓not_ap, ↓and_ap, ↓or_ap, ↓if_ap, ↓andv_ap, ↓orv_ap, ↓notv_ap, ↓nil_ap, ↓cons_ap, ↓tup_ap, ↓lst_ap, ↓call_ap, ↓callP_ap, ↓callI_ap, ↓perm_ap, ↓nop_ap, ↓smp_ap, ↓sl_ap, ↓chain_ap, ↓isi_ap, ↓lc_ap, ↓lstC_ap, ↓mts_ap, ↓yes_ap, ↓il_ap, ↓it_ap, ↓is_ap, ↓ir1_ap, ↓iz_ap, ↓snil_ap, ↓ret_ap, ↓sif_ap, ↓sexpr_ap, ↓bk_ap, ↓ct_ap, ↓asg_ap, ↓for_ap, ↓par_ap, ↓gname_ap, ↓gnil_ap, ↓gcons_ap, ↓gtup_ap, ↓gsub_ap, bR_ok, bR_ex, rt_some, sq_nx, sq_rt, sq_bk, sq_ct, sq_ex, bS_ok, bS_ex, binK1_ap, binK2_ap, tstK_b, notK_ap, andK_t, andK_f, orK_t, orK_f, ifK_t, ifK_f, andV_t, andV_f, orV_t, orV_f, notV_c, consK1_ap, consK2_ap, tupK_ok, lstK_ok, callK_ap, permK_ap, smP_int, slK1_ap, slK2_ap, slK3_ap, sl_lst, sl_scr, sl_tup, chK1_ap, chK2_ap, chK3_t, chK3_f, chK4_ap, isiK_int, isiK_str, isiK_bl, isiK_non, isiK_tup, isiK_lst, mtsK_str, mtsK2_ap, ilK_lst, ilK_scr, itK_tup, isK_str, izK_l, izK_t, retK_ap, sifK_t, sifK_f, sexprK_ap, asgK_ap, bG_ok, forK_ap, parK_ok, gK_ok, subK1_ok, subK2_ok, add_int, sub_int, mod_int, lt_int, le_int, gt_int, ge_int, eq_int, eq_str, eq_bl, eq_is, eq_si, eq_bs, eq_sb, eq_nn, ne_int, ne_str, ne_bl, isn_ap, isN_int, isN_str, isN_bl, isN_tup, isN_lst, isN_non, ix_lst, ix_tup, ix_scr, len_lst, len_tup, int_int, list_lst, list_tup, tuple_lst, tuple_tup, asB_bl, getD0, getDS, set0, setS, at0, atS, map_some', bind_some', List.length_cons, List.length_nil, List.any_cons, List.any_nil, e]) k1 t hk1
  obtain ⟨cs, lc, ac, rfl⟩ := singles py
  have ln : cs.length ≤ 4 := by
    rw [lc, ly]
    unfold rngD
    simp
    omega
  have lk := lcK_ok (vs := [7]) (ε := [some (.ref 0), some (.int many), some (.str abc), none, none, none, none, none, none]) e2 (by rw [← lc]; omega)
  have ej : ∀ h : EH, dJoin h [] [.lst ((cs.map fun c => [c]).map .str)] = some (.str cs) := fun h => by
    rw [join_lst (by rw [sum_singles]; omega), flat_singles]
  obtain ⟨a, k3, e3, a0, a1, hk3⟩ := pull_ok hk2 (n := (cs.length : Int) + 1) (by omega) (by omega) t
  obtain ⟨f, k4, e4, f0, f1, hk4⟩ := pull_ok hk3 (n := 26) (by decide) (by decide) t
  obtain ⟨a, rfl⟩ : ∃ b : Nat, a = (b : Int) := ⟨a.toNat, by omega⟩
  obtain ⟨f, rfl⟩ : ∃ b : Nat, f = (b : Int) := ⟨f.toNat, by omega⟩
  have ha : a ≤ cs.length := by omega
  have hf : f < 26 := by omega
  have lr := lcL_map (g := mgName 7) (t := mYes) (e := mBin dAdd (mBin dAdd (mSl (mVar 3) mNoP (mSmP (mVar 5))) (mBin dIx (mVar 2) (mBin dSub (mBin dAdd (mVar 6) (mVar 7)) (mC (.int 26))))) (mSl (mVar 3) (mSmP (mVar 5)) mNoP))
    (ε := [some (.ref 0), some (.int many), some (.str abc), some (.str cs), none, some (.int a), some (.int f), none, none]) (h := k4 :: t) (ds := rngD 0 many) (fun d => match d with
      | .int i => .str (row cs a f i.toNat)
      | _ => .non) fun d hd => by
      unfold rngD at hd
      obtain ⟨i, hi, rfl⟩ := List.mem_map.mp hd
      have hi' : i < many := List.mem_range.mp hi
      refine ⟨[some (.ref 0), some (.int many), some (.str abc), some (.str cs), none, some (.int a), some (.int f), some (.int (0 + (i : Nat))), none], rfl, rfl, ?_⟩
      have l1 : (cs.take a).length + ([abcAt (f + i)] : List Nat).length ≤ 16777216 := by simp; omega
      have l2 : (cs.take a ++ [abcAt (f + i)]).length + (cs.drop a).length ≤ 16777216 := by simp; omega
      simp? only [sl_str _ _ (show cs.length ≤ 16777216 by omega), cut_lo ha, cut_hi ha, ix_str (show abc.length ≤ 16777216 by decide), Int.zero_add, abc_at hf (show i ≤ 26 by omega), add_str l1, add_str l2]
      rfl
  have er : (rngD 0 many).map (fun d => match d with
      | .int i => .str (row cs a f i.toNat)
      | _ => .non) = (((List.range many).map fun i => row cs a f i).map D.str) := by
    unfold rngD
    rw [List.map_map, List.map_map]
    refine List.map_congr_left fun i _ => ?_
    show D.str (row cs a f ((0 : Int) + (i : Int)).toNat) = .str (row cs a f i)
    rw [Int.zero_add]; rfl
  rw [er] at lr
  have lk2 := lcK_ok (vs := [7]) (ε := [some (.ref 0), some (.int many), some (.str abc), some (.str cs), none, some (.int a), some (.int f), none, none]) lr (by simp; omega)
  have lf := lcL_map (g := mgName 8) (t := mYes) (e := mIf (mTst (mBin dInA (mVar 8) (mCallP F_reserved mNil))) (mBin dAdd (mVar 8) (mC (.str [113]))) (mVar 8))
    (ε := [some (.ref 0), some (.int many), some (.str abc), some (.str cs), some (.lst (((List.range many).map fun i => row cs a f i).map D.str)), some (.int a), some (.int f), none, none]) (h := k4 :: t) (ds := ((List.range many).map fun i => row cs a f i).map D.str) (fun d => match d with
      | .str z => .str (fixR z)
      | _ => .non) fun d hd => by
      obtain ⟨z, hz, rfl⟩ := List.mem_map.mp hd
      obtain ⟨i, hi, rfl⟩ := List.mem_map.mp hz
      have lz : (row cs a f i).length = cs.length + 1 := row_len ha
      refine ⟨_, rfl, rfl, ?_⟩
      have l1 : (row cs a f i).length + ([113] : List Nat).length ≤ 16777216 := by rw [lz]; simp; omega
      by_cases q : row cs a f i ∈ resv
      · simp? only [callPK_ok reserved_ok rfl, in_strsL, q, add_str l1, fixR]
      · simp? only [callPK_ok reserved_ok rfl, in_strsL, q, add_str l1, fixR, if_false]
  have lk3 := lcK_ok (vs := [8]) (ε := [some (.ref 0), some (.int many), some (.str abc), some (.str cs), some (.lst (((List.range many).map fun i => row cs a f i).map D.str)), some (.int a), some (.int f), none, none]) lf (by simp; omega)
  refine ⟨((List.range many).map fun i => row cs a f i).map fixR, k4, ?_, hk4, by simp, fun z hz => ?_, ?_⟩
  · show endI _ (mNew [some (.ref 0), some (.int many), none, none, none, none, none, none, none] (k :: t)) = _
    have e1' : F_pull [.ref 0, .int 5] (k :: t) = some (.ok (.int n), k1 :: t) := e1
    have e3' : F_pull [.ref 0, .int ((cs.length : Int) + 1)] (k2 :: t) = some (.ok (.int a), k3 :: t) := e3
    have e4' : F_pull [.ref 0, .int 26] (k3 :: t) = some (.ok (.int f), k4 :: t) := e4
    have hn : -(2 ^ 62) ≤ n ∧ n < 2 ^ 62 := by omega
    have hmany : -(2 ^ 62) ≤ (many : Int) ∧ (many : Int) < 2 ^ 62 := by omega
    have r1 : ∀ h : EH, ir1K [.int n] h = some (.ok (rngD 0 n.toNat), h) := fun h => ir1K_ok hn
    have r2 : ∀ h : EH, ir1K [.int many] h = some (.ok (rngD 0 many), h) := fun h => ir1K_ok hmany
    have lk' : lcK [7] (mgName 7) mYes (mCallI F_any (mCons (mVar 0) (mCons (mVar 2) mNil))) [some (.ref 0), some (.int many), some (.str [97, 98, 99, 100, 101, 102, 103, 104, 105, 106, 107, 108, 109, 110, 111, 112, 113, 114, 115, 116, 117, 118, 119, 120, 121, 122]), none, none, none, none, none, none] (rngD 0 n.toNat) (k1 :: t) = some (.ok (.lst ((cs.map fun c => [c]).map .str)), k2 :: t) := lk
    have lk2' : lcK [7] (mgName 7) mYes (mBin dAdd (mBin dAdd (mSl (mVar 3) mNoP (mSmP (mVar 5))) (mBin dIx (mVar 2) (mBin dSub (mBin dAdd (mVar 6) (mVar 7)) (mC (.int 26))))) (mSl (mVar 3) (mSmP (mVar 5)) mNoP)) [some (.ref 0), some (.int many), some (.str [97, 98, 99, 100, 101, 102, 103, 104, 105, 106, 107, 108, 109, 110, 111, 112, 113, 114, 115, 116, 117, 118, 119, 120, 121, 122]), some (.str cs), none, some (.int a), some (.int f), none, none] (rngD 0 many) (k4 :: t) = some (.ok (.lst (((List.range many).map fun i => row cs a f i).map D.str)), k4 :: t) := lk2
    have lk3' : lcK [8] (mgName 8) mYes (mIf (mTst (mBin dInA (mVar 8) (mCallP F_reserved mNil))) (mBin dAdd (mVar 8) (mC (.str [113]))) (mVar 8)) [some (.ref 0), some (.int many), some (.str [97, 98, 99, 100, 101, 102, 103, 104, 105, 106, 107, 108, 109, 110, 111, 112, 113, 114, 115, 116, 117, 118, 119, 120, 121, 122]), some (.str cs), some (.lst (((List.range many).map fun i => row cs a f i).map D.str)), some (.int a), some (.int f), none, none] (((List.range many).map fun i => row cs a f i).map D.str) (k4 :: t) = some (.ok (.lst ((((List.range many).map fun i => row cs a f i).map fixR).map .str)), k4 :: t) := by
      rw [show ((((List.range many).map fun i => row cs a f i).map fixR).map D.str) = (((List.range many).map fun i => row cs a f i).map D.str).map (fun d => match d with
      | .str z => .str (fixR z)
      | _ => .non) by simp only [List.map_map]; rfl]
      exact lk3
    simp? only [mNew, e1', r1, lk', ej, len_str (show cs.length ≤ 16777216 by omega), e3', e4', r2, lk2', lk3']
    refine endI_ok rfl ?_
    rw [noRef]
    exact noRef_all fun d hd => by
      obtain ⟨z, _, rfl⟩ := List.mem_map.mp hd
      rfl
  · obtain ⟨r, hr, rfl⟩ := List.mem_map.mp hz
    obtain ⟨i, hi, rfl⟩ := List.mem_map.mp hr
    have lz : (row cs a f i).length = cs.length + 1 := row_len ha
    exact ⟨fix_nm (by omega) (by omega) (row_abc ac), fun c hc => fix_six (by omega) c hc⟩
  · rw [List.map_map]
    refine List.pairwise_map.mpr (List.Pairwise.imp_of_mem (R := (· ≠ ·)) (fun {i j} hi hj ne e => ne ?_) List.nodup_range)
    have hi' : i < many := List.mem_range.mp hi
    have hj' : j < many := List.mem_range.mp hj
    exact row_inj (by omega) (by omega) (fix_inj (by rw [row_len ha, row_len ha]) e)
theorem new_names {k : Cell} (hk : BagI k) {many : Nat} (hm : many ≤ 26) (t : EH) : ∃ (zs : List (List Nat)) (k' : Cell), F_new [.ref 0, .int many] (k :: t) = some (.ok (.lst (zs.map .str)), k' :: t) ∧ BagI k' ∧ zs.length = many ∧ (∀ z ∈ zs, isNm z = true) ∧ zs.Nodup := by
  obtain ⟨zs, k', h1, h2, h3, h4, h5⟩ := new_namesX hk hm t
  exact ⟨zs, k', h1, h2, h3, fun z hz => (h4 z hz).1, h5⟩
end PD
namespace PD
open PySem PySem.Spec PyProof.Rows L2
theorem nm_mem {z : List Nat} (h : isNm z = true) {c : Nat} (hc : c ∈ z) : c ∈ abc := by
  unfold isNm at h
  simp only [Bool.and_eq_true, List.all_eq_true, decide_eq_true_eq] at h
  exact h.2.2.2 c hc
theorem abc_rng {c : Nat} (h : c ∈ abc) : 97 ≤ c ∧ c ≤ 122 := by
  have key : ∀ c ∈ abc, 97 ≤ c ∧ c ≤ 122 := by decide
  exact key c h
end PD
namespace PD
open PySem PySem.Spec PyProof.Rows L2
section
variable {ε : Ev} {h : EH}
def fldK (Cs : List Str) (f : Str) (x : D) (h1 : EH) : O D := rt (dFld Cs f h1 x) h1
theorem fld_ap (Cs : List Str) (f : Str) (a : M D) : mFld Cs f a ε h = bR (a ε h) (fldK Cs f) := (rfl)
theorem fldK_ap (Cs : List Str) (f : Str) (x : D) : fldK Cs f x h = rt (dFld Cs f h x) h := (rfl)
def meiK2 (F : IF) (x : D) (ds : List D) (h2 : EH) : O D := F (x :: ds) h2
def meiK (C m : Str) (F : IF) (a : M (List D)) (ε : Ev) (x : D) (h1 : EH) : O D := match insD h1 x with
  | some (C', fs) => if C' = C ∧ fs.lookup m = none then bR (a ε h1) (meiK2 F x) else none
  | none => none
theorem mei_ap (C m : Str) (F : IF) (o : M D) (a : M (List D)) : mMeI C m F o a ε h = bR (o ε h) (meiK C m F a ε) := (rfl)
theorem meiK2_ap (F : IF) (x : D) (ds : List D) : meiK2 F x ds h = F (x :: ds) h := (rfl)
def faugK2 (Cs : List Str) (f : Str) (x z : D) (h1 : EH) (ε : Ev) (y : D) (h2 : EH) : Option (RS × EH) := match addI z y with
    | some w => if (insD h1 x).map (·.1) = (insD h2 x).map (·.1) then (putO Cs f h2 x w).map fun h3 => (.nx ε, h3) else none
    | none => none
def faugK (Cs : List Str) (f : Str) (v : M D) (ε : Ev) (x : D) (h1 : EH) : Option (RS × EH) := match dFld Cs f h1 x with
  | some z => bS (v ε h1) ε (faugK2 Cs f x z h1 ε)
  | none => none
theorem faug_ap (Cs : List Str) (f : Str) (o v : M D) : msFAug Cs f o v ε h = bS (o ε h) ε (faugK Cs f v ε) := (rfl)
def sfldK2 (Cs : List Str) (f : Str) (ε : Ev) (y x : D) (h2 : EH) : Option (RS × EH) := (putO Cs f h2 x y).map fun h3 => (.nx ε, h3)
def sfldK (Cs : List Str) (f : Str) (o : M D) (ε : Ev) (y : D) (h1 : EH) : Option (RS × EH) := bS (o ε h1) ε (sfldK2 Cs f ε y)
theorem sfld_ap (Cs : List Str) (f : Str) (o v : M D) : msFld Cs f o v ε h = bS (v ε h) ε (sfldK Cs f o ε) := (rfl)
theorem sfldK_ap (Cs : List Str) (f : Str) (o : M D) (y : D) : sfldK Cs f o ε y h = bS (o ε h) ε (sfldK2 Cs f ε y) := (rfl)
theorem sfldK2_ap (Cs : List Str) (f : Str) (y x : D) : sfldK2 Cs f ε y x h = (putO Cs f h x y).map fun h3 => (.nx ε, h3) := (rfl)
def c1K (f : D → Option D) (x : D) (h1 : EH) : O D := rt (f x) h1
theorem c1_ap (f : D → Option D) (a : M D) : mC1 f a ε h = bR (a ε h) (c1K f) := (rfl)
theorem c1K_ap (f : D → Option D) (x : D) : c1K f x h = rt (f x) h := (rfl)
def ir2K (xs : List D) (h1 : EH) : O (List D) := match xs with
  | [.int i, .int j] => if -(2 ^ 62) ≤ i ∧ i < 2 ^ 62 ∧ -(2 ^ 62) ≤ j ∧ j < 2 ^ 62 then some (.ok (rngD i (j - i).toNat), h1) else none
  | _ => none
theorem ir2_ap (a : M (List D)) : miR2 a ε h = bR (a ε h) ir2K := (rfl)
theorem ir2K_ok {i j : Int} (e : -(2 ^ 62) ≤ i ∧ i < 2 ^ 62 ∧ -(2 ^ 62) ≤ j ∧ j < 2 ^ 62) : ir2K [.int i, .int j] h = some (.ok (rngD i (j - i).toNat), h) := if_pos e
theorem forL_nil (g : MG) (b : MS) : forL g b [] ε h = some (.nx ε, h) := (rfl)
theorem forL_nx {g : MG} {b : MS} {d : D} {ds : List D} {ε1 ε2 : Ev} {h1 h2 : EH} (e1 : g d ε h = some (ε1, h1)) (e2 : b ε1 h1 = some (.nx ε2, h2)) : forL g b (d :: ds) ε h = forL g b ds ε2 h2 := by
  show (match g d ε h with
    | none => none
    | some (ε1, h1) => match b ε1 h1 with
      | some (.nx ε2, h2) => forL g b ds ε2 h2
      | some (.ct ε2, h2) => forL g b ds ε2 h2
      | some (.bk ε2, h2) => some (.nx ε2, h2)
      | some (.rt d, h2) => some (.rt d, h2)
      | some (.ex e ε2, h2) => some (.ex e ε2, h2)
      | none => none) = _
  rw [e1]
  dsimp only
  rw [e2]
end
end PD
namespace PD
open PySem PySem.Spec PyProof.Rows L2
end PD
namespace PD
open PySem PySem.Spec PyProof.Rows L2
/-- data without a bool, of a depth, with right signs -/
def okE : Nat → D → Bool
  | 0, _ => false
  | _ + 1, .non => true
  | _ + 1, .int _ => true
  | _ + 1, .str z => z.all fun c => decide (c < 1114112)
  | t + 1, .tup ds => ds.all (okE t)
  | t + 1, .lst ds => ds.all (okE t)
  | _ + 1, _ => false
theorem okE_up : ∀ {t : Nat} {d : D}, okE t d = true → okE (t + 1) d = true
  | 0, _, e => by cases e
  | t + 1, .non, _ => rfl
  | t + 1, .int _, _ => rfl
  | t + 1, .str _, e => e
  | t + 1, .tup ds, e => List.all_eq_true.mpr fun d hd => okE_up (List.all_eq_true.mp (show ds.all (okE t) = true from e) d hd)
  | t + 1, .lst ds, e => List.all_eq_true.mpr fun d hd => okE_up (List.all_eq_true.mp (show ds.all (okE t) = true from e) d hd)
  | t + 1, .bl _, e => by cases e
  | t + 1, .scr _, e => by cases e
  | t + 1, .dic _ _, e => by cases e
  | t + 1, .obj _ _, e => by cases e
  | t + 1, .ref _, e => by cases e
theorem okE_le {t u : Nat} {d : D} (h : okE t d = true) (l : t ≤ u) : okE u d = true := by
  induction l with
  | refl => exact h
  | step _ ih => exact okE_up ih
/-- of the same data -/
def pdOf : Nat → D → PyData
  | 0, _ => .none
  | _ + 1, .non => .none
  | _ + 1, .int i => .int i
  | _ + 1, .str z => .str (toS z)
  | t + 1, .tup ds => .tuple (ds.map (pdOf t))
  | t + 1, .lst ds => .list (ds.map (pdOf t))
  | _ + 1, _ => .none
theorem toPD_all {f : D → PyData} : ∀ {ds : List D}, (∀ d ∈ ds, toPD d = some (f d)) → toPD.go ds = some (ds.map f)
  | [], _ => rfl
  | d :: ds, h => by
    rw [toPD.go, h d List.mem_cons_self, toPD_all fun x hx => h x (List.mem_cons_of_mem _ hx)]
    rfl
theorem lay_all {ds : List PyData} (h : ∀ d ∈ ds, d.canLay0 = true) : PyData.canLayAll0 ds = true := by
  induction ds with
  | nil => rfl
  | cons d ds ih =>
    rw [PyData.canLayAll0, h d List.mem_cons_self, ih fun x hx => h x (List.mem_cons_of_mem _ hx)]; rfl
theorem dep_all {n : Nat} {ds : List PyData} (h : ∀ d ∈ ds, d.depth ≤ n) : PyData.depthAll ds ≤ n := by
  induction ds with
  | nil => exact Nat.zero_le _
  | cons d ds ih =>
    rw [PyData.depthAll]
    exact Nat.max_le.mpr ⟨h d List.mem_cons_self, ih fun x hx => h x (List.mem_cons_of_mem _ hx)⟩
theorem pd_ok : ∀ {t : Nat} {d : D}, okE t d = true → toPD d = some (pdOf t d) ∧ (pdOf t d).canLay0 = true ∧ (pdOf t d).depth ≤ t
  | 0, _, e => by cases e
  | t + 1, .non, _ => ⟨rfl, rfl, Nat.zero_le _⟩
  | t + 1, .int _, _ => ⟨rfl, rfl, Nat.zero_le _⟩
  | t + 1, .str z, e => by
    refine ⟨rfl, ?_, Nat.zero_le _⟩
    show (z.toArray).all (fun c => decide (c < 0x110000)) = true
    have e' : z.all (fun c => decide (c < 1114112)) = true := e
    simpa using e'
  | t + 1, .tup ds, e => by
    have h := List.all_eq_true.mp (show ds.all (okE t) = true from e)
    refine ⟨?_, ?_, ?_⟩
    · rw [toPD, toPD_all fun d hd => (pd_ok (h d hd)).1]; rfl
    · show PyData.canLayAll0 (ds.map (pdOf t)) = true
      refine lay_all fun d hd => ?_
      obtain ⟨x, hx, rfl⟩ := List.mem_map.mp hd
      exact (pd_ok (h x hx)).2.1
    · show PyData.depthAll (ds.map (pdOf t)) + 1 ≤ t + 1
      refine Nat.succ_le_succ (dep_all fun d hd => ?_)
      obtain ⟨x, hx, rfl⟩ := List.mem_map.mp hd
      exact (pd_ok (h x hx)).2.2
  | t + 1, .lst ds, e => by
    have h := List.all_eq_true.mp (show ds.all (okE t) = true from e)
    refine ⟨?_, ?_, ?_⟩
    · rw [toPD, toPD_all fun d hd => (pd_ok (h d hd)).1]; rfl
    · show PyData.canLayAll0 (ds.map (pdOf t)) = true
      refine lay_all fun d hd => ?_
      obtain ⟨x, hx, rfl⟩ := List.mem_map.mp hd
      exact (pd_ok (h x hx)).2.1
    · show PyData.depthAll (ds.map (pdOf t)) + 1 ≤ t + 1
      refine Nat.succ_le_succ (dep_all fun d hd => ?_)
      obtain ⟨x, hx, rfl⟩ := List.mem_map.mp hd
      exact (pd_ok (h x hx)).2.2
  | t + 1, .bl _, e => by cases e
  | t + 1, .scr _, e => by cases e
  | t + 1, .dic _ _, e => by cases e
  | t + 1, .obj _ _, e => by cases e
  | t + 1, .ref _, e => by cases e
theorem eqvAll_iff {f g : D → PyData} : ∀ {xs ys : List D}, (∀ x ∈ xs, ∀ y ∈ ys, PyData.eqv (f x) (g y) = true ↔ x = y) → (PyData.eqvAll (xs.map f) (ys.map g) = true ↔ xs = ys)
  | [], [], _ => ⟨fun _ => rfl, fun _ => rfl⟩
  | [], _ :: _, _ => ⟨fun h => (by cases h), fun h => (by cases h)⟩
  | _ :: _, [], _ => ⟨fun h => (by cases h), fun h => (by cases h)⟩
  | x :: xs, y :: ys, h => by
    rw [List.map_cons, List.map_cons, PyData.eqvAll, Bool.and_eq_true, h x List.mem_cons_self y List.mem_cons_self, eqvAll_iff fun a ha b hb => h a (List.mem_cons_of_mem _ ha) b (List.mem_cons_of_mem _ hb)]
    simp
theorem toS_inj {a b : List Nat} (h : toS a = toS b) : a = b := by
  have : (toS a).cps.toList = (toS b).cps.toList := by rw [h]
  simpa [toS] using this
theorem eqv_iff : ∀ {t u : Nat} {x y : D}, okE t x = true → okE u y = true → (PyData.eqv (pdOf t x) (pdOf u y) = true ↔ x = y)
  | 0, _, _, _, e, _ => by cases e
  | _ + 1, 0, _, _, _, e => by cases e
  | t + 1, u + 1, x, y, ex, ey => by
    cases x with
    | non => cases y <;> first | (cases ey; done) | simp [pdOf, PyData.eqv]
    | int i => cases y <;> first | (cases ey; done) | simp [pdOf, PyData.eqv]
    | str z =>
      cases y <;> first
        | (cases ey; done)
        | (simp only [pdOf, PyData.eqv, beq_iff_eq, D.str.injEq]; exact ⟨toS_inj, fun h => by rw [h]⟩)
        | simp [pdOf, PyData.eqv]
    | tup xs =>
      have hx := List.all_eq_true.mp (show xs.all (okE t) = true from ex)
      cases y with
      | tup ys =>
        have hy := List.all_eq_true.mp (show ys.all (okE u) = true from ey)
        simp only [pdOf, PyData.eqv, D.tup.injEq]
        exact eqvAll_iff fun a ha b hb => eqv_iff (hx a ha) (hy b hb)
      | non => simp [pdOf, PyData.eqv]
      | int _ => simp [pdOf, PyData.eqv]
      | str _ => simp [pdOf, PyData.eqv]
      | lst _ => simp [pdOf, PyData.eqv]
      | _ => cases ey
    | lst xs =>
      have hx := List.all_eq_true.mp (show xs.all (okE t) = true from ex)
      cases y with
      | lst ys =>
        have hy := List.all_eq_true.mp (show ys.all (okE u) = true from ey)
        simp only [pdOf, PyData.eqv, D.lst.injEq]
        exact eqvAll_iff fun a ha b hb => eqv_iff (hx a ha) (hy b hb)
      | non => simp [pdOf, PyData.eqv]
      | int _ => simp [pdOf, PyData.eqv]
      | str _ => simp [pdOf, PyData.eqv]
      | tup _ => simp [pdOf, PyData.eqv]
      | _ => cases ey
    | _ => cases ex
theorem dEqv_iff {t u : Nat} {x y : D} (hx : okE t x = true) (hy : okE u y = true) (ht : t ≤ 64) (hu : u ≤ 64) : ∃ b, dEqv x y = some b ∧ (b = true ↔ x = y) := by
  obtain ⟨a1, a2, a3⟩ := pd_ok hx
  obtain ⟨b1, b2, b3⟩ := pd_ok hy
  refine ⟨PyData.eqv (pdOf t x) (pdOf u y), ?_, eqv_iff hx hy⟩
  unfold dEqv
  rw [a1, b1]
  refine if_pos ⟨?_, ?_⟩
  · exact Bool.and_eq_true_iff.mpr ⟨a2, decide_eq_true (Nat.le_trans a3 ht)⟩
  · exact Bool.and_eq_true_iff.mpr ⟨b2, decide_eq_true (Nat.le_trans b3 hu)⟩
theorem scalD_iff {t u : Nat} {x y : D} (hx : okE t x = true) (hy : okE u y = true) {b : Bool} (e : scalD x y = some b) : b = true ↔ x = y := by
  cases t with
  | zero => cases hx
  | succ t =>
    cases u with
    | zero => cases hy
    | succ u =>
      cases x <;> first
        | (cases hx; done)
        | (cases y <;> first
            | (cases hy; done)
            | (cases e; done)
            | (cases e; simp))
theorem eq_data {h : EH} {t u : Nat} {x y : D} (hx : okE t x = true) (hy : okE u y = true) (ht : t ≤ 64) (hu : u ≤ 64) : ∃ b, dEq h x y = some (.bl b) ∧ dNe h x y = some (.bl (!b)) ∧ (b = true ↔ x = y) := by
  obtain ⟨b, e, i⟩ := dEqv_iff hx hy ht hu
  unfold dEq dNe dEqD
  cases q : scalD x y with
  | some c => exact ⟨c, rfl, rfl, scalD_iff hx hy q⟩
  | none =>
    rw [e]
    refine ⟨b, ?_, ?_, i⟩
    · show some (D.bl (false != b)) = _
      rw [Bool.false_bne]
    · show some (D.bl (true != b)) = _
      rw [Bool.true_bne]
theorem dEq_t {h : EH} {t : Nat} {x : D} (hx : okE t x = true) (ht : t ≤ 64) : dEq h x x = some (.bl true) := by
  obtain ⟨b, e, _, i⟩ := eq_data (h := h) hx hx ht ht
  rw [e, i.mpr rfl]
theorem dEq_f {h : EH} {t u : Nat} {x y : D} (hx : okE t x = true) (hy : okE u y = true) (ht : t ≤ 64) (hu : u ≤ 64) (n : x ≠ y) : dEq h x y = some (.bl false) := by
  obtain ⟨b, e, _, i⟩ := eq_data (h := h) hx hy ht hu
  cases b with
  | true => exact absurd (i.mp rfl) n
  | false => exact e
theorem dNe_t {h : EH} {t u : Nat} {x y : D} (hx : okE t x = true) (hy : okE u y = true) (ht : t ≤ 64) (hu : u ≤ 64) (n : x ≠ y) : dNe h x y = some (.bl true) := by
  obtain ⟨b, _, e, i⟩ := eq_data (h := h) hx hy ht hu
  cases b with
  | true => exact absurd (i.mp rfl) n
  | false => exact e
theorem forL_ct {g : MG} {b : MS} {d : D} {ds : List D} {ε ε1 ε2 : Ev} {h h1 h2 : EH} (e1 : g d ε h = some (ε1, h1)) (e2 : b ε1 h1 = some (.ct ε2, h2)) : forL g b (d :: ds) ε h = forL g b ds ε2 h2 := by
  show (match g d ε h with
    | none => none
    | some (ε1, h1) => match b ε1 h1 with
      | some (.nx ε2, h2) => forL g b ds ε2 h2
      | some (.ct ε2, h2) => forL g b ds ε2 h2
      | some (.bk ε2, h2) => some (.nx ε2, h2)
      | some (.rt d, h2) => some (.rt d, h2)
      | some (.ex e ε2, h2) => some (.ex e ε2, h2)
      | none => none) = _
  rw [e1]
  dsimp only
  rw [e2]
end PD
namespace PD
open PySem PySem.Spec PyProof.Rows L2
section
variable {ε : Ev} {h : EH}
def iaK (x : D) (h1 : EH) : O (List D) := match x with
  | .lst ds => some (.ok ds, h1)
  | .scr ds => some (.ok ds, h1)
  | .tup ds => some (.ok ds, h1)
  | _ => none
theorem ia_ap (a : M D) : miA a ε h = bR (a ε h) iaK := by
  unfold miA miL miT
  cases a ε h with
  | none => rfl
  | some z =>
    obtain ⟨r, h1⟩ := z
    cases r with
    | ex e => rfl
    | ok x => cases x <;> rfl
theorem iaK_lst (ds : List D) : iaK (.lst ds) h = some (.ok ds, h) := (rfl)
theorem iaK_tup (ds : List D) : iaK (.tup ds) h = some (.ok ds, h) := (rfl)
def ienK (xs : List D) (h1 : EH) : O (List D) := match xs with
  | [x] => (match x with
    | .lst as => some (.ok (enumD as), h1)
    | .tup as => some (.ok (enumD as), h1)
    | .scr as => some (.ok (enumD as), h1)
    | _ => none)
  | _ => none
theorem ien_ap (a : M (List D)) : miEn a ε h = bR (a ε h) ienK := (rfl)
theorem ienK_lst (ds : List D) : ienK [.lst ds] h = some (.ok (enumD ds), h) := (rfl)
theorem ienK_tup (ds : List D) : ienK [.tup ds] h = some (.ok (enumD ds), h) := (rfl)
def sortK (x : D) (h1 : EH) : O D := rt ((txD h1 x).map fun zs => .lst ((srtU zs).map .str)) h1
def lenTK (x : D) (h1 : EH) : O D := rt ((txD h1 x).map fun zs => .int (srtU zs).length) h1
theorem sort_ap (a : M D) : mSortT a ε h = bR (a ε h) sortK := (rfl)
theorem lenT_ap (a : M D) : mLenT a ε h = bR (a ε h) lenTK := (rfl)
def cgetK2 (kvs : List (List Nat × D)) (k : List Nat) (z : D) (h2 : EH) : O D := some (.ok ((lkS k kvs).getD z), h2)
def cgetK (kvs : List (List Nat × D)) (b : M D) (ε : Ev) (y : D) (h1 : EH) : O D := match y with
  | .str k => bR (b ε h1) (cgetK2 kvs k)
  | _ => none
theorem cget_ap (kvs : List (List Nat × D)) (a b : M D) : mCGet kvs a b ε h = bR (a ε h) (cgetK kvs b ε) := (rfl)
theorem cgetK_str (kvs : List (List Nat × D)) (b : M D) (k : List Nat) : cgetK kvs b ε (.str k) h = bR (b ε h) (cgetK2 kvs k) := (rfl)
theorem cgetK2_ap (kvs : List (List Nat × D)) (k : List Nat) (z : D) : cgetK2 kvs k z h = some (.ok ((lkS k kvs).getD z), h) := (rfl)
def apK2 (x y : D) (h2 : EH) : O D := (apD h2 x y).map fun h3 => (.ok .non, h3)
def apK (e : M D) (ε : Ev) (x : D) (h1 : EH) : O D := if isLc h1 x = true then bR (e ε h1) (apK2 x) else none
theorem append_ap (o e : M D) : mAppend o e ε h = bR (o ε h) (apK e ε) := (rfl)
theorem apK_ok {e : M D} {x : D} (q : isLc h x = true) : apK e ε x h = bR (e ε h) (apK2 x) := if_pos q
theorem apK2_ap (x y : D) : apK2 x y h = (apD h x y).map fun h3 => (.ok .non, h3) := (rfl)
def app2K2 (xs ys : List D) (h2 : EH) : O (List D) := some (.ok (xs ++ ys), h2)
def app2K (b : M (List D)) (ε : Ev) (xs : List D) (h1 : EH) : O (List D) := bR (b ε h1) (app2K2 xs)
theorem app2_ap (a b : M (List D)) : mApp2 a b ε h = bR (a ε h) (app2K b ε) := (rfl)
theorem app2K_ap (b : M (List D)) (xs : List D) : app2K b ε xs h = bR (b ε h) (app2K2 xs) := (rfl)
theorem app2K2_ap (xs ys : List D) : app2K2 xs ys h = some (.ok (xs ++ ys), h) := (rfl)
def par3K (i j l : Nat) (ε : Ev) (ds : List D) (h1 : EH) : Option (RS × EH) := match ds with
  | [d, e, f] => some (.nx (((ε.set i (some d)).set j (some e)).set l (some f)), h1)
  | _ => none
theorem par3_ap (i j l : Nat) (m : M (List D)) : msPar3 i j l m ε h = bS (m ε h) ε (par3K i j l ε) := (rfl)
theorem par3K_ok (i j l : Nat) (d e f : D) : par3K i j l ε [d, e, f] h = some (.nx (((ε.set i (some d)).set j (some e)).set l (some f)), h) := (rfl)
def lc2K (vs : List Nat) (g : MG) (t : M Bool) (mi1 : M (List D)) (g1 : MG) (t1 : M Bool) (e : M D) (vs1 : List Nat) (ε : Ev) (ds : List D) (h1 : EH) : O D := okL (lcL2 g t mi1 g1 t1 e vs1 ds (wipeE ε vs) h1)
theorem lc2_ap (vs : List Nat) (mi : M (List D)) (g : MG) (t : M Bool) (mi1 : M (List D)) (g1 : MG) (t1 : M Bool) (e : M D) (vs1 : List Nat) : mLc2 vs mi g t mi1 g1 t1 e vs1 ε h = bR (mi ε h) (lc2K vs g t mi1 g1 t1 e vs1 ε) := (rfl)
def prpK (C : Str) (F : PF) (x : D) (h1 : EH) : O D := match insD h1 x with
  | some (C', _) => if C' = C ∧ noRef.go [x] = true then (match F [x] with
    | some (.ok d) => some (.ok d, h1)
    | _ => none) else none
  | none => none
theorem prp_ap (C : Str) (F : PF) (o : M D) : mPrp C F o ε h = bR (o ε h) (prpK C F) := (rfl)
def mepK2 (F : PF) (x : D) (ds : List D) (h2 : EH) : O D := if noRef.go (x :: ds) = true then (F (x :: ds)).map fun r => (r, h2) else none
def mepK (C m : Str) (F : PF) (a : M (List D)) (ε : Ev) (x : D) (h1 : EH) : O D := match insD h1 x with
  | some (C', fs) => if C' = C ∧ fs.lookup m = none then bR (a ε h1) (mepK2 F x) else none
  | none => none
theorem mep_ap (C m : Str) (F : PF) (o : M D) (a : M (List D)) : mMeP C m F o a ε h = bR (o ε h) (mepK C m F a ε) := (rfl)
def mkpK (C : Str) (dd : List D) (F : IF) (ds : List D) (h1 : EH) : O D := match F (.ref h1.length :: (ds ++ dd)) (h1 ++ [.obj C []]) with
  | some (.ok .non, h2) => (match frzI h1.length h2 (.ref h1.length), trim h1.length h2 with
    | some d, some h3 => some (.ok d, h3)
    | _, _ => none)
  | some (.ex e, h2) => if noRef.gf e.fs = true then (trim h1.length h2).map fun h3 => (.ex e, h3) else none
  | _ => none
theorem mkp_ap (C : Str) (dd : List D) (F : IF) (a : M (List D)) : mMkP C dd F a ε h = bR (a ε h) (mkpK C dd F) := (rfl)
theorem max2_ap (i j : Int) : dMax2 h [.int i, .int j] = some (.int (if j > i then j else i)) := (rfl)
def augK (i : Nat) (x : D) (ε : Ev) (y : D) (h1 : EH) : Option (RS × EH) := (addI x y).map fun z => (.nx (ε.set i (some z)), h1)
theorem augK_int {i : Nat} {a b : Int} : augK i (.int a) ε (.int b) h = some (.nx (ε.set i (some (.int (a + b)))), h) := (rfl)
def negK (x : D) (h1 : EH) : O D := match x with
  | .int i => some (.ok (.int (-i)), h1)
  | _ => none
theorem neg_ap (a : M D) : mNeg a ε h = bR (a ε h) negK := (rfl)
theorem negK_int (i : Int) : negK (.int i) h = some (.ok (.int (-i)), h) := (rfl)
end
end PD
namespace PD
open PySem PySem.Spec PyProof.Rows L2
section
variable {ε : Ev} {h : EH}
theorem isiK_scr (ts : List Ty) (i : List D) : isiK ts (.scr i) h = some (.ok (.bl (ts.any (isa .lst))), h) := (rfl)
theorem len_scr (ds : List D) : dLen h [.scr ds] = some (.int ds.length) := (rfl)
def clearK (x : D) (h1 : EH) : O D := match x with
  | .ref n => (match h1[n]? with
    | some (.lst _) => some (.ok .non, h1.set n (.lst []))
    | _ => none)
  | _ => none
theorem clear_ap (o : M D) : mClear o ε h = bR (o ε h) clearK := (rfl)
theorem clearK_ok {n : Nat} {ds : List D} (e : h[n]? = some (.lst ds)) : clearK (.ref n) h = some (.ok .non, h.set n (.lst [])) := by
  unfold clearK; dsimp only; rw [e]
theorem apK_at {n : Nat} {ds : List D} {m : M D} {y : D} (e : h[n]? = some (.lst ds)) (l : ds.length ≤ 1000000) (em : m ε h = some (.ok y, h)) : apK m ε (.ref n) h = some (.ok .non, h.set n (.lst (ds ++ [y]))) := by
  have q : isLc h (.ref n) = true := by
    unfold isLc; dsimp only; rw [e]
  rw [apK_ok q, em, bR_ok]
  unfold apK2 apD
  dsimp only
  rw [e]
  dsimp only
  rw [if_pos (by unfold sizeLine; omega)]
  rfl
def callPLK (F : PF) (ds : List D) (h1 : EH) : O D := match lkL h1 ds with
  | some es => (match F es with
    | some r => if noScrR r = true then some (r, h1) else none
    | none => none)
  | none => none
theorem callPL_ap (F : PF) (a : M (List D)) : mCallPL F a ε h = bR (a ε h) (callPLK F) := (rfl)
theorem callPLK_ok {F : PF} {ds es : List D} {r : R D} (e1 : lkL h ds = some es) (e2 : F es = some r) (e3 : noScrR r = true) : callPLK F ds h = some (r, h) := by
  unfold callPLK
  rw [e1]
  dsimp only
  rw [e2]
  exact if_pos e3
theorem mbFor_ok {mi : M (List D)} {g : MG} {t : M Bool} {vs : List Nat} {b : MB} {ds ys : List D} (e : mi ε h = some (.ok ds, h)) (q : lpB g t b (wipeE ε vs) ds h = some (ys, h)) : mbFor mi g t vs b ε h = some (ys, h) := by
  unfold mbFor
  rw [e]
  exact q
mutual
theorem lk_id : ∀ {d : D}, noRef d = true → lkD h d = some d
  | .non, _ => by unfold lkD; rfl
  | .bl _, _ => by unfold lkD; rfl
  | .int _, _ => by unfold lkD; rfl
  | .str _, _ => by unfold lkD; rfl
  | .ref n, e => by cases e
  | .lst ds, e => by
    unfold lkD; rw [lkL_id (show noRef.go ds = true from e)]; rfl
  | .tup ds, e => by
    unfold lkD; rw [lkL_id (show noRef.go ds = true from e)]; rfl
  | .scr ds, e => by unfold lkD; exact if_pos e
  | .dic a b, e => by unfold lkD; exact if_pos e
  | .obj a b, e => by unfold lkD; exact if_pos e
  | .fn a b, e => by unfold lkD; exact if_pos e
  | .exc a b, e => by unfold lkD; exact if_pos e
theorem lkL_id : ∀ {ds : List D}, noRef.go ds = true → lkD.go h ds = some ds
  | [], _ => by rw [lkD.go]
  | d :: ds, e => by
    obtain ⟨e1, e2⟩ := Bool.and_eq_true_iff.mp (show (noRef d && noRef.go ds) = true from e)
    rw [lkD.go, lk_id e1, lkL_id e2]
end
theorem lk_ref {n : Nat} {ds : List D} (e : h[n]? = some (.lst ds)) (r : noRef.go ds = true) : lkD h (.ref n) = some (.scr ds) := by
  unfold lkD
  rw [e]
  exact if_pos r
theorem lkL_cons {d e : D} {ds es : List D} (h1 : lkD h d = some e) (h2 : lkD.go h ds = some es) : lkD.go h (d :: ds) = some (e :: es) := by
  rw [lkD.go, h1, h2]
theorem lkL_nil : lkD.go h [] = some [] := by rw [lkD.go]
theorem lk_lst {ds es : List D} (e : lkD.go h ds = some es) : lkD h (.lst ds) = some (.lst es) := by
  unfold lkD; rw [e]; rfl
theorem endA_ok {n : Nat} {x : Cell} (e : h.length = n) : endA n (some (.rt (.ref h.length), h ++ [x])) = some (.ok (.ref n), h ++ [x]) := by
  subst e
  unfold endA
  dsimp only
  exact if_pos ⟨rfl, by simp⟩
theorem forL_bagT {g : MG} {b : MS} {n : Nat} {x : D} (body : ∀ (d : D) (k : Cell) (t : EH) (r : Ev), BagI k → t.all pureC = true → r.length = n → ∃ (ε1 r' : Ev) (k' : Cell) (t' : EH), g d (some x :: some (.ref 0) :: r) (k :: t) = some (ε1, k :: t) ∧
    (b ε1 (k :: t) = some (.nx (some x :: some (.ref 0) :: r'), k' :: t') ∨ b ε1 (k :: t) = some (.ct (some x :: some (.ref 0) :: r'), k' :: t')) ∧ r'.length = n ∧ BagI k' ∧ t'.all pureC = true) : ∀ (ds : List D) (k : Cell) (t : EH) (r : Ev), BagI k → t.all pureC = true → r.length = n →
    ∃ (r' : Ev) (k' : Cell) (t' : EH), forL g b ds (some x :: some (.ref 0) :: r) (k :: t) = some (.nx (some x :: some (.ref 0) :: r'), k' :: t') ∧ r'.length = n ∧ BagI k' ∧ t'.all pureC = true
  | [], k, t, r, hk, ht, hr => ⟨r, k, t, rfl, hr, hk, ht⟩
  | d :: ds, k, t, r, hk, ht, hr => by
    obtain ⟨ε1, r1, k1, t1, e1, e2, l1, hk1, ht1⟩ := body d k t r hk ht hr
    obtain ⟨r2, k2, t2, e3, l2, hk2, ht2⟩ := forL_bagT body ds k1 t1 r1 hk1 ht1 l1
    refine ⟨r2, k2, t2, ?_, l2, hk2, ht2⟩
    rcases e2 with e2 | e2
    · rw [forL_nx e1 e2, e3]
    · rw [forL_ct e1 e2, e3]
end
end PD
namespace PV
open PySem PySem.Spec PyProof.Rows L2 PD
def g_GREATEST : D := (.int 1000000000000000000000000000000)
def g_LETTERS : D := (.str [97, 98, 99, 100, 101, 102, 103, 104, 105, 106, 107, 108, 109, 110, 111, 112, 113, 114, 115, 116, 117, 118, 119, 120, 121, 122])
def g_RESERVED : D := (.tup [(.str [97, 110, 100]), (.str [102, 111, 117, 110, 100]), (.str [107, 101, 121]), (.str [110, 101, 120, 116]), (.str [110, 111, 116]), (.str [111, 114]), (.str [111, 119, 110]), (.str [115, 101, 116]), (.str [116, 114, 117, 101]), (.str [119, 104, 101, 114, 101])])
def g_MOST_DEPTH : D := (.int 6)
def kv_SIGNS : List (List Nat × D) := [([97, 116, 109, 111, 115, 116], (.str [60, 61])), ([98, 101, 108, 111, 119], (.str [60])), ([115, 97, 109, 101], (.str [61]))]
def N__law_draws : List Str := ["_law_script", "_law_seed", "_law_cell"]
def mb__law_draws_0 : MS :=
    (msAsg (mBin dMod (mCall dInt (mCons (mBin dAdd (mBin dAdd (mBin dMul (mVar 1) (mC (.int 44021))) (mBin dMod (mCall dInt (mCons (mVar 2) mNil)) (mC (.int 2147483489)))) (mC (.int 53))) mNil)) (mC (.int 2147483549))) (mgName 1))
def m__law_draws : MS :=
    (msSeq (msAsg (mC (.int 5648)) (mgName 1))
    (msSeq (msFor (miL (mSl (mVar 0) mNoP (mSmP (mC (.int 63))))) (mgName 2) mb__law_draws_0)
    (msRet (mLstC (mCons (mCall dList (mCons (mSl (mVar 0) mNoP (mSmP (mC (.int 63)))) mNil)) (mCons (mC (.int 0)) (mCons (mC (.int 0)) (mCons (mVar 1) (mCons (mC (.int 0)) mNil)))))))))
def F__law_draws : IF := runA N__law_draws.length m__law_draws
def N__law_like : List Str := ["_law_a", "_law_b", "_law_same", "_law_c", "_law_d"]
def m__law_like (F : PF) : MS :=
    (msSeq (msIf (mTst (mIsi [.lst, .tup] (mVar 1))) (msSeq (msAsg (mAndV (mBin dEq (mIsi [.lst] (mVar 0)) (mIsi [.lst] (mVar 1))) (mBin dEq (mIsi [.tup] (mVar 0)) (mIsi [.tup] (mVar 1)))) (mgName 2))
    (msRet (mAndV (mVar 2) (mAndV (mBin dEq (mCall dLen (mCons (mVar 0) mNil)) (mCall dLen (mCons (mVar 1) mNil))) (mCall dAll (mCons (mLc [3, 4] (miZip (mCons (mVar 0) (mCons (mVar 1) mNil))) (mgTup 2 (mgCons (mgName 3) (mgCons (mgName 4) mgNil))) mYes (mCallP F (mCons (mVar 3) (mCons (mVar 4) mNil)))) mNil)))))) msNil)
    (msSeq (msIf (mOr (mTst (mBin (dIsN false) (mVar 0) (mC .non))) (mOr (mTst (mBin (dIsN false) (mVar 1) (mC .non))) (mTst (mBin dNe (mIsi [.bool] (mVar 0)) (mIsi [.bool] (mVar 1)))))) (msRet (mAndV (mBin (dIsN false) (mVar 0) (mC .non)) (mBin (dIsN false) (mVar 1) (mC .non)))) msNil)
    (msRet (mAndV (mBin dEq (mIsi [.int] (mVar 0)) (mIsi [.int] (mVar 1))) (mAndV (mBin dEq (mIsi [.str] (mVar 0)) (mIsi [.str] (mVar 1))) (mBin dEq (mVar 0) (mVar 1)))))))
def F__law_like_ : Nat → PF
  | 0 => fun _ => none
  | t + 1 => runP N__law_like.length (m__law_like (F__law_like_ t))
def F__law_like : PF := F__law_like_ 30
def N__law_pull : List Str := ["_law_bag", "_law_sides", "_law_seed", "_law_cell", "_law_digit"]
def m__law_pull : MS :=
    (msSeq (msAsg (mBin dAdd (mBin dIx (mVar 0) (mC (.int 4))) (mC (.int 1))) (mgSub (mVar 0) (mC (.int 4))))
    (msSeq (msIf (mAnd (mTst (mBin dEq (mBin dIx (mVar 0) (mC (.int 2))) (mC (.int 0)))) (mTst (mBin dLt (mBin dIx (mVar 0) (mC (.int 1))) (mCall dLen (mCons (mBin dIx (mVar 0) (mC (.int 0))) mNil))))) (msSeq (msAsg (mTup (mCons (mBin dIx (mBin dIx (mVar 0) (mC (.int 0))) (mBin dIx (mVar 0) (mC (.int 1)))) (mCons (mBin dAdd (mBin dIx (mVar 0) (mC (.int 1))) (mC (.int 1))) mNil))) (mgTup 2 (mgCons (mgName 3) (mgCons (mgSub (mVar 0) (mC (.int 1))) mgNil))))
    (msSeq (msIf (mTst (mBin dGe (mVar 3) (mBin dPow (mC (.int 10)) (mC (.int 18))))) (msAsg (mVar 3) (mgSub (mVar 0) (mC (.int 2)))) msNil)
    (msAsg (mBin dMod (mCall dInt (mCons (mBin dAdd (mBin dAdd (mBin dMul (mBin dIx (mVar 0) (mC (.int 3))) (mC (.int 38377))) (mBin dMul (mBin dMod (mCall dInt (mCons (mVar 3) mNil)) (mC (.int 2147483489))) (mC (.int 41143)))) (mC (.int 61))) mNil)) (mC (.int 2147483549))) (mgSub (mVar 0) (mC (.int 3)))))) msNil)
    (msSeq (msIf (mTst (mBin dGt (mBin dIx (mVar 0) (mC (.int 2))) (mC (.int 0)))) (msSeq (msAsg (mTup (mCons (mBin dMod (mCall dInt (mCons (mBin dIx (mVar 0) (mC (.int 2))) mNil)) (mVar 1)) (mCons (mBin dDiv (mBin dIx (mVar 0) (mC (.int 2))) (mVar 1)) mNil))) (mgTup 2 (mgCons (mgName 4) (mgCons (mgSub (mVar 0) (mC (.int 2))) mgNil))))
    (msRet (mVar 4))) msNil)
    (msSeq (msAsg (mBin dIx (mVar 0) (mC (.int 3))) (mgName 2))
    (msSeq (msAsg (mBin dMod (mCall dInt (mCons (mBin dAdd (mBin dAdd (mBin dAdd (mBin dPow (mVar 2) (mC (.int 3))) (mBin dMul (mVar 2) (mC (.int 37813)))) (mBin dMul (mBin dIx (mVar 0) (mC (.int 4))) (mC (.int 1299689)))) (mC (.int 65437))) mNil)) (mC (.int 2147483549))) (mgSub (mVar 0) (mC (.int 3))))
    (msRet (mBin dMod (mCall dInt (mCons (mBin dAdd (mBin dDiv (mBin dIx (mVar 0) (mC (.int 3))) (mC (.int 89))) (mBin dMul (mBin dMod (mCall dInt (mCons (mBin dIx (mVar 0) (mC (.int 3))) mNil)) (mC (.int 7919))) (mC (.int 71)))) mNil)) (mVar 1))))))))
def F__law_pull : IF := runI N__law_pull.length m__law_pull
def N__law_any : List Str := ["_law_bag", "_law_rows"]
def m__law_any : MS :=
    (msRet (mBin dIx (mVar 1) (mCallI F__law_pull (mCons (mVar 0) (mCons (mCall dLen (mCons (mVar 1) mNil)) mNil)))))
def F__law_any : IF := runI N__law_any.length m__law_any
def N__law_reserved : List Str := []
def m__law_reserved : MS :=
    (msRet (mLst (mCons (mC (.str [97, 110, 100])) (mCons (mC (.str [102, 111, 117, 110, 100])) (mCons (mC (.str [107, 101, 121])) (mCons (mC (.str [110, 101, 120, 116])) (mCons (mC (.str [110, 111, 116])) (mCons (mC (.str [111, 114])) (mCons (mC (.str [111, 119, 110])) (mCons (mC (.str [115, 101, 116])) (mCons (mC (.str [116, 114, 117, 101])) (mCons (mC (.str [119, 104, 101, 114, 101])) mNil))))))))))))
def F__law_reserved : PF := runP N__law_reserved.length m__law_reserved
def N__law_new_names : List Str := ["_law_bag", "_law_many", "_law_abc", "_law_stem", "_law_rows", "_law_at", "_law_first", "_law_k", "_law_row"]
def me__law_new_names_0 : M D :=
    (mIf (mTst (mBin dInA (mVar 8) (mCallP F__law_reserved mNil))) (mBin dAdd (mVar 8) (mC (.str [113]))) (mVar 8))
def me__law_new_names_1 : M D :=
    (mBin dAdd (mBin dAdd (mSl (mVar 3) mNoP (mSmP (mVar 5))) (mBin dIx (mVar 2) (mBin dSub (mBin dAdd (mVar 6) (mVar 7)) (mC (.int 26))))) (mSl (mVar 3) (mSmP (mVar 5)) mNoP))
def m__law_new_names : MS :=
    (msSeq (msAsg (mC (.str [97, 98, 99, 100, 101, 102, 103, 104, 105, 106, 107, 108, 109, 110, 111, 112, 113, 114, 115, 116, 117, 118, 119, 120, 121, 122])) (mgName 2))
    (msSeq (msAsg (mMtS dJoin (mC (.str [])) (mCons (mLc [7] (miR1 (mCons (mCallI F__law_pull (mCons (mVar 0) (mCons (mC (.int 5)) mNil))) mNil)) (mgName 7) mYes (mCallI F__law_any (mCons (mVar 0) (mCons (mVar 2) mNil)))) mNil)) (mgName 3))
    (msSeq (msAsg (mTup (mCons (mCallI F__law_pull (mCons (mVar 0) (mCons (mBin dAdd (mCall dLen (mCons (mVar 3) mNil)) (mC (.int 1))) mNil))) (mCons (mCallI F__law_pull (mCons (mVar 0) (mCons (mC (.int 26)) mNil))) mNil))) (mgTup 2 (mgCons (mgName 5) (mgCons (mgName 6) mgNil))))
    (msSeq (msAsg (mLc [7] (miR1 (mCons (mVar 1) mNil)) (mgName 7) mYes me__law_new_names_1) (mgName 4))
    (msRet (mLc [8] (miL (mVar 4)) (mgName 8) mYes me__law_new_names_0))))))
def F__law_new_names : IF := runI N__law_new_names.length m__law_new_names
def N__law_near : List Str := ["_law_bag"]
def m__law_near : MS :=
    (msRet (mCallI F__law_any (mCons (mVar 0) (mCons (mLst (mCons (mC (.int 0)) (mCons (mC (.int 1)) (mCons (mC (.int 1)) (mCons (mC (.int 2)) (mCons (mC (.int 3)) (mCons (mBin dSub (mC (.int 0)) (mC (.int 1))) (mCons (mBin dSub (mC (.int 0)) (mC (.int 2))) mNil)))))))) mNil))))
def F__law_near : IF := runI N__law_near.length m__law_near
def N__law_some_value : List Str := ["_law_bag", "_law_pool", "_law_plain"]
def m__law_some_value : MS :=
    (msSeq (msAsg (mCallI F__law_any (mCons (mVar 0) (mCons (mBin dAdd (mVar 1) (mLst (mCons (mTup (mCons (mC (.str [110, 117, 109, 98, 101, 114])) (mCons (mCallI F__law_near (mCons (mVar 0) mNil)) mNil))) mNil))) mNil))) (mgName 2))
    (msRet (mIf (mTst (mBin dEq (mCallI F__law_pull (mCons (mVar 0) (mCons (mC (.int 3)) mNil))) (mC (.int 0)))) (mTup (mCons (mC (.str [112, 108, 117, 115])) (mCons (mVar 2) (mCons (mCallI F__law_near (mCons (mVar 0) mNil)) mNil)))) (mVar 2))))
def F__law_some_value : IF := runI N__law_some_value.length m__law_some_value
def N__law_some_compared : List Str := ["_law_bag", "_law_pool", "_law_one"]
def m__law_some_compared : MS :=
    (msSeq (msAsg (mIf (mTst (mBin dNe (mVar 1) (mLst mNil))) (mCallI F__law_any (mCons (mVar 0) (mCons (mVar 1) mNil))) (mTup (mCons (mC (.str [110, 117, 109, 98, 101, 114])) (mCons (mCallI F__law_near (mCons (mVar 0) mNil)) mNil)))) (mgName 2))
    (msSeq (msIf (mTst (mBin dEq (mCallI F__law_pull (mCons (mVar 0) (mCons (mC (.int 4)) mNil))) (mC (.int 0)))) (msAsg (mTup (mCons (mC (.str [112, 108, 117, 115])) (mCons (mVar 2) (mCons (mCallI F__law_near (mCons (mVar 0) mNil)) mNil)))) (mgName 2)) msNil)
    (msRet (mTup (mCons (mCallI F__law_any (mCons (mVar 0) (mCons (mLst (mCons (mC (.str [97, 116, 109, 111, 115, 116])) (mCons (mC (.str [98, 101, 108, 111, 119])) (mCons (mC (.str [98, 101, 108, 111, 119])) (mCons (mC (.str [115, 97, 109, 101])) mNil))))) mNil))) (mCons (mVar 2) (mCons (mCallI F__law_some_value (mCons (mVar 0) (mCons (mVar 1) mNil))) mNil)))))))
def F__law_some_compared : IF := runI N__law_some_compared.length m__law_some_compared
def N__law_some_condition : List Str := ["_law_bag", "_law_pool", "_law_deep", "_law_way", "_law_word"]
def m__law_some_condition (F : IF) : MS :=
    (msSeq (msAsg (mIf (mTst (mBin dGt (mVar 2) (mC (.int 0)))) (mCallI F__law_pull (mCons (mVar 0) (mCons (mC (.int 7)) mNil))) (mCallI F__law_pull (mCons (mVar 0) (mCons (mC (.int 3)) mNil)))) (mgName 3))
    (msSeq (msIf (mTst (mBin dLt (mVar 3) (mC (.int 1)))) (msRet (mTup (mCons (mC (.str [116, 114, 117, 101])) mNil))) msNil)
    (msSeq (msIf (mTst (mBin dLt (mVar 3) (mC (.int 4)))) (msRet (mCallI F__law_some_compared (mCons (mVar 0) (mCons (mVar 1) mNil)))) msNil)
    (msSeq (msIf (mTst (mBin dEq (mVar 3) (mC (.int 4)))) (msRet (mTup (mCons (mC (.str [110, 111, 116])) (mCons (mCallI F (mCons (mVar 0) (mCons (mVar 1) (mCons (mBin dSub (mVar 2) (mC (.int 1))) mNil)))) mNil)))) msNil)
    (msSeq (msAsg (mIf (mTst (mBin dEq (mVar 3) (mC (.int 5)))) (mC (.str [97, 110, 100])) (mC (.str [111, 114]))) (mgName 4))
    (msRet (mTup (mCons (mVar 4) (mCons (mCallI F (mCons (mVar 0) (mCons (mVar 1) (mCons (mBin dSub (mVar 2) (mC (.int 1))) mNil)))) (mCons (mCallI F (mCons (mVar 0) (mCons (mVar 1) (mCons (mBin dSub (mVar 2) (mC (.int 1))) mNil)))) mNil))))))))))
def F__law_some_condition_ : Nat → IF
  | 0 => fun _ _ => none
  | t + 1 => runI N__law_some_condition.length (m__law_some_condition (F__law_some_condition_ t))
def F__law_some_condition : IF := F__law_some_condition_ 8
def N_is_integer : List Str := ["value"]
def m_is_integer : MS :=
    (msRet (mAndV (mIsi [.int] (mVar 0)) (mNotV (mIsi [.bool] (mVar 0)))))
def F_is_integer : PF := runP N_is_integer.length m_is_integer
def N_is_constant : List Str := ["value"]
def m_is_constant : MS :=
    (msRet (mAndV (mCallP F_is_integer (mCons (mVar 0) mNil)) (mChain dLe dLe (mBin dSub (mC (.int 0)) (mC g_GREATEST)) (mVar 0) (mC g_GREATEST))))
def F_is_constant : PF := runP N_is_constant.length m_is_constant
def N_is_name : List Str := ["value", "letter"]
def m_is_name : MS :=
    (msSeq (msIf (mOr (mNot (mTst (mIsi [.str] (mVar 0)))) (mOr (mNot (mTst (mChain dLe dLe (mC (.int 1)) (mCall dLen (mCons (mVar 0) mNil)) (mC (.int 6))))) (mTst (mBin dInA (mVar 0) (mC g_RESERVED))))) (msRet (mC (.bl false))) msNil)
    (msRet (mCall dAll (mCons (mLc [1] (miS (mVar 0)) (mgName 1) mYes (mBin dInA (mVar 1) (mC g_LETTERS))) mNil))))
def F_is_name : PF := runP N_is_name.length m_is_name
def N_is_column : List Str := ["value"]
def m_is_column : MS :=
    (msRet (mAndV (mIsi [.str] (mVar 0)) (mOrV (mBin dEq (mVar 0) (mC (.str [107, 101, 121]))) (mCallP F_is_name (mCons (mVar 0) mNil)))))
def F_is_column : PF := runP N_is_column.length m_is_column
def N_is_plain : List Str := ["value"]
def m_is_plain : MS :=
    (msSeq (msIf (mOr (mNot (mTst (mIsi [.tup] (mVar 0)))) (mOr (mTst (mBin dLt (mCall dLen (mCons (mVar 0) mNil)) (mC (.int 2)))) (mNot (mTst (mIsi [.str] (mBin dIx (mVar 0) (mC (.int 0)))))))) (msRet (mC (.bl false))) msNil)
    (msSeq (msIf (mTst (mBin dEq (mBin dIx (mVar 0) (mC (.int 0))) (mC (.str [102, 105, 101, 108, 100])))) (msRet (mAndV (mBin dEq (mCall dLen (mCons (mVar 0) mNil)) (mC (.int 3))) (mAndV (mCallP F_is_name (mCons (mBin dIx (mVar 0) (mC (.int 1))) mNil)) (mCallP F_is_column (mCons (mBin dIx (mVar 0) (mC (.int 2))) mNil))))) msNil)
    (msSeq (msIf (mTst (mBin dNe (mCall dLen (mCons (mVar 0) mNil)) (mC (.int 2)))) (msRet (mC (.bl false))) msNil)
    (msSeq (msIf (mTst (mBin dEq (mBin dIx (mVar 0) (mC (.int 0))) (mC (.str [110, 117, 109, 98, 101, 114])))) (msRet (mCallP F_is_constant (mCons (mBin dIx (mVar 0) (mC (.int 1))) mNil))) msNil)
    (msSeq (msIf (mTst (mBin dEq (mBin dIx (mVar 0) (mC (.int 0))) (mC (.str [110, 97, 109, 101])))) (msRet (mCallP F_is_name (mCons (mBin dIx (mVar 0) (mC (.int 1))) mNil))) msNil)
    (msRet (mAndV (mBin dInA (mBin dIx (mVar 0) (mC (.int 0))) (mTup (mCons (mC (.str [111, 119, 110])) (mCons (mC (.str [110, 101, 120, 116])) mNil)))) (mCallP F_is_column (mCons (mBin dIx (mVar 0) (mC (.int 1))) mNil)))))))))
def F_is_plain : PF := runP N_is_plain.length m_is_plain
def N_is_value : List Str := ["value"]
def m_is_value : MS :=
    (msSeq (msIf (mAnd (mTst (mIsi [.tup] (mVar 0))) (mAnd (mTst (mBin dEq (mCall dLen (mCons (mVar 0) mNil)) (mC (.int 3)))) (mAnd (mTst (mIsi [.str] (mBin dIx (mVar 0) (mC (.int 0))))) (mTst (mBin dEq (mBin dIx (mVar 0) (mC (.int 0))) (mC (.str [112, 108, 117, 115]))))))) (msRet (mAndV (mCallP F_is_plain (mCons (mBin dIx (mVar 0) (mC (.int 1))) mNil)) (mCallP F_is_constant (mCons (mBin dIx (mVar 0) (mC (.int 2))) mNil)))) msNil)
    (msRet (mCallP F_is_plain (mCons (mVar 0) mNil))))
def F_is_value : PF := runP N_is_value.length m_is_value
def N_inner_parts : List Str := ["condition", "at"]
def me_inner_parts_0 : M D :=
    (mTup (mCons (mVar 1) (mCons (mBin dIx (mVar 0) (mVar 1)) mNil)))
def m_inner_parts : MS :=
    (msSeq (msIf (mTst (mBin dNinA (mBin dIx (mVar 0) (mC (.int 0))) (mTup (mCons (mC (.str [110, 111, 116])) (mCons (mC (.str [97, 110, 100])) (mCons (mC (.str [111, 114])) mNil)))))) (msRet (mLst mNil)) msNil)
    (msRet (mLc [1] (miR2 (mCons (mC (.int 1)) (mCons (mCall dLen (mCons (mVar 0) mNil)) mNil))) (mgName 1) mYes me_inner_parts_0)))
def F_inner_parts : PF := runP N_inner_parts.length m_inner_parts
def N_has_form : List Str := ["condition", "word"]
def m_has_form : MS :=
    (msSeq (msIf (mOr (mNot (mTst (mIsi [.tup] (mVar 0)))) (mOr (mTst (mBin dEq (mCall dLen (mCons (mVar 0) mNil)) (mC (.int 0)))) (mNot (mTst (mIsi [.str] (mBin dIx (mVar 0) (mC (.int 0)))))))) (msRet (mC (.bl false))) msNil)
    (msSeq (msAsg (mBin dIx (mVar 0) (mC (.int 0))) (mgName 1))
    (msSeq (msIf (mTst (mC1 (dCIn false kv_SIGNS) (mVar 1))) (msRet (mAndV (mBin dEq (mCall dLen (mCons (mVar 0) mNil)) (mC (.int 3))) (mAndV (mCallP F_is_value (mCons (mBin dIx (mVar 0) (mC (.int 1))) mNil)) (mCallP F_is_value (mCons (mBin dIx (mVar 0) (mC (.int 2))) mNil))))) msNil)
    (msSeq (msIf (mTst (mBin dEq (mVar 1) (mC (.str [102, 111, 117, 110, 100])))) (msRet (mAndV (mBin dEq (mCall dLen (mCons (mVar 0) mNil)) (mC (.int 2))) (mCallP F_is_name (mCons (mBin dIx (mVar 0) (mC (.int 1))) mNil)))) msNil)
    (msRet (mBin dEq (mCall dLen (mCons (mVar 0) mNil)) (mDGet2 (mDisp [((mC (.str [116, 114, 117, 101])), (mC (.int 1))), ((mC (.str [110, 111, 116])), (mC (.int 2))), ((mC (.str [97, 110, 100])), (mC (.int 3))), ((mC (.str [111, 114])), (mC (.int 3)))]) (mVar 1) (mC (.int 0)))))))))
def F_has_form : PF := runP N_has_form.length m_has_form
def N_wrong_path : List Str := ["condition", "path", "at", "inner", "found"]
def mb_wrong_path_0 (F : PF) : MS :=
    (msSeq (msAsg (mCallP F (mCons (mVar 3) (mCons (mTup (mStar (mVar 1) (mCons (mVar 2) mNil))) mNil))) (mgName 4))
    (msIf (mTst (mBin (dIsN true) (mVar 4) (mC .non))) (msRet (mVar 4)) msNil))
def m_wrong_path (F : PF) : MS :=
    (msSeq (msIf (mOr (mTst (mBin dGe (mCall dLen (mCons (mVar 1) mNil)) (mC g_MOST_DEPTH))) (mNot (mTst (mCallP F_has_form (mCons (mVar 0) mNil))))) (msRet (mVar 1)) msNil)
    (msSeq (msFor (miL (mCallP F_inner_parts (mCons (mVar 0) mNil))) (mgTup 2 (mgCons (mgName 2) (mgCons (mgName 3) mgNil))) (mb_wrong_path_0 F))
    (msRet (mC .non))))
def F_wrong_path_ : Nat → PF
  | 0 => fun _ => none
  | t + 1 => runP N_wrong_path.length (m_wrong_path (F_wrong_path_ t))
def F_wrong_path : PF := F_wrong_path_ 12
def N_check_condition : List Str := ["condition", "path"]
def m_check_condition : MS :=
    (msSeq (msAsg (mCallP F_wrong_path (mCons (mVar 0) (mCons (mTup mNil) mNil))) (mgName 1))
    (msIf (mTst (mBin (dIsN true) (mVar 1) (mC .non))) (msRaise "InvalidCondition" (some "path") [73, 110, 118, 97, 108, 105, 100, 67, 111, 110, 100, 105, 116, 105, 111, 110] (mCons (mVar 1) mNil)) msNil))
def F_check_condition : PF := runP N_check_condition.length m_check_condition
end PV
namespace PV
open PySem PD
theorem con_of {i : Int} (h : -1000000000000000000000000000000 ≤ i ∧ i ≤ 1000000000000000000000000000000) : isCon i = true := by
  unfold isCon
  simp only [Bool.and_eq_true, decide_eq_true_eq]
  omega
end PV
local macro_rules
  | `(tactic| dsimp! only [$xs,*] $[$l]?) => `(tactic| simp only [↓PD.seq_ap, ↓PD.var_ap, ↓PD.c_ap, ↓PD.bin_ap, ↓PD.tst_ap, ↓PD.not_ap, ↓PD.and_ap, ↓PD.or_ap, ↓PD.if_ap, ↓PD.andv_ap, ↓PD.orv_ap, ↓PD.notv_ap, ↓PD.nil_ap, ↓PD.cons_ap, ↓PD.tup_ap, ↓PD.lst_ap, ↓PD.call_ap, ↓PD.callP_ap, ↓PD.callI_ap, ↓PD.perm_ap, ↓PD.nop_ap, ↓PD.smp_ap, ↓PD.sl_ap, ↓PD.chain_ap, ↓PD.isi_ap, ↓PD.lc_ap, ↓PD.lstC_ap, ↓PD.mts_ap, ↓PD.yes_ap, ↓PD.il_ap, ↓PD.it_ap, ↓PD.is_ap, ↓PD.ir1_ap, ↓PD.iz_ap, ↓PD.snil_ap, ↓PD.ret_ap, ↓PD.sif_ap, ↓PD.sexpr_ap, ↓PD.bk_ap, ↓PD.ct_ap, ↓PD.asg_ap, ↓PD.for_ap, ↓PD.par_ap, ↓PD.gname_ap, ↓PD.gnil_ap, ↓PD.gcons_ap, ↓PD.gtup_ap, ↓PD.gsub_ap, PD.bR_ok, PD.bR_ex, PD.rt_some, PD.sq_nx, PD.sq_rt, PD.sq_bk, PD.sq_ct, PD.sq_ex, PD.bS_ok, PD.bS_ex, PD.binK1_ap, PD.binK2_ap, PD.tstK_b, PD.notK_ap, PD.andK_t, PD.andK_f, PD.orK_t, PD.orK_f, PD.ifK_t, PD.ifK_f, PD.andV_t, PD.andV_f, PD.orV_t, PD.orV_f, PD.notV_c, PD.consK1_ap, PD.consK2_ap, PD.tupK_ok, PD.lstK_ok, PD.callK_ap, PD.permK_ap, PD.smP_int, PD.slK1_ap, PD.slK2_ap, PD.slK3_ap, PD.sl_lst, PD.sl_scr, PD.sl_tup, PD.chK1_ap, PD.chK2_ap, PD.chK3_t, PD.chK3_f, PD.chK4_ap, PD.isiK_int, PD.isiK_str, PD.isiK_bl, PD.isiK_non, PD.isiK_tup, PD.isiK_lst, PD.mtsK_str, PD.mtsK2_ap, PD.ilK_lst, PD.ilK_scr, PD.itK_tup, PD.isK_str, PD.izK_l, PD.izK_t, PD.retK_ap, PD.sifK_t, PD.sifK_f, PD.sexprK_ap, PD.asgK_ap, PD.bG_ok, PD.forK_ap, PD.parK_ok, PD.gK_ok, PD.subK1_ok, PD.subK2_ok, PD.add_int, PD.sub_int, PD.mod_int, PD.lt_int, PD.le_int, PD.gt_int, PD.ge_int, PD.eq_int, PD.eq_str, PD.eq_bl, PD.eq_is, PD.eq_si, PD.eq_bs, PD.eq_sb, PD.eq_nn, PD.ne_int, PD.ne_str, PD.ne_bl, PD.isn_ap, PD.isN_int, PD.isN_str, PD.isN_bl, PD.isN_tup, PD.isN_lst, PD.isN_non, PD.ix_lst, PD.ix_tup, PD.ix_scr, PD.len_lst, PD.len_tup, PD.int_int, PD.list_lst, PD.list_tup, PD.tuple_lst, PD.tuple_tup, PD.asB_bl, PD.getD0, PD.getDS, PD.set0, PD.setS, PD.at0, PD.atS, PD.map_some', PD.bind_some', List.length_cons, List.length_nil, List.any_cons, List.any_nil, ↓PD.fld_ap, ↓PD.mei_ap, ↓PD.faug_ap, ↓PD.c1_ap, ↓PD.ir2_ap, ↓PD.sfld_ap, PD.fldK_ap, PD.meiK2_ap, PD.c1K_ap, PD.sfldK_ap, PD.sfldK2_ap, decide_true, decide_false, and_self, Nat.reduceLeDiff, Nat.reduceAdd, if_true, Int.reduceLT, Int.reduceNeg, Int.reducePow, Int.reduceToNat, Int.reduceLE, Nat.reduceLT, Int.reduceAdd, Int.reduceSub, Bool.not_true, Bool.not_false, Int.reduceEq, bne_self_eq_false, Bool.false_bne, Bool.true_bne, Int.reduceBNe, $xs,*] $[$l]?)
namespace PV
open PySem PD
def rdF (s : List Nat) (k : Nat) : List (Str × D) := [("source", .str s), ("spot", .int k)]
def rd (s : List Nat) (k : Nat) : Cell := .obj "ConditionReader" (rdF s k)
def stops : List Nat := [32, 40, 41]
end PV
namespace PD
theorem star_ap {ε : Ev} {h : EH} {a : M D} {b : M (List D)} {x : D} {xs : List D} {h1 : EH} (e : a ε h = some (.ok x, h1)) (e2 : asS h1 x = some xs) : mStar a b ε h = bR (b ε h1) fun ys h2 => some (.ok (xs ++ ys), h2) := by
  unfold mStar
  rw [e, bR_ok, e2]
end PD
namespace PV
open PySem PD
inductive Cw where
  | am | be | sa
  deriving DecidableEq
def Cw.w : Cw → List Nat
  | .am => [97, 116, 109, 111, 115, 116]
  | .be => [98, 101, 108, 111, 119]
  | .sa => [115, 97, 109, 101]
def Cw.s : Cw → List Nat
  | .am => [60, 61]
  | .be => [60]
  | .sa => [61]
def jw (j : Bool) : List Nat := if j = true then [97, 110, 100] else [111, 114]
inductive Cd where
  | cmp (o : Cw) (a b : Vl) | tru | fnd (z : List Nat) | nt (c : Cd) | bin (j : Bool) (c d : Cd)
def Cd.d : Cd → D
  | .cmp o a b => .tup [.str o.w, a.d, b.d]
  | .tru => .tup [.str [116, 114, 117, 101]]
  | .fnd z => .tup [.str [102, 111, 117, 110, 100], .str z]
  | .nt c => .tup [.str [110, 111, 116], c.d]
  | .bin j c d => .tup [.str (jw j), c.d, d.d]
def Cd.ok : Cd → Bool
  | .cmp _ a b => a.ok && b.ok
  | .tru => true
  | .fnd z => isNm z
  | .nt c => c.ok
  | .bin _ c d => c.ok && d.ok
def Cd.dep : Cd → Nat
  | .nt c => c.dep + 1
  | .bin _ c d => max c.dep d.dep + 1
  | _ => 1
theorem Cd.noRef : ∀ c : Cd, PD.noRef c.d = true
  | .cmp o a b => by
    show (true && (PD.noRef a.d && (PD.noRef b.d && true))) = true
    rw [a.noRef, b.noRef]; rfl
  | .tru => rfl
  | .fnd _ => rfl
  | .nt c => by
    show (true && (PD.noRef c.d && true)) = true
    rw [Cd.noRef c]; rfl
  | .bin j c d => by
    show (true && (PD.noRef c.d && (PD.noRef d.d && true))) = true
    rw [Cd.noRef c, Cd.noRef d]; rfl
theorem Cd.dep_pos : ∀ c : Cd, 1 ≤ c.dep
  | .cmp _ _ _ => Nat.le_refl _
  | .tru => Nat.le_refl _
  | .fnd _ => Nat.le_refl _
  | .nt c => by show 1 ≤ c.dep + 1; omega
  | .bin _ c d => by show 1 ≤ max c.dep d.dep + 1; omega
theorem cin_cw (o : Cw) : dCIn false kv_SIGNS (.str o.w) = some (.bl true) := by cases o <;> rfl
theorem cin_tru : dCIn false kv_SIGNS (.str [116, 114, 117, 101]) = some (.bl false) := rfl
theorem cin_fnd : dCIn false kv_SIGNS (.str [102, 111, 117, 110, 100]) = some (.bl false) := rfl
theorem cin_nt : dCIn false kv_SIGNS (.str [110, 111, 116]) = some (.bl false) := rfl
theorem cin_jw (j : Bool) : dCIn false kv_SIGNS (.str (jw j)) = some (.bl false) := by cases j <;> rfl
theorem jw_fnd (j : Bool) : ¬ jw j = [102, 111, 117, 110, 100] := by cases j <;> decide
def hfD : M D := mDGet2 (mDisp [((mC (.str [116, 114, 117, 101])), (mC (.int 1))), ((mC (.str [110, 111, 116])), (mC (.int 2))), ((mC (.str [97, 110, 100])), (mC (.int 3))), ((mC (.str [111, 114])), (mC (.int 3)))]) (mVar 1) (mC (.int 0))
theorem hf_tru (x : Option D) : hfD [x, some (.str [116, 114, 117, 101])] [] = some (.ok (.int 1), []) := by kernel_rfl
theorem hf_nt (x : Option D) : hfD [x, some (.str [110, 111, 116])] [] = some (.ok (.int 2), []) := by kernel_rfl
theorem hf_jw (x : Option D) (j : Bool) : hfD [x, some (.str (jw j))] [] = some (.ok (.int 3), []) := by cases j <;> kernel_rfl
theorem hf_fold : mDGet2 (mDisp [((mC (.str [116, 114, 117, 101])), (mC (.int 1))), ((mC (.str [110, 111, 116])), (mC (.int 2))), ((mC (.str [97, 110, 100])), (mC (.int 3))), ((mC (.str [111, 114])), (mC (.int 3)))]) (mVar 1) (mC (.int 0)) = hfD := rfl
theorem v_ok {v : Vl} (h : v.ok = true) (t : EH) : callPK F_is_value [v.d] t = some (.ok (.bl true), t) := callPK_ok (isValue_ok h) (go1 v.noRef)
theorem form_ok : ∀ {c : Cd}, c.ok = true → F_has_form [c.d] = some (.ok (.bl true))
  | .cmp o a b, h => by
    have h' := Bool.and_eq_true_iff.mp (show (a.ok && b.ok) = true from h)
    show endP (m_has_form [some (Cd.cmp o a b).d, none] []) = _
    dsimp! only [m_has_form, hf_fold, Cd.d, isa, Bool.or_false, Bool.or_true, Bool.false_or, atl0, atl1, atl2, len0, len1, len2, len3, cin_cw, v_ok h'.1, v_ok h'.2]
    rfl
  | .tru, _ => by
    show endP (m_has_form [some Cd.tru.d, none] []) = _
    dsimp! only [m_has_form, hf_fold, Cd.d, isa, Bool.or_false, Bool.or_true, Bool.false_or, atl0, atl1, atl2, len0, len1, len2, len3, cin_tru, List.cons.injEq, Nat.reduceEqDiff, false_and, and_false, hf_tru]
    rfl
  | .fnd z, h => by
    have e := callPK_ok (F := F_is_name) (h := []) (isName_nm (show isNm z = true from h)) rfl
    show endP (m_has_form [some (Cd.fnd z).d, none] []) = _
    dsimp! only [m_has_form, hf_fold, Cd.d, isa, Bool.or_false, Bool.or_true, Bool.false_or, atl0, atl1, atl2, len0, len1, len2, len3, cin_fnd, e]
    rfl
  | .nt c, h => by
    show endP (m_has_form [some (Cd.nt c).d, none] []) = _
    dsimp! only [m_has_form, hf_fold, Cd.d, isa, Bool.or_false, Bool.or_true, Bool.false_or, atl0, atl1, atl2, len0, len1, len2, len3, cin_nt, List.cons.injEq, Nat.reduceEqDiff, false_and, and_false, hf_nt]
    rfl
  | .bin j c d, h => by
    show endP (m_has_form [some (Cd.bin j c d).d, none] []) = _
    dsimp! only [m_has_form, hf_fold, Cd.d, isa, Bool.or_false, Bool.or_true, Bool.false_or, atl0, atl1, atl2, len0, len1, len2, len3, cin_jw, jw_fnd, hf_jw]
    rfl
theorem nin3 {h : EH} {z : List Nat} : dNinA h (.str z) (.tup [.str [110, 111, 116], .str [97, 110, 100], .str [111, 114]]) = some (.bl (!decide (z ∈ [[110, 111, 116], [97, 110, 100], [111, 114]]))) := by
  show (dInS true h (.str z) (.tup ([[110, 111, 116], [97, 110, 100], [111, 114]].map .str))).or (dIn true h (.str z) (.tup ([[110, 111, 116], [97, 110, 100], [111, 114]].map .str))) = _
  have e := in_strs (h := h) (z := z) [[110, 111, 116], [97, 110, 100], [111, 114]]
  have e1 : dInS true h (.str z) (.tup ([[110, 111, 116], [97, 110, 100], [111, 114]].map .str)) = none := rfl
  have e2 : dInS false h (.str z) (.tup ([[110, 111, 116], [97, 110, 100], [111, 114]].map .str)) = none := rfl
  have e3 : dInA h (.str z) (.tup ([[110, 111, 116], [97, 110, 100], [111, 114]].map .str)) = dIn false h (.str z) (.tup ([[110, 111, 116], [97, 110, 100], [111, 114]].map .str)) := by
    show (dInS false h (.str z) (.tup ([[110, 111, 116], [97, 110, 100], [111, 114]].map .str))).or _ = _
    rw [e2]; rfl
  rw [e3] at e
  rw [e1]
  show dIn true h (.str z) (.tup ([[110, 111, 116], [97, 110, 100], [111, 114]].map .str)) = _
  unfold dIn at e ⊢
  simp only [asS] at e ⊢
  split at e
  · rename_i q
    have e4 := Option.some.inj e
    have e5 := D.bl.inj e4
    rw [if_pos q, ← e5]
    simp only [Bool.false_bne, Bool.true_bne]
  · cases e
def Cd.inn : Cd → List D
  | .nt c => [.tup [.int 1, c.d]]
  | .bin _ c d => [.tup [.int 1, c.d], .tup [.int 2, d.d]]
  | _ => []
theorem cw_nin (o : Cw) : ¬ (o.w ∈ [[110, 111, 116], [97, 110, 100], [111, 114]]) := by cases o <;> decide
theorem jw_in (j : Bool) : jw j ∈ [[110, 111, 116], [97, 110, 100], [111, 114]] := by cases j <;> decide
theorem inner_ok : ∀ (c : Cd), F_inner_parts [c.d] = some (.ok (.lst c.inn))
  | .cmp o a b => by
    show endP (m_inner_parts [some (Cd.cmp o a b).d, none] []) = _
    dsimp! only [m_inner_parts, Cd.d, atl0, nin3, cw_nin]
    rfl
  | .tru => by
    show endP (m_inner_parts [some Cd.tru.d, none] []) = _
    dsimp! only [m_inner_parts, Cd.d, atl0, nin3, show ¬ ([116, 114, 117, 101] ∈ [[110, 111, 116], [97, 110, 100], [111, 114]]) by decide]
    rfl
  | .fnd z => by
    show endP (m_inner_parts [some (Cd.fnd z).d, none] []) = _
    dsimp! only [m_inner_parts, Cd.d, atl0, nin3, show ¬ ([102, 111, 117, 110, 100] ∈ [[110, 111, 116], [97, 110, 100], [111, 114]]) by decide]
    rfl
  | .nt c => by
    have lc : lcL (mgName 1) mYes me_inner_parts_0 (rngD 1 1) [some (Cd.nt c).d, none] [] = some ([.tup [.int 1, c.d]], []) := by
      refine lcL_map (fun _ => .tup [.int 1, c.d]) (ds := rngD 1 1) fun d hd => ?_
      have : d = .int 1 := by simpa [rngD] using hd
      subst this
      refine ⟨_, rfl, rfl, ?_⟩
      dsimp! only [me_inner_parts_0, Cd.d, atl1]
    have lk := lcK_ok (vs := [1]) (ε := [some (Cd.nt c).d, none]) lc (by simp)
    simp only [Cd.d] at lk
    show endP (m_inner_parts [some (Cd.nt c).d, none] []) = _
    dsimp! only [m_inner_parts, Cd.d, atl0, nin3, len2, show ([110, 111, 116] ∈ [[110, 111, 116], [97, 110, 100], [111, 114]]) by decide, ir2K_ok (i := 1) (j := 2) (by decide), lk]
    refine endP_ok ?_
    show (((true && (PD.noRef c.d && true)) && true)) = true
    rw [c.noRef]; rfl
  | .bin j c d => by
    have lc : lcL (mgName 1) mYes me_inner_parts_0 (rngD 1 2) [some (Cd.bin j c d).d, none] [] = some ([.tup [.int 1, c.d], .tup [.int 2, d.d]], []) := by
      refine lcL_map (fun x => match x with | .int 1 => .tup [.int 1, c.d] | _ => .tup [.int 2, d.d]) (ds := rngD 1 2) fun x hx => ?_
      have : x = .int 1 ∨ x = .int 2 := by
        have e : rngD 1 2 = [.int 1, .int 2] := rfl
        rw [e] at hx
        simpa using hx
      rcases this with rfl | rfl
      · refine ⟨_, rfl, rfl, ?_⟩
        dsimp! only [me_inner_parts_0, Cd.d, atl1]
      · refine ⟨_, rfl, rfl, ?_⟩
        dsimp! only [me_inner_parts_0, Cd.d, atl2]
    have lk := lcK_ok (vs := [1]) (ε := [some (Cd.bin j c d).d, none]) lc (by simp)
    simp only [Cd.d] at lk
    show endP (m_inner_parts [some (Cd.bin j c d).d, none] []) = _
    dsimp! only [m_inner_parts, Cd.d, atl0, nin3, len3, jw_in, ir2K_ok (i := 1) (j := 3) (by decide), lk]
    refine endP_ok ?_
    show (((true && (PD.noRef c.d && true)) && ((true && (PD.noRef d.d && true)) && true))) = true
    rw [c.noRef, d.noRef]; rfl
theorem ints_go : ∀ ps : List Int, PD.noRef.go (ps.map D.int) = true
  | [] => rfl
  | p :: ps => by
    show (true && PD.noRef.go (ps.map D.int)) = true
    rw [ints_go ps]; rfl
theorem wp_go {c : Cd} (ps : List Int) : PD.noRef.go [c.d, .tup (ps.map .int)] = true := by
  show (PD.noRef c.d && (PD.noRef.go (ps.map D.int) && true)) = true
  rw [c.noRef, ints_go]; rfl
theorem wrong_none : ∀ (c : Cd) (f : Nat) (ps : List Int), c.ok = true → ps.length + c.dep ≤ 6 → c.dep ≤ f → F_wrong_path_ f [c.d, .tup (ps.map .int)] = some (.ok .non) := by
  have key : ∀ (c : Cd) (f : Nat) (ps : List Int), c.ok = true → ps.length + c.dep ≤ 6 →
      forL (mgTup 2 (mgCons (mgName 2) (mgCons (mgName 3) mgNil))) (mb_wrong_path_0 (F_wrong_path_ f)) c.inn [some c.d, some (.tup (ps.map .int)), none, none, none] [] = some (.nx [some c.d, some (.tup (ps.map .int)), none, none, none], []) ∨
        (∃ a b e, forL (mgTup 2 (mgCons (mgName 2) (mgCons (mgName 3) mgNil))) (mb_wrong_path_0 (F_wrong_path_ f)) c.inn [some c.d, some (.tup (ps.map .int)), none, none, none] [] = some (.nx [some c.d, some (.tup (ps.map .int)), a, b, e], [])) →
      F_wrong_path_ (f + 1) [c.d, .tup (ps.map .int)] = some (.ok .non) := by
    intro c f ps hc hd hl
    have hp := c.dep_pos
    have hn : ¬ (6 : Int) ≤ ((ps.map D.int).length : Int) := by rw [List.length_map]; omega
    have hf := callPK_ok (F := F_has_form) (h := []) (form_ok hc) (go1 c.noRef)
    have hi := callPK_ok (F := F_inner_parts) (h := []) (inner_ok c) (go1 c.noRef)
    have hl' : ∃ a b e, forL (mgTup 2 (mgCons (mgName 2) (mgCons (mgName 3) mgNil))) (mb_wrong_path_0 (F_wrong_path_ f)) c.inn [some c.d, some (.tup (ps.map .int)), none, none, none] [] = some (.nx [some c.d, some (.tup (ps.map .int)), a, b, e], []) := by
      rcases hl with h | h
      · exact ⟨_, _, _, h⟩
      · exact h
    obtain ⟨a, b, e, hl⟩ := hl'
    show endP (m_wrong_path (F_wrong_path_ f) [some c.d, some (.tup (ps.map .int)), none, none, none] []) = _
    dsimp! only [m_wrong_path, g_MOST_DEPTH, hn, hf, hi, hl]
    rfl
  have turn : ∀ (c : Cd) (f : Nat) (ps : List Int) (i : Int) (x : Option D) (a b e : Option D), F_wrong_path_ f [c.d, .tup ((ps ++ [i]).map .int)] = some (.ok .non) → ps.length ≤ 6 →
      mb_wrong_path_0 (F_wrong_path_ f) [x, some (.tup (ps.map .int)), some (.int i), some c.d, e] [] = some (.nx [x, some (.tup (ps.map .int)), some (.int i), some c.d, some .non], []) := by
    intro c f ps i x a b e hw hl
    have hk := callPK_ok (h := []) hw (wp_go (c := c) (ps ++ [i]))
    have hs : mStar (mVar 1) (mCons (mVar 2) mNil) [x, some (.tup (ps.map .int)), some (.int i), some c.d, e] [] = some (.ok (ps.map .int ++ [.int i]), []) := by
      rw [star_ap (x := .tup (ps.map .int)) (xs := ps.map .int) rfl rfl]
      rfl
    have ht : tupK (ps.map .int ++ [.int i]) [] = some (.ok (.tup ((ps ++ [i]).map .int)), []) := by
      rw [tupK_ok (by simp; omega)]
      simp
    dsimp! only [mb_wrong_path_0, hs, ht, hk]
  intro c
  induction c with
  | cmp o a b =>
    intro f ps hc hd hf
    obtain ⟨f, rfl⟩ : ∃ m, f = m + 1 := ⟨f - 1, by have : 1 ≤ f := hf; omega⟩
    exact key (.cmp o a b) f ps hc hd (.inl rfl)
  | tru =>
    intro f ps hc hd hf
    obtain ⟨f, rfl⟩ : ∃ m, f = m + 1 := ⟨f - 1, by have : 1 ≤ f := hf; omega⟩
    exact key .tru f ps hc hd (.inl rfl)
  | fnd z =>
    intro f ps hc hd hf
    obtain ⟨f, rfl⟩ : ∃ m, f = m + 1 := ⟨f - 1, by have : 1 ≤ f := hf; omega⟩
    exact key (.fnd z) f ps hc hd (.inl rfl)
  | nt c ih =>
    intro f ps hc hd hf
    have hd' : ps.length + (c.dep + 1) ≤ 6 := hd
    have hf' : c.dep + 1 ≤ f := hf
    obtain ⟨f, rfl⟩ : ∃ m, f = m + 1 := ⟨f - 1, by omega⟩
    have w := ih f (ps ++ [1]) hc (by simp; omega) (by omega)
    refine key (.nt c) f ps hc hd (.inr ⟨some (.int 1), some c.d, some .non, ?_⟩)
    rw [show (Cd.nt c).inn = [.tup [.int 1, c.d]] from rfl, forL_nx (ε1 := [some (Cd.nt c).d, some (.tup (ps.map .int)), some (.int 1), some c.d, none]) (h1 := []) rfl (turn c f ps 1 _ none none none w (by omega)), forL_nil]
  | bin j c d ihc ihd =>
    intro f ps hc hd hf
    have hc' := Bool.and_eq_true_iff.mp (show (c.ok && d.ok) = true from hc)
    have hd' : ps.length + (max c.dep d.dep + 1) ≤ 6 := hd
    have hf' : max c.dep d.dep + 1 ≤ f := hf
    obtain ⟨f, rfl⟩ : ∃ m, f = m + 1 := ⟨f - 1, by omega⟩
    have w1 := ihc f (ps ++ [1]) hc'.1 (by simp; omega) (by omega)
    have w2 := ihd f (ps ++ [2]) hc'.2 (by simp; omega) (by omega)
    refine key (.bin j c d) f ps hc hd (.inr ⟨some (.int 2), some d.d, some .non, ?_⟩)
    rw [show (Cd.bin j c d).inn = [.tup [.int 1, c.d], .tup [.int 2, d.d]] from rfl, forL_nx (ε1 := [some (Cd.bin j c d).d, some (.tup (ps.map .int)), some (.int 1), some c.d, none]) (h1 := []) rfl (turn c f ps 1 _ none none none w1 (by omega)),
      forL_nx (ε1 := [some (Cd.bin j c d).d, some (.tup (ps.map .int)), some (.int 2), some d.d, some .non]) (h1 := []) rfl (turn d f ps 2 _ none none _ w2 (by omega)), forL_nil]
theorem check_ok {c : Cd} (h : c.ok = true) (hd : c.dep ≤ 6) : F_check_condition [c.d] = some (.ok .non) := by
  have w := callPK_ok (F := F_wrong_path) (h := []) (wrong_none c 12 [] h (by simpa using hd) (by omega)) (wp_go [])
  show endP (m_check_condition [some c.d, none] []) = _
  simp only [List.map_nil] at w
  dsimp! only [m_check_condition, w]
  rfl
end PV
namespace PV
open PySem PD
end PV
namespace PV
open PySem PD
end PV
namespace PV
open PySem PD
end PV
namespace PD
open PySem
end PD
namespace PV
open PySem PD
theorem con_small {i : Int} (h : -10 ≤ i ∧ i ≤ 10) : isCon i = true := con_of (by omega)
theorem near_ok {k : Cell} (hk : BagI k) (t : EH) : ∃ (i : Int) (k' : Cell), F__law_near [.ref 0] (k :: t) = some (.ok (.int i), k' :: t) ∧ (-2 ≤ i ∧ i ≤ 3) ∧ BagI k' := by
  obtain ⟨d, k3, e3, hd, hk3⟩ := any_lst hk (ds := [.int 0, .int 1, .int 1, .int 2, .int 3, .int (-1), .int (-2)]) (by simp) (by simp) (by simp [PD.noRef]) t
  have key : ∃ i : Int, d = .int i ∧ (-2 ≤ i ∧ i ≤ 3) := by
    simp only [List.mem_cons, List.not_mem_nil, or_false] at hd
    rcases hd with rfl | rfl | rfl | rfl | rfl | rfl | rfl <;> exact ⟨_, rfl, by omega⟩
  obtain ⟨i, rfl, hi⟩ := key
  refine ⟨i, k3, ?_, hi, hk3⟩
  have e3' : F__law_any [.ref 0, .lst [.int 0, .int 1, .int 1, .int 2, .int 3, .int (-1), .int (-2)]] (k :: t) = some (.ok (.int i), k3 :: t) := e3
  show endI _ (m__law_near [some (.ref 0)] (k :: t)) = _
  dsimp! only [m__law_near, e3']
  exact endI_ok rfl rfl
/-- a pool of values without a plus -/
structure PoolOk (ds : List D) : Prop where
  at_ : ∀ d ∈ ds, ∃ p : Pl, d = p.d ∧ p.ok = true
  len : ds.length ≤ 1000
theorem PoolOk.noRef {ds : List D} (h : PoolOk ds) : ∀ d ∈ ds, PD.noRef d = true := fun d hd => by
  obtain ⟨p, rfl, _⟩ := h.at_ d hd
  exact p.noRef
theorem some_value_ok {k : Cell} (hk : BagI k) {ds : List D} (hp : PoolOk ds) (t : EH) : ∃ (v : Vl) (k' : Cell), F__law_some_value [.ref 0, .lst ds] (k :: t) = some (.ok v.d, k' :: t) ∧ v.ok = true ∧ BagI k' := by
  obtain ⟨i, k1, e1, hi, hk1⟩ := near_ok hk t
  have hl : (ds ++ [(Pl.num i).d]).length = ds.length + 1 := by simp
  have hp' : ∀ d ∈ ds ++ [(Pl.num i).d], ∃ p : Pl, d = p.d ∧ p.ok = true := fun d hd => by
    rcases List.mem_append.mp hd with h | h
    · exact hp.at_ d h
    · exact ⟨.num i, List.mem_singleton.mp h, con_small (by omega)⟩
  have hlen := hp.len
  obtain ⟨d, k2, e2, hd, hk2⟩ := any_lst hk1 (ds := ds ++ [(Pl.num i).d]) (by omega) (by omega) (fun d hd => by obtain ⟨p, rfl, _⟩ := hp' d hd; exact p.noRef) t
  obtain ⟨p, rfl, hpo⟩ := hp' d hd
  obtain ⟨n, k3, e3, n0, n1, hk3⟩ := pull_ok hk2 (n := 3) (by decide) (by decide) t
  have e2' : F__law_any [.ref 0, .lst (ds ++ [.tup [.str [110, 117, 109, 98, 101, 114], .int i]])] (k1 :: t) = some (.ok p.d, k2 :: t) := e2
  have e3' : F__law_pull [.ref 0, .int 3] (k2 :: t) = some (.ok (.int n), k3 :: t) := e3
  have ad : ∀ h : EH, dAdd h (.lst ds) (.lst [.tup [.str [110, 117, 109, 98, 101, 114], .int i]]) = some (.lst (ds ++ [.tup [.str [110, 117, 109, 98, 101, 114], .int i]])) := fun h => add_lst (by simp; omega)
  by_cases q : n = 0
  · obtain ⟨j, k4, e4, hj, hk4⟩ := near_ok hk3 t
    refine ⟨.plus p j, k4, ?_, by show (p.ok && isCon j) = true; rw [hpo, con_small (by omega)]; rfl, hk4⟩
    show endI _ (m__law_some_value [some (.ref 0), some (.lst ds), none] (k :: t)) = _
    dsimp! only [m__law_some_value, e1, ad, e2', e3', q, e4]
    exact endI_ok rfl (Vl.plus p j).noRef
  · refine ⟨.pl p, k3, ?_, hpo, hk3⟩
    show endI _ (m__law_some_value [some (.ref 0), some (.lst ds), none] (k :: t)) = _
    dsimp! only [m__law_some_value, e1, ad, e2', e3', q]
    exact endI_ok rfl p.noRef
theorem okE_abc {z : List Nat} (h : isNm z = true) : (z.all fun c => decide (c < 1114112)) = true := by
  rw [List.all_eq_true]
  intro c hc
  have := abc_rng (nm_mem h hc)
  exact decide_eq_true (by omega)
theorem okE_col {z : List Nat} (h : isCol z = true) : (z.all fun c => decide (c < 1114112)) = true := by
  unfold isCol at h
  rw [Bool.or_eq_true] at h
  rcases h with h | h
  · rw [of_decide_eq_true h]; rfl
  · exact okE_abc h
theorem okE_pl {p : Pl} (h : p.ok = true) : okE 2 p.d = true := by
  cases p with
  | num n => rfl
  | name z => show (true && ((z.all fun c => decide (c < 1114112)) && true)) = true; rw [okE_abc h]; rfl
  | field z y =>
    have h' := Bool.and_eq_true_iff.mp (show (isNm z && isCol y) = true from h)
    show (true && ((z.all fun c => decide (c < 1114112)) && ((y.all fun c => decide (c < 1114112)) && true))) = true
    rw [okE_abc h'.1, okE_col h'.2]; rfl
  | own y => show (true && ((y.all fun c => decide (c < 1114112)) && true)) = true; rw [okE_col h]; rfl
  | next y => show (true && ((y.all fun c => decide (c < 1114112)) && true)) = true; rw [okE_col h]; rfl
theorem PoolOk.okE {ds : List D} (h : PoolOk ds) : okE 3 (.lst ds) = true := List.all_eq_true.mpr fun d hd => by
  obtain ⟨p, rfl, hp⟩ := h.at_ d hd
  exact okE_pl hp
theorem pool_ne {h : EH} {ds : List D} (hp : PoolOk ds) (hn : ds ≠ []) : dNe h (.lst ds) (.lst []) = some (.bl true) := dNe_t (t := 3) (u := 1) hp.okE rfl (by decide) (by decide) fun e => hn (D.lst.inj e)
theorem cw_any : ∀ d ∈ [D.str Cw.am.w, D.str Cw.be.w, D.str Cw.be.w, D.str Cw.sa.w], ∃ o : Cw, d = .str o.w := by
  intro d hd
  simp only [List.mem_cons, List.not_mem_nil, or_false] at hd
  rcases hd with rfl | rfl | rfl | rfl <;> exact ⟨_, rfl⟩
theorem some_compared_ok {k : Cell} (hk : BagI k) {ds : List D} (hp : PoolOk ds) (hn : ds ≠ []) (t : EH) : ∃ (o : Cw) (a b : Vl) (k' : Cell), F__law_some_compared [.ref 0, .lst ds] (k :: t) = some (.ok (Cd.cmp o a b).d, k' :: t) ∧ a.ok = true ∧ b.ok = true ∧ BagI k' := by
  have hlen := hp.len
  have h0 : 0 < ds.length := by cases ds with | nil => exact absurd rfl hn | cons _ _ => simp
  obtain ⟨d, k1, e1, hd, hk1⟩ := any_lst hk (ds := ds) h0 (by omega) hp.noRef t
  obtain ⟨p, rfl, hpo⟩ := hp.at_ d hd
  obtain ⟨n, k2, e2, n0, n1, hk2⟩ := pull_ok hk1 (n := 4) (by decide) (by decide) t
  have e1' : F__law_any [.ref 0, .lst ds] (k :: t) = some (.ok p.d, k1 :: t) := e1
  have e2' : F__law_pull [.ref 0, .int 4] (k1 :: t) = some (.ok (.int n), k2 :: t) := e2
  have fin : ∀ (a : Vl) (k3 : Cell), a.ok = true → BagI k3 → ∃ (o : Cw) (b : Vl) (k5 : Cell), b.ok = true ∧ BagI k5 ∧ msRet (mTup (mCons (mCallI F__law_any (mCons (mVar 0) (mCons (mLst (mCons (mC (.str [97, 116, 109, 111, 115, 116])) (mCons (mC (.str [98, 101, 108, 111, 119])) (mCons (mC (.str [98, 101, 108, 111, 119])) (mCons (mC (.str [115, 97, 109, 101])) mNil))))) mNil))) (mCons (mVar 2) (mCons (mCallI F__law_some_value (mCons (mVar 0) (mCons (mVar 1) mNil))) mNil))))
      [some (.ref 0), some (.lst ds), some a.d] (k3 :: t) = some (.rt (Cd.cmp o a b).d, k5 :: t) := by
    intro a k3 ha hk3
    obtain ⟨d, k4, e4, hd, hk4⟩ := any_lst hk3 (ds := [.str Cw.am.w, .str Cw.be.w, .str Cw.be.w, .str Cw.sa.w]) (by decide) (by decide) (by decide) t
    obtain ⟨o, rfl⟩ := cw_any d hd
    obtain ⟨b, k5, e5, hb, hk5⟩ := some_value_ok hk4 hp t
    have e4' : F__law_any [.ref 0, .lst [.str [97, 116, 109, 111, 115, 116], .str [98, 101, 108, 111, 119], .str [98, 101, 108, 111, 119], .str [115, 97, 109, 101]]] (k3 :: t) = some (.ok (.str o.w), k4 :: t) := e4
    refine ⟨o, b, k5, hb, hk5, ?_⟩
    dsimp! only [e4', e5, Cd.d]
  by_cases q : n = 0
  · obtain ⟨j, k3, e3, hj, hk3⟩ := near_ok hk2 t
    obtain ⟨o, b, k5, hb, hk5, ef⟩ := fin (.plus p j) k3 (by show (p.ok && isCon j) = true; rw [hpo, con_small (by omega)]; rfl) hk3
    refine ⟨o, .plus p j, b, k5, ?_, by show (p.ok && isCon j) = true; rw [hpo, con_small (by omega)]; rfl, hb, hk5⟩
    have ef' := ef
    simp only [Vl.d, sPlus] at ef'
    show endI _ (m__law_some_compared [some (.ref 0), some (.lst ds), none] (k :: t)) = _
    dsimp! only [m__law_some_compared, pool_ne hp hn, e1', e2', q, e3]
    dsimp! only [] at ef'
    rw [ef']
    exact endI_ok rfl (Cd.cmp o (.plus p j) b).noRef
  · obtain ⟨o, b, k5, hb, hk5, ef⟩ := fin (.pl p) k2 hpo hk2
    refine ⟨o, .pl p, b, k5, ?_, hpo, hb, hk5⟩
    have ef' := ef
    simp only [Vl.d] at ef'
    show endI _ (m__law_some_compared [some (.ref 0), some (.lst ds), none] (k :: t)) = _
    dsimp! only [m__law_some_compared, pool_ne hp hn, e1', e2', q]
    dsimp! only [] at ef'
    rw [ef']
    exact endI_ok rfl (Cd.cmp o (.pl p) b).noRef
theorem some_cond_ok {ds : List D} (hp : PoolOk ds) (hn : ds ≠ []) (t : EH) : ∀ (f : Nat) (dp : Nat) (k : Cell), BagI k → dp < f → ∃ (c : Cd) (k' : Cell), F__law_some_condition_ f [.ref 0, .lst ds, .int dp] (k :: t) = some (.ok c.d, k' :: t) ∧ c.ok = true ∧ c.dep ≤ dp + 1 ∧ BagI k'
  | 0, dp, k, hk, hf => absurd hf (Nat.not_lt_zero _)
  | f + 1, dp, k, hk, hf => by
    have way : ∃ (n : Int) (k1 : Cell), mIf (mTst (mBin dGt (mVar 2) (mC (.int 0)))) (mCallI F__law_pull (mCons (mVar 0) (mCons (mC (.int 7)) mNil))) (mCallI F__law_pull (mCons (mVar 0) (mCons (mC (.int 3)) mNil))) [some (.ref 0), some (.lst ds), some (.int dp), none, none] (k :: t) = some (.ok (.int n), k1 :: t) ∧ 0 ≤ n ∧ n < 7 ∧ (4 ≤ n → 0 < dp) ∧ BagI k1 := by
      by_cases q : 0 < dp
      · obtain ⟨n, k1, e, n0, n1, hk1⟩ := pull_ok hk (n := 7) (by decide) (by decide) t
        have e' : F__law_pull [.ref 0, .int 7] (k :: t) = some (.ok (.int n), k1 :: t) := e
        have q' : (0 : Int) < (dp : Int) := by omega
        exact ⟨n, k1, by dsimp! only [q', e'], n0, n1, fun _ => q, hk1⟩
      · obtain ⟨n, k1, e, n0, n1, hk1⟩ := pull_ok hk (n := 3) (by decide) (by decide) t
        have e' : F__law_pull [.ref 0, .int 3] (k :: t) = some (.ok (.int n), k1 :: t) := e
        have q' : ¬ (0 : Int) < (dp : Int) := by omega
        exact ⟨n, k1, by dsimp! only [q', e'], n0, by omega, fun h => by omega, hk1⟩
    obtain ⟨n, k1, e1, n0, n1, n4, hk1⟩ := way
    dsimp! only [] at e1
    by_cases q1 : n < 1
    · refine ⟨.tru, k1, ?_, rfl, by show 1 ≤ dp + 1; omega, hk1⟩
      show endI _ (m__law_some_condition (F__law_some_condition_ f) [some (.ref 0), some (.lst ds), some (.int dp), none, none] (k :: t)) = _
      dsimp! only [m__law_some_condition, e1, q1]
      exact endI_ok rfl rfl
    · by_cases q2 : n < 4
      · obtain ⟨o, a, b, k2, e2, ha, hb, hk2⟩ := some_compared_ok hk1 hp hn t
        refine ⟨.cmp o a b, k2, ?_, by show (a.ok && b.ok) = true; rw [ha, hb]; rfl, by show 1 ≤ dp + 1; omega, hk2⟩
        show endI _ (m__law_some_condition (F__law_some_condition_ f) [some (.ref 0), some (.lst ds), some (.int dp), none, none] (k :: t)) = _
        dsimp! only [m__law_some_condition, e1, q1, q2, e2]
        exact endI_ok rfl (Cd.cmp o a b).noRef
      · obtain ⟨e, rfl⟩ : ∃ e, dp = e + 1 := ⟨dp - 1, by have := n4 (by omega); omega⟩
        obtain ⟨c, k2, e2, hc, hcd, hk2⟩ := some_cond_ok hp hn t f e k1 hk1 (by omega)
        have em : ((e + 1 : Nat) : Int) - 1 = (e : Int) := by omega
        by_cases q3 : n = 4
        · refine ⟨.nt c, k2, ?_, hc, by show c.dep + 1 ≤ e + 1 + 1; omega, hk2⟩
          show endI _ (m__law_some_condition (F__law_some_condition_ f) [some (.ref 0), some (.lst ds), some (.int ((e + 1 : Nat) : Int)), none, none] (k :: t)) = _
          dsimp! only [m__law_some_condition, e1, q1, q2, q3, em, e2]
          exact endI_ok rfl (Cd.nt c).noRef
        · obtain ⟨d, k3, e3, hd, hdd, hk3⟩ := some_cond_ok hp hn t f e k2 hk2 (by omega)
          refine ⟨.bin (decide (n = 5)) c d, k3, ?_, by show (c.ok && d.ok) = true; rw [hc, hd]; rfl, by show max c.dep d.dep + 1 ≤ e + 1 + 1; omega, hk3⟩
          show endI _ (m__law_some_condition (F__law_some_condition_ f) [some (.ref 0), some (.lst ds), some (.int ((e + 1 : Nat) : Int)), none, none] (k :: t)) = _
          by_cases q5 : n = 5
          · dsimp! only [m__law_some_condition, e1, q1, q2, q3, q5, em, e2, e3]
            exact endI_ok rfl (Cd.bin true c d).noRef
          · dsimp! only [m__law_some_condition, e1, q1, q2, q3, q5, em, e2, e3]
            exact endI_ok rfl (Cd.bin false c d).noRef
end PV
namespace K08
open PySem PySem.Spec PyProof.Rows L2 PD
variable [LamTab]
def lams : Nat → LamD
  | _ => ⟨"", ⟨[], [], none, [], [], none, []⟩, .Constant .none 0 noPos, { kind := .function, names := [], isGenerator := false, isCoroutine := false }, [], false⟩
structure CtxT (P : Program) (K : PySem.W.Frag) (w : World) (mg : Str → Option Value) : Prop where
  d__law_draws : ∃ f fd, FunD K "_law_draws" "_law_draws" (defArgs (top 25)) (defBody (top 25)) (defScope (top 25)) [] [] f fd ∧ mg "_law_draws" = some (.ref f)
  d__law_pull : ∃ f fd, FunD K "_law_pull" "_law_pull" (defArgs (top 26)) (defBody (top 26)) (defScope (top 26)) [] [] f fd ∧ mg "_law_pull" = some (.ref f)
  d__law_any : ∃ f fd, FunD K "_law_any" "_law_any" (defArgs (top 27)) (defBody (top 27)) (defScope (top 27)) [] [] f fd ∧ mg "_law_any" = some (.ref f)
  d__law_reserved : ∃ f fd, FunD K "_law_reserved" "_law_reserved" (defArgs (top 29)) (defBody (top 29)) (defScope (top 29)) [] [] f fd ∧ mg "_law_reserved" = some (.ref f)
  d__law_new_names : ∃ f fd, FunD K "_law_new_names" "_law_new_names" (defArgs (top 30)) (defBody (top 30)) (defScope (top 30)) [] [] f fd ∧ mg "_law_new_names" = some (.ref f)
  d__law_near : ∃ f fd, FunD K "_law_near" "_law_near" (defArgs (top 31)) (defBody (top 31)) (defScope (top 31)) [] [] f fd ∧ mg "_law_near" = some (.ref f)
  d__law_some_value : ∃ f fd, FunD K "_law_some_value" "_law_some_value" (defArgs (top 32)) (defBody (top 32)) (defScope (top 32)) [] [] f fd ∧ mg "_law_some_value" = some (.ref f)
  d__law_some_compared : ∃ f fd, FunD K "_law_some_compared" "_law_some_compared" (defArgs (top 33)) (defBody (top 33)) (defScope (top 33)) [] [] f fd ∧ mg "_law_some_compared" = some (.ref f)
  d__law_some_condition : ∃ f fd, FunD K "_law_some_condition" "_law_some_condition" (defArgs (top 34)) (defBody (top 34)) (defScope (top 34)) [] [] f fd ∧ mg "_law_some_condition" = some (.ref f)
  d_all_of : ∃ f fd, FunD K "all_of" "all_of" (defArgs (top 23)) (defBody (top 23)) (defScope (top 23)) [] [] f fd ∧ mg "all_of" = some (.ref f)
  d__law_like : ∃ f fd, FunD K "_law_like" "_law_like" (defArgs (top 28)) (defBody (top 28)) (defScope (top 28)) [] [] f fd ∧ mg "_law_like" = some (.ref f)
  d_inner_parts : ∃ f fd, FunD K "inner_parts" "inner_parts" (defArgs (top 17)) (defBody (top 17)) (defScope (top 17)) [] [] f fd ∧ mg "inner_parts" = some (.ref f)
  d_is_integer : ∃ f fd, FunD K "is_integer" "is_integer" (defArgs (top 8)) (defBody (top 8)) (defScope (top 8)) [] [] f fd ∧ mg "is_integer" = some (.ref f)
  d_is_constant : ∃ f fd, FunD K "is_constant" "is_constant" (defArgs (top 9)) (defBody (top 9)) (defScope (top 9)) [] [] f fd ∧ mg "is_constant" = some (.ref f)
  d_is_name : ∃ f fd, FunD K "is_name" "is_name" (defArgs (top 7)) (defBody (top 7)) (defScope (top 7)) [] [] f fd ∧ mg "is_name" = some (.ref f)
  d_is_column : ∃ f fd, FunD K "is_column" "is_column" (defArgs (top 10)) (defBody (top 10)) (defScope (top 10)) [] [] f fd ∧ mg "is_column" = some (.ref f)
  d_is_plain : ∃ f fd, FunD K "is_plain" "is_plain" (defArgs (top 11)) (defBody (top 11)) (defScope (top 11)) [] [] f fd ∧ mg "is_plain" = some (.ref f)
  d_is_value : ∃ f fd, FunD K "is_value" "is_value" (defArgs (top 12)) (defBody (top 12)) (defScope (top 12)) [] [] f fd ∧ mg "is_value" = some (.ref f)
  d_has_form : ∃ f fd, FunD K "has_form" "has_form" (defArgs (top 16)) (defBody (top 16)) (defScope (top 16)) [] [] f fd ∧ mg "has_form" = some (.ref f)
  d_wrong_path : ∃ f fd, FunD K "wrong_path" "wrong_path" (defArgs (top 18)) (defBody (top 18)) (defScope (top 18)) [] [] f fd ∧ mg "wrong_path" = some (.ref f)
  d_check_condition : ∃ f fd, FunD K "check_condition" "check_condition" (defArgs (top 19)) (defBody (top 19)) (defScope (top 19)) [] [] f fd ∧ mg "check_condition" = some (.ref f)
  d_all_parts : ∃ f fd, FunD K "all_parts" "all_parts" (defArgs (top 20)) (defBody (top 20)) (defScope (top 20)) [] [] f fd ∧ mg "all_parts" = some (.ref f)
  d_parts : ∃ f fd, FunD K "parts" "parts" (defArgs (top 21)) (defBody (top 21)) (defScope (top 21)) [] [] f fd ∧ mg "parts" = some (.ref f)
  d_values_in : ∃ f fd, FunD K "values_in" "values_in" (defArgs (top 22)) (defBody (top 22)) (defScope (top 22)) [] [] f fd ∧ mg "values_in" = some (.ref f)
  d__law_all_parts : ∃ f fd, FunD K "_law_all_parts" "_law_all_parts" (defArgs (top 36)) (defBody (top 36)) (defScope (top 36)) [] [] f fd ∧ mg "_law_all_parts" = some (.ref f)
  d__law_values : ∃ f fd, FunD K "_law_values" "_law_values" (defArgs (top 35)) (defBody (top 35)) (defScope (top 35)) [] [] f fd ∧ mg "_law_values" = some (.ref f)
  d_law : ∃ f fd, FunD K "law" "law" (defArgs (top 37)) (defBody (top 37)) (defScope (top 37)) [] [] f fd ∧ mg "law" = some (.ref f)
  n_list : mg "list" = none
  n_int : mg "int" = none
  n_len : mg "len" = none
  n_range : mg "range" = none
  n_isinstance : mg "isinstance" = none
  n_str : mg "str" = none
  n_bool : mg "bool" = none
  n_tuple : mg "tuple" = none
  n_zip : mg "zip" = none
  n_all : mg "all" = none
  c_GREATEST : GlobC K mg "GREATEST" g_GREATEST
  c_LETTERS : GlobC K mg "LETTERS" g_LETTERS
  c_RESERVED : GlobC K mg "RESERVED" g_RESERVED
  c_MOST_DEPTH : GlobC K mg "MOST_DEPTH" g_MOST_DEPTH
  e_SIGNS : DicC K w mg "SIGNS" kv_SIGNS
  g_InvalidCondition : mg "InvalidCondition" = some (.ref (He.ga K "InvalidCondition"))
  g_TableError : mg "TableError" = some (.ref (He.ga K "TableError"))
  o_InvalidCondition : overB K (He.ga K "TableError") (He.ga K "InvalidCondition") = true
  i_InvalidCondition : initB K (He.ga K "InvalidCondition") = true
  na_InvalidCondition : noB K (He.ga K "InvalidCondition") "path" = true
  x_InvalidCondition : ∃ fd, FunD K "__init__" "InvalidCondition.__init__" (defArgs s_InvalidCondition_init) (defBody s_InvalidCondition_init) (defScope s_InvalidCondition_init) [] [] (He.ma K (He.ga K "InvalidCondition") "__init__") fd
  su_TableError : supB K P.main.file sd_TableError = true
  sv_TableError : fnC K (sd_TableError.at_ K) = sd_TableError.val
  cf_TableError : clsvB K (He.ga K "TableError") = true
  top_ : (P.main.scope.names.lookup ("super" : Str)).isSome = false
  lamE : LamTab.lam = lams
structure CtxB (K : PySem.W.Frag) (mg : Str → Option Value) (base : Heap) : Prop where
  ok : True
section
variable {P : Program} {w : World} {K : PySem.W.Frag} {mg : Str → Option Value} {base : Heap}
theorem supT_TableError (h : (P.main.scope.names.lookup ("super" : Str)).isSome = false) : SupT P sd_TableError := ⟨⟨_, _, _, _, _, _, _, _, _, _, fun _ => ⟨_, rfl⟩, rfl⟩, ⟨_, rfl, rfl⟩, by decide +kernel, by decide +kernel, rfl, rfl, rfl, rfl, rfl, rfl, rfl, h, fun _ _ _ _ _ _ us hl => match us, hl with | [_, _], _ => rfl⟩
theorem topI_TableError (C : CtxT P K w mg) : PX.TopI P w K mg base (L2.CX P w) "TableError" (He.ga K "TableError") := topI_of (d := sd_TableError) C.g_TableError C.su_TableError C.sv_TableError (supT_TableError C.top_) C.cf_TableError
theorem exc_InvalidCondition (C : CtxT P K w mg) : ExcC P w K mg base "InvalidCondition" (some "path") "InvalidCondition" := by
  obtain ⟨fd, F⟩ := C.x_InvalidCondition
  exact excC_of1 (prm := "path") C.g_InvalidCondition C.o_InvalidCondition C.i_InvalidCondition C.na_InvalidCondition (topI_TableError C) F ⟨rfl, rfl, rfl, by decide +kernel, rfl, by decide +kernel, by decide +kernel⟩ ⟨_, _, _, _, _, _, _, ⟨_, _, _, _, _, fun _ => ⟨_, rfl⟩, rfl⟩, rfl⟩ (F.bindsN (fun _ _ _ _ _ _ us hl => match us, hl with | [_, _], _ => rfl))
def N__law_draws : List Str := ["_law_script", "_law_seed", "_law_cell"]
def mb__law_draws_0 : MS :=
    (msAsg (mBin dMod (mCall dInt (mCons (mBin dAdd (mBin dAdd (mBin dMul (mVar 1) (mC (.int 44021))) (mBin dMod (mCall dInt (mCons (mVar 2) mNil)) (mC (.int 2147483489)))) (mC (.int 53))) mNil)) (mC (.int 2147483549))) (mgName 1))
def m__law_draws : MS :=
    (msSeq (msAsg (mC (.int 5648)) (mgName 1))
    (msSeq (msFor (miL (mSl (mVar 0) mNoP (mSmP (mC (.int 63))))) (mgName 2) mb__law_draws_0)
    (msRet (mLstC (mCons (mCall dList (mCons (mSl (mVar 0) mNoP (mSmP (mC (.int 63)))) mNil)) (mCons (mC (.int 0)) (mCons (mC (.int 0)) (mCons (mVar 1) (mCons (mC (.int 0)) mNil)))))))))
theorem sc__law_draws : FnScope N__law_draws ["_law_script"] (defScope s__law_draws) := ⟨rfl, rfl, rfl, by decide +kernel, rfl, by decide +kernel, by decide +kernel⟩
def F__law_draws : IF := runA N__law_draws.length m__law_draws
theorem ok__law_draws (C : CtxT P K w mg) (B : CtxB K mg base) : FnI P w K mg base "_law_draws" (1) 1 (F__law_draws) := by
  have sc := sc__law_draws
  obtain ⟨f, fd, Fd, g⟩ := C.d__law_draws
  exact ⟨⟨f, fd, ["_law_script"], g, Fd.kp, Fd.bindsN (fun _ _ _ _ _ _ us hl => match us, hl with | [_], _ => rfl), rfl, fnA Fd sc fun cdv A outer s H E hr => (rss_cons (rs_set 1 sc.nd re_int)
    (rss_cons (rs_for poOf rfl (ri_list (re_slice (re_var 0) ro_none (ro_some re_int))) (rg_name 2 sc.nd) (rss_one (rs_set 1 sc.nd (re_mod (re_intc C.n_int (ra_cons (re_add (re_add (re_mul (re_var 1) re_int) (re_mod (re_intc C.n_int (ra_cons (re_var 2) ra_nil)) re_int)) re_int) ra_nil)) re_int))))
    (rss_one (rs_ret (re_lstC (ra_cons (re_listc C.n_list (ra_cons (re_slice (re_var 0) ro_none (ro_some re_int)) ra_nil)) (ra_cons re_int (ra_cons re_int (ra_cons (re_var 1) (ra_cons re_int ra_nil))))))))))⟩⟩
def N__law_pull : List Str := ["_law_bag", "_law_sides", "_law_seed", "_law_cell", "_law_digit"]
def m__law_pull : MS :=
    (msSeq (msAsg (mBin dAdd (mBin dIx (mVar 0) (mC (.int 4))) (mC (.int 1))) (mgSub (mVar 0) (mC (.int 4))))
    (msSeq (msIf (mAnd (mTst (mBin dEq (mBin dIx (mVar 0) (mC (.int 2))) (mC (.int 0)))) (mTst (mBin dLt (mBin dIx (mVar 0) (mC (.int 1))) (mCall dLen (mCons (mBin dIx (mVar 0) (mC (.int 0))) mNil))))) (msSeq (msAsg (mTup (mCons (mBin dIx (mBin dIx (mVar 0) (mC (.int 0))) (mBin dIx (mVar 0) (mC (.int 1)))) (mCons (mBin dAdd (mBin dIx (mVar 0) (mC (.int 1))) (mC (.int 1))) mNil))) (mgTup 2 (mgCons (mgName 3) (mgCons (mgSub (mVar 0) (mC (.int 1))) mgNil))))
    (msSeq (msIf (mTst (mBin dGe (mVar 3) (mBin dPow (mC (.int 10)) (mC (.int 18))))) (msAsg (mVar 3) (mgSub (mVar 0) (mC (.int 2)))) msNil)
    (msAsg (mBin dMod (mCall dInt (mCons (mBin dAdd (mBin dAdd (mBin dMul (mBin dIx (mVar 0) (mC (.int 3))) (mC (.int 38377))) (mBin dMul (mBin dMod (mCall dInt (mCons (mVar 3) mNil)) (mC (.int 2147483489))) (mC (.int 41143)))) (mC (.int 61))) mNil)) (mC (.int 2147483549))) (mgSub (mVar 0) (mC (.int 3)))))) msNil)
    (msSeq (msIf (mTst (mBin dGt (mBin dIx (mVar 0) (mC (.int 2))) (mC (.int 0)))) (msSeq (msAsg (mTup (mCons (mBin dMod (mCall dInt (mCons (mBin dIx (mVar 0) (mC (.int 2))) mNil)) (mVar 1)) (mCons (mBin dDiv (mBin dIx (mVar 0) (mC (.int 2))) (mVar 1)) mNil))) (mgTup 2 (mgCons (mgName 4) (mgCons (mgSub (mVar 0) (mC (.int 2))) mgNil))))
    (msRet (mVar 4))) msNil)
    (msSeq (msAsg (mBin dIx (mVar 0) (mC (.int 3))) (mgName 2))
    (msSeq (msAsg (mBin dMod (mCall dInt (mCons (mBin dAdd (mBin dAdd (mBin dAdd (mBin dPow (mVar 2) (mC (.int 3))) (mBin dMul (mVar 2) (mC (.int 37813)))) (mBin dMul (mBin dIx (mVar 0) (mC (.int 4))) (mC (.int 1299689)))) (mC (.int 65437))) mNil)) (mC (.int 2147483549))) (mgSub (mVar 0) (mC (.int 3))))
    (msRet (mBin dMod (mCall dInt (mCons (mBin dAdd (mBin dDiv (mBin dIx (mVar 0) (mC (.int 3))) (mC (.int 89))) (mBin dMul (mBin dMod (mCall dInt (mCons (mBin dIx (mVar 0) (mC (.int 3))) mNil)) (mC (.int 7919))) (mC (.int 71)))) mNil)) (mVar 1))))))))
theorem sc__law_pull : FnScope N__law_pull ["_law_bag", "_law_sides"] (defScope s__law_pull) := ⟨rfl, rfl, rfl, by decide +kernel, rfl, by decide +kernel, by decide +kernel⟩
def F__law_pull : IF := runI N__law_pull.length m__law_pull
theorem ok__law_pull (C : CtxT P K w mg) (B : CtxB K mg base) : FnI P w K mg base "_law_pull" (1) 2 (F__law_pull) := by
  have sc := sc__law_pull
  obtain ⟨f, fd, Fd, g⟩ := C.d__law_pull
  exact ⟨⟨f, fd, ["_law_bag", "_law_sides"], g, Fd.kp, Fd.bindsN (fun _ _ _ _ _ _ us hl => match us, hl with | [_, _], _ => rfl), rfl, fnI Fd sc fun cdv A outer s H E hr => (rss_cons (rs_asg (re_add (re_ix (re_var 0) re_int) re_int) (rg_sub (W := W0) (re_var 0) re_int))
    (rss_cons (rs_if (rt_bool (rw_and (rt_eq hr (re_ix (re_var 0) re_int) re_int) (rw_and1 (rt_lt (re_ix (re_var 0) re_int) (re_len C.n_len (ra_cons (re_ix (re_var 0) re_int) ra_nil)))))) (rss_cons (rs_asg (re_tup (ra_cons (re_ix (re_ix (re_var 0) re_int) (re_ix (re_var 0) re_int)) (ra_cons (re_add (re_ix (re_var 0) re_int) re_int) ra_nil))) (rg_tup (n := 2) rfl (rgs_cons (rg_name 3 sc.nd) (rgs_cons (rg_sub (W := W0) (re_var 0) re_int) rgs_nil))))
    (rss_cons (rs_if (rt_ge (re_var 3) (re_pow re_int re_int)) (rss_one (rs_asg (re_var 3) (rg_sub (W := W0) (re_var 0) re_int))) rss_nil)
    (rss_one (rs_asg (re_mod (re_intc C.n_int (ra_cons (re_add (re_add (re_mul (re_ix (re_var 0) re_int) re_int) (re_mul (re_mod (re_intc C.n_int (ra_cons (re_var 3) ra_nil)) re_int) re_int)) re_int) ra_nil)) re_int) (rg_sub (W := W0) (re_var 0) re_int))))) rss_nil)
    (rss_cons (rs_if (rt_gt (re_ix (re_var 0) re_int) re_int) (rss_cons (rs_asg (re_tup (ra_cons (re_mod (re_intc C.n_int (ra_cons (re_ix (re_var 0) re_int) ra_nil)) (re_var 1)) (ra_cons (re_div (re_ix (re_var 0) re_int) (re_var 1)) ra_nil))) (rg_tup (n := 2) rfl (rgs_cons (rg_name 4 sc.nd) (rgs_cons (rg_sub (W := W0) (re_var 0) re_int) rgs_nil))))
    (rss_one (rs_ret (re_var 4)))) rss_nil)
    (rss_cons (rs_set 2 sc.nd (re_ix (re_var 0) re_int))
    (rss_cons (rs_asg (re_mod (re_intc C.n_int (ra_cons (re_add (re_add (re_add (re_pow (re_var 2) re_int) (re_mul (re_var 2) re_int)) (re_mul (re_ix (re_var 0) re_int) re_int)) re_int) ra_nil)) re_int) (rg_sub (W := W0) (re_var 0) re_int))
    (rss_one (rs_ret (re_mod (re_intc C.n_int (ra_cons (re_add (re_div (re_ix (re_var 0) re_int) re_int) (re_mul (re_mod (re_intc C.n_int (ra_cons (re_ix (re_var 0) re_int) ra_nil)) re_int) re_int)) ra_nil)) (re_var 1)))))))))⟩⟩
def N__law_any : List Str := ["_law_bag", "_law_rows"]
def m__law_any : MS :=
    (msRet (mBin dIx (mVar 1) (mCallI F__law_pull (mCons (mVar 0) (mCons (mCall dLen (mCons (mVar 1) mNil)) mNil)))))
theorem sc__law_any : FnScope N__law_any ["_law_bag", "_law_rows"] (defScope s__law_any) := ⟨rfl, rfl, rfl, by decide +kernel, rfl, by decide +kernel, by decide +kernel⟩
def F__law_any : IF := runI N__law_any.length m__law_any
theorem ok__law_any (C : CtxT P K w mg) (B : CtxB K mg base) : FnI P w K mg base "_law_any" (2) 2 (F__law_any) := by
  have sc := sc__law_any
  have G__law_pull := ok__law_pull (P := P) (w := w) (base := base) C B
  obtain ⟨f, fd, Fd, g⟩ := C.d__law_any
  exact ⟨⟨f, fd, ["_law_bag", "_law_rows"], g, Fd.kp, Fd.bindsN (fun _ _ _ _ _ _ us hl => match us, hl with | [_, _], _ => rfl), rfl, fnI Fd sc fun cdv A outer s H E hr => (rss_one (rs_ret (re_ix (re_var 1) (re_callI G__law_pull hr tkOf (ra_cons (re_var 0) (ra_cons (re_len C.n_len (ra_cons (re_var 1) ra_nil)) ra_nil))))))⟩⟩
def N__law_reserved : List Str := []
def m__law_reserved : MS :=
    (msRet (mLst (mCons (mC (.str [97, 110, 100])) (mCons (mC (.str [102, 111, 117, 110, 100])) (mCons (mC (.str [107, 101, 121])) (mCons (mC (.str [110, 101, 120, 116])) (mCons (mC (.str [110, 111, 116])) (mCons (mC (.str [111, 114])) (mCons (mC (.str [111, 119, 110])) (mCons (mC (.str [115, 101, 116])) (mCons (mC (.str [116, 114, 117, 101])) (mCons (mC (.str [119, 104, 101, 114, 101])) mNil))))))))))))
theorem sc__law_reserved : FnScope N__law_reserved [] (defScope s__law_reserved) := ⟨rfl, rfl, rfl, by decide +kernel, rfl, by decide +kernel, by decide +kernel⟩
def F__law_reserved : PF := runP N__law_reserved.length m__law_reserved
theorem ok__law_reserved (C : CtxT P K w mg) (B : CtxB K mg base) : FnP P w K mg base "_law_reserved" (1) 0 (F__law_reserved) := by
  have sc := sc__law_reserved
  obtain ⟨f, fd, Fd, g⟩ := C.d__law_reserved
  exact ⟨⟨f, fd, [], g, Fd.kp, Fd.bindsN (fun _ _ _ _ _ _ us hl => match us, hl with | [], _ => rfl), rfl, fnP Fd sc fun cdv A outer s H E hr => (rss_one (rs_ret (re_lst (ra_cons (re_str [97, 110, 100]) (ra_cons (re_str [102, 111, 117, 110, 100]) (ra_cons (re_str [107, 101, 121]) (ra_cons (re_str [110, 101, 120, 116]) (ra_cons (re_str [110, 111, 116]) (ra_cons (re_str [111, 114]) (ra_cons (re_str [111, 119, 110]) (ra_cons (re_str [115, 101, 116]) (ra_cons (re_str [116, 114, 117, 101]) (ra_cons (re_str [119, 104, 101, 114, 101]) ra_nil)))))))))))))⟩⟩
def N__law_new_names : List Str := ["_law_bag", "_law_many", "_law_abc", "_law_stem", "_law_rows", "_law_at", "_law_first", "_law_k", "_law_row"]
def me__law_new_names_0 : M D :=
    (mIf (mTst (mBin dInA (mVar 8) (mCallP F__law_reserved mNil))) (mBin dAdd (mVar 8) (mC (.str [113]))) (mVar 8))
def me__law_new_names_1 : M D :=
    (mBin dAdd (mBin dAdd (mSl (mVar 3) mNoP (mSmP (mVar 5))) (mBin dIx (mVar 2) (mBin dSub (mBin dAdd (mVar 6) (mVar 7)) (mC (.int 26))))) (mSl (mVar 3) (mSmP (mVar 5)) mNoP))
def m__law_new_names : MS :=
    (msSeq (msAsg (mC (.str [97, 98, 99, 100, 101, 102, 103, 104, 105, 106, 107, 108, 109, 110, 111, 112, 113, 114, 115, 116, 117, 118, 119, 120, 121, 122])) (mgName 2))
    (msSeq (msAsg (mMtS dJoin (mC (.str [])) (mCons (mLc [7] (miR1 (mCons (mCallI F__law_pull (mCons (mVar 0) (mCons (mC (.int 5)) mNil))) mNil)) (mgName 7) mYes (mCallI F__law_any (mCons (mVar 0) (mCons (mVar 2) mNil)))) mNil)) (mgName 3))
    (msSeq (msAsg (mTup (mCons (mCallI F__law_pull (mCons (mVar 0) (mCons (mBin dAdd (mCall dLen (mCons (mVar 3) mNil)) (mC (.int 1))) mNil))) (mCons (mCallI F__law_pull (mCons (mVar 0) (mCons (mC (.int 26)) mNil))) mNil))) (mgTup 2 (mgCons (mgName 5) (mgCons (mgName 6) mgNil))))
    (msSeq (msAsg (mLc [7] (miR1 (mCons (mVar 1) mNil)) (mgName 7) mYes me__law_new_names_1) (mgName 4))
    (msRet (mLc [8] (miL (mVar 4)) (mgName 8) mYes me__law_new_names_0))))))
theorem sc__law_new_names : FnScope N__law_new_names ["_law_bag", "_law_many"] (defScope s__law_new_names) := ⟨rfl, rfl, rfl, by decide +kernel, rfl, by decide +kernel, by decide +kernel⟩
def F__law_new_names : IF := runI N__law_new_names.length m__law_new_names
theorem ok__law_new_names (C : CtxT P K w mg) (B : CtxB K mg base) : FnI P w K mg base "_law_new_names" (3) 2 (F__law_new_names) := by
  have sc := sc__law_new_names
  have G__law_any := ok__law_any (P := P) (w := w) (base := base) C B
  have G__law_pull := ok__law_pull (P := P) (w := w) (base := base) C B
  have G__law_reserved := ok__law_reserved (P := P) (w := w) (base := base) C B
  obtain ⟨f, fd, Fd, g⟩ := C.d__law_new_names
  exact ⟨⟨f, fd, ["_law_bag", "_law_many"], g, Fd.kp, Fd.bindsN (fun _ _ _ _ _ _ us hl => match us, hl with | [_, _], _ => rfl), rfl, fnI Fd sc fun cdv A outer s H E hr => (rss_cons (rs_set 2 sc.nd (re_str [97, 98, 99, 100, 101, 102, 103, 104, 105, 106, 107, 108, 109, 110, 111, 112, 113, 114, 115, 116, 117, 118, 119, 120, 121, 122]))
    (rss_cons (rs_set 3 sc.nd (re_join (re_str []) (ra_cons (re_lc (own := [("_law_k", 7)]) rfl sc.nd (ri_range1 C.n_range (ra_cons (re_callI G__law_pull hr tkOf (ra_cons (re_var 0) (ra_cons re_int ra_nil))) ra_nil)) (blkOk_by (N := N__law_new_names) (sc := defScope s__law_new_names) (by decide +kernel)) (by decide) (fun _ _ _ _ _ => (rg_name 7 sc.nd)) (fun _ _ _ _ _ => rts_nil) (fun _ _ _ _ _ => (re_callI G__law_any hr takes0 (ra_cons (re_var 0) (ra_cons (re_var 2) ra_nil))))) ra_nil)))
    (rss_cons (rs_asg (re_tup (ra_cons (re_callI G__law_pull hr tkOf (ra_cons (re_var 0) (ra_cons (re_add (re_len C.n_len (ra_cons (re_var 3) ra_nil)) re_int) ra_nil))) (ra_cons (re_callI G__law_pull hr tkOf (ra_cons (re_var 0) (ra_cons re_int ra_nil))) ra_nil))) (rg_tup (n := 2) rfl (rgs_cons (rg_name 5 sc.nd) (rgs_cons (rg_name 6 sc.nd) rgs_nil))))
    (rss_cons (rs_setLc (own := [("_law_k", 7)]) 4 rfl sc.nd (ri_range1 C.n_range (ra_cons (re_var 1) ra_nil)) (blkOk_by (N := N__law_new_names) (sc := defScope s__law_new_names) (by decide +kernel)) (fun _ _ _ _ _ => (rg_name 7 sc.nd)) (fun _ _ _ _ _ => rts_nil) (fun _ _ _ _ _ => (re_add (re_add (re_slice (re_var 3) ro_none (ro_some (re_var 5))) (re_ix (re_var 2) (re_sub (re_add (re_var 6) (re_var 7)) re_int))) (re_slice (re_var 3) (ro_some (re_var 5)) ro_none))))
    (rss_one (rs_ret (re_lc (own := [("_law_row", 8)]) rfl sc.nd (ri_list (re_var 4)) (blkOk_by (N := N__law_new_names) (sc := defScope s__law_new_names) (by decide +kernel)) (by decide) (fun _ _ _ _ _ => (rg_name 8 sc.nd)) (fun _ _ _ _ _ => rts_nil) (fun _ _ _ _ _ => (re_if (rt_in (re_var 8) (re_callP0 G__law_reserved hr takes0)) (re_add (re_var 8) (re_str [113])) (re_var 8))))))))))⟩⟩
def N__law_near : List Str := ["_law_bag"]
def m__law_near : MS :=
    (msRet (mCallI F__law_any (mCons (mVar 0) (mCons (mLst (mCons (mC (.int 0)) (mCons (mC (.int 1)) (mCons (mC (.int 1)) (mCons (mC (.int 2)) (mCons (mC (.int 3)) (mCons (mBin dSub (mC (.int 0)) (mC (.int 1))) (mCons (mBin dSub (mC (.int 0)) (mC (.int 2))) mNil)))))))) mNil))))
theorem sc__law_near : FnScope N__law_near ["_law_bag"] (defScope s__law_near) := ⟨rfl, rfl, rfl, by decide +kernel, rfl, by decide +kernel, by decide +kernel⟩
def F__law_near : IF := runI N__law_near.length m__law_near
theorem ok__law_near (C : CtxT P K w mg) (B : CtxB K mg base) : FnI P w K mg base "_law_near" (3) 1 (F__law_near) := by
  have sc := sc__law_near
  have G__law_any := ok__law_any (P := P) (w := w) (base := base) C B
  obtain ⟨f, fd, Fd, g⟩ := C.d__law_near
  exact ⟨⟨f, fd, ["_law_bag"], g, Fd.kp, Fd.bindsN (fun _ _ _ _ _ _ us hl => match us, hl with | [_], _ => rfl), rfl, fnI Fd sc fun cdv A outer s H E hr => (rss_one (rs_ret (re_callI G__law_any hr tkOf (ra_cons (re_var 0) (ra_cons (re_lst (ra_cons re_int (ra_cons re_int (ra_cons re_int (ra_cons re_int (ra_cons re_int (ra_cons (re_sub re_int re_int) (ra_cons (re_sub re_int re_int) ra_nil)))))))) ra_nil)))))⟩⟩
def N__law_some_value : List Str := ["_law_bag", "_law_pool", "_law_plain"]
def m__law_some_value : MS :=
    (msSeq (msAsg (mCallI F__law_any (mCons (mVar 0) (mCons (mBin dAdd (mVar 1) (mLst (mCons (mTup (mCons (mC (.str [110, 117, 109, 98, 101, 114])) (mCons (mCallI F__law_near (mCons (mVar 0) mNil)) mNil))) mNil))) mNil))) (mgName 2))
    (msRet (mIf (mTst (mBin dEq (mCallI F__law_pull (mCons (mVar 0) (mCons (mC (.int 3)) mNil))) (mC (.int 0)))) (mTup (mCons (mC (.str [112, 108, 117, 115])) (mCons (mVar 2) (mCons (mCallI F__law_near (mCons (mVar 0) mNil)) mNil)))) (mVar 2))))
theorem sc__law_some_value : FnScope N__law_some_value ["_law_bag", "_law_pool"] (defScope s__law_some_value) := ⟨rfl, rfl, rfl, by decide +kernel, rfl, by decide +kernel, by decide +kernel⟩
def F__law_some_value : IF := runI N__law_some_value.length m__law_some_value
theorem ok__law_some_value (C : CtxT P K w mg) (B : CtxB K mg base) : FnI P w K mg base "_law_some_value" (4) 2 (F__law_some_value) := by
  have sc := sc__law_some_value
  have G__law_any := ok__law_any (P := P) (w := w) (base := base) C B
  have G__law_near := ok__law_near (P := P) (w := w) (base := base) C B
  have G__law_pull := ok__law_pull (P := P) (w := w) (base := base) C B
  obtain ⟨f, fd, Fd, g⟩ := C.d__law_some_value
  exact ⟨⟨f, fd, ["_law_bag", "_law_pool"], g, Fd.kp, Fd.bindsN (fun _ _ _ _ _ _ us hl => match us, hl with | [_, _], _ => rfl), rfl, fnI Fd sc fun cdv A outer s H E hr => (rss_cons (rs_set 2 sc.nd (re_callI G__law_any hr tkOf (ra_cons (re_var 0) (ra_cons (re_add (re_var 1) (re_lst (ra_cons (re_tup (ra_cons (re_str [110, 117, 109, 98, 101, 114]) (ra_cons (re_callI G__law_near hr tkOf (ra_cons (re_var 0) ra_nil)) ra_nil))) ra_nil))) ra_nil))))
    (rss_one (rs_ret (re_if (rt_eq hr (re_callI G__law_pull hr tkOf (ra_cons (re_var 0) (ra_cons re_int ra_nil))) re_int) (re_tup (ra_cons (re_str [112, 108, 117, 115]) (ra_cons (re_var 2) (ra_cons (re_callI G__law_near hr tkOf (ra_cons (re_var 0) ra_nil)) ra_nil)))) (re_var 2)))))⟩⟩
def N__law_some_compared : List Str := ["_law_bag", "_law_pool", "_law_one"]
def m__law_some_compared : MS :=
    (msSeq (msAsg (mIf (mTst (mBin dNe (mVar 1) (mLst mNil))) (mCallI F__law_any (mCons (mVar 0) (mCons (mVar 1) mNil))) (mTup (mCons (mC (.str [110, 117, 109, 98, 101, 114])) (mCons (mCallI F__law_near (mCons (mVar 0) mNil)) mNil)))) (mgName 2))
    (msSeq (msIf (mTst (mBin dEq (mCallI F__law_pull (mCons (mVar 0) (mCons (mC (.int 4)) mNil))) (mC (.int 0)))) (msAsg (mTup (mCons (mC (.str [112, 108, 117, 115])) (mCons (mVar 2) (mCons (mCallI F__law_near (mCons (mVar 0) mNil)) mNil)))) (mgName 2)) msNil)
    (msRet (mTup (mCons (mCallI F__law_any (mCons (mVar 0) (mCons (mLst (mCons (mC (.str [97, 116, 109, 111, 115, 116])) (mCons (mC (.str [98, 101, 108, 111, 119])) (mCons (mC (.str [98, 101, 108, 111, 119])) (mCons (mC (.str [115, 97, 109, 101])) mNil))))) mNil))) (mCons (mVar 2) (mCons (mCallI F__law_some_value (mCons (mVar 0) (mCons (mVar 1) mNil))) mNil)))))))
theorem sc__law_some_compared : FnScope N__law_some_compared ["_law_bag", "_law_pool"] (defScope s__law_some_compared) := ⟨rfl, rfl, rfl, by decide +kernel, rfl, by decide +kernel, by decide +kernel⟩
def F__law_some_compared : IF := runI N__law_some_compared.length m__law_some_compared
theorem ok__law_some_compared (C : CtxT P K w mg) (B : CtxB K mg base) : FnI P w K mg base "_law_some_compared" (5) 2 (F__law_some_compared) := by
  have sc := sc__law_some_compared
  have G__law_any := ok__law_any (P := P) (w := w) (base := base) C B
  have G__law_near := ok__law_near (P := P) (w := w) (base := base) C B
  have G__law_pull := ok__law_pull (P := P) (w := w) (base := base) C B
  have G__law_some_value := ok__law_some_value (P := P) (w := w) (base := base) C B
  obtain ⟨f, fd, Fd, g⟩ := C.d__law_some_compared
  exact ⟨⟨f, fd, ["_law_bag", "_law_pool"], g, Fd.kp, Fd.bindsN (fun _ _ _ _ _ _ us hl => match us, hl with | [_, _], _ => rfl), rfl, fnI Fd sc fun cdv A outer s H E hr => (rss_cons (rs_set 2 sc.nd (re_if (rt_ne hr (re_var 1) (re_lst ra_nil)) (re_callI G__law_any hr tkOf (ra_cons (re_var 0) (ra_cons (re_var 1) ra_nil))) (re_tup (ra_cons (re_str [110, 117, 109, 98, 101, 114]) (ra_cons (re_callI G__law_near hr tkOf (ra_cons (re_var 0) ra_nil)) ra_nil)))))
    (rss_cons (rs_if (rt_eq hr (re_callI G__law_pull hr tkOf (ra_cons (re_var 0) (ra_cons re_int ra_nil))) re_int) (rss_one (rs_set 2 sc.nd (re_tup (ra_cons (re_str [112, 108, 117, 115]) (ra_cons (re_var 2) (ra_cons (re_callI G__law_near hr tkOf (ra_cons (re_var 0) ra_nil)) ra_nil)))))) rss_nil)
    (rss_one (rs_ret (re_tup (ra_cons (re_callI G__law_any hr tkOf (ra_cons (re_var 0) (ra_cons (re_lst (ra_cons (re_str [97, 116, 109, 111, 115, 116]) (ra_cons (re_str [98, 101, 108, 111, 119]) (ra_cons (re_str [98, 101, 108, 111, 119]) (ra_cons (re_str [115, 97, 109, 101]) ra_nil))))) ra_nil))) (ra_cons (re_var 2) (ra_cons (re_callI G__law_some_value hr tkOf (ra_cons (re_var 0) (ra_cons (re_var 1) ra_nil))) ra_nil))))))))⟩⟩
def N__law_some_condition : List Str := ["_law_bag", "_law_pool", "_law_deep", "_law_way", "_law_word"]
def m__law_some_condition (F : IF) : MS :=
    (msSeq (msAsg (mIf (mTst (mBin dGt (mVar 2) (mC (.int 0)))) (mCallI F__law_pull (mCons (mVar 0) (mCons (mC (.int 7)) mNil))) (mCallI F__law_pull (mCons (mVar 0) (mCons (mC (.int 3)) mNil)))) (mgName 3))
    (msSeq (msIf (mTst (mBin dLt (mVar 3) (mC (.int 1)))) (msRet (mTup (mCons (mC (.str [116, 114, 117, 101])) mNil))) msNil)
    (msSeq (msIf (mTst (mBin dLt (mVar 3) (mC (.int 4)))) (msRet (mCallI F__law_some_compared (mCons (mVar 0) (mCons (mVar 1) mNil)))) msNil)
    (msSeq (msIf (mTst (mBin dEq (mVar 3) (mC (.int 4)))) (msRet (mTup (mCons (mC (.str [110, 111, 116])) (mCons (mCallI F (mCons (mVar 0) (mCons (mVar 1) (mCons (mBin dSub (mVar 2) (mC (.int 1))) mNil)))) mNil)))) msNil)
    (msSeq (msAsg (mIf (mTst (mBin dEq (mVar 3) (mC (.int 5)))) (mC (.str [97, 110, 100])) (mC (.str [111, 114]))) (mgName 4))
    (msRet (mTup (mCons (mVar 4) (mCons (mCallI F (mCons (mVar 0) (mCons (mVar 1) (mCons (mBin dSub (mVar 2) (mC (.int 1))) mNil)))) (mCons (mCallI F (mCons (mVar 0) (mCons (mVar 1) (mCons (mBin dSub (mVar 2) (mC (.int 1))) mNil)))) mNil))))))))))
theorem sc__law_some_condition : FnScope N__law_some_condition ["_law_bag", "_law_pool", "_law_deep"] (defScope s__law_some_condition) := ⟨rfl, rfl, rfl, by decide +kernel, rfl, by decide +kernel, by decide +kernel⟩
def F__law_some_condition_ : Nat → IF
  | 0 => fun _ _ => none
  | t + 1 => runI N__law_some_condition.length (m__law_some_condition (F__law_some_condition_ t))
def F__law_some_condition : IF := F__law_some_condition_ 8
theorem okr__law_some_condition (C : CtxT P K w mg) (B : CtxB K mg base) : ∀ t, FnI P w K mg base "_law_some_condition" (5 + (t)) 3 (F__law_some_condition_ t) := by
  have sc := sc__law_some_condition
  have G__law_pull := ok__law_pull (P := P) (w := w) (base := base) C B
  have G__law_some_compared := ok__law_some_compared (P := P) (w := w) (base := base) C B
  obtain ⟨f, fd, Fd, g⟩ := C.d__law_some_condition
  intro t
  induction t with
  | zero => exact ⟨⟨f, fd, ["_law_bag", "_law_pool", "_law_deep"], g, Fd.kp, Fd.bindsN (fun _ _ _ _ _ _ us hl => match us, hl with | [_, _, _], _ => rfl), rfl, fnOk0I⟩⟩
  | succ t G =>
    have Z : FnI P w K mg base "_law_some_condition" (5 + t + 1) 3 (F__law_some_condition_ (t + 1)) := ⟨⟨f, fd, ["_law_bag", "_law_pool", "_law_deep"], g, Fd.kp, Fd.bindsN (fun _ _ _ _ _ _ us hl => match us, hl with | [_, _, _], _ => rfl), rfl, fnI Fd sc fun cdv A outer s H E hr => (rss_cons (rs_set 3 sc.nd (re_if (rt_gt (re_var 2) re_int) (re_callI G__law_pull hr tkOf (ra_cons (re_var 0) (ra_cons re_int ra_nil)) (hk := by omega)) (re_callI G__law_pull hr tkOf (ra_cons (re_var 0) (ra_cons re_int ra_nil)) (hk := by omega))))
    (rss_cons (rs_if (rt_lt (re_var 3) re_int) (rss_one (rs_ret (re_tup (ra_cons (re_str [116, 114, 117, 101]) ra_nil)))) rss_nil)
    (rss_cons (rs_if (rt_lt (re_var 3) re_int) (rss_one (rs_ret (re_callI G__law_some_compared hr tkOf (ra_cons (re_var 0) (ra_cons (re_var 1) ra_nil)) (hk := by omega)))) rss_nil)
    (rss_cons (rs_if (rt_eq hr (re_var 3) re_int) (rss_one (rs_ret (re_tup (ra_cons (re_str [110, 111, 116]) (ra_cons (re_callI G hr tkOf (ra_cons (re_var 0) (ra_cons (re_var 1) (ra_cons (re_sub (re_var 2) re_int) ra_nil))) (hk := by omega)) ra_nil))))) rss_nil)
    (rss_cons (rs_set 4 sc.nd (re_if (rt_eq hr (re_var 3) re_int) (re_str [97, 110, 100]) (re_str [111, 114])))
    (rss_one (rs_ret (re_tup (ra_cons (re_var 4) (ra_cons (re_callI G hr tkOf (ra_cons (re_var 0) (ra_cons (re_var 1) (ra_cons (re_sub (re_var 2) re_int) ra_nil))) (hk := by omega)) (ra_cons (re_callI G hr tkOf (ra_cons (re_var 0) (ra_cons (re_var 1) (ra_cons (re_sub (re_var 2) re_int) ra_nil))) (hk := by omega)) ra_nil)))))))))))⟩⟩
    exact FnI.mono Z (by omega)
theorem ok__law_some_condition (C : CtxT P K w mg) (B : CtxB K mg base) : FnI P w K mg base "_law_some_condition" (14) 3 (F__law_some_condition) := FnI.mono (okr__law_some_condition C B 8) (by decide)
def N_all_of : List Str := ["conditions", "found", "condition"]
def mb_all_of_0 : MS :=
    (msAsg (mTup (mCons (mC (.str [97, 110, 100])) (mCons (mVar 2) (mCons (mVar 1) mNil)))) (mgName 1))
def m_all_of : MS :=
    (msSeq (msIf (mTst (mBin dEq (mCall dLen (mCons (mVar 0) mNil)) (mC (.int 0)))) (msRet (mTup (mCons (mC (.str [116, 114, 117, 101])) mNil))) msNil)
    (msSeq (msAsg (mBin dIx (mVar 0) (mNeg (mC (.int 1)))) (mgName 1))
    (msSeq (msFor (miT (mSlR (mVar 0) (mSmP (mNeg (mC (.int 2)))) (mNeg (mC (.int 1))))) (mgName 2) mb_all_of_0)
    (msRet (mVar 1)))))
theorem sc_all_of : FnScope N_all_of ["conditions"] (defScope s_all_of) := ⟨rfl, rfl, rfl, by decide +kernel, rfl, by decide +kernel, by decide +kernel⟩
def F_all_of : PF := runP N_all_of.length m_all_of
theorem ok_all_of (C : CtxT P K w mg) (B : CtxB K mg base) : FnS P w K mg base "all_of" (1) F_all_of := by
  have sc := sc_all_of
  obtain ⟨f, fd, Fd, g⟩ := C.d_all_of
  exact fnS (pv := "conditions") g Fd sc (fun kV doc pm an cdv ct us rest hl => bind_star0 (B := fun l => bindArgs (PySem.W.fnOf "all_of" "all_of" (defArgs s_all_of) (defBody s_all_of) (defScope s_all_of) .none kV doc pm an cdv ct) ⟨l, []⟩) rfl (fun _ _ => rfl) us rest hl) fun cdv A outer s H E hr => (rss_cons (rs_if (rt_eq hr (re_len C.n_len (ra_cons (re_var 0) ra_nil)) re_int) (rss_one (rs_ret (re_tup (ra_cons (re_str [116, 114, 117, 101]) ra_nil)))) rss_nil)
    (rss_cons (rs_set 1 sc.nd (re_ix (re_var 0) (re_neg re_int)))
    (rss_cons (rs_for poOf rfl (ri_tup (re_sliceR (re_var 0) (ro_some (re_neg re_int)) (re_neg re_int))) (rg_name 2 sc.nd) (rss_one (rs_set 1 sc.nd (re_tup (ra_cons (re_str [97, 110, 100]) (ra_cons (re_var 2) (ra_cons (re_var 1) ra_nil)))))))
    (rss_one (rs_ret (re_var 1))))))
def N__law_like : List Str := ["_law_a", "_law_b", "_law_same", "_law_c", "_law_d"]
def m__law_like (F : PF) : MS :=
    (msSeq (msIf (mTst (mIsi [.lst, .tup] (mVar 1))) (msSeq (msAsg (mAndV (mBin dEq (mIsi [.lst] (mVar 0)) (mIsi [.lst] (mVar 1))) (mBin dEq (mIsi [.tup] (mVar 0)) (mIsi [.tup] (mVar 1)))) (mgName 2))
    (msRet (mAndV (mVar 2) (mAndV (mBin dEq (mCall dLen (mCons (mVar 0) mNil)) (mCall dLen (mCons (mVar 1) mNil))) (mCall dAll (mCons (mLc [3, 4] (miZip (mCons (mVar 0) (mCons (mVar 1) mNil))) (mgTup 2 (mgCons (mgName 3) (mgCons (mgName 4) mgNil))) mYes (mCallP F (mCons (mVar 3) (mCons (mVar 4) mNil)))) mNil)))))) msNil)
    (msSeq (msIf (mOr (mTst (mBin (dIsN false) (mVar 0) (mC .non))) (mOr (mTst (mBin (dIsN false) (mVar 1) (mC .non))) (mTst (mBin dNe (mIsi [.bool] (mVar 0)) (mIsi [.bool] (mVar 1)))))) (msRet (mAndV (mBin (dIsN false) (mVar 0) (mC .non)) (mBin (dIsN false) (mVar 1) (mC .non)))) msNil)
    (msRet (mAndV (mBin dEq (mIsi [.int] (mVar 0)) (mIsi [.int] (mVar 1))) (mAndV (mBin dEq (mIsi [.str] (mVar 0)) (mIsi [.str] (mVar 1))) (mBin dEq (mVar 0) (mVar 1)))))))
theorem sc__law_like : FnScope N__law_like ["_law_a", "_law_b"] (defScope s__law_like) := ⟨rfl, rfl, rfl, by decide +kernel, rfl, by decide +kernel, by decide +kernel⟩
def F__law_like_ : Nat → PF
  | 0 => fun _ => none
  | t + 1 => runP N__law_like.length (m__law_like (F__law_like_ t))
def F__law_like : PF := F__law_like_ 30
theorem okr__law_like (C : CtxT P K w mg) (B : CtxB K mg base) : ∀ t, FnP P w K mg base "_law_like" (0 + (t)) 2 (F__law_like_ t) := by
  have sc := sc__law_like
  obtain ⟨f, fd, Fd, g⟩ := C.d__law_like
  intro t
  induction t with
  | zero => exact ⟨⟨f, fd, ["_law_a", "_law_b"], g, Fd.kp, Fd.bindsN (fun _ _ _ _ _ _ us hl => match us, hl with | [_, _], _ => rfl), rfl, fnOk0⟩⟩
  | succ t G =>
    have Z : FnP P w K mg base "_law_like" (0 + t + 1) 2 (F__law_like_ (t + 1)) := ⟨⟨f, fd, ["_law_a", "_law_b"], g, Fd.kp, Fd.bindsN (fun _ _ _ _ _ _ us hl => match us, hl with | [_, _], _ => rfl), rfl, fnP Fd sc fun cdv A outer s H E hr => (rss_cons (rs_if (rt_val (re_isi2 .lst .tup C.n_isinstance C.n_list C.n_tuple (re_var 1))) (rss_cons (rs_set 2 sc.nd (re_and (re_eq hr (re_isi .lst C.n_isinstance C.n_list (re_var 0)) (re_isi .lst C.n_isinstance C.n_list (re_var 1))) (re_one (re_eq hr (re_isi .tup C.n_isinstance C.n_tuple (re_var 0)) (re_isi .tup C.n_isinstance C.n_tuple (re_var 1))))))
    (rss_one (rs_ret (re_and (re_var 2) (re_and (re_eq hr (re_len C.n_len (ra_cons (re_var 0) ra_nil)) (re_len C.n_len (ra_cons (re_var 1) ra_nil))) (re_one (re_all rfl C.n_all (ra_cons (re_lc (own := [("_law_c", 3), ("_law_d", 4)]) rfl sc.nd (ri_zip C.n_zip (ra_cons (re_var 0) (ra_cons (re_var 1) ra_nil))) (blkOk_by (N := N__law_like) (sc := defScope s__law_like) (by decide +kernel)) (by decide) (fun _ _ _ _ _ => (rg_tup (n := 2) rfl (rgs_cons (rg_name 3 sc.nd) (rgs_cons (rg_name 4 sc.nd) rgs_nil)))) (fun _ _ _ _ _ => rts_nil) (fun _ _ _ _ _ => (re_callP G hr takes0 (ra_cons (re_var 3) (ra_cons (re_var 4) ra_nil)) (hk := by omega)))) ra_nil)))))))) rss_nil)
    (rss_cons (rs_if (rt_bool (rw_or (rt_is (re_var 0) re_non) (rw_or (rt_is (re_var 1) re_non) (rw_or1 (rt_ne hr (re_isi .bool C.n_isinstance C.n_bool (re_var 0)) (re_isi .bool C.n_isinstance C.n_bool (re_var 1))))))) (rss_one (rs_ret (re_and (re_is (re_var 0) re_non) (re_one (re_is (re_var 1) re_non))))) rss_nil)
    (rss_one (rs_ret (re_and (re_eq hr (re_isi .int C.n_isinstance C.n_int (re_var 0)) (re_isi .int C.n_isinstance C.n_int (re_var 1))) (re_and (re_eq hr (re_isi .str C.n_isinstance C.n_str (re_var 0)) (re_isi .str C.n_isinstance C.n_str (re_var 1))) (re_one (re_eq hr (re_var 0) (re_var 1)))))))))⟩⟩
    exact FnP.mono Z (by omega)
theorem ok__law_like (C : CtxT P K w mg) (B : CtxB K mg base) : FnP P w K mg base "_law_like" (31) 2 (F__law_like) := FnP.mono (okr__law_like C B 30) (by decide)
def N_inner_parts : List Str := ["condition", "at"]
def me_inner_parts_0 : M D :=
    (mTup (mCons (mVar 1) (mCons (mBin dIx (mVar 0) (mVar 1)) mNil)))
def m_inner_parts : MS :=
    (msSeq (msIf (mTst (mBin dNinA (mBin dIx (mVar 0) (mC (.int 0))) (mTup (mCons (mC (.str [110, 111, 116])) (mCons (mC (.str [97, 110, 100])) (mCons (mC (.str [111, 114])) mNil)))))) (msRet (mLst mNil)) msNil)
    (msRet (mLc [1] (miR2 (mCons (mC (.int 1)) (mCons (mCall dLen (mCons (mVar 0) mNil)) mNil))) (mgName 1) mYes me_inner_parts_0)))
theorem sc_inner_parts : FnScope N_inner_parts ["condition"] (defScope s_inner_parts) := ⟨rfl, rfl, rfl, by decide +kernel, rfl, by decide +kernel, by decide +kernel⟩
def F_inner_parts : PF := runP N_inner_parts.length m_inner_parts
theorem ok_inner_parts (C : CtxT P K w mg) (B : CtxB K mg base) : FnP P w K mg base "inner_parts" (1) 1 (F_inner_parts) := by
  have sc := sc_inner_parts
  obtain ⟨f, fd, Fd, g⟩ := C.d_inner_parts
  exact ⟨⟨f, fd, ["condition"], g, Fd.kp, Fd.bindsN (fun _ _ _ _ _ _ us hl => match us, hl with | [_], _ => rfl), rfl, fnP Fd sc fun cdv A outer s H E hr => (rss_cons (rs_if (rt_nin (re_ix (re_var 0) re_int) (re_tup (ra_cons (re_str [110, 111, 116]) (ra_cons (re_str [97, 110, 100]) (ra_cons (re_str [111, 114]) ra_nil))))) (rss_one (rs_ret (re_lst ra_nil))) rss_nil)
    (rss_one (rs_ret (re_lc (own := [("at", 1)]) rfl sc.nd (ri_range2 C.n_range (ra_cons re_int (ra_cons (re_len C.n_len (ra_cons (re_var 0) ra_nil)) ra_nil))) (blkOk_by (N := N_inner_parts) (sc := defScope s_inner_parts) (by decide +kernel)) (by decide) (fun _ _ _ _ _ => (rg_name 1 sc.nd)) (fun _ _ _ _ _ => rts_nil) (fun _ _ _ _ _ => (re_tup (ra_cons (re_var 1) (ra_cons (re_ix (re_var 0) (re_var 1)) ra_nil))))))))⟩⟩
def N_is_integer : List Str := ["value"]
def m_is_integer : MS :=
    (msRet (mAndV (mIsi [.int] (mVar 0)) (mNotV (mIsi [.bool] (mVar 0)))))
theorem sc_is_integer : FnScope N_is_integer ["value"] (defScope s_is_integer) := ⟨rfl, rfl, rfl, by decide +kernel, rfl, by decide +kernel, by decide +kernel⟩
def F_is_integer : PF := runP N_is_integer.length m_is_integer
theorem ok_is_integer (C : CtxT P K w mg) (B : CtxB K mg base) : FnP P w K mg base "is_integer" (1) 1 (F_is_integer) := by
  have sc := sc_is_integer
  obtain ⟨f, fd, Fd, g⟩ := C.d_is_integer
  exact ⟨⟨f, fd, ["value"], g, Fd.kp, Fd.bindsN (fun _ _ _ _ _ _ us hl => match us, hl with | [_], _ => rfl), rfl, fnP Fd sc fun cdv A outer s H E hr => (rss_one (rs_ret (re_and (re_isi .int C.n_isinstance C.n_int (re_var 0)) (re_one (re_not (re_isi .bool C.n_isinstance C.n_bool (re_var 0)))))))⟩⟩
def N_is_constant : List Str := ["value"]
def m_is_constant : MS :=
    (msRet (mAndV (mCallP F_is_integer (mCons (mVar 0) mNil)) (mChain dLe dLe (mBin dSub (mC (.int 0)) (mC g_GREATEST)) (mVar 0) (mC g_GREATEST))))
theorem sc_is_constant : FnScope N_is_constant ["value"] (defScope s_is_constant) := ⟨rfl, rfl, rfl, by decide +kernel, rfl, by decide +kernel, by decide +kernel⟩
def F_is_constant : PF := runP N_is_constant.length m_is_constant
theorem ok_is_constant (C : CtxT P K w mg) (B : CtxB K mg base) : FnP P w K mg base "is_constant" (2) 1 (F_is_constant) := by
  have sc := sc_is_constant
  have G_is_integer := ok_is_integer (P := P) (w := w) (base := base) C B
  obtain ⟨f, fd, Fd, g⟩ := C.d_is_constant
  exact ⟨⟨f, fd, ["value"], g, Fd.kp, Fd.bindsN (fun _ _ _ _ _ _ us hl => match us, hl with | [_], _ => rfl), rfl, fnP Fd sc fun cdv A outer s H E hr => (rss_one (rs_ret (re_and (re_callP G_is_integer hr tkOf (ra_cons (re_var 0) ra_nil)) (re_one (re_lele (re_sub re_int (re_glob C.c_GREATEST)) (re_var 0) (re_glob C.c_GREATEST))))))⟩⟩
def N_is_name : List Str := ["value", "letter"]
def m_is_name : MS :=
    (msSeq (msIf (mOr (mNot (mTst (mIsi [.str] (mVar 0)))) (mOr (mNot (mTst (mChain dLe dLe (mC (.int 1)) (mCall dLen (mCons (mVar 0) mNil)) (mC (.int 6))))) (mTst (mBin dInA (mVar 0) (mC g_RESERVED))))) (msRet (mC (.bl false))) msNil)
    (msRet (mCall dAll (mCons (mLc [1] (miS (mVar 0)) (mgName 1) mYes (mBin dInA (mVar 1) (mC g_LETTERS))) mNil))))
theorem sc_is_name : FnScope N_is_name ["value"] (defScope s_is_name) := ⟨rfl, rfl, rfl, by decide +kernel, rfl, by decide +kernel, by decide +kernel⟩
def F_is_name : PF := runP N_is_name.length m_is_name
theorem ok_is_name (C : CtxT P K w mg) (B : CtxB K mg base) : FnP P w K mg base "is_name" (1) 1 (F_is_name) := by
  have sc := sc_is_name
  obtain ⟨f, fd, Fd, g⟩ := C.d_is_name
  exact ⟨⟨f, fd, ["value"], g, Fd.kp, Fd.bindsN (fun _ _ _ _ _ _ us hl => match us, hl with | [_], _ => rfl), rfl, fnP Fd sc fun cdv A outer s H E hr => (rss_cons (rs_if (rt_bool (rw_or (rt_not (rt_val (re_isi .str C.n_isinstance C.n_str (re_var 0)))) (rw_or (rt_not (rt_lele re_int (re_len C.n_len (ra_cons (re_var 0) ra_nil)) re_int)) (rw_or1 (rt_in (re_var 0) (re_glob C.c_RESERVED)))))) (rss_one (rs_ret re_bl)) rss_nil)
    (rss_one (rs_ret (re_all rfl C.n_all (ra_cons (re_lc (own := [("letter", 1)]) rfl sc.nd (ri_str (re_var 0)) (blkOk_by (N := N_is_name) (sc := defScope s_is_name) (by decide +kernel)) (by decide) (fun _ _ _ _ _ => (rg_name 1 sc.nd)) (fun _ _ _ _ _ => rts_nil) (fun _ _ _ _ _ => (re_in (re_var 1) (re_glob C.c_LETTERS)))) ra_nil)))))⟩⟩
def N_is_column : List Str := ["value"]
def m_is_column : MS :=
    (msRet (mAndV (mIsi [.str] (mVar 0)) (mOrV (mBin dEq (mVar 0) (mC (.str [107, 101, 121]))) (mCallP F_is_name (mCons (mVar 0) mNil)))))
theorem sc_is_column : FnScope N_is_column ["value"] (defScope s_is_column) := ⟨rfl, rfl, rfl, by decide +kernel, rfl, by decide +kernel, by decide +kernel⟩
def F_is_column : PF := runP N_is_column.length m_is_column
theorem ok_is_column (C : CtxT P K w mg) (B : CtxB K mg base) : FnP P w K mg base "is_column" (2) 1 (F_is_column) := by
  have sc := sc_is_column
  have G_is_name := ok_is_name (P := P) (w := w) (base := base) C B
  obtain ⟨f, fd, Fd, g⟩ := C.d_is_column
  exact ⟨⟨f, fd, ["value"], g, Fd.kp, Fd.bindsN (fun _ _ _ _ _ _ us hl => match us, hl with | [_], _ => rfl), rfl, fnP Fd sc fun cdv A outer s H E hr => (rss_one (rs_ret (re_and (re_isi .str C.n_isinstance C.n_str (re_var 0)) (re_one (re_or (re_eq hr (re_var 0) (re_str [107, 101, 121])) (re_one (re_callP G_is_name hr tkOf (ra_cons (re_var 0) ra_nil))))))))⟩⟩
def N_is_plain : List Str := ["value"]
def m_is_plain : MS :=
    (msSeq (msIf (mOr (mNot (mTst (mIsi [.tup] (mVar 0)))) (mOr (mTst (mBin dLt (mCall dLen (mCons (mVar 0) mNil)) (mC (.int 2)))) (mNot (mTst (mIsi [.str] (mBin dIx (mVar 0) (mC (.int 0)))))))) (msRet (mC (.bl false))) msNil)
    (msSeq (msIf (mTst (mBin dEq (mBin dIx (mVar 0) (mC (.int 0))) (mC (.str [102, 105, 101, 108, 100])))) (msRet (mAndV (mBin dEq (mCall dLen (mCons (mVar 0) mNil)) (mC (.int 3))) (mAndV (mCallP F_is_name (mCons (mBin dIx (mVar 0) (mC (.int 1))) mNil)) (mCallP F_is_column (mCons (mBin dIx (mVar 0) (mC (.int 2))) mNil))))) msNil)
    (msSeq (msIf (mTst (mBin dNe (mCall dLen (mCons (mVar 0) mNil)) (mC (.int 2)))) (msRet (mC (.bl false))) msNil)
    (msSeq (msIf (mTst (mBin dEq (mBin dIx (mVar 0) (mC (.int 0))) (mC (.str [110, 117, 109, 98, 101, 114])))) (msRet (mCallP F_is_constant (mCons (mBin dIx (mVar 0) (mC (.int 1))) mNil))) msNil)
    (msSeq (msIf (mTst (mBin dEq (mBin dIx (mVar 0) (mC (.int 0))) (mC (.str [110, 97, 109, 101])))) (msRet (mCallP F_is_name (mCons (mBin dIx (mVar 0) (mC (.int 1))) mNil))) msNil)
    (msRet (mAndV (mBin dInA (mBin dIx (mVar 0) (mC (.int 0))) (mTup (mCons (mC (.str [111, 119, 110])) (mCons (mC (.str [110, 101, 120, 116])) mNil)))) (mCallP F_is_column (mCons (mBin dIx (mVar 0) (mC (.int 1))) mNil)))))))))
theorem sc_is_plain : FnScope N_is_plain ["value"] (defScope s_is_plain) := ⟨rfl, rfl, rfl, by decide +kernel, rfl, by decide +kernel, by decide +kernel⟩
def F_is_plain : PF := runP N_is_plain.length m_is_plain
theorem ok_is_plain (C : CtxT P K w mg) (B : CtxB K mg base) : FnP P w K mg base "is_plain" (3) 1 (F_is_plain) := by
  have sc := sc_is_plain
  have G_is_column := ok_is_column (P := P) (w := w) (base := base) C B
  have G_is_constant := ok_is_constant (P := P) (w := w) (base := base) C B
  have G_is_name := ok_is_name (P := P) (w := w) (base := base) C B
  obtain ⟨f, fd, Fd, g⟩ := C.d_is_plain
  exact ⟨⟨f, fd, ["value"], g, Fd.kp, Fd.bindsN (fun _ _ _ _ _ _ us hl => match us, hl with | [_], _ => rfl), rfl, fnP Fd sc fun cdv A outer s H E hr => (rss_cons (rs_if (rt_bool (rw_or (rt_not (rt_val (re_isi .tup C.n_isinstance C.n_tuple (re_var 0)))) (rw_or (rt_lt (re_len C.n_len (ra_cons (re_var 0) ra_nil)) re_int) (rw_or1 (rt_not (rt_val (re_isi .str C.n_isinstance C.n_str (re_ix (re_var 0) re_int)))))))) (rss_one (rs_ret re_bl)) rss_nil)
    (rss_cons (rs_if (rt_eq hr (re_ix (re_var 0) re_int) (re_str [102, 105, 101, 108, 100])) (rss_one (rs_ret (re_and (re_eq hr (re_len C.n_len (ra_cons (re_var 0) ra_nil)) re_int) (re_and (re_callP G_is_name hr tkOf (ra_cons (re_ix (re_var 0) re_int) ra_nil)) (re_one (re_callP G_is_column hr tkOf (ra_cons (re_ix (re_var 0) re_int) ra_nil))))))) rss_nil)
    (rss_cons (rs_if (rt_ne hr (re_len C.n_len (ra_cons (re_var 0) ra_nil)) re_int) (rss_one (rs_ret re_bl)) rss_nil)
    (rss_cons (rs_if (rt_eq hr (re_ix (re_var 0) re_int) (re_str [110, 117, 109, 98, 101, 114])) (rss_one (rs_ret (re_callP G_is_constant hr tkOf (ra_cons (re_ix (re_var 0) re_int) ra_nil)))) rss_nil)
    (rss_cons (rs_if (rt_eq hr (re_ix (re_var 0) re_int) (re_str [110, 97, 109, 101])) (rss_one (rs_ret (re_callP G_is_name hr tkOf (ra_cons (re_ix (re_var 0) re_int) ra_nil)))) rss_nil)
    (rss_one (rs_ret (re_and (re_in (re_ix (re_var 0) re_int) (re_tup (ra_cons (re_str [111, 119, 110]) (ra_cons (re_str [110, 101, 120, 116]) ra_nil)))) (re_one (re_callP G_is_column hr tkOf (ra_cons (re_ix (re_var 0) re_int) ra_nil)))))))))))⟩⟩
def N_is_value : List Str := ["value"]
def m_is_value : MS :=
    (msSeq (msIf (mAnd (mTst (mIsi [.tup] (mVar 0))) (mAnd (mTst (mBin dEq (mCall dLen (mCons (mVar 0) mNil)) (mC (.int 3)))) (mAnd (mTst (mIsi [.str] (mBin dIx (mVar 0) (mC (.int 0))))) (mTst (mBin dEq (mBin dIx (mVar 0) (mC (.int 0))) (mC (.str [112, 108, 117, 115]))))))) (msRet (mAndV (mCallP F_is_plain (mCons (mBin dIx (mVar 0) (mC (.int 1))) mNil)) (mCallP F_is_constant (mCons (mBin dIx (mVar 0) (mC (.int 2))) mNil)))) msNil)
    (msRet (mCallP F_is_plain (mCons (mVar 0) mNil))))
theorem sc_is_value : FnScope N_is_value ["value"] (defScope s_is_value) := ⟨rfl, rfl, rfl, by decide +kernel, rfl, by decide +kernel, by decide +kernel⟩
def F_is_value : PF := runP N_is_value.length m_is_value
theorem ok_is_value (C : CtxT P K w mg) (B : CtxB K mg base) : FnP P w K mg base "is_value" (4) 1 (F_is_value) := by
  have sc := sc_is_value
  have G_is_constant := ok_is_constant (P := P) (w := w) (base := base) C B
  have G_is_plain := ok_is_plain (P := P) (w := w) (base := base) C B
  obtain ⟨f, fd, Fd, g⟩ := C.d_is_value
  exact ⟨⟨f, fd, ["value"], g, Fd.kp, Fd.bindsN (fun _ _ _ _ _ _ us hl => match us, hl with | [_], _ => rfl), rfl, fnP Fd sc fun cdv A outer s H E hr => (rss_cons (rs_if (rt_bool (rw_and (rt_val (re_isi .tup C.n_isinstance C.n_tuple (re_var 0))) (rw_and (rt_eq hr (re_len C.n_len (ra_cons (re_var 0) ra_nil)) re_int) (rw_and (rt_val (re_isi .str C.n_isinstance C.n_str (re_ix (re_var 0) re_int))) (rw_and1 (rt_eq hr (re_ix (re_var 0) re_int) (re_str [112, 108, 117, 115]))))))) (rss_one (rs_ret (re_and (re_callP G_is_plain hr tkOf (ra_cons (re_ix (re_var 0) re_int) ra_nil)) (re_one (re_callP G_is_constant hr tkOf (ra_cons (re_ix (re_var 0) re_int) ra_nil)))))) rss_nil)
    (rss_one (rs_ret (re_callP G_is_plain hr tkOf (ra_cons (re_var 0) ra_nil)))))⟩⟩
def N_has_form : List Str := ["condition", "word"]
def m_has_form : MS :=
    (msSeq (msIf (mOr (mNot (mTst (mIsi [.tup] (mVar 0)))) (mOr (mTst (mBin dEq (mCall dLen (mCons (mVar 0) mNil)) (mC (.int 0)))) (mNot (mTst (mIsi [.str] (mBin dIx (mVar 0) (mC (.int 0)))))))) (msRet (mC (.bl false))) msNil)
    (msSeq (msAsg (mBin dIx (mVar 0) (mC (.int 0))) (mgName 1))
    (msSeq (msIf (mTst (mC1 (dCIn false kv_SIGNS) (mVar 1))) (msRet (mAndV (mBin dEq (mCall dLen (mCons (mVar 0) mNil)) (mC (.int 3))) (mAndV (mCallP F_is_value (mCons (mBin dIx (mVar 0) (mC (.int 1))) mNil)) (mCallP F_is_value (mCons (mBin dIx (mVar 0) (mC (.int 2))) mNil))))) msNil)
    (msSeq (msIf (mTst (mBin dEq (mVar 1) (mC (.str [102, 111, 117, 110, 100])))) (msRet (mAndV (mBin dEq (mCall dLen (mCons (mVar 0) mNil)) (mC (.int 2))) (mCallP F_is_name (mCons (mBin dIx (mVar 0) (mC (.int 1))) mNil)))) msNil)
    (msRet (mBin dEq (mCall dLen (mCons (mVar 0) mNil)) (mDGet2 (mDisp [((mC (.str [116, 114, 117, 101])), (mC (.int 1))), ((mC (.str [110, 111, 116])), (mC (.int 2))), ((mC (.str [97, 110, 100])), (mC (.int 3))), ((mC (.str [111, 114])), (mC (.int 3)))]) (mVar 1) (mC (.int 0)))))))))
theorem sc_has_form : FnScope N_has_form ["condition"] (defScope s_has_form) := ⟨rfl, rfl, rfl, by decide +kernel, rfl, by decide +kernel, by decide +kernel⟩
def F_has_form : PF := runP N_has_form.length m_has_form
theorem ok_has_form (C : CtxT P K w mg) (B : CtxB K mg base) : FnP P w K mg base "has_form" (5) 1 (F_has_form) := by
  have sc := sc_has_form
  have G_is_name := ok_is_name (P := P) (w := w) (base := base) C B
  have G_is_value := ok_is_value (P := P) (w := w) (base := base) C B
  obtain ⟨f, fd, Fd, g⟩ := C.d_has_form
  exact ⟨⟨f, fd, ["condition"], g, Fd.kp, Fd.bindsN (fun _ _ _ _ _ _ us hl => match us, hl with | [_], _ => rfl), rfl, fnP Fd sc fun cdv A outer s H E hr => (rss_cons (rs_if (rt_bool (rw_or (rt_not (rt_val (re_isi .tup C.n_isinstance C.n_tuple (re_var 0)))) (rw_or (rt_eq hr (re_len C.n_len (ra_cons (re_var 0) ra_nil)) re_int) (rw_or1 (rt_not (rt_val (re_isi .str C.n_isinstance C.n_str (re_ix (re_var 0) re_int)))))))) (rss_one (rs_ret re_bl)) rss_nil)
    (rss_cons (rs_set 1 sc.nd (re_ix (re_var 0) re_int))
    (rss_cons (rs_if (rt_cin C.e_SIGNS (re_var 1)) (rss_one (rs_ret (re_and (re_eq hr (re_len C.n_len (ra_cons (re_var 0) ra_nil)) re_int) (re_and (re_callP G_is_value hr tkOf (ra_cons (re_ix (re_var 0) re_int) ra_nil)) (re_one (re_callP G_is_value hr tkOf (ra_cons (re_ix (re_var 0) re_int) ra_nil))))))) rss_nil)
    (rss_cons (rs_if (rt_eq hr (re_var 1) (re_str [102, 111, 117, 110, 100])) (rss_one (rs_ret (re_and (re_eq hr (re_len C.n_len (ra_cons (re_var 0) ra_nil)) re_int) (re_one (re_callP G_is_name hr tkOf (ra_cons (re_ix (re_var 0) re_int) ra_nil)))))) rss_nil)
    (rss_one (rs_ret (re_eq hr (re_len C.n_len (ra_cons (re_var 0) ra_nil)) (re_dget2 hr (re_disp (RPs.cons (re_str [116, 114, 117, 101]) re_int (RPs.cons (re_str [110, 111, 116]) re_int (RPs.cons (re_str [97, 110, 100]) re_int (RPs.cons (re_str [111, 114]) re_int RPs.nil))))) (re_var 1) re_int))))))))⟩⟩
def N_wrong_path : List Str := ["condition", "path", "at", "inner", "found"]
def mb_wrong_path_0 (F : PF) : MS :=
    (msSeq (msAsg (mCallP F (mCons (mVar 3) (mCons (mTup (mStar (mVar 1) (mCons (mVar 2) mNil))) mNil))) (mgName 4))
    (msIf (mTst (mBin (dIsN true) (mVar 4) (mC .non))) (msRet (mVar 4)) msNil))
def m_wrong_path (F : PF) : MS :=
    (msSeq (msIf (mOr (mTst (mBin dGe (mCall dLen (mCons (mVar 1) mNil)) (mC g_MOST_DEPTH))) (mNot (mTst (mCallP F_has_form (mCons (mVar 0) mNil))))) (msRet (mVar 1)) msNil)
    (msSeq (msFor (miL (mCallP F_inner_parts (mCons (mVar 0) mNil))) (mgTup 2 (mgCons (mgName 2) (mgCons (mgName 3) mgNil))) (mb_wrong_path_0 F))
    (msRet (mC .non))))
theorem sc_wrong_path : FnScope N_wrong_path ["condition", "path"] (defScope s_wrong_path) := ⟨rfl, rfl, rfl, by decide +kernel, rfl, by decide +kernel, by decide +kernel⟩
def F_wrong_path_ : Nat → PF
  | 0 => fun _ => none
  | t + 1 => runP N_wrong_path.length (m_wrong_path (F_wrong_path_ t))
def F_wrong_path : PF := F_wrong_path_ 12
theorem okr_wrong_path (C : CtxT P K w mg) (B : CtxB K mg base) : ∀ t, FnP P w K mg base "wrong_path" (5 + (t)) 2 (F_wrong_path_ t) := by
  have sc := sc_wrong_path
  have G_has_form := ok_has_form (P := P) (w := w) (base := base) C B
  have G_inner_parts := ok_inner_parts (P := P) (w := w) (base := base) C B
  obtain ⟨f, fd, Fd, g⟩ := C.d_wrong_path
  intro t
  induction t with
  | zero => exact ⟨⟨f, fd, ["condition", "path"], g, Fd.kp, Fd.bindsN (fun _ _ _ _ _ _ us hl => match us, hl with | [_, _], _ => rfl), rfl, fnOk0⟩⟩
  | succ t G =>
    have Z : FnP P w K mg base "wrong_path" (5 + t + 1) 2 (F_wrong_path_ (t + 1)) := ⟨⟨f, fd, ["condition", "path"], g, Fd.kp, Fd.bindsN (fun _ _ _ _ _ _ us hl => match us, hl with | [_, _], _ => rfl), rfl, fnP Fd sc fun cdv A outer s H E hr => (rss_cons (rs_if (rt_bool (rw_or (rt_ge (re_len C.n_len (ra_cons (re_var 1) ra_nil)) (re_glob C.c_MOST_DEPTH)) (rw_or1 (rt_not (rt_val (re_callP G_has_form hr tkOf (ra_cons (re_var 0) ra_nil) (hk := by omega))))))) (rss_one (rs_ret (re_var 1))) rss_nil)
    (rss_cons (rs_for poOf rfl (ri_list (re_callP G_inner_parts hr tkOf (ra_cons (re_var 0) ra_nil) (hk := by omega))) (rg_tup (n := 2) rfl (rgs_cons (rg_name 2 sc.nd) (rgs_cons (rg_name 3 sc.nd) rgs_nil))) (rss_cons (rs_set 4 sc.nd (re_callP G hr tkOf (ra_cons (re_var 3) (ra_cons (re_tup (ra_star (re_var 1) (ra_cons (re_var 2) ra_nil))) ra_nil)) (hk := by omega)))
    (rss_one (rs_if (rt_isn (re_var 4) re_non) (rss_one (rs_ret (re_var 4))) rss_nil))))
    (rss_one (rs_ret re_non))))⟩⟩
    exact FnP.mono Z (by omega)
theorem ok_wrong_path (C : CtxT P K w mg) (B : CtxB K mg base) : FnP P w K mg base "wrong_path" (18) 2 (F_wrong_path) := FnP.mono (okr_wrong_path C B 12) (by decide)
def N_check_condition : List Str := ["condition", "path"]
def m_check_condition : MS :=
    (msSeq (msAsg (mCallP F_wrong_path (mCons (mVar 0) (mCons (mTup mNil) mNil))) (mgName 1))
    (msIf (mTst (mBin (dIsN true) (mVar 1) (mC .non))) (msRaise "InvalidCondition" (some "path") [73, 110, 118, 97, 108, 105, 100, 67, 111, 110, 100, 105, 116, 105, 111, 110] (mCons (mVar 1) mNil)) msNil))
theorem sc_check_condition : FnScope N_check_condition ["condition"] (defScope s_check_condition) := ⟨rfl, rfl, rfl, by decide +kernel, rfl, by decide +kernel, by decide +kernel⟩
def F_check_condition : PF := runP N_check_condition.length m_check_condition
theorem ok_check_condition (C : CtxT P K w mg) (B : CtxB K mg base) : FnP P w K mg base "check_condition" (19) 1 (F_check_condition) := by
  have sc := sc_check_condition
  have G_wrong_path := ok_wrong_path (P := P) (w := w) (base := base) C B
  obtain ⟨f, fd, Fd, g⟩ := C.d_check_condition
  exact ⟨⟨f, fd, ["condition"], g, Fd.kp, Fd.bindsN (fun _ _ _ _ _ _ us hl => match us, hl with | [_], _ => rfl), rfl, fnP Fd sc fun cdv A outer s H E hr => (rss_cons (rs_set 1 sc.nd (re_callP G_wrong_path hr tkOf (ra_cons (re_var 0) (ra_cons (re_tup ra_nil) ra_nil))))
    (rss_one (rs_if (rt_isn (re_var 1) re_non) (rss_one (rs_raise1 (exc_InvalidCondition C) (by decide +kernel) hr (by omega) rfl tkOf (ra_cons (re_var 1) ra_nil) rfl (by decide))) rss_nil)))⟩⟩
def N_all_parts : List Str := ["condition", "path", "found", "at", "inner"]
def mb_all_parts_0 (F : PF) : MS :=
    (msAsg (mBin dAdd (mVar 2) (mCallP F (mCons (mVar 4) (mCons (mTup (mStar (mVar 1) (mCons (mVar 3) mNil))) mNil)))) (mgName 2))
def m_all_parts (F : PF) : MS :=
    (msSeq (msAsg (mLst (mCons (mTup (mCons (mVar 1) (mCons (mVar 0) mNil))) mNil)) (mgName 2))
    (msSeq (msFor (miL (mCallP F_inner_parts (mCons (mVar 0) mNil))) (mgTup 2 (mgCons (mgName 3) (mgCons (mgName 4) mgNil))) (mb_all_parts_0 F))
    (msRet (mVar 2))))
theorem sc_all_parts : FnScope N_all_parts ["condition", "path"] (defScope s_all_parts) := ⟨rfl, rfl, rfl, by decide +kernel, rfl, by decide +kernel, by decide +kernel⟩
def F_all_parts_ : Nat → PF
  | 0 => fun _ => none
  | t + 1 => runP N_all_parts.length (m_all_parts (F_all_parts_ t))
def F_all_parts : PF := F_all_parts_ 12
theorem okr_all_parts (C : CtxT P K w mg) (B : CtxB K mg base) : ∀ t, FnP P w K mg base "all_parts" (1 + (t)) 2 (F_all_parts_ t) := by
  have sc := sc_all_parts
  have G_inner_parts := ok_inner_parts (P := P) (w := w) (base := base) C B
  obtain ⟨f, fd, Fd, g⟩ := C.d_all_parts
  intro t
  induction t with
  | zero => exact ⟨⟨f, fd, ["condition", "path"], g, Fd.kp, Fd.bindsN (fun _ _ _ _ _ _ us hl => match us, hl with | [_, _], _ => rfl), rfl, fnOk0⟩⟩
  | succ t G =>
    have Z : FnP P w K mg base "all_parts" (1 + t + 1) 2 (F_all_parts_ (t + 1)) := ⟨⟨f, fd, ["condition", "path"], g, Fd.kp, Fd.bindsN (fun _ _ _ _ _ _ us hl => match us, hl with | [_, _], _ => rfl), rfl, fnP Fd sc fun cdv A outer s H E hr => (rss_cons (rs_set 2 sc.nd (re_lst (ra_cons (re_tup (ra_cons (re_var 1) (ra_cons (re_var 0) ra_nil))) ra_nil)))
    (rss_cons (rs_for poOf rfl (ri_list (re_callP G_inner_parts hr tkOf (ra_cons (re_var 0) ra_nil) (hk := by omega))) (rg_tup (n := 2) rfl (rgs_cons (rg_name 3 sc.nd) (rgs_cons (rg_name 4 sc.nd) rgs_nil))) (rss_one (rs_set 2 sc.nd (re_add (re_var 2) (re_callP G hr tkOf (ra_cons (re_var 4) (ra_cons (re_tup (ra_star (re_var 1) (ra_cons (re_var 3) ra_nil))) ra_nil)) (hk := by omega))))))
    (rss_one (rs_ret (re_var 2)))))⟩⟩
    exact FnP.mono Z (by omega)
theorem ok_all_parts (C : CtxT P K w mg) (B : CtxB K mg base) : FnP P w K mg base "all_parts" (14) 2 (F_all_parts) := FnP.mono (okr_all_parts C B 12) (by decide)
def N_parts : List Str := ["condition"]
def m_parts : MS :=
    (msExpr (mCallP F_check_condition (mCons (mVar 0) mNil)))
def me_parts : M D :=
    (mCallP F_all_parts (mCons (mVar 0) (mCons (mTup mNil) mNil)))
theorem sc_parts : GScope N_parts ["condition"] (defScope s_parts) := ⟨rfl, rfl, rfl, by decide +kernel, rfl, by decide +kernel, by decide +kernel⟩
def FG_parts : List D → Option (List D) := genL N_parts.length m_parts me_parts
theorem ok_parts (C : CtxT P K w mg) (B : CtxB K mg base) : FnGL P w K mg base "parts" 20 1 FG_parts := by
  have sc := sc_parts
  have G_all_parts := ok_all_parts (P := P) (w := w) (base := base) C B
  have G_check_condition := ok_check_condition (P := P) (w := w) (base := base) C B
  obtain ⟨f, fd, Fd, g⟩ := C.d_parts
  exact ⟨⟨f, fd, ["condition"], g, Fd.kp, Fd.bindsN (fun _ _ _ _ _ _ us hl => match us, hl with | [_], _ => rfl), rfl, fnGL Fd sc (fun cdv A outer s H E pn hr => (rs_expr (re_callP G_check_condition hr takes_gcx (ra_cons (re_var 0) ra_nil)))) (fun cdv A outer s H E pn hr => (re_callP G_all_parts hr takes_gcx (ra_cons (re_var 0) (ra_cons (re_tup ra_nil) ra_nil))))⟩⟩
def N_values_in : List Str := ["condition", "value", "path", "part"]
def mt_values_in_0 : M Bool :=
    (mTst (mC1 (dCIn false kv_SIGNS) (mBin dIx (mVar 3) (mC (.int 0)))))
def m_values_in : MS :=
    (msSeq (msExpr (mCallP F_check_condition (mCons (mVar 0) mNil)))
    (msRet (mLcNC [2, 3, 1] (miL (mCallP F_all_parts (mCons (mVar 0) (mCons (mTup mNil) mNil)))) (mgTup 2 (mgCons (mgName 2) (mgCons (mgName 3) mgNil))) mt_values_in_0 (mbFor (miT (mSl (mVar 3) (mSmP (mC (.int 1))) mNoP)) (mgName 1) mYes [1] (mbE (mVar 1))))))
theorem sc_values_in : FnScope N_values_in ["condition"] (defScope s_values_in) := ⟨rfl, rfl, rfl, by decide +kernel, rfl, by decide +kernel, by decide +kernel⟩
def F_values_in : IF := runA N_values_in.length m_values_in
theorem ok_values_in (C : CtxT P K w mg) (B : CtxB K mg base) : FnI P w K mg base "values_in" (20) 1 (F_values_in) := by
  have sc := sc_values_in
  have G_all_parts := ok_all_parts (P := P) (w := w) (base := base) C B
  have G_check_condition := ok_check_condition (P := P) (w := w) (base := base) C B
  obtain ⟨f, fd, Fd, g⟩ := C.d_values_in
  exact ⟨⟨f, fd, ["condition"], g, Fd.kp, Fd.bindsN (fun _ _ _ _ _ _ us hl => match us, hl with | [_], _ => rfl), rfl, fnA Fd sc fun cdv A outer s H E hr => (rss_cons (rs_expr (re_callP G_check_condition hr tkOf (ra_cons (re_var 0) ra_nil)))
    (rss_one (rs_ret (re_lc2C (own := [("path", 2), ("part", 3), ("value", 1)]) (vs1 := [1]) rfl sc.nd (ri_list (re_callP G_all_parts hr tkOf (ra_cons (re_var 0) (ra_cons (re_tup ra_nil) ra_nil)))) (blkOk_by (N := N_values_in) (sc := defScope s_values_in) (by decide +kernel)) (by decide) (by decide) (by decide) (fun _ _ _ _ _ => (rg_tup (n := 2) rfl (rgs_cons (rg_name 2 sc.nd) (rgs_cons (rg_name 3 sc.nd) rgs_nil)))) (fun _ _ _ _ _ => (rts_one (rt_cin C.e_SIGNS (re_ix (re_var 3) re_int)))) (fun _ _ _ _ _ => (ri_tup (re_slice (re_var 3) (ro_some re_int) ro_none))) (fun _ _ _ _ _ => (rg_name 1 sc.nd)) (fun _ _ _ _ _ => rts_nil) (fun _ _ _ _ _ => (re_var 1))))))⟩⟩
theorem okK_values_in_condition (C : CtxT P K w mg) (B : CtxB K mg base) : FnIK P w K mg base "values_in" 20 1 F_values_in ["condition"] [0] := by
  have sc := sc_values_in
  have G_all_parts := ok_all_parts (P := P) (w := w) (base := base) C B
  have G_check_condition := ok_check_condition (P := P) (w := w) (base := base) C B
  obtain ⟨f, fd, Fd, g⟩ := C.d_values_in
  exact ⟨⟨f, fd, ["condition"], g, Fd.kp, FunD.kbnP Fd (fun _ _ _ _ _ _ ws hl => match ws, hl with | [_], _ => rfl), rfl, fnA Fd sc fun cdv A outer s H E hr => (rss_cons (rs_expr (re_callP G_check_condition hr tkOf (ra_cons (re_var 0) ra_nil)))
    (rss_one (rs_ret (re_lc2C (own := [("path", 2), ("part", 3), ("value", 1)]) (vs1 := [1]) rfl sc.nd (ri_list (re_callP G_all_parts hr tkOf (ra_cons (re_var 0) (ra_cons (re_tup ra_nil) ra_nil)))) (blkOk_by (N := N_values_in) (sc := defScope s_values_in) (by decide +kernel)) (by decide) (by decide) (by decide) (fun _ _ _ _ _ => (rg_tup (n := 2) rfl (rgs_cons (rg_name 2 sc.nd) (rgs_cons (rg_name 3 sc.nd) rgs_nil)))) (fun _ _ _ _ _ => (rts_one (rt_cin C.e_SIGNS (re_ix (re_var 3) re_int)))) (fun _ _ _ _ _ => (ri_tup (re_slice (re_var 3) (ro_some re_int) ro_none))) (fun _ _ _ _ _ => (rg_name 1 sc.nd)) (fun _ _ _ _ _ => rts_nil) (fun _ _ _ _ _ => (re_var 1))))))⟩⟩
def N__law_all_parts : List Str := ["_law_c", "_law_path", "_law_found", "_law_at"]
def mb__law_all_parts_0 (F : PF) : MS :=
    (msAsg (mBin dAdd (mVar 2) (mCallP F (mCons (mBin dIx (mVar 0) (mVar 3)) (mCons (mBin dAdd (mVar 1) (mTup (mCons (mVar 3) mNil))) mNil)))) (mgName 2))
def m__law_all_parts (F : PF) : MS :=
    (msSeq (msAsg (mLst (mCons (mTup (mCons (mVar 1) (mCons (mVar 0) mNil))) mNil)) (mgName 2))
    (msSeq (msIf (mTst (mBin dInA (mBin dIx (mVar 0) (mC (.int 0))) (mTup (mCons (mC (.str [110, 111, 116])) (mCons (mC (.str [97, 110, 100])) (mCons (mC (.str [111, 114])) mNil)))))) (msFor (miR2 (mCons (mC (.int 1)) (mCons (mCall dLen (mCons (mVar 0) mNil)) mNil))) (mgName 3) (mb__law_all_parts_0 F)) msNil)
    (msRet (mVar 2))))
theorem sc__law_all_parts : FnScope N__law_all_parts ["_law_c", "_law_path"] (defScope s__law_all_parts) := ⟨rfl, rfl, rfl, by decide +kernel, rfl, by decide +kernel, by decide +kernel⟩
def F__law_all_parts_ : Nat → PF
  | 0 => fun _ => none
  | t + 1 => runP N__law_all_parts.length (m__law_all_parts (F__law_all_parts_ t))
def F__law_all_parts : PF := F__law_all_parts_ 12
theorem okr__law_all_parts (C : CtxT P K w mg) (B : CtxB K mg base) : ∀ t, FnP P w K mg base "_law_all_parts" (0 + (t)) 2 (F__law_all_parts_ t) := by
  have sc := sc__law_all_parts
  obtain ⟨f, fd, Fd, g⟩ := C.d__law_all_parts
  intro t
  induction t with
  | zero => exact ⟨⟨f, fd, ["_law_c", "_law_path"], g, Fd.kp, Fd.bindsN (fun _ _ _ _ _ _ us hl => match us, hl with | [_, _], _ => rfl), rfl, fnOk0⟩⟩
  | succ t G =>
    have Z : FnP P w K mg base "_law_all_parts" (0 + t + 1) 2 (F__law_all_parts_ (t + 1)) := ⟨⟨f, fd, ["_law_c", "_law_path"], g, Fd.kp, Fd.bindsN (fun _ _ _ _ _ _ us hl => match us, hl with | [_, _], _ => rfl), rfl, fnP Fd sc fun cdv A outer s H E hr => (rss_cons (rs_set 2 sc.nd (re_lst (ra_cons (re_tup (ra_cons (re_var 1) (ra_cons (re_var 0) ra_nil))) ra_nil)))
    (rss_cons (rs_if (rt_in (re_ix (re_var 0) re_int) (re_tup (ra_cons (re_str [110, 111, 116]) (ra_cons (re_str [97, 110, 100]) (ra_cons (re_str [111, 114]) ra_nil))))) (rss_one (rs_for poOf rfl (ri_range2 C.n_range (ra_cons re_int (ra_cons (re_len C.n_len (ra_cons (re_var 0) ra_nil)) ra_nil))) (rg_name 3 sc.nd) (rss_one (rs_set 2 sc.nd (re_add (re_var 2) (re_callP G hr tkOf (ra_cons (re_ix (re_var 0) (re_var 3)) (ra_cons (re_add (re_var 1) (re_tup (ra_cons (re_var 3) ra_nil))) ra_nil)) (hk := by omega))))))) rss_nil)
    (rss_one (rs_ret (re_var 2)))))⟩⟩
    exact FnP.mono Z (by omega)
theorem ok__law_all_parts (C : CtxT P K w mg) (B : CtxB K mg base) : FnP P w K mg base "_law_all_parts" (13) 2 (F__law_all_parts) := FnP.mono (okr__law_all_parts C B 12) (by decide)
def N__law_values : List Str := ["_law_c"]
def m__law_values (F : PF) : MS :=
    (msSeq (msIf (mTst (mBin dInA (mBin dIx (mVar 0) (mC (.int 0))) (mTup (mCons (mC (.str [97, 116, 109, 111, 115, 116])) (mCons (mC (.str [98, 101, 108, 111, 119])) (mCons (mC (.str [115, 97, 109, 101])) mNil)))))) (msRet (mLst (mCons (mBin dIx (mVar 0) (mC (.int 1))) (mCons (mBin dIx (mVar 0) (mC (.int 2))) mNil)))) msNil)
    (msSeq (msIf (mTst (mBin dInA (mBin dIx (mVar 0) (mC (.int 0))) (mTup (mCons (mC (.str [116, 114, 117, 101])) (mCons (mC (.str [102, 111, 117, 110, 100])) mNil))))) (msRet (mLst mNil)) msNil)
    (msRet (mBin dAdd (mCallP F (mCons (mBin dIx (mVar 0) (mC (.int 1))) mNil)) (mIf (mTst (mBin dEq (mCall dLen (mCons (mVar 0) mNil)) (mC (.int 3)))) (mCallP F (mCons (mBin dIx (mVar 0) (mC (.int 2))) mNil)) (mLst mNil))))))
theorem sc__law_values : FnScope N__law_values ["_law_c"] (defScope s__law_values) := ⟨rfl, rfl, rfl, by decide +kernel, rfl, by decide +kernel, by decide +kernel⟩
def F__law_values_ : Nat → PF
  | 0 => fun _ => none
  | t + 1 => runP N__law_values.length (m__law_values (F__law_values_ t))
def F__law_values : PF := F__law_values_ 12
theorem okr__law_values (C : CtxT P K w mg) (B : CtxB K mg base) : ∀ t, FnP P w K mg base "_law_values" (0 + (t)) 1 (F__law_values_ t) := by
  have sc := sc__law_values
  obtain ⟨f, fd, Fd, g⟩ := C.d__law_values
  intro t
  induction t with
  | zero => exact ⟨⟨f, fd, ["_law_c"], g, Fd.kp, Fd.bindsN (fun _ _ _ _ _ _ us hl => match us, hl with | [_], _ => rfl), rfl, fnOk0⟩⟩
  | succ t G =>
    have Z : FnP P w K mg base "_law_values" (0 + t + 1) 1 (F__law_values_ (t + 1)) := ⟨⟨f, fd, ["_law_c"], g, Fd.kp, Fd.bindsN (fun _ _ _ _ _ _ us hl => match us, hl with | [_], _ => rfl), rfl, fnP Fd sc fun cdv A outer s H E hr => (rss_cons (rs_if (rt_in (re_ix (re_var 0) re_int) (re_tup (ra_cons (re_str [97, 116, 109, 111, 115, 116]) (ra_cons (re_str [98, 101, 108, 111, 119]) (ra_cons (re_str [115, 97, 109, 101]) ra_nil))))) (rss_one (rs_ret (re_lst (ra_cons (re_ix (re_var 0) re_int) (ra_cons (re_ix (re_var 0) re_int) ra_nil))))) rss_nil)
    (rss_cons (rs_if (rt_in (re_ix (re_var 0) re_int) (re_tup (ra_cons (re_str [116, 114, 117, 101]) (ra_cons (re_str [102, 111, 117, 110, 100]) ra_nil)))) (rss_one (rs_ret (re_lst ra_nil))) rss_nil)
    (rss_one (rs_ret (re_add (re_callP G hr tkOf (ra_cons (re_ix (re_var 0) re_int) ra_nil) (hk := by omega)) (re_if (rt_eq hr (re_len C.n_len (ra_cons (re_var 0) ra_nil)) re_int) (re_callP G hr tkOf (ra_cons (re_ix (re_var 0) re_int) ra_nil) (hk := by omega)) (re_lst ra_nil)))))))⟩⟩
    exact FnP.mono Z (by omega)
theorem ok__law_values (C : CtxT P K w mg) (B : CtxB K mg base) : FnP P w K mg base "_law_values" (13) 1 (F__law_values) := FnP.mono (okr__law_values C B 12) (by decide)
def N_law : List Str := ["_law_script", "_law_bag", "_law_turn", "_law_names", "_law_pool", "_law_rows", "_law_due", "_law_c", "_law_found", "_law_told", "_law_k", "_law_pair"]
def mb_law_0 : MS :=
    (msAsg (mTup (mCons (mC (.str [97, 110, 100])) (mCons (mVar 7) (mCons (mVar 6) mNil)))) (mgName 6))
def me_law_1 : M D :=
    (mCallI F__law_some_condition (mCons (mVar 1) (mCons (mVar 4) (mCons (mC (.int 2)) mNil))))
def mb_law_2 : MS :=
    (msSeq (msAsg (mCallI F__law_new_names (mCons (mVar 1) (mCons (mC (.int 2)) mNil))) (mgName 3))
    (msSeq (msAsg (mLst (mCons (mTup (mCons (mC (.str [110, 97, 109, 101])) (mCons (mBin dIx (mVar 3) (mC (.int 0))) mNil))) (mCons (mTup (mCons (mC (.str [102, 105, 101, 108, 100])) (mCons (mBin dIx (mVar 3) (mC (.int 0))) (mCons (mBin dIx (mVar 3) (mC (.int 1))) mNil)))) (mCons (mTup (mCons (mC (.str [111, 119, 110])) (mCons (mC (.str [107, 101, 121])) mNil))) (mCons (mTup (mCons (mC (.str [110, 101, 120, 116])) (mCons (mC (.str [107, 101, 121])) mNil))) mNil))))) (mgName 4))
    (msSeq (msAsg (mLc [10] (miR1 (mCons (mCallI F__law_pull (mCons (mVar 1) (mCons (mC (.int 4)) mNil))) mNil)) (mgName 10) mYes me_law_1) (mgName 5))
    (msSeq (msAsg (mIf (mTst (mBin dEq (mVar 5) (mLst mNil))) (mTup (mCons (mC (.str [116, 114, 117, 101])) mNil)) (mBin dIx (mVar 5) (mBin dSub (mCall dLen (mCons (mVar 5) mNil)) (mC (.int 1))))) (mgName 6))
    (msSeq (msFor (miL (mSlR (mSl (mVar 5) mNoP (mSmP (mBin dSub (mCall dLen (mCons (mVar 5) mNil)) (mC (.int 1))))) mNoP (mNeg (mC (.int 1))))) (mgName 7) mb_law_0)
    (msSeq (msAsg (mIf (mTst (mBin dEq (mVar 5) (mLst mNil))) (mCallS F_all_of mNil) (mIf (mTst (mBin dEq (mCall dLen (mCons (mVar 5) mNil)) (mC (.int 1)))) (mCallS F_all_of (mCons (mBin dIx (mVar 5) (mC (.int 0))) mNil)) (mCallS F_all_of (mCons (mBin dIx (mVar 5) (mC (.int 0))) (mCons (mBin dIx (mVar 5) (mC (.int 1))) mNil))))) (mgName 8))
    (msSeq (msIf (mTst (mBin dEq (mCall dLen (mCons (mVar 5) mNil)) (mC (.int 3)))) (msAsg (mCallS F_all_of (mCons (mBin dIx (mVar 5) (mC (.int 0))) (mCons (mBin dIx (mVar 5) (mC (.int 1))) (mCons (mBin dIx (mVar 5) (mC (.int 2))) mNil)))) (mgName 8)) msNil)
    (msSeq (msIf (mNot (mTst (mCallP F__law_like (mCons (mVar 8) (mCons (mVar 6) mNil))))) (msRet (mC (.bl false))) msNil)
    (msSeq (msAsg (mListGC FG_parts (mCons (mVar 6) mNil)) (mgName 9))
    (msSeq (msIf (mNot (mTst (mCallPL F__law_like (mCons (mLst (mCons (mVar 9) (mCons (mCallI F_values_in (mCons (mVar 6) mNil)) (mCons (mCallI F_values_in (mPerm [0] (mCons (mVar 6) mNil))) mNil)))) (mCons (mLst (mCons (mCallP F__law_all_parts (mCons (mVar 6) (mCons (mTup mNil) mNil))) (mCons (mCallP F__law_values (mCons (mVar 6) mNil)) (mCons (mCallP F__law_values (mCons (mVar 6) mNil)) mNil)))) mNil))))) (msRet (mC (.bl false))) msNil)
    (msSeq (msExpr (mClear (mVar 9)))
    (msSeq (msExpr (mAppend (mCallI F_values_in (mCons (mVar 6) mNil)) (mC .non)))
    (msIf (mNot (mTst (mCallPL F__law_like (mCons (mLst (mCons (mLcG FG_parts (mCons (mVar 6) mNil)) (mCons (mCallI F_values_in (mCons (mVar 6) mNil)) mNil))) (mCons (mLst (mCons (mCallP F__law_all_parts (mCons (mVar 6) (mCons (mTup mNil) mNil))) (mCons (mCallP F__law_values (mCons (mVar 6) mNil)) mNil))) mNil))))) (msRet (mC (.bl false))) msNil)))))))))))))
def m_law : MS :=
    (msSeq (msAsg (mCallI F__law_draws (mCons (mVar 0) mNil)) (mgName 1))
    (msSeq (msFor (miR1 (mCons (mC (.int 6)) mNil)) (mgName 2) mb_law_2)
    (msRet (mC (.bl true)))))
theorem sc_law : FnScope N_law ["_law_script"] (defScope s_law) := ⟨rfl, rfl, rfl, by decide +kernel, rfl, by decide +kernel, by decide +kernel⟩
def F_law : IF := runI N_law.length m_law
theorem ok_law (C : CtxT P K w mg) : ∃ f fd, mg "law" = some (.ref f) ∧ (∀ (s : Shared) (u : Value), BindsTo s fd ⟨[u], []⟩ [("_law_script", u)]) ∧ ∀ base : Heap, CtxB K mg base → FnOk P w K mg base (L2.CX P w) 32 f fd ["_law_script"] (SpI K mg 1 F_law) := by
  have sc := sc_law
  obtain ⟨f, fd, Fd, g⟩ := C.d_law
  refine ⟨f, fd, g, fun s u => FunD.bindsA (ps := ["_law_script"]) Fd (fun _ _ _ _ _ _ us hl => match us, hl with | [_], _ => rfl) s [u] rfl, fun base B => ?_⟩
  have G__law_all_parts := ok__law_all_parts (P := P) (w := w) (base := base) C B
  have G__law_draws := ok__law_draws (P := P) (w := w) (base := base) C B
  have G__law_like := ok__law_like (P := P) (w := w) (base := base) C B
  have G__law_new_names := ok__law_new_names (P := P) (w := w) (base := base) C B
  have G__law_pull := ok__law_pull (P := P) (w := w) (base := base) C B
  have G__law_some_condition := ok__law_some_condition (P := P) (w := w) (base := base) C B
  have G__law_values := ok__law_values (P := P) (w := w) (base := base) C B
  have G_all_of := ok_all_of (P := P) (w := w) (base := base) C B
  have G_parts := ok_parts (P := P) (w := w) (base := base) C B
  have G_values_in := ok_values_in (P := P) (w := w) (base := base) C B
  have G_values_inK_condition := okK_values_in_condition (P := P) (w := w) (base := base) C B
  exact fnI Fd sc fun cdv A outer s H E hr => (rss_cons (rs_set 1 sc.nd (re_callI G__law_draws hr tkOf (ra_cons (re_var 0) ra_nil)))
    (rss_cons (rs_for poOf rfl (ri_range1 C.n_range (ra_cons re_int ra_nil)) (rg_name 2 sc.nd) (rss_cons (rs_set 3 sc.nd (re_callI G__law_new_names hr tkOf (ra_cons (re_var 1) (ra_cons re_int ra_nil))))
    (rss_cons (rs_set 4 sc.nd (re_lst (ra_cons (re_tup (ra_cons (re_str [110, 97, 109, 101]) (ra_cons (re_ix (re_var 3) re_int) ra_nil))) (ra_cons (re_tup (ra_cons (re_str [102, 105, 101, 108, 100]) (ra_cons (re_ix (re_var 3) re_int) (ra_cons (re_ix (re_var 3) re_int) ra_nil)))) (ra_cons (re_tup (ra_cons (re_str [111, 119, 110]) (ra_cons (re_str [107, 101, 121]) ra_nil))) (ra_cons (re_tup (ra_cons (re_str [110, 101, 120, 116]) (ra_cons (re_str [107, 101, 121]) ra_nil))) ra_nil))))))
    (rss_cons (rs_setLc (own := [("_law_k", 10)]) 5 rfl sc.nd (ri_range1 C.n_range (ra_cons (re_callI G__law_pull hr tkOf (ra_cons (re_var 1) (ra_cons re_int ra_nil))) ra_nil)) (blkOk_by (N := N_law) (sc := defScope s_law) (by decide +kernel)) (fun _ _ _ _ _ => (rg_name 10 sc.nd)) (fun _ _ _ _ _ => rts_nil) (fun _ _ _ _ _ => (re_callI G__law_some_condition hr takes0 (ra_cons (re_var 1) (ra_cons (re_var 4) (ra_cons re_int ra_nil))))))
    (rss_cons (rs_set 6 sc.nd (re_if (rt_eq hr (re_var 5) (re_lst ra_nil)) (re_tup (ra_cons (re_str [116, 114, 117, 101]) ra_nil)) (re_ix (re_var 5) (re_sub (re_len C.n_len (ra_cons (re_var 5) ra_nil)) re_int))))
    (rss_cons (rs_for poOf rfl (ri_list (re_sliceR (re_slice (re_var 5) ro_none (ro_some (re_sub (re_len C.n_len (ra_cons (re_var 5) ra_nil)) re_int))) ro_none (re_neg re_int))) (rg_name 7 sc.nd) (rss_one (rs_set 6 sc.nd (re_tup (ra_cons (re_str [97, 110, 100]) (ra_cons (re_var 7) (ra_cons (re_var 6) ra_nil)))))))
    (rss_cons (rs_set 8 sc.nd (re_if (rt_eq hr (re_var 5) (re_lst ra_nil)) (re_callS0 G_all_of hr tkOf flatE) (re_if (rt_eq hr (re_len C.n_len (ra_cons (re_var 5) ra_nil)) re_int) (re_callS G_all_of hr tkOf flatE (ra_cons (re_ix (re_var 5) re_int) ra_nil)) (re_callS G_all_of hr tkOf flatE (ra_cons (re_ix (re_var 5) re_int) (ra_cons (re_ix (re_var 5) re_int) ra_nil))))))
    (rss_cons (rs_if (rt_eq hr (re_len C.n_len (ra_cons (re_var 5) ra_nil)) re_int) (rss_one (rs_set 8 sc.nd (re_callS G_all_of hr tkOf flatE (ra_cons (re_ix (re_var 5) re_int) (ra_cons (re_ix (re_var 5) re_int) (ra_cons (re_ix (re_var 5) re_int) ra_nil)))))) rss_nil)
    (rss_cons (rs_if (rt_not (rt_val (re_callP G__law_like hr tkOf (ra_cons (re_var 8) (ra_cons (re_var 6) ra_nil))))) (rss_one (rs_ret re_bl)) rss_nil)
    (rss_cons (rs_set 9 sc.nd (re_listGC G_parts hr (ra_cons (re_var 6) ra_nil) C.n_list))
    (rss_cons (rs_if (rt_not (rt_val (re_callPL G__law_like hr tkOf (ra_cons (re_lst (ra_cons (re_var 9) (ra_cons (re_callI G_values_in hr tkOf (ra_cons (re_var 6) ra_nil)) (ra_cons (re_callIK G_values_inK_condition hr tkOf (rk_cons (re_var 6) rk_nil)) ra_nil)))) (ra_cons (re_lst (ra_cons (re_callP G__law_all_parts hr tkOf (ra_cons (re_var 6) (ra_cons (re_tup ra_nil) ra_nil))) (ra_cons (re_callP G__law_values hr tkOf (ra_cons (re_var 6) ra_nil)) (ra_cons (re_callP G__law_values hr tkOf (ra_cons (re_var 6) ra_nil)) ra_nil)))) ra_nil))))) (rss_one (rs_ret re_bl)) rss_nil)
    (rss_cons (rs_expr (re_clear (re_var 9)))
    (rss_cons (rs_expr (re_append (re_callI G_values_in hr tkOf (ra_cons (re_var 6) ra_nil)) re_non))
    (rss_one (rs_if (rt_not (rt_val (re_callPL G__law_like hr tkOf (ra_cons (re_lst (ra_cons (re_lcG (own := [("_law_pair", 11)]) G_parts hr (blkOk_by (N := N_law) (sc := defScope s_law) (by decide +kernel)) (ra_cons (re_var 6) ra_nil)) (ra_cons (re_callI G_values_in hr tkOf (ra_cons (re_var 6) ra_nil)) ra_nil))) (ra_cons (re_lst (ra_cons (re_callP G__law_all_parts hr tkOf (ra_cons (re_var 6) (ra_cons (re_tup ra_nil) ra_nil))) (ra_cons (re_callP G__law_values hr tkOf (ra_cons (re_var 6) ra_nil)) ra_nil))) ra_nil))))) (rss_one (rs_ret re_bl)) rss_nil)))))))))))))))
    (rss_one (rs_ret re_bl))))
end
end K08
namespace K08
open PySem PySem.Spec PyProof.Rows L2 PD
theorem ctx {K : PySem.W.Frag} {h : Heap} {mg : Str → Option Value} (X : K.In h) (G : h.Ns mainGlobals mg) {w : World} (c4 : SaysG4 fa fn gs dsL fxL xdL sdL tf R.prog.main.file w h K) : @CtxT ⟨lams, []⟩ R.prog K w mg :=
  letI : LamTab := ⟨lams, []⟩
  have c3 := c4.g3
  have c := c3.two
  have gl : ∀ x : Str, .glo x ∈ fa → mg x = some (.ref (He.ga K x)) := fun x hx => He.glo_ok X G (SaysD.facts' c.g.d hx)
  {
  d__law_draws := (fun ⟨fd, F⟩ => ⟨_, fd, F, gl "_law_draws" (by simp [fa])⟩) (SaysD.def' c.g.d (d := dd__law_draws) (by simp [fn]))
  d__law_pull := (fun ⟨fd, F⟩ => ⟨_, fd, F, gl "_law_pull" (by simp [fa])⟩) (SaysD.def' c.g.d (d := dd__law_pull) (by simp [fn]))
  d__law_any := (fun ⟨fd, F⟩ => ⟨_, fd, F, gl "_law_any" (by simp [fa])⟩) (SaysD.def' c.g.d (d := dd__law_any) (by simp [fn]))
  d__law_reserved := (fun ⟨fd, F⟩ => ⟨_, fd, F, gl "_law_reserved" (by simp [fa])⟩) (SaysD.def' c.g.d (d := dd__law_reserved) (by simp [fn]))
  d__law_new_names := (fun ⟨fd, F⟩ => ⟨_, fd, F, gl "_law_new_names" (by simp [fa])⟩) (SaysD.def' c.g.d (d := dd__law_new_names) (by simp [fn]))
  d__law_near := (fun ⟨fd, F⟩ => ⟨_, fd, F, gl "_law_near" (by simp [fa])⟩) (SaysD.def' c.g.d (d := dd__law_near) (by simp [fn]))
  d__law_some_value := (fun ⟨fd, F⟩ => ⟨_, fd, F, gl "_law_some_value" (by simp [fa])⟩) (SaysD.def' c.g.d (d := dd__law_some_value) (by simp [fn]))
  d__law_some_compared := (fun ⟨fd, F⟩ => ⟨_, fd, F, gl "_law_some_compared" (by simp [fa])⟩) (SaysD.def' c.g.d (d := dd__law_some_compared) (by simp [fn]))
  d__law_some_condition := (fun ⟨fd, F⟩ => ⟨_, fd, F, gl "_law_some_condition" (by simp [fa])⟩) (SaysD.def' c.g.d (d := dd__law_some_condition) (by simp [fn]))
  d_all_of := (fun ⟨fd, F⟩ => ⟨_, fd, F, gl "all_of" (by simp [fa])⟩) (SaysD.def' c.g.d (d := dd_all_of) (by simp [fn]))
  d__law_like := (fun ⟨fd, F⟩ => ⟨_, fd, F, gl "_law_like" (by simp [fa])⟩) (SaysD.def' c.g.d (d := dd__law_like) (by simp [fn]))
  d_inner_parts := (fun ⟨fd, F⟩ => ⟨_, fd, F, gl "inner_parts" (by simp [fa])⟩) (SaysD.def' c.g.d (d := dd_inner_parts) (by simp [fn]))
  d_is_integer := (fun ⟨fd, F⟩ => ⟨_, fd, F, gl "is_integer" (by simp [fa])⟩) (SaysD.def' c.g.d (d := dd_is_integer) (by simp [fn]))
  d_is_constant := (fun ⟨fd, F⟩ => ⟨_, fd, F, gl "is_constant" (by simp [fa])⟩) (SaysD.def' c.g.d (d := dd_is_constant) (by simp [fn]))
  d_is_name := (fun ⟨fd, F⟩ => ⟨_, fd, F, gl "is_name" (by simp [fa])⟩) (SaysD.def' c.g.d (d := dd_is_name) (by simp [fn]))
  d_is_column := (fun ⟨fd, F⟩ => ⟨_, fd, F, gl "is_column" (by simp [fa])⟩) (SaysD.def' c.g.d (d := dd_is_column) (by simp [fn]))
  d_is_plain := (fun ⟨fd, F⟩ => ⟨_, fd, F, gl "is_plain" (by simp [fa])⟩) (SaysD.def' c.g.d (d := dd_is_plain) (by simp [fn]))
  d_is_value := (fun ⟨fd, F⟩ => ⟨_, fd, F, gl "is_value" (by simp [fa])⟩) (SaysD.def' c.g.d (d := dd_is_value) (by simp [fn]))
  d_has_form := (fun ⟨fd, F⟩ => ⟨_, fd, F, gl "has_form" (by simp [fa])⟩) (SaysD.def' c.g.d (d := dd_has_form) (by simp [fn]))
  d_wrong_path := (fun ⟨fd, F⟩ => ⟨_, fd, F, gl "wrong_path" (by simp [fa])⟩) (SaysD.def' c.g.d (d := dd_wrong_path) (by simp [fn]))
  d_check_condition := (fun ⟨fd, F⟩ => ⟨_, fd, F, gl "check_condition" (by simp [fa])⟩) (SaysD.def' c.g.d (d := dd_check_condition) (by simp [fn]))
  d_all_parts := (fun ⟨fd, F⟩ => ⟨_, fd, F, gl "all_parts" (by simp [fa])⟩) (SaysD.def' c.g.d (d := dd_all_parts) (by simp [fn]))
  d_parts := (fun ⟨fd, F⟩ => ⟨_, fd, F, gl "parts" (by simp [fa])⟩) (SaysD.def' c.g.d (d := dd_parts) (by simp [fn]))
  d_values_in := (fun ⟨fd, F⟩ => ⟨_, fd, F, gl "values_in" (by simp [fa])⟩) (SaysD.def' c.g.d (d := dd_values_in) (by simp [fn]))
  d__law_all_parts := (fun ⟨fd, F⟩ => ⟨_, fd, F, gl "_law_all_parts" (by simp [fa])⟩) (SaysD.def' c.g.d (d := dd__law_all_parts) (by simp [fn]))
  d__law_values := (fun ⟨fd, F⟩ => ⟨_, fd, F, gl "_law_values" (by simp [fa])⟩) (SaysD.def' c.g.d (d := dd__law_values) (by simp [fn]))
  d_law := (fun ⟨fd, F⟩ => ⟨_, fd, F, gl "law" (by simp [fa])⟩) (SaysD.def' c.g.d (d := dd_law) (by simp [fn]))
  n_list := He.free_ok X G (SaysD.facts' c.g.d (f := .free "list") (by simp [fa]))
  n_int := He.free_ok X G (SaysD.facts' c.g.d (f := .free "int") (by simp [fa]))
  n_len := He.free_ok X G (SaysD.facts' c.g.d (f := .free "len") (by simp [fa]))
  n_range := He.free_ok X G (SaysD.facts' c.g.d (f := .free "range") (by simp [fa]))
  n_isinstance := He.free_ok X G (SaysD.facts' c.g.d (f := .free "isinstance") (by simp [fa]))
  n_str := He.free_ok X G (SaysD.facts' c.g.d (f := .free "str") (by simp [fa]))
  n_bool := He.free_ok X G (SaysD.facts' c.g.d (f := .free "bool") (by simp [fa]))
  n_tuple := He.free_ok X G (SaysD.facts' c.g.d (f := .free "tuple") (by simp [fa]))
  n_zip := He.free_ok X G (SaysD.facts' c.g.d (f := .free "zip") (by simp [fa]))
  n_all := He.free_ok X G (SaysD.facts' c.g.d (f := .free "all") (by simp [fa]))
  c_GREATEST := globC_of X G (c.g.glob (p := ("GREATEST", g_GREATEST)) (by simp [gs]))
  c_LETTERS := globC_of X G (c.g.glob (p := ("LETTERS", g_LETTERS)) (by simp [gs]))
  c_RESERVED := globC_of X G (c.g.glob (p := ("RESERVED", g_RESERVED)) (by simp [gs]))
  c_MOST_DEPTH := globC_of X G (c.g.glob (p := ("MOST_DEPTH", g_MOST_DEPTH)) (by simp [gs]))
  e_SIGNS := c.dic X G (p := ("SIGNS", kv_SIGNS)) (by simp [dsL])
  g_InvalidCondition := gl "InvalidCondition" (by simp [fa])
  g_TableError := gl "TableError" (by simp [fa])
  o_InvalidCondition := c3.fact (f := fx_o_InvalidCondition) (by simp [fxL])
  i_InvalidCondition := c3.fact (f := fx_i_InvalidCondition) (by simp [fxL])
  na_InvalidCondition := c3.fact (f := fx_na_InvalidCondition) (by simp [fxL])
  x_InvalidCondition := c3.defA (d := xd_InvalidCondition_init) (by simp [xdL])
  su_TableError := (c4.sup sd_TableError (by simp [sdL])).1
  sv_TableError := (c4.sup sd_TableError (by simp [sdL])).2
  cf_TableError := c3.fact (f := fx_cf_TableError) (by simp [fxL])
  top_ := by decide +kernel
  lamE := rfl
  }
theorem fin (math : ∀ ns : List Int, ns.length ≤ 63 → (∀ z ∈ ns, Builtin.Int.intBits z ≤ 1048576) → (∃ h', F_law [.scr (ns.map .int)] [] = some (.ok (.bl true), h')) ∧ ∃ h', F_law [.lst (ns.map .int)] [] = some (.ok (.bl true), h')) :
    PySem.W.WalkO (PySem.W.view R.prog [37]) loose (PySem.W.XL (PySem.W.view R.prog [37]) []) hk.says R.toRowW (HandSHeadRun.topDef R.prog 37) [] (fun f vs => PySem.call f vs) := by
  refine walk_pdT (lams := lams) (l := PySem.Challenge.rw_lookedrows_k08_parts_and_values_of_condi) (n := 63) (k := 32) (x := "_law_script") rfl (by decide) (by kernel_rfl) ⟨rfl, by decide, by decide⟩ ?_ math
  intro w mg fa h Y G hmg0
  obtain ⟨K, KX, c⟩ := Y
  have hmg : mg ("law" : PySem.Str) = some (.ref fa) := by
    have e : (HandSHeadRun.topDef R.prog 37).name = ("law" : PySem.Str) := by kernel_rfl
    rw [← e]
    exact hmg0
  letI : LamTab := ⟨lams, []⟩
  obtain ⟨f, fd, g, hb, hF⟩ := ok_law (P := (PySem.Challenge.rw_lookedrows_k08_parts_and_values_of_condi).prog) (w := w) (ctx KX G c)
  have ef : fa = f := by
    have := hmg.symm.trans g
    cases this
    rfl
  subst ef
  refine ⟨K, fd, tf.map (He.cT K), [], KX, fun p hp => ?_, fun p hp => ?_, fun p hp => ?_, fun p hp => ?_, hb, fun base KB GB TB => hF base ⟨trivial⟩⟩
  · obtain ⟨q, hq, rfl⟩ := List.mem_map.mp hp
    exact c.empty q hq
  · obtain ⟨q, hq, rfl⟩ := List.mem_map.mp hp
    exact c.out q hq
  · obtain ⟨q, hq, rfl⟩ := List.mem_map.mp hp
    exact PySem.W.codeHd_of_K KX (c.hd q hq)
  cases hp
end K08
namespace K08
open PySem PD PV
theorem okD_v : ∀ v : Vl, okD 3 v.d = true
  | .pl (.num _) => rfl
  | .pl (.name _) => rfl
  | .pl (.field _ _) => rfl
  | .pl (.own _) => rfl
  | .pl (.next _) => rfl
  | .plus (.num _) _ => rfl
  | .plus (.name _) _ => rfl
  | .plus (.field _ _) _ => rfl
  | .plus (.own _) _ => rfl
  | .plus (.next _) _ => rfl
theorem okD_tup2 {t : Nat} {a b : D} (ha : okD t a = true) (hb : okD t b = true) : okD (t + 1) (.tup [a, b]) = true := by
  show (decide (2 ≤ 16777216) && (okD t a && (okD t b && true))) = true
  rw [ha, hb]; rfl
theorem okD_tup3 {t : Nat} {a b c : D} (ha : okD t a = true) (hb : okD t b = true) (hc : okD t c = true) : okD (t + 1) (.tup [a, b, c]) = true := by
  show (decide (3 ≤ 16777216) && (okD t a && (okD t b && (okD t c && true)))) = true
  rw [ha, hb, hc]; rfl
theorem okD_c : ∀ (c : Cd) (t : Nat), c.dep + 3 ≤ t → okD t c.d = true
  | .cmp o a b, t, h => by
    obtain ⟨t, rfl⟩ : ∃ m, t = m + 1 := ⟨t - 1, by have : 1 + 3 ≤ t := h; omega⟩
    have h' : 1 + 3 ≤ t + 1 := h
    obtain ⟨u, rfl⟩ : ∃ m, t = m + 1 := ⟨t - 1, by omega⟩
    exact okD_tup3 rfl (okD_le (okD_v a) (by omega)) (okD_le (okD_v b) (by omega))
  | .tru, t, h => by
    have h' : 1 + 3 ≤ t := h
    exact okD_le (t := 2) rfl (by omega)
  | .fnd z, t, h => by
    have h' : 1 + 3 ≤ t := h
    exact okD_le (t := 2) rfl (by omega)
  | .nt c, t, h => by
    have h' : c.dep + 1 + 3 ≤ t := h
    obtain ⟨t, rfl⟩ : ∃ m, t = m + 1 := ⟨t - 1, by omega⟩
    obtain ⟨u, rfl⟩ : ∃ m, t = m + 1 := ⟨t - 1, by omega⟩
    exact okD_tup2 rfl (okD_c c _ (by omega))
  | .bin j c d, t, h => by
    have h' : max c.dep d.dep + 1 + 3 ≤ t := h
    obtain ⟨t, rfl⟩ : ∃ m, t = m + 1 := ⟨t - 1, by omega⟩
    obtain ⟨u, rfl⟩ : ∃ m, t = m + 1 := ⟨t - 1, by omega⟩
    exact okD_tup3 rfl (okD_c c _ (by omega)) (okD_c d _ (by omega))
def pt (c : Cd) (ps : List Int) : D := .tup [.tup (ps.map .int), c.d]
def prts : Cd → List Int → List D
  | .nt c, ps => pt (.nt c) ps :: prts c (ps ++ [1])
  | .bin j c d, ps => pt (.bin j c d) ps :: (prts c (ps ++ [1]) ++ prts d (ps ++ [2]))
  | .cmp o a b, ps => [pt (.cmp o a b) ps]
  | .tru, ps => [pt .tru ps]
  | .fnd z, ps => [pt (.fnd z) ps]
def vals : Cd → List D
  | .nt c => vals c
  | .bin _ c d => vals c ++ vals d
  | .cmp _ a b => [a.d, b.d]
  | _ => []
theorem two_le {a b : Nat} : 2 ^ a + 2 ^ b ≤ 2 ^ (max a b + 1) := by
  have l1 : 2 ^ a ≤ 2 ^ max a b := Nat.pow_le_pow_right (by decide) (Nat.le_max_left _ _)
  have l2 : 2 ^ b ≤ 2 ^ max a b := Nat.pow_le_pow_right (by decide) (Nat.le_max_right _ _)
  rw [Nat.pow_succ]; omega
theorem prts_len : ∀ (c : Cd) (ps : List Int), (prts c ps).length + 1 ≤ 2 ^ c.dep
  | .cmp _ _ _, _ => by show 2 ≤ 2 ^ 1; decide
  | .tru, _ => by show 2 ≤ 2 ^ 1; decide
  | .fnd _, _ => by show 2 ≤ 2 ^ 1; decide
  | .nt c, ps => by
    have i := prts_len c (ps ++ [1])
    show (prts c (ps ++ [1])).length + 1 + 1 ≤ 2 ^ (c.dep + 1)
    have : 1 ≤ 2 ^ c.dep := Nat.one_le_two_pow
    rw [Nat.pow_succ]; omega
  | .bin j c d, ps => by
    have i := prts_len c (ps ++ [1])
    have k := prts_len d (ps ++ [2])
    show (prts c (ps ++ [1]) ++ prts d (ps ++ [2])).length + 1 + 1 ≤ 2 ^ (max c.dep d.dep + 1)
    rw [List.length_append]
    have := two_le (a := c.dep) (b := d.dep)
    omega
theorem vals_len : ∀ c : Cd, (vals c).length ≤ 2 ^ c.dep
  | .cmp _ _ _ => by show 2 ≤ 2 ^ 1; decide
  | .tru => Nat.zero_le _
  | .fnd _ => Nat.zero_le _
  | .nt c => by
    have i := vals_len c
    show (vals c).length ≤ 2 ^ (c.dep + 1)
    rw [Nat.pow_succ]; omega
  | .bin j c d => by
    have i := vals_len c
    have k := vals_len d
    show (vals c ++ vals d).length ≤ 2 ^ (max c.dep d.dep + 1)
    rw [List.length_append]
    have := two_le (a := c.dep) (b := d.dep)
    omega
theorem len64 {n m : Nat} (h : n ≤ 2 ^ m) (hm : m ≤ 6) : n ≤ 64 := Nat.le_trans h (Nat.pow_le_pow_right (by decide) hm)
theorem okD_ints {ps : List Int} (l : ps.length ≤ 100) : okD 3 (.tup (ps.map .int)) = true := by
  show (decide ((ps.map D.int).length ≤ 16777216) && (ps.map D.int).all (okD 2)) = true
  rw [List.length_map, decide_eq_true (by omega), Bool.true_and]
  exact List.all_eq_true.mpr fun d hd => by
    obtain ⟨i, _, rfl⟩ := List.mem_map.mp hd
    rfl
theorem pt_ok {c : Cd} {ps : List Int} (l : ps.length ≤ 100) (hc : c.dep ≤ 6) : okD 12 (pt c ps) = true :=
  okD_tup2 (okD_le (okD_ints l) (by decide)) (okD_c c 11 (by omega))
theorem prts_ok : ∀ (c : Cd) (ps : List Int), ps.length + c.dep ≤ 100 → c.dep ≤ 6 → ∀ d ∈ prts c ps, okD 12 d = true
  | .cmp o a b, ps, l, h, d, hd => by rw [List.mem_singleton.mp hd]; exact pt_ok (by omega) h
  | .tru, ps, l, h, d, hd => by rw [List.mem_singleton.mp hd]; exact pt_ok (by omega) h
  | .fnd z, ps, l, h, d, hd => by rw [List.mem_singleton.mp hd]; exact pt_ok (by omega) h
  | .nt c, ps, l, h, d, hd => by
    have l' : ps.length + (c.dep + 1) ≤ 100 := l
    have h' : c.dep + 1 ≤ 6 := h
    rcases List.mem_cons.mp hd with e | hd
    · rw [e]; exact pt_ok (by omega) h
    · exact prts_ok c _ (by simp; omega) (by omega) d hd
  | .bin j c e, ps, l, h, d, hd => by
    have l' : ps.length + (max c.dep e.dep + 1) ≤ 100 := l
    have h' : max c.dep e.dep + 1 ≤ 6 := h
    rcases List.mem_cons.mp hd with q | hd
    · rw [q]; exact pt_ok (by omega) h
    · rcases List.mem_append.mp hd with hd | hd
      · exact prts_ok c _ (by simp; omega) (by omega) d hd
      · exact prts_ok e _ (by simp; omega) (by omega) d hd
theorem vals_ok : ∀ (c : Cd), ∀ d ∈ vals c, okD 3 d = true
  | .cmp o a b, d, hd => by
    rcases List.mem_cons.mp hd with q | hd
    · rw [q]; exact okD_v a
    · rw [List.mem_singleton.mp hd]; exact okD_v b
  | .tru, d, hd => nomatch hd
  | .fnd z, d, hd => nomatch hd
  | .nt c, d, hd => vals_ok c d hd
  | .bin j c e, d, hd => by
    rcases List.mem_append.mp hd with hd | hd
    · exact vals_ok c d hd
    · exact vals_ok e d hd
theorem prts_no {c : Cd} (h : c.dep ≤ 6) : PD.noRef.go (prts c []) = true := noRef_all fun d hd => okD_noRef (prts_ok c [] (by simp; omega) h d hd)
theorem prts_noP {c : Cd} {ps : List Int} (l : ps.length + c.dep ≤ 6) : PD.noRef.go (prts c ps) = true := noRef_all fun d hd => okD_noRef (prts_ok c ps (by omega) (by omega) d hd)
theorem vals_no (c : Cd) : PD.noRef.go (vals c) = true := noRef_all fun d hd => okD_noRef (vals_ok c d hd)
theorem turn_p {f : Nat} {ps : List Int} {i : Int} {c : Cd} {xs ys : List D} {x : Option D} (hw : F_all_parts_ f [c.d, .tup ((ps ++ [i]).map .int)] = some (.ok (.lst ys))) (hl : ps.length ≤ 6) (l : xs.length + ys.length ≤ 1000) :
    mb_all_parts_0 (F_all_parts_ f) [x, some (.tup (ps.map .int)), some (.lst xs), some (.int i), some c.d] [] = some (.nx [x, some (.tup (ps.map .int)), some (.lst (xs ++ ys)), some (.int i), some c.d], []) := by
  have hk := callPK_ok (h := []) hw (wp_go (c := c) (ps ++ [i]))
  have hs : mStar (mVar 1) (mCons (mVar 3) mNil) [x, some (.tup (ps.map .int)), some (.lst xs), some (.int i), some c.d] [] = some (.ok (ps.map .int ++ [.int i]), []) := by
    rw [star_ap (x := .tup (ps.map .int)) (xs := ps.map .int) rfl rfl]
    rfl
  have ht : tupK (ps.map .int ++ [.int i]) [] = some (.ok (.tup ((ps ++ [i]).map .int)), []) := by
    rw [tupK_ok (by simp; omega)]
    simp
  have ad : dAdd [] (.lst xs) (.lst ys) = some (.lst (xs ++ ys)) := add_lst (by omega)
  dsimp! only [mb_all_parts_0, hs, ht, hk, ad]
theorem key_p {c : Cd} {f : Nat} {ps : List Int} {xs : List D} (hn : PD.noRef.go xs = true) (hl : ∃ a b, forL (mgTup 2 (mgCons (mgName 3) (mgCons (mgName 4) mgNil))) (mb_all_parts_0 (F_all_parts_ f)) c.inn [some c.d, some (.tup (ps.map .int)), some (.lst [pt c ps]), none, none] [] = some (.nx [some c.d, some (.tup (ps.map .int)), some (.lst xs), a, b], [])) :
    F_all_parts_ (f + 1) [c.d, .tup (ps.map .int)] = some (.ok (.lst xs)) := by
  obtain ⟨a, b, hl⟩ := hl
  have hi : callPK K08.F_inner_parts [c.d] [] = some (.ok (.lst c.inn), []) := callPK_ok (inner_ok c) (go1 c.noRef)
  simp only [pt] at hl
  show endP (m_all_parts (F_all_parts_ f) [some c.d, some (.tup (ps.map .int)), none, none, none] []) = _
  dsimp! only [m_all_parts, hi, hl]
  exact endP_ok hn
theorem parts_ok : ∀ (c : Cd) (f : Nat) (ps : List Int), ps.length + c.dep ≤ 6 → c.dep ≤ f → F_all_parts_ f [c.d, .tup (ps.map .int)] = some (.ok (.lst (prts c ps))) := by
  intro c
  induction c with
  | cmp o a b =>
    intro f ps hd hf
    obtain ⟨f, rfl⟩ : ∃ m, f = m + 1 := ⟨f - 1, by have : 1 ≤ f := hf; omega⟩
    exact key_p (c := .cmp o a b) (prts_noP (c := .cmp o a b) hd) ⟨none, none, rfl⟩
  | tru =>
    intro f ps hd hf
    obtain ⟨f, rfl⟩ : ∃ m, f = m + 1 := ⟨f - 1, by have : 1 ≤ f := hf; omega⟩
    exact key_p (c := .tru) (prts_noP (c := .tru) hd) ⟨none, none, rfl⟩
  | fnd z =>
    intro f ps hd hf
    obtain ⟨f, rfl⟩ : ∃ m, f = m + 1 := ⟨f - 1, by have : 1 ≤ f := hf; omega⟩
    exact key_p (c := .fnd z) (prts_noP (c := .fnd z) hd) ⟨none, none, rfl⟩
  | nt c ih =>
    intro f ps hd hf
    have hd' : ps.length + (c.dep + 1) ≤ 6 := hd
    have hf' : c.dep + 1 ≤ f := hf
    obtain ⟨f, rfl⟩ : ∃ m, f = m + 1 := ⟨f - 1, by omega⟩
    have w := ih f (ps ++ [1]) (by simp; omega) (by omega)
    have l := len64 (Nat.le_of_succ_le (prts_len c (ps ++ [1]))) (by omega)
    refine key_p (c := .nt c) (prts_noP (c := .nt c) hd) ⟨some (.int 1), some c.d, ?_⟩
    rw [show (Cd.nt c).inn = [.tup [.int 1, c.d]] from rfl, forL_nx (ε1 := [some (Cd.nt c).d, some (.tup (ps.map .int)), some (.lst [pt (.nt c) ps]), some (.int 1), some c.d]) (h1 := []) rfl (turn_p w (by omega) (by simp; omega)), forL_nil]
    rfl
  | bin j c d ihc ihd =>
    intro f ps hd hf
    have hd' : ps.length + (max c.dep d.dep + 1) ≤ 6 := hd
    have hf' : max c.dep d.dep + 1 ≤ f := hf
    obtain ⟨f, rfl⟩ : ∃ m, f = m + 1 := ⟨f - 1, by omega⟩
    have w1 := ihc f (ps ++ [1]) (by simp; omega) (by omega)
    have w2 := ihd f (ps ++ [2]) (by simp; omega) (by omega)
    have l1 := len64 (Nat.le_of_succ_le (prts_len c (ps ++ [1]))) (by omega)
    have l2 := len64 (Nat.le_of_succ_le (prts_len d (ps ++ [2]))) (by omega)
    refine key_p (c := .bin j c d) (prts_noP (c := .bin j c d) hd) ⟨some (.int 2), some d.d, ?_⟩
    rw [show (Cd.bin j c d).inn = [.tup [.int 1, c.d], .tup [.int 2, d.d]] from rfl, forL_nx (ε1 := [some (Cd.bin j c d).d, some (.tup (ps.map .int)), some (.lst [pt (.bin j c d) ps]), some (.int 1), some c.d]) (h1 := []) rfl (turn_p w1 (by omega) (by simp; omega)),
      forL_nx (ε1 := [some (Cd.bin j c d).d, some (.tup (ps.map .int)), some (.lst ([pt (.bin j c d) ps] ++ prts c (ps ++ [1]))), some (.int 2), some d.d]) (h1 := []) rfl (turn_p w2 (by omega) (by simp; omega)), forL_nil]
    rfl
theorem in3 {h : EH} {z : List Nat} : dInA h (.str z) (.tup [.str [110, 111, 116], .str [97, 110, 100], .str [111, 114]]) = some (.bl (decide (z ∈ [[110, 111, 116], [97, 110, 100], [111, 114]]))) := in_strs (h := h) (z := z) [[110, 111, 116], [97, 110, 100], [111, 114]]
theorem turn_l {f : Nat} {ps : List Int} {i : Int} {c : Cd} {x : D} {xs ys : List D} (hx : ∀ h : EH, dIx h x (.int i) = some c.d) (hw : F__law_all_parts_ f [c.d, .tup ((ps ++ [i]).map .int)] = some (.ok (.lst ys))) (hl : ps.length ≤ 6) (l : xs.length + ys.length ≤ 1000) :
    mb__law_all_parts_0 (F__law_all_parts_ f) [some x, some (.tup (ps.map .int)), some (.lst xs), some (.int i)] [] = some (.nx [some x, some (.tup (ps.map .int)), some (.lst (xs ++ ys)), some (.int i)], []) := by
  have hk := callPK_ok (h := []) hw (wp_go (c := c) (ps ++ [i]))
  have ht : dAdd [] (.tup (ps.map .int)) (.tup [.int i]) = some (.tup ((ps ++ [i]).map .int)) := by
    rw [add_tup (by simp; omega)]
    simp
  have ad : dAdd [] (.lst xs) (.lst ys) = some (.lst (xs ++ ys)) := add_lst (by omega)
  dsimp! only [mb__law_all_parts_0, hx, ht, hk, ad]
theorem lparts_ok : ∀ (c : Cd) (f : Nat) (ps : List Int), ps.length + c.dep ≤ 6 → c.dep ≤ f → F__law_all_parts_ f [c.d, .tup (ps.map .int)] = some (.ok (.lst (prts c ps))) := by
  intro c
  induction c with
  | cmp o a b =>
    intro f ps hd hf
    obtain ⟨f, rfl⟩ : ∃ m, f = m + 1 := ⟨f - 1, by have : 1 ≤ f := hf; omega⟩
    show endP (m__law_all_parts (F__law_all_parts_ f) [some (Cd.cmp o a b).d, some (.tup (ps.map .int)), none, none] []) = _
    dsimp! only [m__law_all_parts, Cd.d, atl0, in3, cw_nin]
    exact endP_ok (prts_noP (c := .cmp o a b) hd)
  | tru =>
    intro f ps hd hf
    obtain ⟨f, rfl⟩ : ∃ m, f = m + 1 := ⟨f - 1, by have : 1 ≤ f := hf; omega⟩
    show endP (m__law_all_parts (F__law_all_parts_ f) [some Cd.tru.d, some (.tup (ps.map .int)), none, none] []) = _
    dsimp! only [m__law_all_parts, Cd.d, atl0, in3, show ¬ ([116, 114, 117, 101] ∈ [[110, 111, 116], [97, 110, 100], [111, 114]]) by decide]
    exact endP_ok (prts_noP (c := .tru) hd)
  | fnd z =>
    intro f ps hd hf
    obtain ⟨f, rfl⟩ : ∃ m, f = m + 1 := ⟨f - 1, by have : 1 ≤ f := hf; omega⟩
    show endP (m__law_all_parts (F__law_all_parts_ f) [some (Cd.fnd z).d, some (.tup (ps.map .int)), none, none] []) = _
    dsimp! only [m__law_all_parts, Cd.d, atl0, in3, show ¬ ([102, 111, 117, 110, 100] ∈ [[110, 111, 116], [97, 110, 100], [111, 114]]) by decide]
    exact endP_ok (prts_noP (c := .fnd z) hd)
  | nt c ih =>
    intro f ps hd hf
    have hd' : ps.length + (c.dep + 1) ≤ 6 := hd
    have hf' : c.dep + 1 ≤ f := hf
    obtain ⟨f, rfl⟩ : ∃ m, f = m + 1 := ⟨f - 1, by omega⟩
    have w := ih f (ps ++ [1]) (by simp; omega) (by omega)
    have l := len64 (Nat.le_of_succ_le (prts_len c (ps ++ [1]))) (by omega)
    have lp : forL (mgName 3) (mb__law_all_parts_0 (F__law_all_parts_ f)) (rngD 1 1) [some (Cd.nt c).d, some (.tup (ps.map .int)), some (.lst [pt (.nt c) ps]), none] [] = some (.nx [some (Cd.nt c).d, some (.tup (ps.map .int)), some (.lst (prts (.nt c) ps)), some (.int 1)], []) := by
      rw [show rngD 1 1 = [.int 1] from rfl, forL_nx (ε1 := [some (Cd.nt c).d, some (.tup (ps.map .int)), some (.lst [pt (.nt c) ps]), some (.int 1)]) (h1 := []) rfl (turn_l (c := c) (fun _ => rfl) w (by omega) (by simp; omega)), forL_nil]
      rfl
    simp only [pt, Cd.d] at lp
    show endP (m__law_all_parts (F__law_all_parts_ f) [some (Cd.nt c).d, some (.tup (ps.map .int)), none, none] []) = _
    dsimp! only [m__law_all_parts, Cd.d, atl0, in3, len2, show ([110, 111, 116] ∈ [[110, 111, 116], [97, 110, 100], [111, 114]]) by decide, ir2K_ok (i := 1) (j := 2) (by decide), lp]
    exact endP_ok (prts_noP (c := .nt c) hd)
  | bin j c d ihc ihd =>
    intro f ps hd hf
    have hd' : ps.length + (max c.dep d.dep + 1) ≤ 6 := hd
    have hf' : max c.dep d.dep + 1 ≤ f := hf
    obtain ⟨f, rfl⟩ : ∃ m, f = m + 1 := ⟨f - 1, by omega⟩
    have w1 := ihc f (ps ++ [1]) (by simp; omega) (by omega)
    have w2 := ihd f (ps ++ [2]) (by simp; omega) (by omega)
    have l1 := len64 (Nat.le_of_succ_le (prts_len c (ps ++ [1]))) (by omega)
    have l2 := len64 (Nat.le_of_succ_le (prts_len d (ps ++ [2]))) (by omega)
    have lp : forL (mgName 3) (mb__law_all_parts_0 (F__law_all_parts_ f)) (rngD 1 2) [some (Cd.bin j c d).d, some (.tup (ps.map .int)), some (.lst [pt (.bin j c d) ps]), none] [] = some (.nx [some (Cd.bin j c d).d, some (.tup (ps.map .int)), some (.lst (prts (.bin j c d) ps)), some (.int 2)], []) := by
      rw [show rngD 1 2 = [.int 1, .int 2] from rfl, forL_nx (ε1 := [some (Cd.bin j c d).d, some (.tup (ps.map .int)), some (.lst [pt (.bin j c d) ps]), some (.int 1)]) (h1 := []) rfl (turn_l (c := c) (fun _ => rfl) w1 (by omega) (by simp; omega)),
        forL_nx (ε1 := [some (Cd.bin j c d).d, some (.tup (ps.map .int)), some (.lst ([pt (.bin j c d) ps] ++ prts c (ps ++ [1]))), some (.int 2)]) (h1 := []) rfl (turn_l (c := d) (fun _ => rfl) w2 (by omega) (by simp; omega)), forL_nil]
      rfl
    simp only [pt, Cd.d] at lp
    show endP (m__law_all_parts (F__law_all_parts_ f) [some (Cd.bin j c d).d, some (.tup (ps.map .int)), none, none] []) = _
    dsimp! only [m__law_all_parts, Cd.d, atl0, in3, len3, jw_in, ir2K_ok (i := 1) (j := 3) (by decide), lp]
    exact endP_ok (prts_noP (c := .bin j c d) hd)
end K08
local macro_rules
  | `(tactic| simp! only [$xs,*] $[$l]?) => `(tactic| simp only [↓PD.seq_ap, ↓PD.var_ap, ↓PD.c_ap, ↓PD.bin_ap, ↓PD.tst_ap, ↓PD.not_ap, ↓PD.and_ap, ↓PD.or_ap, ↓PD.if_ap, ↓PD.andv_ap, ↓PD.orv_ap, ↓PD.notv_ap, ↓PD.nil_ap, ↓PD.cons_ap, ↓PD.tup_ap, ↓PD.lst_ap, ↓PD.call_ap, ↓PD.callP_ap, ↓PD.callI_ap, ↓PD.perm_ap, ↓PD.nop_ap, ↓PD.smp_ap, ↓PD.sl_ap, ↓PD.chain_ap, ↓PD.isi_ap, ↓PD.lc_ap, ↓PD.lstC_ap, ↓PD.mts_ap, ↓PD.yes_ap, ↓PD.il_ap, ↓PD.it_ap, ↓PD.is_ap, ↓PD.ir1_ap, ↓PD.iz_ap, ↓PD.snil_ap, ↓PD.ret_ap, ↓PD.sif_ap, ↓PD.sexpr_ap, ↓PD.bk_ap, ↓PD.ct_ap, ↓PD.asg_ap, ↓PD.for_ap, ↓PD.par_ap, ↓PD.gname_ap, ↓PD.gnil_ap, ↓PD.gcons_ap, ↓PD.gtup_ap, ↓PD.gsub_ap, PD.bR_ok, PD.bR_ex, PD.rt_some, PD.sq_nx, PD.sq_rt, PD.sq_bk, PD.sq_ct, PD.sq_ex, PD.bS_ok, PD.bS_ex, PD.binK1_ap, PD.binK2_ap, PD.tstK_b, PD.notK_ap, PD.andK_t, PD.andK_f, PD.orK_t, PD.orK_f, PD.ifK_t, PD.ifK_f, PD.andV_t, PD.andV_f, PD.orV_t, PD.orV_f, PD.notV_c, PD.consK1_ap, PD.consK2_ap, PD.tupK_ok, PD.lstK_ok, PD.callK_ap, PD.permK_ap, PD.smP_int, PD.slK1_ap, PD.slK2_ap, PD.slK3_ap, PD.sl_lst, PD.sl_scr, PD.sl_tup, PD.chK1_ap, PD.chK2_ap, PD.chK3_t, PD.chK3_f, PD.chK4_ap, PD.isiK_int, PD.isiK_str, PD.isiK_bl, PD.isiK_non, PD.isiK_tup, PD.isiK_lst, PD.mtsK_str, PD.mtsK2_ap, PD.ilK_lst, PD.ilK_scr, PD.itK_tup, PD.isK_str, PD.izK_l, PD.izK_t, PD.retK_ap, PD.sifK_t, PD.sifK_f, PD.sexprK_ap, PD.asgK_ap, PD.bG_ok, PD.forK_ap, PD.parK_ok, PD.gK_ok, PD.subK1_ok, PD.subK2_ok, PD.add_int, PD.sub_int, PD.mod_int, PD.lt_int, PD.le_int, PD.gt_int, PD.ge_int, PD.eq_int, PD.eq_str, PD.eq_bl, PD.eq_is, PD.eq_si, PD.eq_bs, PD.eq_sb, PD.eq_nn, PD.ne_int, PD.ne_str, PD.ne_bl, PD.isn_ap, PD.isN_int, PD.isN_str, PD.isN_bl, PD.isN_tup, PD.isN_lst, PD.isN_non, PD.ix_lst, PD.ix_tup, PD.ix_scr, PD.len_lst, PD.len_tup, PD.int_int, PD.list_lst, PD.list_tup, PD.tuple_lst, PD.tuple_tup, PD.asB_bl, PD.getD0, PD.getDS, PD.set0, PD.setS, PD.at0, PD.atS, PD.map_some', PD.bind_some', List.length_cons, List.length_nil, List.any_cons, List.any_nil, ↓PD.fld_ap, ↓PD.mei_ap, ↓PD.faug_ap, ↓PD.c1_ap, ↓PD.ir2_ap, ↓PD.sfld_ap, PD.fldK_ap, PD.meiK2_ap, PD.c1K_ap, PD.sfldK_ap, PD.sfldK2_ap, ↓PD.ia_ap, ↓PD.ien_ap, ↓PD.sort_ap, ↓PD.lenT_ap, ↓PD.cget_ap, ↓PD.append_ap, ↓PD.app2_ap, ↓PD.par3_ap, ↓PD.lc2_ap, ↓PD.prp_ap, ↓PD.mep_ap, ↓PD.mkp_ap, ↓PD.neg_ap, PD.iaK_lst, PD.iaK_tup, PD.ienK_lst, PD.ienK_tup, PD.cgetK_str, PD.cgetK2_ap, PD.apK2_ap, PD.app2K_ap, PD.app2K2_ap, PD.par3K_ok, PD.max2_ap, PD.augK_int, PD.negK_int, decide_true, decide_false, and_self, Nat.reduceLeDiff, Nat.reduceAdd, if_true, Int.reduceLT, Int.reduceNeg, Int.reducePow, Int.reduceToNat, Int.reduceLE, Nat.reduceLT, Int.reduceAdd, Int.reduceSub, Bool.not_true, Bool.not_false, Int.reduceEq, bne_self_eq_false, Bool.false_bne, Bool.true_bne, Int.reduceBNe, $xs,*] $[$l]?)
namespace K08
open PySem PD PV
section
variable {ε : Ev} {h : EH}
def listGCK (F : List D → Option (List D)) (ds : List D) (h1 : EH) : O D := if PD.noRef.go ds = true then (match F ds with
  | some items => some (.ok (.ref h1.length), h1 ++ [.lst items])
  | none => none) else none
theorem listGC_ap (F : List D → Option (List D)) (a : M (List D)) : mListGC F a ε h = bR (a ε h) (listGCK F) := (rfl)
theorem listGCK_ok {F : List D → Option (List D)} {ds items : List D} (e : F ds = some items) (r : PD.noRef.go ds = true) : listGCK F ds h = some (.ok (.ref h.length), h ++ [.lst items]) := by
  unfold listGCK
  rw [if_pos r, e]
def lcGK (F : List D → Option (List D)) (ds : List D) (h1 : EH) : O D := if PD.noRef.go ds = true then (match F ds with
  | some items => some (.ok (.lst items), h1)
  | none => none) else none
theorem lcG_ap (F : List D → Option (List D)) (a : M (List D)) : mLcG F a ε h = bR (a ε h) (lcGK F) := (rfl)
theorem lcGK_ok {F : List D → Option (List D)} {ds items : List D} (e : F ds = some items) (r : PD.noRef.go ds = true) : lcGK F ds h = some (.ok (.lst items), h) := by
  unfold lcGK
  rw [if_pos r, e]
def lcNCK (vs : List Nat) (g : MG) (t : M Bool) (b : MB) (ε : Ev) (ds : List D) (h1 : EH) : O D := okLC (lpB g t b (wipeE ε vs) ds h1)
theorem lcNC_ap (vs : List Nat) (mi : M (List D)) (g : MG) (t : M Bool) (b : MB) : mLcNC vs mi g t b ε h = bR (mi ε h) (lcNCK vs g t b ε) := (rfl)
theorem lcNCK_ok {vs : List Nat} {g : MG} {t : M Bool} {b : MB} {ds ys : List D} {h' : EH} (q : lpB g t b (wipeE ε vs) ds h = some (ys, h')) (l : ys.length ≤ 16777216) : lcNCK vs g t b ε ds h = some (.ok (.ref h'.length), h' ++ [.lst ys]) := by
  unfold lcNCK
  rw [q]
  exact if_pos l
theorem lpB_app {g : MG} {t : M Bool} {b : MB} {as bs ys zs : List D} (e1 : lpB g t b ε as h = some (ys, h)) (e2 : lpB g t b ε bs h = some (zs, h)) (hh : ∀ d ∈ as, ∃ ε1, g d ε h = some (ε1, h) ∧ (t ε1 h = some (.ok false, h) ∨ (t ε1 h = some (.ok true, h) ∧ ∃ us, b ε1 h = some (us, h)))) : lpB g t b ε (as ++ bs) h = some (ys ++ zs, h) := by
  induction as generalizing ys with
  | nil =>
    cases e1
    exact e2
  | cons d as ih =>
    obtain ⟨ε1, q1, q2⟩ := hh d List.mem_cons_self
    have hh' := fun x hx => hh x (List.mem_cons_of_mem _ hx)
    rw [List.cons_append]
    unfold lpB at e1 ⊢
    rw [q1] at e1 ⊢
    dsimp only at e1 ⊢
    rcases q2 with q2 | ⟨q2, us, q3⟩
    · rw [q2] at e1 ⊢
      exact ih e1 hh'
    · rw [q2] at e1 ⊢
      dsimp only at e1 ⊢
      rw [q3] at e1 ⊢
      dsimp only at e1 ⊢
      cases q4 : lpB g t b ε as h with
      | none => rw [q4] at e1; cases e1
      | some z =>
        obtain ⟨ws, hE⟩ := z
        rw [q4] at e1
        cases e1
        rw [ih q4 hh', List.append_assoc]
end
theorem kv_eq : K08.kv_SIGNS = PV.kv_SIGNS := rfl
theorem gpt {c : Cd} {ps : List Int} {x : Option D} {H : EH} : mgTup 2 (mgCons (mgName 2) (mgCons (mgName 3) mgNil)) (pt c ps) [x, none, none, none] H = some ([x, none, some (.tup (ps.map .int)), some c.d], H) := rfl
theorem t_f {c : Cd} {w : List Nat} {r : List D} {ps : List Int} {x : Option D} {H : EH} (e : c.d = .tup (.str w :: r)) (q : dCIn false PV.kv_SIGNS (.str w) = some (.bl false)) : mt_values_in_0 [x, none, some (.tup (ps.map .int)), some c.d] H = some (.ok false, H) := by
  have ix : ∀ h : EH, dIx h c.d (.int 0) = some (.str w) := fun h => by rw [e]; exact (ix_tup _ _).trans ((atI_nat _ 0 0 rfl).trans rfl)
  dsimp! only [mt_values_in_0, kv_eq, ix, q]
theorem t_t {o : Cw} {a b : Vl} {ps : List Int} {x : Option D} {H : EH} : mt_values_in_0 [x, none, some (.tup (ps.map .int)), some (Cd.cmp o a b).d] H = some (.ok true, H) := by
  have ix : ∀ h : EH, dIx h (Cd.cmp o a b).d (.int 0) = some (.str o.w) := fun h => rfl
  dsimp! only [mt_values_in_0, kv_eq, ix, cin_cw]
def bodyV : MB := mbFor (miT (mSl (mVar 3) (mSmP (mC (.int 1))) mNoP)) (mgName 1) mYes [1] (mbE (mVar 1))
theorem b_t {o : Cw} {a b : Vl} {ps : List Int} {x : Option D} {H : EH} : bodyV [x, none, some (.tup (ps.map .int)), some (Cd.cmp o a b).d] H = some ([a.d, b.d], H) := mbFor_ok (ds := [a.d, b.d]) (by kernel_rfl) rfl
abbrev lpV (x : Option D) (ds : List D) (H : EH) : Option (List D × EH) := lpB (mgTup 2 (mgCons (mgName 2) (mgCons (mgName 3) mgNil))) mt_values_in_0 bodyV [x, none, none, none] ds H
theorem one_f {c : Cd} {w : List Nat} {r : List D} {ps : List Int} {x : Option D} {H : EH} {ds : List D} (e : c.d = .tup (.str w :: r)) (q : dCIn false PV.kv_SIGNS (.str w) = some (.bl false)) : lpV x (pt c ps :: ds) H = lpV x ds H := by
  show lpB _ _ _ _ _ _ = _
  rw [lpB, gpt]
  dsimp only
  rw [t_f e q]
/-- what a part does in the loop -/
theorem heads : ∀ (c : Cd) (ps : List Int) (x : Option D) (H : EH), ∀ d ∈ prts c ps, ∃ ε1, mgTup 2 (mgCons (mgName 2) (mgCons (mgName 3) mgNil)) d [x, none, none, none] H = some (ε1, H) ∧ (mt_values_in_0 ε1 H = some (.ok false, H) ∨ (mt_values_in_0 ε1 H = some (.ok true, H) ∧ ∃ us, bodyV ε1 H = some (us, H)))
  | .cmp o a b, ps, x, H, d, hd => by rw [List.mem_singleton.mp hd]; exact ⟨_, gpt, .inr ⟨t_t, _, b_t⟩⟩
  | .tru, ps, x, H, d, hd => by rw [List.mem_singleton.mp hd]; exact ⟨_, gpt, .inl (t_f (c := .tru) rfl cin_tru)⟩
  | .fnd z, ps, x, H, d, hd => by rw [List.mem_singleton.mp hd]; exact ⟨_, gpt, .inl (t_f (c := .fnd z) rfl cin_fnd)⟩
  | .nt c, ps, x, H, d, hd => by
    rcases List.mem_cons.mp hd with e | hd
    · rw [e]; exact ⟨_, gpt, .inl (t_f (c := .nt c) rfl cin_nt)⟩
    · exact heads c _ x H d hd
  | .bin j c e, ps, x, H, d, hd => by
    rcases List.mem_cons.mp hd with q | hd
    · rw [q]; exact ⟨_, gpt, .inl (t_f (c := .bin j c e) rfl (cin_jw j))⟩
    · rcases List.mem_append.mp hd with hd | hd
      · exact heads c _ x H d hd
      · exact heads e _ x H d hd
theorem lpv : ∀ (c : Cd) (ps : List Int) (x : Option D) (H : EH), lpV x (prts c ps) H = some (vals c, H)
  | .cmp o a b, ps, x, H => by
    show lpB _ _ _ _ [pt (.cmp o a b) ps] _ = _
    rw [lpB, gpt]
    dsimp only
    rw [t_t]
    dsimp only
    rw [b_t]
    rfl
  | .tru, ps, x, H => by
    show lpV x (pt .tru ps :: []) H = _
    rw [one_f (c := .tru) rfl cin_tru]; rfl
  | .fnd z, ps, x, H => by
    show lpV x (pt (.fnd z) ps :: []) H = _
    rw [one_f (c := .fnd z) rfl cin_fnd]; rfl
  | .nt c, ps, x, H => by
    show lpV x (pt (.nt c) ps :: prts c (ps ++ [1])) H = _
    rw [one_f (c := .nt c) rfl cin_nt]
    exact lpv c _ x H
  | .bin j c e, ps, x, H => by
    show lpV x (pt (.bin j c e) ps :: (prts c (ps ++ [1]) ++ prts e (ps ++ [2]))) H = _
    rw [one_f (c := .bin j c e) rfl (cin_jw j)]
    exact lpB_app (lpv c _ x H) (lpv e _ x H) (heads c _ x H)
theorem all_ok {c : Cd} (hd : c.dep ≤ 6) (h : EH) : callPK F_all_parts [c.d, .tup []] h = some (.ok (.lst (prts c [])), h) := callPK_ok (F := F_all_parts) (parts_ok c 12 [] (by simpa using hd) (by omega)) (wp_go [])
theorem chk_ok {c : Cd} (hc : c.ok = true) (hd : c.dep ≤ 6) (h : EH) : callPK K08.F_check_condition [c.d] h = some (.ok .non, h) := callPK_ok (F := K08.F_check_condition) (check_ok hc hd) (go1 c.noRef)
theorem valuesIn_ok {c : Cd} (hc : c.ok = true) (hd : c.dep ≤ 6) (h : EH) : F_values_in [c.d] h = some (.ok (.ref h.length), h ++ [.lst (vals c)]) := by
  have ck := chk_ok hc hd h
  have al := all_ok hd h
  have lk := lcNCK_ok (vs := [2, 3, 1]) (ε := [some c.d, none, none, none]) (lpv c [] (some c.d) h) (by have := len64 (vals_len c) hd; omega)
  simp only [bodyV] at lk
  show endA h.length (m_values_in [some c.d, none, none, none] h) = _
  simp! only [m_values_in, lcNC_ap, ck, al, lk]
  exact endA_ok rfl
theorem gen_ok {c : Cd} (hc : c.ok = true) (hd : c.dep ≤ 6) : FG_parts [c.d] = some (prts c []) := by
  have ck := chk_ok hc hd []
  have al := all_ok hd []
  have e1 : m_parts [some c.d] [] = some (.nx [some c.d], []) := by
    simp! only [m_parts, ck]
  have e2 : me_parts [some c.d] [] = some (.ok (.lst (prts c [])), []) := by
    simp! only [me_parts, al]
  have l := len64 (Nat.le_of_succ_le (prts_len c [])) hd
  show genL 1 m_parts me_parts [c.d] = _
  unfold genL
  rw [show startE 1 [c.d] = [some c.d] from rfl, e1]
  dsimp only
  rw [e2]
  exact if_pos ⟨prts_no hd, by unfold sizeLine; omega⟩
theorem inC {h : EH} {z : List Nat} : dInA h (.str z) (.tup [.str [97, 116, 109, 111, 115, 116], .str [98, 101, 108, 111, 119], .str [115, 97, 109, 101]]) = some (.bl (decide (z ∈ [[97, 116, 109, 111, 115, 116], [98, 101, 108, 111, 119], [115, 97, 109, 101]]))) := in_strs (h := h) (z := z) [[97, 116, 109, 111, 115, 116], [98, 101, 108, 111, 119], [115, 97, 109, 101]]
theorem inT {h : EH} {z : List Nat} : dInA h (.str z) (.tup [.str [116, 114, 117, 101], .str [102, 111, 117, 110, 100]]) = some (.bl (decide (z ∈ [[116, 114, 117, 101], [102, 111, 117, 110, 100]]))) := in_strs (h := h) (z := z) [[116, 114, 117, 101], [102, 111, 117, 110, 100]]
theorem cw_in (o : Cw) : o.w ∈ [[97, 116, 109, 111, 115, 116], [98, 101, 108, 111, 119], [115, 97, 109, 101]] := by cases o <;> decide
theorem jw_ninC (j : Bool) : ¬ jw j ∈ [[97, 116, 109, 111, 115, 116], [98, 101, 108, 111, 119], [115, 97, 109, 101]] := by cases j <;> decide
theorem jw_ninT (j : Bool) : ¬ jw j ∈ [[116, 114, 117, 101], [102, 111, 117, 110, 100]] := by cases j <;> decide
theorem lvalues_ok : ∀ (c : Cd) (f : Nat), c.dep ≤ 6 → c.dep ≤ f → F__law_values_ f [c.d] = some (.ok (.lst (vals c)))
  | .cmp o a b, f, hd, hf => by
    obtain ⟨f, rfl⟩ : ∃ m, f = m + 1 := ⟨f - 1, by have : 1 ≤ f := hf; omega⟩
    show endP (m__law_values (F__law_values_ f) [some (Cd.cmp o a b).d] []) = _
    dsimp! only [m__law_values, Cd.d, atl0, atl1, atl2, inC, cw_in]
    exact endP_ok (vals_no (.cmp o a b))
  | .tru, f, hd, hf => by
    obtain ⟨f, rfl⟩ : ∃ m, f = m + 1 := ⟨f - 1, by have : 1 ≤ f := hf; omega⟩
    show endP (m__law_values (F__law_values_ f) [some Cd.tru.d] []) = _
    dsimp! only [m__law_values, Cd.d, atl0, inC, inT, show ¬ ([116, 114, 117, 101] ∈ [[97, 116, 109, 111, 115, 116], [98, 101, 108, 111, 119], [115, 97, 109, 101]]) by decide, show ([116, 114, 117, 101] ∈ [[116, 114, 117, 101], [102, 111, 117, 110, 100]]) by decide]
    rfl
  | .fnd z, f, hd, hf => by
    obtain ⟨f, rfl⟩ : ∃ m, f = m + 1 := ⟨f - 1, by have : 1 ≤ f := hf; omega⟩
    show endP (m__law_values (F__law_values_ f) [some (Cd.fnd z).d] []) = _
    dsimp! only [m__law_values, Cd.d, atl0, inC, inT, show ¬ ([102, 111, 117, 110, 100] ∈ [[97, 116, 109, 111, 115, 116], [98, 101, 108, 111, 119], [115, 97, 109, 101]]) by decide, show ([102, 111, 117, 110, 100] ∈ [[116, 114, 117, 101], [102, 111, 117, 110, 100]]) by decide]
    rfl
  | .nt c, f, hd, hf => by
    have hd' : c.dep + 1 ≤ 6 := hd
    have hf' : c.dep + 1 ≤ f := hf
    obtain ⟨f, rfl⟩ : ∃ m, f = m + 1 := ⟨f - 1, by omega⟩
    have w := callPK_ok (h := []) (lvalues_ok c f (by omega) (by omega)) (go1 c.noRef)
    have l := len64 (vals_len c) (by omega)
    have ad : dAdd [] (.lst (vals c)) (.lst []) = some (.lst (vals c)) := by
      rw [add_lst (by simp; omega), List.append_nil]
    show endP (m__law_values (F__law_values_ f) [some (Cd.nt c).d] []) = _
    dsimp! only [m__law_values, Cd.d, atl0, atl1, len2, inC, inT, show ¬ ([110, 111, 116] ∈ [[97, 116, 109, 111, 115, 116], [98, 101, 108, 111, 119], [115, 97, 109, 101]]) by decide, show ¬ ([110, 111, 116] ∈ [[116, 114, 117, 101], [102, 111, 117, 110, 100]]) by decide, w, ad]
    exact endP_ok (vals_no c)
  | .bin j c d, f, hd, hf => by
    have hd' : max c.dep d.dep + 1 ≤ 6 := hd
    have hf' : max c.dep d.dep + 1 ≤ f := hf
    obtain ⟨f, rfl⟩ : ∃ m, f = m + 1 := ⟨f - 1, by omega⟩
    have w1 := callPK_ok (h := []) (lvalues_ok c f (by omega) (by omega)) (go1 c.noRef)
    have w2 := callPK_ok (h := []) (lvalues_ok d f (by omega) (by omega)) (go1 d.noRef)
    have l1 := len64 (vals_len c) (by omega)
    have l2 := len64 (vals_len d) (by omega)
    have ad : dAdd [] (.lst (vals c)) (.lst (vals d)) = some (.lst (vals c ++ vals d)) := add_lst (by omega)
    show endP (m__law_values (F__law_values_ f) [some (Cd.bin j c d).d] []) = _
    dsimp! only [m__law_values, Cd.d, atl0, atl1, atl2, len3, inC, inT, jw_ninC, jw_ninT, w1, w2, ad]
    exact endP_ok (vals_no (.bin j c d))
def an (a b : Cd) : Cd := .bin true a b
theorem allOf0 : F_all_of [.tup []] = some (.ok Cd.tru.d) := by kernel_rfl
theorem allOf1 {a : Cd} : F_all_of [.tup [a.d]] = some (.ok a.d) := by
  have e : m_all_of [some (.tup [a.d]), none, none] [] = some (.rt a.d, []) := by kernel_rfl
  show endP (m_all_of [some (.tup [a.d]), none, none] []) = _
  rw [e]
  exact endP_ok a.noRef
theorem allOf2 {a b : Cd} : F_all_of [.tup [a.d, b.d]] = some (.ok (an a b).d) := by
  have e : m_all_of [some (.tup [a.d, b.d]), none, none] [] = some (.rt (an a b).d, []) := by kernel_rfl
  show endP (m_all_of [some (.tup [a.d, b.d]), none, none] []) = _
  rw [e]
  exact endP_ok (an a b).noRef
theorem allOf3 {a b c : Cd} : F_all_of [.tup [a.d, b.d, c.d]] = some (.ok (an a (an b c)).d) := by
  have e : m_all_of [some (.tup [a.d, b.d, c.d]), none, none] [] = some (.rt (an a (an b c)).d, []) := by kernel_rfl
  show endP (m_all_of [some (.tup [a.d, b.d, c.d]), none, none] []) = _
  rw [e]
  exact endP_ok (an a (an b c)).noRef
end K08
local macro_rules
  | `(tactic| dsimp? only [$xs,*] $[$l]?) => `(tactic| simp only [↓PD.seq_ap, ↓PD.var_ap, ↓PD.c_ap, ↓PD.bin_ap, ↓PD.tst_ap, ↓PD.not_ap, ↓PD.and_ap, ↓PD.or_ap, ↓PD.if_ap, ↓PD.andv_ap, ↓PD.orv_ap, ↓PD.notv_ap, ↓PD.nil_ap, ↓PD.cons_ap, ↓PD.tup_ap, ↓PD.lst_ap, ↓PD.call_ap, ↓PD.callP_ap, ↓PD.callI_ap, ↓PD.perm_ap, ↓PD.nop_ap, ↓PD.smp_ap, ↓PD.sl_ap, ↓PD.chain_ap, ↓PD.isi_ap, ↓PD.lc_ap, ↓PD.lstC_ap, ↓PD.mts_ap, ↓PD.yes_ap, ↓PD.il_ap, ↓PD.it_ap, ↓PD.is_ap, ↓PD.ir1_ap, ↓PD.iz_ap, ↓PD.snil_ap, ↓PD.ret_ap, ↓PD.sif_ap, ↓PD.sexpr_ap, ↓PD.bk_ap, ↓PD.ct_ap, ↓PD.asg_ap, ↓PD.for_ap, ↓PD.par_ap, ↓PD.gname_ap, ↓PD.gnil_ap, ↓PD.gcons_ap, ↓PD.gtup_ap, ↓PD.gsub_ap, PD.bR_ok, PD.bR_ex, PD.rt_some, PD.sq_nx, PD.sq_rt, PD.sq_bk, PD.sq_ct, PD.sq_ex, PD.bS_ok, PD.bS_ex, PD.binK1_ap, PD.binK2_ap, PD.tstK_b, PD.notK_ap, PD.andK_t, PD.andK_f, PD.orK_t, PD.orK_f, PD.ifK_t, PD.ifK_f, PD.andV_t, PD.andV_f, PD.orV_t, PD.orV_f, PD.notV_c, PD.consK1_ap, PD.consK2_ap, PD.tupK_ok, PD.lstK_ok, PD.callK_ap, PD.permK_ap, PD.smP_int, PD.slK1_ap, PD.slK2_ap, PD.slK3_ap, PD.sl_lst, PD.sl_scr, PD.sl_tup, PD.chK1_ap, PD.chK2_ap, PD.chK3_t, PD.chK3_f, PD.chK4_ap, PD.isiK_int, PD.isiK_str, PD.isiK_bl, PD.isiK_non, PD.isiK_tup, PD.isiK_lst, PD.mtsK_str, PD.mtsK2_ap, PD.ilK_lst, PD.ilK_scr, PD.itK_tup, PD.isK_str, PD.izK_l, PD.izK_t, PD.retK_ap, PD.sifK_t, PD.sifK_f, PD.sexprK_ap, PD.asgK_ap, PD.bG_ok, PD.forK_ap, PD.parK_ok, PD.gK_ok, PD.subK1_ok, PD.subK2_ok, PD.add_int, PD.sub_int, PD.mod_int, PD.lt_int, PD.le_int, PD.gt_int, PD.ge_int, PD.eq_int, PD.eq_str, PD.eq_bl, PD.eq_is, PD.eq_si, PD.eq_bs, PD.eq_sb, PD.eq_nn, PD.ne_int, PD.ne_str, PD.ne_bl, PD.isn_ap, PD.isN_int, PD.isN_str, PD.isN_bl, PD.isN_tup, PD.isN_lst, PD.isN_non, PD.ix_lst, PD.ix_tup, PD.ix_scr, PD.len_lst, PD.len_tup, PD.int_int, PD.list_lst, PD.list_tup, PD.tuple_lst, PD.tuple_tup, PD.asB_bl, PD.getD0, PD.getDS, PD.set0, PD.setS, PD.at0, PD.atS, PD.map_some', PD.bind_some', List.length_cons, List.length_nil, List.any_cons, List.any_nil, ↓PD.fld_ap, ↓PD.mei_ap, ↓PD.faug_ap, ↓PD.c1_ap, ↓PD.ir2_ap, ↓PD.sfld_ap, PD.fldK_ap, PD.meiK2_ap, PD.c1K_ap, PD.sfldK_ap, PD.sfldK2_ap, ↓PD.ia_ap, ↓PD.ien_ap, ↓PD.sort_ap, ↓PD.lenT_ap, ↓PD.cget_ap, ↓PD.append_ap, ↓PD.app2_ap, ↓PD.par3_ap, ↓PD.lc2_ap, ↓PD.prp_ap, ↓PD.mep_ap, ↓PD.mkp_ap, ↓PD.neg_ap, PD.iaK_lst, PD.iaK_tup, PD.ienK_lst, PD.ienK_tup, PD.cgetK_str, PD.cgetK2_ap, PD.apK2_ap, PD.app2K_ap, PD.app2K2_ap, PD.par3K_ok, PD.max2_ap, PD.augK_int, PD.negK_int, $xs,*] $[$l]?)
namespace K08
open PySem PD PV
theorem lcL_mapf {α : Type} {g : MG} {t : M Bool} {e : M D} (q f : α → D) {ε : Ev} {h : EH} : ∀ {xs : List α}, (∀ x ∈ xs, ∃ ε1, g (q x) ε h = some (ε1, h) ∧ t ε1 h = some (.ok true, h) ∧ e ε1 h = some (.ok (f x), h)) → lcL g t e (xs.map q) ε h = some (xs.map f, h)
  | [], _ => rfl
  | x :: xs, H => by
    obtain ⟨ε1, h1, h2, h3⟩ := H x List.mem_cons_self
    have ih := lcL_mapf (xs := xs) q f fun x hx => H x (List.mem_cons_of_mem _ hx)
    rw [List.map_cons]
    unfold lcL
    simp only [h1, h2, h3, ih, List.map_cons]
theorem zip_mapK (as bs : List D) : zipD as bs = (as.zip bs).map fun p => .tup [p.1, p.2] := rfl
theorem like_lc2K {t : Nat} {as bs : List D} {a b c : Option D} (hd : ∀ p ∈ as.zip bs, noRef p.1 = true ∧ noRef p.2 = true ∧ F_like_ t [p.1, p.2] = some (.ok (.bl true))) :
    lcL (mgTup 2 (mgCons (mgName 3) (mgCons (mgName 4) mgNil))) mYes (mCallP (F_like_ t) (mCons (mVar 3) (mCons (mVar 4) mNil))) (zipD as bs) [a, b, c, none, none] [] = some ((as.zip bs).map fun _ => .bl true, []) := by
  rw [zip_mapK]
  refine lcL_mapf (fun p : D × D => .tup [p.1, p.2]) (fun _ => .bl true) fun p hp => ?_
  obtain ⟨h1, h2, h3⟩ := hd p hp
  refine ⟨[a, b, c, some p.1, some p.2], rfl, rfl, ?_⟩
  have e2 : noRef.go [p.1, p.2] = true := by rw [noRef.go, noRef.go, h1, h2]; rfl
  simp only [↓seq_ap, ↓var_ap, ↓c_ap, ↓bin_ap, ↓tst_ap, ↓not_ap, ↓and_ap, ↓or_ap, ↓if_ap, ↓andv_ap, ↓orv_ap, ↓notv_ap, ↓nil_ap, ↓cons_ap, ↓tup_ap, ↓lst_ap, ↓call_ap, ↓callP_ap, ↓callI_ap, ↓perm_ap, ↓nop_ap, ↓smp_ap, ↓sl_ap, ↓chain_ap, ↓isi_ap, ↓lc_ap, ↓lstC_ap, ↓mts_ap, ↓yes_ap, ↓il_ap, ↓it_ap, ↓is_ap, ↓ir1_ap, ↓iz_ap, ↓snil_ap, ↓ret_ap, ↓sif_ap, ↓sexpr_ap, ↓bk_ap, ↓ct_ap, ↓asg_ap, ↓for_ap, ↓par_ap, ↓gname_ap, ↓gnil_ap, ↓gcons_ap, ↓gtup_ap, ↓gsub_ap, bR_ok, bR_ex, rt_some, sq_nx, sq_rt, sq_bk, sq_ct, sq_ex, bS_ok, bS_ex, binK1_ap, binK2_ap, tstK_b, notK_ap, andK_t, andK_f, orK_t, orK_f, ifK_t, ifK_f, andV_t, andV_f, orV_t, orV_f, notV_c, consK1_ap, consK2_ap, tupK_ok, lstK_ok, callK_ap, permK_ap, smP_int, slK1_ap, slK2_ap, slK3_ap, sl_lst, sl_scr, sl_tup, chK1_ap, chK2_ap, chK3_t, chK3_f, chK4_ap, isiK_int, isiK_str, isiK_bl, isiK_non, isiK_tup, isiK_lst, mtsK_str, mtsK2_ap, ilK_lst, ilK_scr, itK_tup, isK_str, izK_l, izK_t, retK_ap, sifK_t, sifK_f, sexprK_ap, asgK_ap, bG_ok, forK_ap, parK_ok, gK_ok, subK1_ok, subK2_ok, add_int, sub_int, mod_int, lt_int, le_int, gt_int, ge_int, eq_int, eq_str, eq_bl, eq_is, eq_si, eq_bs, eq_sb, eq_nn, ne_int, ne_str, ne_bl, isn_ap, isN_int, isN_str, isN_bl, isN_tup, isN_lst, isN_non, ix_lst, ix_tup, ix_scr, len_lst, len_tup, int_int, list_lst, list_tup, tuple_lst, tuple_tup, asB_bl, getD0, getDS, set0, setS, at0, atS, map_some', bind_some', List.length_cons, List.length_nil, List.any_cons, List.any_nil, callPK_ok h3 e2]
theorem like_twoK {t : Nat} {as bs : List D} {x : D} (hx : x = .lst as ∨ x = .scr as) (hl : bs.length ≤ 16777216) (l : as.length = bs.length) (hd : ∀ p ∈ as.zip bs, noRef p.1 = true ∧ noRef p.2 = true ∧ F_like_ t [p.1, p.2] = some (.ok (.bl true))) : F_like_ (t + 1) [x, .lst bs] = some (.ok (.bl true)) := by
  have le : ((as.length : Nat) : Int) = bs.length := by rw [l]
  rcases hx with rfl | rfl
  · have lc := like_lc2K (t := t) (a := some (.lst as)) (b := some (.lst bs)) (c := some (.bl true)) hd
    have lk := lcK_ok (vs := [3, 4]) (ε := [some (.lst as), some (.lst bs), some (.bl true), none, none]) (h := []) lc (by rw [List.length_map, List.length_zip]; omega)
    show endP (mLike (F_like_ t) [some (.lst as), some (.lst bs), none, none, none] []) = _
    simp? only [mLike, isa, Bool.or_false, Bool.or_true, Bool.and_true, Bool.and_false, Bool.or_self, le, lk, all_lst (asBs_map (fun _ => true) (as.zip bs))]
    rw [show ((as.zip bs).map fun _ => true).all id = true by simp]
    exact endP_ok rfl
  · have lc := like_lc2K (t := t) (a := some (.scr as)) (b := some (.lst bs)) (c := some (.bl true)) hd
    have lk := lcK_ok (vs := [3, 4]) (ε := [some (.scr as), some (.lst bs), some (.bl true), none, none]) (h := []) lc (by rw [List.length_map, List.length_zip]; omega)
    have iz : ∀ h : EH, izK [.scr as, .lst bs] h = some (.ok (zipD as bs), h) := fun h => rfl
    show endP (mLike (F_like_ t) [some (.scr as), some (.lst bs), none, none, none] []) = _
    simp? only [mLike, isiK_scr, len_scr, iz, isa, Bool.or_false, Bool.or_true, Bool.and_true, Bool.and_false, Bool.or_self, le, lk, all_lst (asBs_map (fun _ => true) (as.zip bs))]
    rw [show ((as.zip bs).map fun _ => true).all id = true by simp]
    exact endP_ok rfl
/-- the same elements on both sides -/
theorem like_scrK {t : Nat} {ds : List D} {x : D} (hx : x = .lst ds ∨ x = .scr ds) (hl : ds.length ≤ 16777216) (h : ∀ d ∈ ds, okD t d = true) : F_like_ (t + 1) [x, .lst ds] = some (.ok (.bl true)) :=
  like_twoK hx hl rfl fun p hp => by
    have e : p.1 = p.2 := by
      have : ∀ (as : List D), ∀ p ∈ as.zip as, p.1 = p.2 := fun as => by
        induction as with
        | nil => intro p hp; cases hp
        | cons a as ih =>
          intro p hp
          rw [List.zip_cons_cons] at hp
          rcases List.mem_cons.mp hp with e | hp
          · rw [e]
          · exact ih p hp
      exact this ds p hp
    have m : p.2 ∈ ds := (List.of_mem_zip hp).2
    rw [e]
    exact ⟨okD_noRef (h _ m), okD_noRef (h _ m), like_refl (h _ m)⟩
theorem sq_then {a b : MS} {ε ε1 : Ev} {h h1 : EH} (e : a ε h = some (.nx ε1, h1)) : msSeq a b ε h = b ε1 h1 := by
  show sq (a ε h) b = _
  rw [e]
  exact sq_nx b
theorem mid_at {t : EH} {x : Cell} {r : EH} : (t ++ (x :: r))[t.length]? = some x := by
  rw [List.getElem?_append_right (Nat.le_refl _), Nat.sub_self]; rfl
theorem mid_set {t : EH} {x z : Cell} {r : EH} : (t ++ (x :: r)).set t.length z = t ++ (z :: r) := by
  rw [List.set_append_right _ _ (Nat.le_refl _), Nat.sub_self]; rfl
def restM : MS :=
    (msSeq (msIf (mNot (mTst (mCallP F__law_like (mCons (mVar 8) (mCons (mVar 6) mNil))))) (msRet (mC (.bl false))) msNil)
    (msSeq (msAsg (mListGC FG_parts (mCons (mVar 6) mNil)) (mgName 9))
    (msSeq (msIf (mNot (mTst (mCallPL F__law_like (mCons (mLst (mCons (mVar 9) (mCons (mCallI F_values_in (mCons (mVar 6) mNil)) (mCons (mCallI F_values_in (mPerm [0] (mCons (mVar 6) mNil))) mNil)))) (mCons (mLst (mCons (mCallP F__law_all_parts (mCons (mVar 6) (mCons (mTup mNil) mNil))) (mCons (mCallP F__law_values (mCons (mVar 6) mNil)) (mCons (mCallP F__law_values (mCons (mVar 6) mNil)) mNil)))) mNil))))) (msRet (mC (.bl false))) msNil)
    (msSeq (msExpr (mClear (mVar 9)))
    (msSeq (msExpr (mAppend (mCallI F_values_in (mCons (mVar 6) mNil)) (mC .non)))
    (msIf (mNot (mTst (mCallPL F__law_like (mCons (mLst (mCons (mLcG FG_parts (mCons (mVar 6) mNil)) (mCons (mCallI F_values_in (mCons (mVar 6) mNil)) mNil))) (mCons (mLst (mCons (mCallP F__law_all_parts (mCons (mVar 6) (mCons (mTup mNil) mNil))) (mCons (mCallP F__law_values (mCons (mVar 6) mNil)) mNil))) mNil))))) (msRet (mC (.bl false))) msNil))))))
theorem rest_ok {c : Cd} (hc : c.ok = true) (hd : c.dep ≤ 6) (H : EH) (x b d r3 r4 r5 r7 r9 r10 r11 : Option D) : ∃ X : EH, X.all pureC = true ∧ ∃ r9' : Option D,
    restM [x, b, d, r3, r4, r5, some c.d, r7, some c.d, r9, r10, r11] H = some (.nx [x, b, d, r3, r4, r5, some c.d, r7, some c.d, r9', r10, r11], H ++ X) := by
  have pn := prts_no hd
  have vn := vals_no c
  have lp := len64 (Nat.le_of_succ_le (prts_len c [])) hd
  have lv := len64 (vals_len c) hd
  have ok30 : okD 30 c.d = true := okD_c c 30 (by omega)
  have lk0 : callPK F__law_like [c.d, c.d] H = some (.ok (.bl true), H) := callPK_ok (F := K08.F__law_like) (like_refl ok30) (by
    show (PD.noRef c.d && (PD.noRef c.d && true)) = true
    rw [c.noRef]; rfl)
  have gp := gen_ok hc hd
  have g1 := go1 c.noRef
  have vi := fun h : EH => valuesIn_ok (h := h) hc hd
  have ap := fun h : EH => callPK_ok (F := F__law_all_parts) (h := h) (lparts_ok c 12 [] (by simpa using hd) (by omega)) (wp_go [])
  have lvs := fun h : EH => callPK_ok (F := F__law_values) (h := h) (lvalues_ok c 12 hd (by omega)) g1
  simp only [List.map_nil] at ap
  -- the heaps
  let n9 : D := .ref H.length
  let H1 : EH := H ++ [.lst (prts c [])]
  let H2 : EH := H1 ++ [.lst (vals c)]
  let H3 : EH := H2 ++ [.lst (vals c)]
  let H4 : EH := H ++ [.lst [], .lst (vals c), .lst (vals c)]
  let H5 : EH := H4 ++ [.lst (vals c)]
  let H6 : EH := H4 ++ [.lst (vals c ++ [.non])]
  let H7 : EH := H6 ++ [.lst (vals c)]
  have h3 : H3 = H ++ [.lst (prts c []), .lst (vals c), .lst (vals c)] := by
    simp only [H3, H2, H1, List.append_assoc, List.cons_append, List.nil_append]
  have h7 : H7 = H ++ [.lst [], .lst (vals c), .lst (vals c), .lst (vals c ++ [.non]), .lst (vals c)] := by
    simp only [H7, H6, H4, List.append_assoc, List.cons_append, List.nil_append]
  refine ⟨[.lst [], .lst (vals c), .lst (vals c), .lst (vals c ++ [.non]), .lst (vals c)], ?_, some n9, ?_⟩
  · have vn2 : PD.noRef.go (vals c ++ [.non]) = true := noRef_all fun q hq => by
      rcases List.mem_append.mp hq with hq | hq
      · exact okD_noRef (vals_ok c q hq)
      · rw [List.mem_singleton.mp hq]; rfl
    show (PD.noRef.go [] && (PD.noRef.go (vals c) && (PD.noRef.go (vals c) && (PD.noRef.go (vals c ++ [.non]) && (PD.noRef.go (vals c) && true))))) = true
    rw [vn, vn2]; rfl
  rw [← h7]
  unfold restM
  refine (sq_then (ε1 := [x, b, d, r3, r4, r5, some c.d, r7, some c.d, r9, r10, r11]) (h1 := H) ?_).trans ?_
  · simp! only [lk0]
  refine (sq_then (ε1 := [x, b, d, r3, r4, r5, some c.d, r7, some c.d, some n9, r10, r11]) (h1 := H1) ?_).trans ?_
  · have e := listGCK_ok (h := H) gp g1
    simp! only [listGC_ap, e]
    rfl
  -- the first comparison
  have fit1 : F__law_like [.lst [.scr (prts c []), .scr (vals c), .scr (vals c)], .lst [.lst (prts c []), .lst (vals c), .lst (vals c)]] = some (.ok (.bl true)) := by
    have pO := fun q hq => okD_le (u := 28) (prts_ok c [] (by simp; omega) hd q hq) (by decide)
    have vO := fun q hq => okD_le (u := 28) (vals_ok c q hq) (by decide)
    refine like_twoK (t := 29) (.inl rfl) (by simp) rfl ?_
    simp only [List.zip_cons_cons, List.zip_nil_right, List.forall_mem_cons]
    exact ⟨⟨pn, pn, like_scrK (t := 28) (.inr rfl) (by omega) pO⟩, ⟨vn, vn, like_scrK (t := 28) (.inr rfl) (by omega) vO⟩, ⟨vn, vn, like_scrK (t := 28) (.inr rfl) (by omega) vO⟩, (fun _ h => nomatch h)⟩
  have fit2 : F__law_like [.lst [.lst (prts c []), .scr (vals c)], .lst [.lst (prts c []), .lst (vals c)]] = some (.ok (.bl true)) := by
    have pO := fun q hq => okD_le (u := 28) (prts_ok c [] (by simp; omega) hd q hq) (by decide)
    have vO := fun q hq => okD_le (u := 28) (vals_ok c q hq) (by decide)
    refine like_twoK (t := 29) (.inl rfl) (by simp) rfl ?_
    simp only [List.zip_cons_cons, List.zip_nil_right, List.forall_mem_cons]
    exact ⟨⟨pn, pn, like_scrK (t := 28) (.inl rfl) (by omega) pO⟩, ⟨vn, vn, like_scrK (t := 28) (.inr rfl) (by omega) vO⟩, (fun _ h => nomatch h)⟩
  have due1 : PD.noRef (.lst [.lst (prts c []), .lst (vals c), .lst (vals c)]) = true := by
    show (PD.noRef.go (prts c []) && (PD.noRef.go (vals c) && (PD.noRef.go (vals c) && true))) = true
    rw [pn, vn]; rfl
  have due2 : PD.noRef (.lst [.lst (prts c []), .lst (vals c)]) = true := by
    show (PD.noRef.go (prts c []) && (PD.noRef.go (vals c) && true)) = true
    rw [pn, vn]; rfl
  refine (sq_then (ε1 := [x, b, d, r3, r4, r5, some c.d, r7, some c.d, some n9, r10, r11]) (h1 := H3) ?_).trans ?_
  · have a1 : H3[H.length]? = some (.lst (prts c [])) := by rw [h3]; exact mid_at
    have a2 : H3[H1.length]? = some (.lst (vals c)) := by
      show (H1 ++ [Cell.lst (vals c)] ++ [Cell.lst (vals c)])[H1.length]? = _
      rw [List.append_assoc]; exact mid_at
    have a3 : H3[H2.length]? = some (.lst (vals c)) := mid_at
    have e1 : lkL H3 [.lst [n9, .ref H1.length, .ref H2.length], .lst [.lst (prts c []), .lst (vals c), .lst (vals c)]] = some [.lst [.scr (prts c []), .scr (vals c), .scr (vals c)], .lst [.lst (prts c []), .lst (vals c), .lst (vals c)]] :=
      lkL_cons (lk_lst (lkL_cons (lk_ref a1 pn) (lkL_cons (lk_ref a2 vn) (lkL_cons (lk_ref a3 vn) lkL_nil)))) (lkL_cons (lk_id due1) lkL_nil)
    have lk := callPLK_ok (F := K08.F__law_like) e1 fit1 rfl
    have v1 : F_values_in [c.d] H1 = some (.ok (.ref H1.length), H2) := vi H1
    have v2 : F_values_in [c.d] H2 = some (.ok (.ref H2.length), H3) := vi H2
    have p1 : permL [0] [c.d] = [c.d] := rfl
    clear_value H3
    clear_value H2
    clear_value H1
    clear_value n9
    simp! only [callPL_ap, v1, v2, p1, ap, lvs, lk]
  refine (sq_then (ε1 := [x, b, d, r3, r4, r5, some c.d, r7, some c.d, some n9, r10, r11]) (h1 := H4) ?_).trans ?_
  · have ck : clearK n9 H3 = some (.ok .non, H4) := by
      rw [h3]
      show clearK (.ref H.length) _ = _
      rw [clearK_ok (ds := prts c []) mid_at, mid_set]
    clear_value H3
    clear_value H4
    clear_value n9
    dsimp? only [clear_ap, ck]
  refine (sq_then (ε1 := [x, b, d, r3, r4, r5, some c.d, r7, some c.d, some n9, r10, r11]) (h1 := H6) ?_).trans ?_
  · have v1 : F_values_in [c.d] H4 = some (.ok (.ref H4.length), H5) := vi H4
    have ck : ∀ ε : Ev, apK (mC .non) ε (.ref H4.length) H5 = some (.ok .non, H6) := fun ε => by
      show apK (mC .non) ε (.ref H4.length) (H4 ++ [Cell.lst (vals c)]) = _
      rw [apK_at (ds := vals c) mid_at (by omega) rfl, mid_set]
    clear_value H6
    clear_value H5
    clear_value H4
    dsimp? only [v1, ck]
  have a3 : H7[H6.length]? = some (.lst (vals c)) := mid_at
  have e1 : lkL H7 [.lst [.lst (prts c []), .ref H6.length], .lst [.lst (prts c []), .lst (vals c)]] = some [.lst [.lst (prts c []), .scr (vals c)], .lst [.lst (prts c []), .lst (vals c)]] :=
    lkL_cons (lk_lst (lkL_cons (lk_id pn) (lkL_cons (lk_ref a3 vn) lkL_nil))) (lkL_cons (lk_id due2) lkL_nil)
  have lk := callPLK_ok (F := K08.F__law_like) e1 fit2 rfl
  have v1 : F_values_in [c.d] H6 = some (.ok (.ref H6.length), H7) := vi H6
  have e := lcGK_ok (h := H6) gp g1
  clear_value H7
  clear_value H6
  clear_value n9
  simp! only [lcG_ap, callPL_ap, v1, e, ap, lvs, lk]
end K08
namespace K08
open PySem PD PV
theorem okE_tupL {t : Nat} {ds : List D} (h : ∀ d ∈ ds, okE t d = true) : okE (t + 1) (.tup ds) = true := List.all_eq_true.mpr h
theorem okE_lstL {t : Nat} {ds : List D} (h : ∀ d ∈ ds, okE t d = true) : okE (t + 1) (.lst ds) = true := List.all_eq_true.mpr h
theorem okE_nm {z : List Nat} (t : Nat) (h : isNm z = true) : okE (t + 1) (.str z) = true := okE_abc h
theorem okE_v : ∀ {v : Vl}, v.ok = true → okE 3 v.d = true
  | .pl p, h => okE_up (okE_pl (p := p) h)
  | .plus p m, h => by
    have h' := Bool.and_eq_true_iff.mp (show (p.ok && isCon m) = true from h)
    refine okE_tupL ?_
    simp only [List.forall_mem_cons]
    exact ⟨rfl, okE_pl h'.1, rfl, (fun _ h => nomatch h)⟩
theorem okE_c : ∀ (c : Cd) (t : Nat), c.ok = true → c.dep + 3 ≤ t → okE t c.d = true
  | .cmp o a b, t, k, h => by
    obtain ⟨t, rfl⟩ : ∃ m, t = m + 1 := ⟨t - 1, by have : 1 + 3 ≤ t := h; omega⟩
    have h' : 1 + 3 ≤ t + 1 := h
    obtain ⟨u, rfl⟩ : ∃ m, t = m + 1 := ⟨t - 1, by omega⟩
    have k' := Bool.and_eq_true_iff.mp (show (a.ok && b.ok) = true from k)
    refine okE_tupL ?_
    simp only [List.forall_mem_cons]
    exact ⟨(by cases o <;> rfl), okE_le (okE_v k'.1) (by omega), okE_le (okE_v k'.2) (by omega), (fun _ h => nomatch h)⟩
  | .tru, t, k, h => by
    have h' : 1 + 3 ≤ t := h
    exact okE_le (t := 2) rfl (by omega)
  | .fnd z, t, k, h => by
    have h' : 1 + 3 ≤ t := h
    refine okE_le (t := 2) (okE_tupL ?_) (by omega)
    simp only [List.forall_mem_cons]
    exact ⟨rfl, okE_nm _ k, (fun _ h => nomatch h)⟩
  | .nt c, t, k, h => by
    have h' : c.dep + 1 + 3 ≤ t := h
    obtain ⟨t, rfl⟩ : ∃ m, t = m + 1 := ⟨t - 1, by omega⟩
    obtain ⟨u, rfl⟩ : ∃ m, t = m + 1 := ⟨t - 1, by omega⟩
    refine okE_tupL ?_
    simp only [List.forall_mem_cons]
    exact ⟨rfl, okE_c c _ k (by omega), (fun _ h => nomatch h)⟩
  | .bin j c d, t, k, h => by
    have h' : max c.dep d.dep + 1 + 3 ≤ t := h
    obtain ⟨t, rfl⟩ : ∃ m, t = m + 1 := ⟨t - 1, by omega⟩
    obtain ⟨u, rfl⟩ : ∃ m, t = m + 1 := ⟨t - 1, by omega⟩
    have k' := Bool.and_eq_true_iff.mp (show (c.ok && d.ok) = true from k)
    refine okE_tupL ?_
    simp only [List.forall_mem_cons]
    exact ⟨(by cases j <;> rfl), okE_c c _ k'.1 (by omega), okE_c d _ k'.2 (by omega), (fun _ h => nomatch h)⟩
def midM : MS :=
    (msSeq (msAsg (mIf (mTst (mBin dEq (mVar 5) (mLst mNil))) (mTup (mCons (mC (.str [116, 114, 117, 101])) mNil)) (mBin dIx (mVar 5) (mBin dSub (mCall dLen (mCons (mVar 5) mNil)) (mC (.int 1))))) (mgName 6))
    (msSeq (msFor (miL (mSlR (mSl (mVar 5) mNoP (mSmP (mBin dSub (mCall dLen (mCons (mVar 5) mNil)) (mC (.int 1))))) mNoP (mNeg (mC (.int 1))))) (mgName 7) mb_law_0)
    (msSeq (msAsg (mIf (mTst (mBin dEq (mVar 5) (mLst mNil))) (mCallS F_all_of mNil) (mIf (mTst (mBin dEq (mCall dLen (mCons (mVar 5) mNil)) (mC (.int 1)))) (mCallS F_all_of (mCons (mBin dIx (mVar 5) (mC (.int 0))) mNil)) (mCallS F_all_of (mCons (mBin dIx (mVar 5) (mC (.int 0))) (mCons (mBin dIx (mVar 5) (mC (.int 1))) mNil))))) (mgName 8))
    (msSeq (msIf (mTst (mBin dEq (mCall dLen (mCons (mVar 5) mNil)) (mC (.int 3)))) (msAsg (mCallS F_all_of (mCons (mBin dIx (mVar 5) (mC (.int 0))) (mCons (mBin dIx (mVar 5) (mC (.int 1))) (mCons (mBin dIx (mVar 5) (mC (.int 2))) mNil)))) (mgName 8)) msNil) restM))))
def tupMK (ds : List D) (h1 : EH) : O (List D) := if ds.length ≤ sizeLine then some (.ok [.tup ds], h1) else none
theorem callS_ap (F : PF) (a : M (List D)) {ε : Ev} {h : EH} : mCallS F a ε h = bR (bR (a ε h) tupMK) (callPK F) := (rfl)
theorem tupMK_ok {ds : List D} {h : EH} (l : ds.length ≤ 16777216) : tupMK ds h = some (.ok [.tup ds], h) := if_pos l
theorem eq_nil {h : EH} : dEq h (.lst []) (.lst []) = some (.bl true) := dEq_t (t := 1) rfl (by decide)
theorem eq_cons {h : EH} {ds : List D} {d : D} (ok : ∀ q ∈ d :: ds, okE 9 q = true) : dEq h (.lst (d :: ds)) (.lst []) = some (.bl false) := dEq_f (t := 10) (u := 1) (okE_lstL ok) rfl (by decide) (by decide) (fun e => nomatch D.lst.inj e)
section
variable {x b d r3 r4 r6 r7 r8 r9 r10 r11 : Option D} {H : EH}
theorem mid0 : midM [x, b, d, r3, r4, some (.lst []), r6, r7, r8, r9, r10, r11] H = restM [x, b, d, r3, r4, some (.lst []), some Cd.tru.d, r7, some Cd.tru.d, r9, r10, r11] H := by
  unfold midM
  refine (sq_then (ε1 := [x, b, d, r3, r4, some (.lst []), some Cd.tru.d, r7, r8, r9, r10, r11]) (h1 := H) ?_).trans ?_
  · simp! only [eq_nil]
    rfl
  refine (sq_then (ε1 := [x, b, d, r3, r4, some (.lst []), some Cd.tru.d, r7, r8, r9, r10, r11]) (h1 := H) ?_).trans ?_
  · kernel_rfl
  refine (sq_then (ε1 := [x, b, d, r3, r4, some (.lst []), some Cd.tru.d, r7, some Cd.tru.d, r9, r10, r11]) (h1 := H) ?_).trans ?_
  · have e := callPK_ok (F := F_all_of) (h := H) allOf0 rfl
    simp! only [callS_ap, eq_nil, tupMK_ok (ds := []) (by decide), e]
  refine (sq_then (ε1 := [x, b, d, r3, r4, some (.lst []), some Cd.tru.d, r7, some Cd.tru.d, r9, r10, r11]) (h1 := H) ?_).trans rfl
  simp! only [show ¬ (((0 : Nat) : Int) = 3) by decide]
theorem mid1 {a : Cd} (oa : a.ok = true) (da : a.dep ≤ 3) : midM [x, b, d, r3, r4, some (.lst [a.d]), r6, r7, r8, r9, r10, r11] H = restM [x, b, d, r3, r4, some (.lst [a.d]), some a.d, r7, some a.d, r9, r10, r11] H := by
  have eq : ∀ h : EH, dEq h (.lst [a.d]) (.lst []) = some (.bl false) := fun h => eq_cons fun q hq => by
    rw [List.mem_singleton.mp hq]; exact okE_c a 9 oa (by omega)
  unfold midM
  refine (sq_then (ε1 := [x, b, d, r3, r4, some (.lst [a.d]), some a.d, r7, r8, r9, r10, r11]) (h1 := H) ?_).trans ?_
  · simp! only [eq]
    rfl
  refine (sq_then (ε1 := [x, b, d, r3, r4, some (.lst [a.d]), some a.d, r7, r8, r9, r10, r11]) (h1 := H) ?_).trans ?_
  · kernel_rfl
  refine (sq_then (ε1 := [x, b, d, r3, r4, some (.lst [a.d]), some a.d, r7, some a.d, r9, r10, r11]) (h1 := H) ?_).trans ?_
  · have e := callPK_ok (F := F_all_of) (h := H) (allOf1 (a := a)) (by show ((PD.noRef a.d && true) && true) = true; rw [a.noRef]; rfl)
    simp! only [callS_ap, eq, atl0, tupMK_ok (ds := [a.d]) (by simp), e, show (((0 + 1 : Nat) : Int) = 1) by decide]
  refine (sq_then (ε1 := [x, b, d, r3, r4, some (.lst [a.d]), some a.d, r7, some a.d, r9, r10, r11]) (h1 := H) ?_).trans rfl
  simp! only [show ¬ (((0 + 1 : Nat) : Int) = 3) by decide]
theorem mid2 {a c : Cd} (oa : a.ok = true) (da : a.dep ≤ 3) (oc : c.ok = true) (dc : c.dep ≤ 3) : midM [x, b, d, r3, r4, some (.lst [a.d, c.d]), r6, r7, r8, r9, r10, r11] H = restM [x, b, d, r3, r4, some (.lst [a.d, c.d]), some (an a c).d, some a.d, some (an a c).d, r9, r10, r11] H := by
  have eq : ∀ h : EH, dEq h (.lst [a.d, c.d]) (.lst []) = some (.bl false) := fun h => eq_cons fun q hq => by
    rcases List.mem_cons.mp hq with e | hq
    · rw [e]; exact okE_c a 9 oa (by omega)
    · rw [List.mem_singleton.mp hq]; exact okE_c c 9 oc (by omega)
  unfold midM
  refine (sq_then (ε1 := [x, b, d, r3, r4, some (.lst [a.d, c.d]), some c.d, r7, r8, r9, r10, r11]) (h1 := H) ?_).trans ?_
  · simp! only [eq]
    rfl
  refine (sq_then (ε1 := [x, b, d, r3, r4, some (.lst [a.d, c.d]), some (an a c).d, some a.d, r8, r9, r10, r11]) (h1 := H) ?_).trans ?_
  · kernel_rfl
  refine (sq_then (ε1 := [x, b, d, r3, r4, some (.lst [a.d, c.d]), some (an a c).d, some a.d, some (an a c).d, r9, r10, r11]) (h1 := H) ?_).trans ?_
  · have e := callPK_ok (F := F_all_of) (h := H) (allOf2 (a := a) (b := c)) (by show ((PD.noRef a.d && (PD.noRef c.d && true)) && true) = true; rw [a.noRef, c.noRef]; rfl)
    simp! only [callS_ap, eq, atl0, atl1, tupMK_ok (ds := [a.d, c.d]) (by simp), e, show ¬ (((0 + 1 + 1 : Nat) : Int) = 1) by decide]
  refine (sq_then (ε1 := [x, b, d, r3, r4, some (.lst [a.d, c.d]), some (an a c).d, some a.d, some (an a c).d, r9, r10, r11]) (h1 := H) ?_).trans rfl
  simp! only [show ¬ (((0 + 1 + 1 : Nat) : Int) = 3) by decide]
theorem mid3 {a c f : Cd} (oa : a.ok = true) (da : a.dep ≤ 3) (oc : c.ok = true) (dc : c.dep ≤ 3) (of : f.ok = true) (df : f.dep ≤ 3) : midM [x, b, d, r3, r4, some (.lst [a.d, c.d, f.d]), r6, r7, r8, r9, r10, r11] H = restM [x, b, d, r3, r4, some (.lst [a.d, c.d, f.d]), some (an a (an c f)).d, some a.d, some (an a (an c f)).d, r9, r10, r11] H := by
  have eq : ∀ h : EH, dEq h (.lst [a.d, c.d, f.d]) (.lst []) = some (.bl false) := fun h => eq_cons fun q hq => by
    rcases List.mem_cons.mp hq with e | hq
    · rw [e]; exact okE_c a 9 oa (by omega)
    · rcases List.mem_cons.mp hq with e | hq
      · rw [e]; exact okE_c c 9 oc (by omega)
      · rw [List.mem_singleton.mp hq]; exact okE_c f 9 of (by omega)
  unfold midM
  refine (sq_then (ε1 := [x, b, d, r3, r4, some (.lst [a.d, c.d, f.d]), some f.d, r7, r8, r9, r10, r11]) (h1 := H) ?_).trans ?_
  · simp! only [eq]
    rfl
  refine (sq_then (ε1 := [x, b, d, r3, r4, some (.lst [a.d, c.d, f.d]), some (an a (an c f)).d, some a.d, r8, r9, r10, r11]) (h1 := H) ?_).trans ?_
  · kernel_rfl
  refine (sq_then (ε1 := [x, b, d, r3, r4, some (.lst [a.d, c.d, f.d]), some (an a (an c f)).d, some a.d, some (an a c).d, r9, r10, r11]) (h1 := H) ?_).trans ?_
  · have e := callPK_ok (F := F_all_of) (h := H) (allOf2 (a := a) (b := c)) (by show ((PD.noRef a.d && (PD.noRef c.d && true)) && true) = true; rw [a.noRef, c.noRef]; rfl)
    simp! only [callS_ap, eq, atl0, atl1, tupMK_ok (ds := [a.d, c.d]) (by simp), e, show ¬ (((0 + 1 + 1 + 1 : Nat) : Int) = 1) by decide]
  refine (sq_then (ε1 := [x, b, d, r3, r4, some (.lst [a.d, c.d, f.d]), some (an a (an c f)).d, some a.d, some (an a (an c f)).d, r9, r10, r11]) (h1 := H) ?_).trans rfl
  have e := callPK_ok (F := F_all_of) (h := H) (allOf3 (a := a) (b := c) (c := f)) (by show ((PD.noRef a.d && (PD.noRef c.d && (PD.noRef f.d && true))) && true) = true; rw [a.noRef, c.noRef, f.noRef]; rfl)
  simp! only [callS_ap, atl0, atl1, atl2, tupMK_ok (ds := [a.d, c.d, f.d]) (by simp), e, show (((0 + 1 + 1 + 1 : Nat) : Int) = 3) by decide]
end
end K08
namespace K08
open PySem PD PV
theorem conds_of : ∀ {ys : List D}, (∀ y ∈ ys, ∃ c : Cd, y = c.d ∧ c.ok = true ∧ c.dep ≤ 3) → ∃ cs : List Cd, ys = cs.map Cd.d ∧ ∀ c ∈ cs, c.ok = true ∧ c.dep ≤ 3
  | [], _ => ⟨[], rfl, fun _ h => nomatch h⟩
  | y :: ys, h => by
    obtain ⟨c, e, h1, h2⟩ := h y List.mem_cons_self
    obtain ⟨cs, e2, h3⟩ := conds_of fun z hz => h z (List.mem_cons_of_mem _ hz)
    refine ⟨c :: cs, by rw [e, e2]; rfl, fun z hz => ?_⟩
    rcases List.mem_cons.mp hz with q | hz
    · rw [q]; exact ⟨h1, h2⟩
    · exact h3 z hz
theorem tail_ok (cs : List Cd) (hl : cs.length ≤ 3) (hc : ∀ c ∈ cs, c.ok = true ∧ c.dep ≤ 3) (H : EH) (x b d r3 r4 r6 r7 r8 r9 r10 r11 : Option D) : ∃ X : EH, X.all pureC = true ∧ ∃ q6 q7 q8 q9 : Option D,
    midM [x, b, d, r3, r4, some (.lst (cs.map Cd.d)), r6, r7, r8, r9, r10, r11] H = some (.nx [x, b, d, r3, r4, some (.lst (cs.map Cd.d)), q6, q7, q8, q9, r10, r11], H ++ X) := by
  have fin : ∀ (due : Cd) (q7 : Option D), due.ok = true → due.dep ≤ 6 → midM [x, b, d, r3, r4, some (.lst (cs.map Cd.d)), r6, r7, r8, r9, r10, r11] H = restM [x, b, d, r3, r4, some (.lst (cs.map Cd.d)), some due.d, q7, some due.d, r9, r10, r11] H →
      ∃ X : EH, X.all pureC = true ∧ ∃ q6 q7 q8 q9 : Option D, midM [x, b, d, r3, r4, some (.lst (cs.map Cd.d)), r6, r7, r8, r9, r10, r11] H = some (.nx [x, b, d, r3, r4, some (.lst (cs.map Cd.d)), q6, q7, q8, q9, r10, r11], H ++ X) := fun due q7 h1 h2 e => by
    obtain ⟨X, hX, r9', e2⟩ := rest_ok h1 h2 H x b d r3 r4 (some (.lst (cs.map Cd.d))) q7 r9 r10 r11
    exact ⟨X, hX, _, _, _, _, e.trans e2⟩
  have okAn : ∀ {p q : Cd}, p.ok = true → q.ok = true → (an p q).ok = true := fun {p q} h1 h2 => by
    show (p.ok && q.ok) = true
    rw [h1, h2]; rfl
  have dAn : ∀ {p q : Cd} {n : Nat}, p.dep ≤ n → q.dep ≤ n → (an p q).dep ≤ n + 1 := fun {p q n} h1 h2 => by
    show max p.dep q.dep + 1 ≤ n + 1
    omega
  match cs, hl, hc with
  | [], _, _ => exact fin .tru r7 rfl (by decide) mid0
  | [a], _, hc =>
    obtain ⟨a1, a2⟩ := hc a (by simp)
    exact fin a r7 a1 (by omega) (mid1 a1 a2)
  | [a, c], _, hc =>
    obtain ⟨a1, a2⟩ := hc a (by simp)
    obtain ⟨c1, c2⟩ := hc c (by simp)
    exact fin (an a c) (some a.d) (okAn a1 c1) (Nat.le_trans (dAn a2 c2) (by decide)) (mid2 a1 a2 c1 c2)
  | [a, c, f], _, hc =>
    obtain ⟨a1, a2⟩ := hc a (by simp)
    obtain ⟨c1, c2⟩ := hc c (by simp)
    obtain ⟨f1, f2⟩ := hc f (by simp)
    exact fin (an a (an c f)) (some a.d) (okAn a1 (okAn c1 f1)) (Nat.le_trans (dAn (n := 4) (by omega) (dAn c2 f2)) (by decide)) (mid3 a1 a2 c1 c2 f1 f2)
  | _ :: _ :: _ :: _ :: _, hl, _ => exact absurd hl (by simp)
theorem lturn {x : D} (d : D) (k : Cell) (t : EH) (r : Ev) (hk : BagI k) (ht : t.all pureC = true) (hr : r.length = 10) : ∃ (ε1 r' : Ev) (k' : Cell) (t' : EH), mgName 2 d (some x :: some (.ref 0) :: r) (k :: t) = some (ε1, k :: t) ∧
    (mb_law_2 ε1 (k :: t) = some (.nx (some x :: some (.ref 0) :: r'), k' :: t') ∨ mb_law_2 ε1 (k :: t) = some (.ct (some x :: some (.ref 0) :: r'), k' :: t')) ∧ r'.length = 10 ∧ BagI k' ∧ t'.all pureC = true := by
  match r, hr with
  | [r2, r3, r4, r5, r6, r7, r8, r9, r10, r11], _ =>
  obtain ⟨zs, k1, e1, hk1, lzs, nzs, _⟩ := new_names hk (many := 2) (by decide) t
  match zs, lzs with
  | [z0, z1], _ =>
  have h0 := nzs z0 (by simp)
  have h1 := nzs z1 (by simp)
  have e1' : K08.F__law_new_names [.ref 0, .int 2] (k :: t) = some (.ok (.lst [.str z0, .str z1]), k1 :: t) := e1
  have c1 : isCol z1 = true := by unfold isCol; rw [h1, Bool.or_true]
  let P : List D := [.tup [.str [110, 97, 109, 101], .str z0], .tup [.str [102, 105, 101, 108, 100], .str z0, .str z1], .tup [.str [111, 119, 110], .str [107, 101, 121]], .tup [.str [110, 101, 120, 116], .str [107, 101, 121]]]
  have hp : PoolOk P := ⟨fun d hd => by
    simp only [P, List.mem_cons, List.not_mem_nil, or_false] at hd
    rcases hd with rfl | rfl | rfl | rfl
    · exact ⟨.name z0, rfl, h0⟩
    · exact ⟨.field z0 z1, rfl, by show (isNm z0 && isCol z1) = true; rw [h0, c1]; rfl⟩
    · exact ⟨.own [107, 101, 121], rfl, rfl⟩
    · exact ⟨.next [107, 101, 121], rfl, rfl⟩, by simp [P]⟩
  obtain ⟨n, k2, e2, n0, n1, hk2⟩ := pull_ok hk1 (n := 4) (by decide) (by decide) t
  have e2' : K08.F__law_pull [.ref 0, .int 4] (k1 :: t) = some (.ok (.int n), k2 :: t) := e2
  have rn : ∀ h : EH, ir1K [.int n] h = some (.ok (rngD 0 n.toNat), h) := fun h => ir1K_ok (by omega)
  have names : mgName 2 d (some x :: some (.ref 0) :: [r2, r3, r4, r5, r6, r7, r8, r9, r10, r11]) (k :: t) = some ([some x, some (.ref 0), some d, r3, r4, r5, r6, r7, r8, r9, r10, r11], k :: t) := rfl
  obtain ⟨ys, k3, e3, ly, hy, hk3⟩ := lcL_bag (g := mgName 10) (e := me_law_1) (ε := [some x, some (.ref 0), some d, some (.lst [.str z0, .str z1]), some (.lst P), r5, r6, r7, r8, r9, none, r11]) (fun y => ∃ c : Cd, y = c.d ∧ c.ok = true ∧ c.dep ≤ 3) (ds := rngD 0 n.toNat) (fun q hq k t hk => by
    obtain ⟨c, k', e, hc, hd, hk'⟩ := some_cond_ok hp (by simp [P]) t 8 2 k hk (by decide)
    have e' : K08.F__law_some_condition [.ref 0, .lst P, .int 2] (k :: t) = some (.ok c.d, k' :: t) := e
    refine ⟨[some x, some (.ref 0), some d, some (.lst [.str z0, .str z1]), some (.lst P), r5, r6, r7, r8, r9, some q, r11], c.d, k', rfl, ?_, ⟨c, rfl, hc, hd⟩, hk'⟩
    clear_value P
    dsimp? only [me_law_1, e']) k2 t hk2
  have lr : (rngD 0 n.toNat).length = n.toNat := by simp [rngD]
  have lys : ys.length ≤ 3 := by rw [ly, lr]; omega
  obtain ⟨cs, rfl, hcs⟩ := conds_of hy
  rw [List.length_map] at lys
  have lk := lcK_ok (vs := [10]) (ε := [some x, some (.ref 0), some d, some (.lst [.str z0, .str z1]), some (.lst P), r5, r6, r7, r8, r9, r10, r11]) e3 (by rw [List.length_map]; omega)
  obtain ⟨X, hX, q6, q7, q8, q9, ex⟩ := tail_ok cs lys hcs (k3 :: t) (some x) (some (.ref 0)) (some d) (some (.lst [.str z0, .str z1])) (some (.lst P)) r6 r7 r8 r9 r10 r11
  refine ⟨_, [some d, some (.lst [.str z0, .str z1]), some (.lst P), some (.lst (cs.map Cd.d)), q6, q7, q8, q9, r10, r11], k3, t ++ X, names, .inl ?_, rfl, hk3, by rw [List.all_append, ht, hX]; rfl⟩
  have run : mb_law_2 [some x, some (.ref 0), some d, r3, r4, r5, r6, r7, r8, r9, r10, r11] (k :: t) = midM [some x, some (.ref 0), some d, some (.lst [.str z0, .str z1]), some (.lst P), some (.lst (cs.map Cd.d)), r6, r7, r8, r9, r10, r11] (k3 :: t) := by
    unfold mb_law_2
    refine (sq_then (ε1 := [some x, some (.ref 0), some d, some (.lst [.str z0, .str z1]), r4, r5, r6, r7, r8, r9, r10, r11]) (h1 := k1 :: t) ?_).trans ?_
    · dsimp? only [e1']
    refine (sq_then (ε1 := [some x, some (.ref 0), some d, some (.lst [.str z0, .str z1]), some (.lst P), r5, r6, r7, r8, r9, r10, r11]) (h1 := k1 :: t) ?_).trans ?_
    · simp! only [atl0, atl1]
      rfl
    refine (sq_then (ε1 := [some x, some (.ref 0), some d, some (.lst [.str z0, .str z1]), some (.lst P), some (.lst (cs.map Cd.d)), r6, r7, r8, r9, r10, r11]) (h1 := k3 :: t) ?_).trans ?_
    · clear_value P
      simp! only [e2', rn, lk]
    rfl
  rw [run, ex]
  rfl
theorem draws_lst {ns : List Int} (hl : ns.length ≤ 63) : ∃ k, F_draws [.lst (ns.map .int)] [] = some (.ok (.ref 0), [k]) ∧ BagI k := by
  obtain ⟨s', o', e, r0, r1⟩ := draws_loop (x := .lst (ns.map .int)) ns 5648 none (by decide) (by decide)
  refine ⟨bagC (ns.map .int) 0 0 s' 0, ?_, ⟨_, _, _, _, _, rfl, hl, by decide, by decide, r0, r1⟩⟩
  show endA _ (mDraws [some (.lst (ns.map .int)), none, none] []) = _
  have l : (ns.map D.int).length ≤ 63 := by simpa using hl
  simp? only [mDraws, cut63 l, e, lstCK_ok]
  rfl
theorem run_of {x : D} {k : Cell} (e0 : PD.F_draws [x] [] = some (.ok (.ref 0), [k])) (hk : BagI k) : ∃ h', F_law [x] [] = some (.ok (.bl true), h') := by
  obtain ⟨r, k1, t1, el, hr, hk1, ht1⟩ := forL_bagT (g := mgName 2) (b := mb_law_2) (n := 10) (x := x) lturn (rngD 0 6) k [] [none, none, none, none, none, none, none, none, none, none] hk rfl rfl
  have e0' : F__law_draws [x] [] = some (.ok (.ref 0), [k]) := e0
  have r6 : ∀ h : EH, ir1K [.int 6] h = some (.ok (rngD 0 6), h) := fun h => ir1K_ok (j := 6) (by decide)
  refine ⟨[], ?_⟩
  have run : m_law [some x, none, none, none, none, none, none, none, none, none, none, none] [] = some (.rt (.bl true), k1 :: t1) := by
    simp! only [m_law, e0', r6, el]
  show endI 0 (m_law [some x, none, none, none, none, none, none, none, none, none, none, none] []) = _
  rw [run]
  unfold endI trim frzI frz1I
  rfl
theorem math (ns : List Int) (h1 : ns.length ≤ 63) (h2 : ∀ z ∈ ns, Builtin.Int.intBits z ≤ 1048576) : (∃ h', F_law [.scr (ns.map .int)] [] = some (.ok (.bl true), h')) ∧ ∃ h', F_law [.lst (ns.map .int)] [] = some (.ok (.bl true), h') := by
  obtain ⟨k, e, hk⟩ := draws_ok h1
  obtain ⟨k', e', hk'⟩ := draws_lst h1
  exact ⟨run_of e hk, run_of e' hk'⟩
end K08
open PySem PySem.W PySem.Calls PyProof.Rows
theorem PySem.Challenge.cw_lookedrows_k08_parts_and_values_of_condi_holds : PySem.Challenge.rw_lookedrows_k08_parts_and_values_of_condi.Holds := by
  w_on; o_law
  refine HandSHeadRun.head_any (r := OpenLaw.row PySem.Challenge.rw_lookedrows_k08_parts_and_values_of_condi) (q := view (OpenLaw.row PySem.Challenge.rw_lookedrows_k08_parts_and_values_of_condi).prog [37]) (H := K08.hk) (ob := K08.ob) (M := 6000) (loose := K08.loose) (d := HandSHeadRun.topDef (OpenLaw.row PySem.Challenge.rw_lookedrows_k08_parts_and_values_of_condi).prog 37) (kwd := []) K08.ob_eq
    (by kernel_rfl) (fun s => by kernel_rfl) K08.run (by kernel_rfl) (by kernel_rfl) (by kernel_rfl) (by rfl) (by first | assumption | decide +kernel) (by decide +kernel) ⟨rfl, rfl, rfl, rfl, rfl, by decide +kernel⟩ ?hw ?hc
  case hw => w_witness2
  case hc => exact K08.fin K08.math
