import PyProof.Rows.All
import Wide.All
import OpenK.AllK
import Wide.FinOn
import HandS.ForMost
import HandS.ForExc
import HandS.Head0
import HandS.Head1
import HandS.Head2
import HandS.HeadEnd
import HandS.HeadHook1
import HandS.HeadHook2
import HandS.HeadHook3
import HandS.HeadNt
import HandS.HeadHook4
import HandS.ExcField
import HandS.ExcInit
import KE.KSuper
import HandS.WordsExc
import PySem.Challenge.RW_lookedrows_k06_conditions_refused
import KE.KDflt
import HandS.Lambda
import HandS.IsInst
import HandS.Deep
import HandS.Wide
import HandS.Codes
import HandS.TupAny
import HandS.Walk
import HandS.Zip
import HandS.RaiseMore
import HandS.CallSlots
import HandS.Defaults
import HandS.EndBits
import HandS.StrMore
import HandS.FStr
import HandS.TupLe
import HandS.Text
import HandS.Star
import HandS.Dict
import HandS.ListItems
import HandS.Property
import HandS.SetTxt0
import HandS.SetFor
import HandS.Strs
import HandS.SortInts
import PyProof.Rows.SortStr
import KE.KSortAsk
import KE.GoesNew
import HandS.Style
import KE.KExcSuper
import HandS.ExcSuper
import HandS.ClsMeth
import HandS.HotCalls
import KE.KTryMore
import HandS.EndTab
import PyProof.InstNe
import HandS.OwnEq
import HandS.TupMul
import PyProof.FactsLen
import PyProof.CallFns
import KE.KFmtOwn
import HandS.GenList
import KE.IntTextLaws
import KE.IntTextText
set_option Elab.async false
set_option linter.all false
set_option maxRecDepth 100000
set_option maxHeartbeats 4000000
namespace PD
open PySem PySem.Spec PyProof.Rows L2
/-- plain data -/
inductive D where
  | non | bl (b : Bool) | int (i : Int) | str (cs : List Nat)
  | tup (ds : List D) | lst (ds : List D)
  /-- a dict: keys of one sign or number (false), tuples of such (true) -/
  | dic (t : Bool) (kvs : List (List Key × D))
  | obj (C : Str) (fs : List (Str × D))
  | ref (n : Nat)
  /-- the law's script -/
  | scr (ds : List D)
  /-- a lambda of the text, with what it captured -/
  | fn (i : Nat) (caps : List D)
  /-- an exception -/
  | exc (C : Str) (fs : List (Str × D))
def clsBody : Stmt → List Stmt
  | .ClassDef _ _ _ body _ _ _ _ _ _ _ => body
  | _ => []
def toS (z : List Nat) : Str := ⟨z.toArray⟩
mutual
def dB (K : PySem.W.Frag) : D → Value → Bool
  | .non, .none => true
  | .bl b, .bool c => b == c
  | .int i, .int j _ => decide (i = j)
  | .str cs, .str y _ => decide (y.cps.toList = cs)
  | .tup ds, .ref a => (match K.lookup a with
    | some ⟨.type c, _, .seq its _, _⟩ => decide (c = "tuple") && (decide (its.size ≤ sizeLine) && dBs K ds its.toList)
    | _ => false)
  | .scr ds, .ref a => (match K.lookup a with
    | some ⟨.type c, none, .seq its _, _⟩ => decide (c = "list") && (decide (its.size ≤ sizeLine) && dBs K ds its.toList)
    | _ => false)
  | _, _ => false
def dBs (K : PySem.W.Frag) : List D → List Value → Bool
  | [], [] => true
  | d :: ds, u :: us => dB K d u && dBs K ds us
  | _, _ => false
end
def gloB (K : PySem.W.Frag) (x : Str) (d : D) : Bool := match PySem.W.nsIn K mainGlobals x with
  | some (some u) => dB K d u
  | _ => false
abbrev AlG : Type := He.AlD × Bool
def obsG (fa : List He.Fa) (fn : List He.DefD) (gs : List (Str × D)) (K : PySem.W.Frag) : AlG := (He.obsD fa fn K, gs.all fun p => gloB K p.1 p.2)
def valG (fn : List He.DefD) : AlG := (He.valD fn, true)
def SaysG (fa : List He.Fa) (fn : List He.DefD) (gs : List (Str × D)) (K : PySem.W.Frag) : Prop := obsG fa fn gs K = valG fn
def entB (K : PySem.W.Frag) : List (List Nat × D) → List DictEntry → Bool
  | [], [] => true
  | p :: r, e :: l => (match e.key with
    | .str y _ => decide (y.cps.toList = p.1)
    | _ => false) && (dB K p.2 e.val && entB K r l)
  | _, _ => false
def dicB (K : PySem.W.Frag) (x : Str) (kvs : List (List Nat × D)) : Bool := match PySem.W.nsIn K mainGlobals x with
  | some (some (.ref d)) => (match K.lookup d with
    | some ⟨_, _, .dict es _, _⟩ => entB K kvs es.toList
    | _ => false)
  | _ => false
abbrev DicD : Type := Str × List (List Nat × D)
abbrev AlG2 : Type := AlG × (Bool × List (Option (List (Option (Str × Int)))))
def obsG2 (fa : List He.Fa) (fn : List He.DefD) (gs : List (Str × D)) (ds : List DicD) (K : PySem.W.Frag) : AlG2 := (obsG fa fn gs K, ds.all (fun p => dicB K p.1 p.2), ds.map fun p => He.dicW K (He.ga K p.1))
def valG2 (fn : List He.DefD) (ds : List DicD) (w : World) : AlG2 := (valG fn, true, ds.map fun p => some (He.keysIn w.params (p.2.map fun q => toS q.1)))
def SaysG2 (fa : List He.Fa) (fn : List He.DefD) (gs : List (Str × D)) (ds : List DicD) (w : World) (K : PySem.W.Frag) : Prop := obsG2 fa fn gs ds K = valG2 fn ds w
abbrev AlG3 : Type := AlG2 × (Bool × List He.FnW)
abbrev FactB : Type := PySem.W.Frag → Bool
def obsG3 (fa : List He.Fa) (fn : List He.DefD) (gs : List (Str × D)) (ds : List DicD) (fx : List FactB) (xd : List He5.DefA) (K : PySem.W.Frag) : AlG3 := (obsG2 fa fn gs ds K, (fx.all (fun f => f K)) && xd.all (fun d => d.ok K), xd.map fun d => He5.fnA K (d.at_ K))
def valG3 (fn : List He.DefD) (ds : List DicD) (xd : List He5.DefA) (w : World) : AlG3 := (valG2 fn ds w, true, xd.map He5.DefA.val)
def SaysG3 (fa : List He.Fa) (fn : List He.DefD) (gs : List (Str × D)) (ds : List DicD) (fx : List FactB) (xd : List He5.DefA) (w : World) (K : PySem.W.Frag) : Prop := obsG3 fa fn gs ds fx xd K = valG3 fn ds xd w
def oexB (K : PySem.W.Frag) (C : Addr) : Bool := (match K.lookup C with
  | some ⟨.type t, _, .cls cd, sl⟩ => decide (t = "type") && (match cd.mro, sl.toList with
    | .ref C' :: bm, [_, _, _, _, some (.builtin n), _] => decide (C' = C) && (decide (n = "ValueError.__new__") && (!cd.hasDel && (cd.hasDict && PySem.HandSPX.refsVE bm)))
    | _, _ => false)
  | _ => false) && (decide (PySem.W.findIn K (.ref C) "__setattr__" = some (some (.builtin "object.__setattr__"))) && (decide (PySem.W.subIn K (.ref C) (.type "BaseException") = some true) && (decide (PySem.W.typeIn K (.ref C) = some (.type "type")) && PySem.W.keepIn K (.ref C))))
def overB (K : PySem.W.Frag) (T C : Addr) : Bool := oexB K C && (decide (PySem.W.ks_superIn K C T "__init__" = some (some (.builtin "ValueError.__init__"))) && (decide (PySem.W.mroIn K C (.ref T) = some true) && (decide (PySem.W.subIn K (.ref C) (.type "ValueError") = some true) && decide (PySem.W.findIn K (.ref C) "code" = some none))))
def initB (K : PySem.W.Frag) (C : Addr) : Bool := decide (PySem.W.findIn K (.ref C) "__init__" = some (some (.ref (He.ma K C "__init__")))) && decide (PySem.W.typeIn K (.ref (He.ma K C "__init__")) = some (.type "function"))
def noB (K : PySem.W.Frag) (C : Addr) (f : Str) : Bool := decide (PySem.W.findIn K (.ref C) f = some none)
/-- a def whose closure has names -/
abbrev FnC : Type := Option (Str × Str × Arguments × FuncBody × Scope × Addr × List Str × Addr)
def fnC (K : PySem.W.Frag) (a : Addr) : FnC := match K.lookup a with
  | some ⟨_, _, .func fd, _⟩ => some (fd.name, fd.qualname, fd.params, fd.body, fd.scope, fd.globals, fd.closure.map (·.1), fd.builtins)
  | _ => none
/-- an __init__ that says super(): its class, its text -/
structure SupD where
  C : Str
  qual : Str
  params : Arguments
  body : List Stmt
  scope : Scope
def SupD.at_ (K : PySem.W.Frag) (d : SupD) : Addr := He.ma K (He.ga K d.C) "__init__"
def SupD.val (d : SupD) : FnC := some ("__init__", d.qual, d.params, .stmts d.body, d.scope, mainGlobals, ["__class__"], builtinsNs)
def supB (K : PySem.W.Frag) (file0 : Str) (d : SupD) : Bool := (match K.lookup (d.at_ K) with
  | some ⟨_, _, .func fd, _⟩ => (match fd.code with
    | .ref cda => PySem.W.codeIn K (.ref cda) d.qual && (match K.lookup cda with
      | some ⟨_, _, .fields vs, _⟩ => (match (vs[2]? : Option Value) with
        | some (.str file _) => file0 == file
        | _ => false)
      | _ => false)
    | _ => false) && ((match fd.closure with
    | [(_, cc)] => (match K.lookup cc with
      | some ⟨_, _, .cell (some (.ref T)), _⟩ => decide (T = He.ga K d.C)
      | _ => false)
    | _ => false) && (match fd.defaults, fd.kwdefaults with
      | .none, .none => true
      | _, _ => false))
  | _ => false) && ((PySem.W.clsIn K (He.ga K d.C)).isSome && (decide (PySem.W.nsIn K mainGlobals "super" = some none) && decide (PySem.W.nsIn K cStatics "thirdparty.any" = some none)))
abbrev AlG4 : Type := AlG3 × (Bool × List FnC)
def obsG4 (fa : List He.Fa) (fn : List He.DefD) (gs : List (Str × D)) (ds : List DicD) (fx : List FactB) (xd : List He5.DefA) (sd : List SupD) (tf : List He.Defn) (file0 : Str) (g : Addr → Option Obj) (K : PySem.W.Frag) : AlG4 := (obsG3 fa fn gs ds fx xd K, (sd.all (fun d => supB K file0 d)) && He.tabsB g tf K, sd.map fun d => fnC K (d.at_ K))
def valG4 (fn : List He.DefD) (ds : List DicD) (xd : List He5.DefA) (sd : List SupD) (w : World) : AlG4 := (valG3 fn ds xd w, true, sd.map SupD.val)
structure SaysG4 (fa : List He.Fa) (fn : List He.DefD) (gs : List (Str × D)) (ds : List DicD) (fx : List FactB) (xd : List He5.DefA) (sd : List SupD) (tf : List He.Defn) (file0 : Str) (w : World) (h : Heap) (K : PySem.W.Frag) : Prop where
  g3 : SaysG3 fa fn gs ds fx xd w K
  sup : ∀ d ∈ sd, supB K file0 d = true ∧ fnC K (d.at_ K) = d.val
  hd : ∀ p ∈ tf, PySem.W.codeHdIn K (He.cT K p).1 (He.cT K p).2 = true
  out : ∀ p ∈ tf, K.lookup (He.cT K p).2 = none
  empty : ∀ p ∈ tf, h.get? (He.cT K p).2 = some { cls := .none, data := .fields #[] }
end PD
namespace PD
open PySem PySem.Spec PyProof.Rows L2
/-- the class C is caught by the tuple xs, "code" and fl are no names of its classes -/
def tryB (K : PySem.W.Frag) (xs : List Str) (fl : List Str) (C : Str) : Bool := decide (PySem.W.exmAny K (.ref (He.ga K C)) (xs.map fun x => .ref (He.ga K x)) = some true) && (xfB K (He.ga K C) && (noB K (He.ga K C) "code" && fl.all fun f => noB K (He.ga K C) f))
/-- T.__init__ as T's own -/
def clsvB (K : PySem.W.Frag) (T : Addr) : Bool := PySem.W.readsIn K T (.type "type") && (decide (PySem.W.specialIn K (.ref T) "__getattribute__" = some (some (.builtin "type.__getattribute__"))) &&
  ((match PySem.W.findCls K (.ref T) (.type "type") "__init__" with
    | some (.val (.ref f)) => decide (f = He.ma K T "__init__")
    | _ => false) && (decide (PySem.W.typeIn K (.ref (He.ma K T "__init__")) = some (.type "function")) && PySem.W.keepIn K (.ref (He.ma K T "__init__")))))
end PD
namespace PD
open PySem PySem.Spec PyProof.Rows L2
end PD
namespace PD
open PySem PySem.Spec PyProof.Rows L2
def noPos : Pos := ⟨0, 0, 0, 0⟩
def bodyOf : Stmt → List Stmt
  | .For _ _ b _ _ => b
  | .While _ b _ _ => b
  | .If _ b _ _ => b
  | _ => []
def valOf : Stmt → Expr
  | .Assign _ v _ => v
  | .Return (some v) _ => v
  | .Expr v _ => v
  | .If t _ _ _ => t
  | _ => .Constant .none 0 noPos
def kidsOf : Expr → List Expr
  | .List es _ => es
  | .Tuple es _ _ => es
  | .Call _ es _ _ => es
  | .BoolOp _ es _ => es
  | .Compare a _ cs _ => a :: cs
  | .UnaryOp _ a _ => [a]
  | .BinOp a _ b _ => [a, b]
  | .Subscript a b _ => [a, b]
  | _ => []
def lamArgs : Expr → Arguments
  | .Lambda a _ _ _ => a
  | _ => ⟨[], [], none, [], [], none, []⟩
def lamBody : Expr → Expr
  | .Lambda _ b _ _ => b
  | e => e
def lamScope : Expr → Scope
  | .Lambda _ _ s _ => s
  | _ => { kind := .function, names := [], isGenerator := false, isCoroutine := false }
def stAt (l : List Stmt) (i : Nat) : Stmt := l.getD i (.Pass noPos)
def exAt (l : List Expr) (i : Nat) : Expr := l.getD i (.Constant .none 0 noPos)
section
variable {n : Nat} {fa : List He.Fa} {fn : List He.DefD} {gs : List (Str × D)} {ds : List DicD} {fx : List FactB} {xd : List He5.DefA} {sd : List SupD} {tf : List He.Defn} {file0 : Str} {w : World} {h : Heap}
def obsGG5 (n : Nat) (fa : List He.Fa) (fn : List He.DefD) (gs : List (Str × D)) (ds : List DicD) (fx : List FactB) (xd : List He5.DefA) (sd : List SupD) (tf : List He.Defn) (file0 : Str) (g : Addr → Option Obj) : AlG4 := obsG4 fa fn gs ds fx xd sd tf file0 g (He.frT g (He5.asA g n))
theorem saysG5_of (e : obsGG5 n fa fn gs ds fx xd sd tf file0 h.get? = valG4 fn ds xd sd w) : SaysG4 fa fn gs ds fx xd sd tf file0 w h (He.frT h.get? (He5.asA h.get? n)) := by
  have e1 : obsG3 fa fn gs ds fx xd (He.frT h.get? (He5.asA h.get? n)) = valG3 fn ds xd w := congrArg (fun z : AlG4 => z.1) e
  have e2 : ((sd.all (fun d => supB (He.frT h.get? (He5.asA h.get? n)) file0 d)) && He.tabsB h.get? tf (He.frT h.get? (He5.asA h.get? n))) = true := congrArg (fun z : AlG4 => z.2.1) e
  have e3 : (sd.map fun d => fnC (He.frT h.get? (He5.asA h.get? n)) (d.at_ (He.frT h.get? (He5.asA h.get? n)))) = sd.map SupD.val := congrArg (fun z : AlG4 => z.2.2) e
  obtain ⟨h1, h2⟩ := Bool.and_eq_true_iff.mp e2
  have key : ∀ p ∈ tf, PySem.W.codeHdIn (He.frT h.get? (He5.asA h.get? n)) (He.cT (He.frT h.get? (He5.asA h.get? n)) p).1 (He.cT (He.frT h.get? (He5.asA h.get? n)) p).2 = true ∧ ∃ o, h.get? (He.cT (He.frT h.get? (He5.asA h.get? n)) p).2 = some o ∧ He.emptyTab o = true := fun p hp => by
    obtain ⟨h3, h4⟩ := Bool.and_eq_true_iff.mp (List.all_eq_true.mp h2 p hp)
    refine ⟨h3, ?_⟩
    cases q : h.get? (He.cT (He.frT h.get? (He5.asA h.get? n)) p).2 with
    | none => rw [q] at h4; cases h4
    | some o => rw [q] at h4; exact ⟨o, rfl, h4⟩
  exact ⟨e1, fun d hd => ⟨List.all_eq_true.mp h1 d hd, List.map_inj_left.mp e3 d hd⟩, fun p hp => (key p hp).1, fun p hp => by
    obtain ⟨_, o, q, z⟩ := key p hp
    exact He.frT_none q z, fun p hp => by
    obtain ⟨_, o, q, z⟩ := key p hp
    rw [q, He.emptyTab_eq z]⟩
def hookG5 (n : Nat) (fa : List He.Fa) (fn : List He.DefD) (gs : List (Str × D)) (ds : List DicD) (fx : List FactB) (xd : List He5.DefA) (sd : List SupD) (tf : List He.Defn) (file0 : Str) : PySem.W.Hook where
  α := AlG4
  obs := fun s => obsGG5 n fa fn gs ds fx xd sd tf file0 s.heap.get?
  val := fun w => valG4 fn ds xd sd w
  says := fun w h => ∃ K : PySem.W.Frag, K.In h ∧ SaysG4 fa fn gs ds fx xd sd tf file0 w h K
  of := fun _ _ e => ⟨_, He.frT_in, saysG5_of e⟩
  keeps := fun _ _ _ ⟨K, hK, c⟩ k => ⟨K, PySem.W.Frag.In.keeps hK k, ⟨c.g3, c.sup, c.hd, c.out, fun p hp => k _ _ (c.empty p hp)⟩⟩
theorem obsGG5_eq {g : Addr → Option Obj} {s : Shared} (h : ∀ a, g a = s.heap.get? a) : obsGG5 n fa fn gs ds fx xd sd tf file0 g = (hookG5 n fa fn gs ds fx xd sd tf file0).obs s := by
  have e : g = s.heap.get? := funext h
  rw [e] <;> rfl
end
theorem obs_join {n : Nat} {fa : List He.Fa} {fn : List He.DefD} {gs : List (Str × D)} {ds : List DicD} {fx : List FactB} {xd : List He5.DefA} {sd : List SupD} {tf : List He.Defn} {f : Str} {w : World} {g : Addr → Option Obj}
    (h1 : obsGG5 n fa fn gs ds [] [] [] [] f g = valG4 fn ds [] [] w) (h2 : obsGG5 n [] [] [] [] fx xd sd tf f g = valG4 [] [] xd sd w) : obsGG5 n fa fn gs ds fx xd sd tf f g = valG4 fn ds xd sd w := by
  have e1 := congrArg (fun z : AlG4 => z.1.1) h1
  have e2 := congrArg (fun z : AlG4 => z.1.2) h2
  have e3 := congrArg (fun z : AlG4 => z.2) h2
  exact Prod.ext (Prod.ext e1 e2) e3
theorem run_join3 {α β β' γ γ' δ : Type} {X : Option α} {p : α → β} {q : α → β'} {a : α → γ} {b : α → γ'} {c : α → δ} {z : β} {y : β'} {u : γ} {v : γ'} {t : δ} (h1 : X.map (fun s => (p s, q s, a s)) = some (z, y, u)) (h2 : X.map (fun s => (p s, q s, b s)) = some (z, y, v)) (hc : ∀ s, a s = u → b s = v → c s = t) :
    X.map (fun s => (p s, q s, c s)) = some (z, y, t) := by
  cases X with
  | none => cases h1
  | some s =>
    have e1 := Option.some.inj h1
    have e2 := Option.some.inj h2
    have g1 : p s = z := congrArg (fun r => r.1) e1
    have g2 : q s = y := congrArg (fun r => r.2.1) e1
    have g3 : a s = u := congrArg (fun r => r.2.2) e1
    have g4 : b s = v := congrArg (fun r => r.2.2) e2
    show some (p s, q s, c s) = _
    rw [g1, g2, hc s g3 g4]
end PD
namespace K06
open PySem PySem.Spec PyProof.Rows L2 PD
def top (i : Nat) : Stmt := PySem.Challenge.pw_lookedrows_k06_conditions_refused.main.body.getD i (.Pass ⟨0, 0, 0, 0⟩)
def g_GREATEST : D := (.int 1000000000000000000000000000000)
def g_LETTERS : D := (.str [97, 98, 99, 100, 101, 102, 103, 104, 105, 106, 107, 108, 109, 110, 111, 112, 113, 114, 115, 116, 117, 118, 119, 120, 121, 122])
def g_RESERVED : D := (.tup [(.str [97, 110, 100]), (.str [102, 111, 117, 110, 100]), (.str [107, 101, 121]), (.str [110, 101, 120, 116]), (.str [110, 111, 116]), (.str [111, 114]), (.str [111, 119, 110]), (.str [115, 101, 116]), (.str [116, 114, 117, 101]), (.str [119, 104, 101, 114, 101])])
def g_MOST_DEPTH : D := (.int 6)
def kv_SIGNS : List (List Nat × D) := [([97, 116, 109, 111, 115, 116], (.str [60, 61])), ([98, 101, 108, 111, 119], (.str [60])), ([115, 97, 109, 101], (.str [61]))]
abbrev s_law : Stmt := top 44
abbrev s_inner_parts : Stmt := top 22
abbrev s_is_integer : Stmt := top 11
abbrev s_is_constant : Stmt := top 12
abbrev s_is_name : Stmt := top 10
abbrev s_is_column : Stmt := top 13
abbrev s_is_plain : Stmt := top 14
abbrev s_is_value : Stmt := top 15
abbrev s_has_form : Stmt := top 21
abbrev s_wrong_path : Stmt := top 23
abbrev s_check_condition : Stmt := top 24
abbrev s_integer_text : Stmt := top 16
abbrev s_value_text : Stmt := top 17
abbrev s_text_of : Stmt := top 25
abbrev s_condition_text : Stmt := top 26
abbrev s_all_parts : Stmt := top 27
abbrev s_values_in : Stmt := top 29
abbrev s_parts : Stmt := top 28
abbrev s__law_draws : Stmt := top 32
abbrev s__law_like : Stmt := top 35
abbrev s__law_pull : Stmt := top 33
abbrev s__law_any : Stmt := top 34
abbrev s__law_near : Stmt := top 38
abbrev s__law_some_value : Stmt := top 39
abbrev s__law_some_compared : Stmt := top 40
abbrev s__law_some_condition : Stmt := top 41
abbrev s__law_paths : Stmt := top 43
abbrev s__law_try : Stmt := top 36
abbrev s__law_put : Stmt := top 42
abbrev s__law_tries : Stmt := top 37
abbrev s__law_field : Stmt := top 31
abbrev s_InvalidCondition_init : Stmt := (clsBody (top 4)).getD 0 (.Pass ⟨0, 0, 0, 0⟩)
abbrev s_InvalidValue_init : Stmt := (clsBody (top 3)).getD 0 (.Pass ⟨0, 0, 0, 0⟩)
abbrev s_TableError_init : Stmt := (clsBody (top 1)).getD 0 (.Pass ⟨0, 0, 0, 0⟩)
def lamE0 : Expr := (exAt (kidsOf (valOf (stAt (bodyOf (stAt (defBody s_law) 1)) 8))) 0)
def lamE1 : Expr := (exAt (kidsOf (valOf (stAt (bodyOf (stAt (defBody s_law) 1)) 8))) 1)
def lamE2 : Expr := (exAt (kidsOf (valOf (stAt (bodyOf (stAt (defBody s_law) 1)) 8))) 2)
def lamE3 : Expr := (exAt (kidsOf (exAt (kidsOf (valOf (stAt (defBody s_law) 4))) 0)) 0)
def dd_inner_parts : He.DefD := ⟨("inner_parts", none), "inner_parts", "inner_parts", defArgs s_inner_parts, defBody s_inner_parts, defScope s_inner_parts, [], []⟩
def dd_is_integer : He.DefD := ⟨("is_integer", none), "is_integer", "is_integer", defArgs s_is_integer, defBody s_is_integer, defScope s_is_integer, [], []⟩
def dd_is_constant : He.DefD := ⟨("is_constant", none), "is_constant", "is_constant", defArgs s_is_constant, defBody s_is_constant, defScope s_is_constant, [], []⟩
def dd_is_name : He.DefD := ⟨("is_name", none), "is_name", "is_name", defArgs s_is_name, defBody s_is_name, defScope s_is_name, [], []⟩
def dd_is_column : He.DefD := ⟨("is_column", none), "is_column", "is_column", defArgs s_is_column, defBody s_is_column, defScope s_is_column, [], []⟩
def dd_is_plain : He.DefD := ⟨("is_plain", none), "is_plain", "is_plain", defArgs s_is_plain, defBody s_is_plain, defScope s_is_plain, [], []⟩
def dd_is_value : He.DefD := ⟨("is_value", none), "is_value", "is_value", defArgs s_is_value, defBody s_is_value, defScope s_is_value, [], []⟩
def dd_has_form : He.DefD := ⟨("has_form", none), "has_form", "has_form", defArgs s_has_form, defBody s_has_form, defScope s_has_form, [], []⟩
def dd_wrong_path : He.DefD := ⟨("wrong_path", none), "wrong_path", "wrong_path", defArgs s_wrong_path, defBody s_wrong_path, defScope s_wrong_path, [], []⟩
def dd_check_condition : He.DefD := ⟨("check_condition", none), "check_condition", "check_condition", defArgs s_check_condition, defBody s_check_condition, defScope s_check_condition, [], []⟩
def dd_integer_text : He.DefD := ⟨("integer_text", none), "integer_text", "integer_text", defArgs s_integer_text, defBody s_integer_text, defScope s_integer_text, [], []⟩
def dd_value_text : He.DefD := ⟨("value_text", none), "value_text", "value_text", defArgs s_value_text, defBody s_value_text, defScope s_value_text, [], []⟩
def dd_text_of : He.DefD := ⟨("text_of", none), "text_of", "text_of", defArgs s_text_of, defBody s_text_of, defScope s_text_of, [], []⟩
def dd_condition_text : He.DefD := ⟨("condition_text", none), "condition_text", "condition_text", defArgs s_condition_text, defBody s_condition_text, defScope s_condition_text, [], []⟩
def dd_all_parts : He.DefD := ⟨("all_parts", none), "all_parts", "all_parts", defArgs s_all_parts, defBody s_all_parts, defScope s_all_parts, [], []⟩
def dd_values_in : He.DefD := ⟨("values_in", none), "values_in", "values_in", defArgs s_values_in, defBody s_values_in, defScope s_values_in, [], []⟩
def dd_parts : He.DefD := ⟨("parts", none), "parts", "parts", defArgs s_parts, defBody s_parts, defScope s_parts, [], []⟩
def dd__law_draws : He.DefD := ⟨("_law_draws", none), "_law_draws", "_law_draws", defArgs s__law_draws, defBody s__law_draws, defScope s__law_draws, [], []⟩
def dd__law_like : He.DefD := ⟨("_law_like", none), "_law_like", "_law_like", defArgs s__law_like, defBody s__law_like, defScope s__law_like, [], []⟩
def dd__law_pull : He.DefD := ⟨("_law_pull", none), "_law_pull", "_law_pull", defArgs s__law_pull, defBody s__law_pull, defScope s__law_pull, [], []⟩
def dd__law_any : He.DefD := ⟨("_law_any", none), "_law_any", "_law_any", defArgs s__law_any, defBody s__law_any, defScope s__law_any, [], []⟩
def dd__law_near : He.DefD := ⟨("_law_near", none), "_law_near", "_law_near", defArgs s__law_near, defBody s__law_near, defScope s__law_near, [], []⟩
def dd__law_some_value : He.DefD := ⟨("_law_some_value", none), "_law_some_value", "_law_some_value", defArgs s__law_some_value, defBody s__law_some_value, defScope s__law_some_value, [], []⟩
def dd__law_some_compared : He.DefD := ⟨("_law_some_compared", none), "_law_some_compared", "_law_some_compared", defArgs s__law_some_compared, defBody s__law_some_compared, defScope s__law_some_compared, [], []⟩
def dd__law_some_condition : He.DefD := ⟨("_law_some_condition", none), "_law_some_condition", "_law_some_condition", defArgs s__law_some_condition, defBody s__law_some_condition, defScope s__law_some_condition, [], []⟩
def dd__law_paths : He.DefD := ⟨("_law_paths", none), "_law_paths", "_law_paths", defArgs s__law_paths, defBody s__law_paths, defScope s__law_paths, [], []⟩
def dd__law_try : He.DefD := ⟨("_law_try", none), "_law_try", "_law_try", defArgs s__law_try, defBody s__law_try, defScope s__law_try, [], []⟩
def dd__law_put : He.DefD := ⟨("_law_put", none), "_law_put", "_law_put", defArgs s__law_put, defBody s__law_put, defScope s__law_put, [], []⟩
def dd__law_tries : He.DefD := ⟨("_law_tries", none), "_law_tries", "_law_tries", defArgs s__law_tries, defBody s__law_tries, defScope s__law_tries, [], []⟩
def dd_law : He.DefD := ⟨("law", none), "law", "law", defArgs s_law, defBody s_law, defScope s_law, [], []⟩
def dd__law_field : He.DefD := ⟨("_law_field", none), "_law_field", "_law_field", defArgs s__law_field, defBody s__law_field, defScope s__law_field, [], []⟩
def xd_InvalidCondition_init : He5.DefA := { at_ := fun K => He.ma K (He.ga K "InvalidCondition") "__init__", name := "__init__", qual := "InvalidCondition.__init__", params := defArgs s_InvalidCondition_init, body := defBody s_InvalidCondition_init, scope := defScope s_InvalidCondition_init }
def fx_o_InvalidCondition : FactB := fun K => overB K (He.ga K "TableError") (He.ga K "InvalidCondition")
def fx_i_InvalidCondition : FactB := fun K => initB K (He.ga K "InvalidCondition")
def fx_na_InvalidCondition : FactB := fun K => noB K (He.ga K "InvalidCondition") "path"
def fx_t_InvalidCondition : FactB := fun K => tryB K ["TableError", "Missing", "NothingLeft"] ["path"] "InvalidCondition"
def xd_InvalidValue_init : He5.DefA := { at_ := fun K => He.ma K (He.ga K "InvalidValue") "__init__", name := "__init__", qual := "InvalidValue.__init__", params := defArgs s_InvalidValue_init, body := defBody s_InvalidValue_init, scope := defScope s_InvalidValue_init }
def fx_o_InvalidValue : FactB := fun K => overB K (He.ga K "TableError") (He.ga K "InvalidValue")
def fx_i_InvalidValue : FactB := fun K => initB K (He.ga K "InvalidValue")
def fx_t_InvalidValue : FactB := fun K => tryB K ["TableError", "Missing", "NothingLeft"] ["path"] "InvalidValue"
def sd_TableError : SupD := ⟨"TableError", "TableError.__init__", defArgs s_TableError_init, defBody s_TableError_init, defScope s_TableError_init⟩
def fx_cf_TableError : FactB := fun K => clsvB K (He.ga K "TableError")
def fn : List He.DefD := [dd_inner_parts, dd_is_integer, dd_is_constant, dd_is_name, dd_is_column, dd_is_plain, dd_is_value, dd_has_form, dd_wrong_path, dd_check_condition, dd_integer_text, dd_value_text, dd_text_of, dd_condition_text, dd_all_parts, dd_values_in, dd_parts, dd__law_draws, dd__law_like, dd__law_pull, dd__law_any, dd__law_near, dd__law_some_value, dd__law_some_compared, dd__law_some_condition, dd__law_paths, dd__law_try, dd__law_put, dd__law_tries, dd_law, dd__law_field]
def fa : List He.Fa := [.glo "inner_parts", .glo "is_integer", .glo "is_constant", .glo "is_name", .glo "is_column", .glo "is_plain", .glo "is_value", .glo "has_form", .glo "wrong_path", .glo "check_condition", .glo "integer_text", .glo "value_text", .glo "text_of", .glo "condition_text", .glo "all_parts", .glo "values_in", .glo "parts", .glo "_law_draws", .glo "_law_like", .glo "_law_pull", .glo "_law_any", .glo "_law_near", .glo "_law_some_value", .glo "_law_some_compared", .glo "_law_some_condition", .glo "_law_paths", .glo "_law_try", .glo "_law_put", .glo "_law_tries", .glo "law", .glo "_law_field", .glo "InvalidCondition", .glo "TableError", .glo "Missing", .glo "NothingLeft", .glo "InvalidValue", .free "len", .free "range", .free "isinstance", .free "bool", .free "int", .free "all", .free "str", .free "tuple", .free "list", .free "zip", .free "max", .free "min"]
def gs : List (Str × D) := [("GREATEST", g_GREATEST), ("LETTERS", g_LETTERS), ("RESERVED", g_RESERVED), ("MOST_DEPTH", g_MOST_DEPTH)]
def dsL : List DicD := [("SIGNS", kv_SIGNS)]
def fx_ns_InvalidCondition : FactB := fun K => decide (PySem.W.subIn K (.ref (He.ga K "InvalidCondition")) (.type "StopIteration") = some false)
def fxL : List FactB := [fx_o_InvalidCondition, fx_i_InvalidCondition, fx_na_InvalidCondition, fx_t_InvalidCondition, fx_o_InvalidValue, fx_i_InvalidValue, fx_t_InvalidValue, fx_cf_TableError, fx_ns_InvalidCondition]
def xdL : List He5.DefA := [xd_InvalidCondition_init, xd_InvalidValue_init]
def sdL : List SupD := [sd_TableError]
def tf : List He.Defn := [("law", none)]
abbrev R : PySem.W.OpenRow := PySem.W.OpenLaw.row PySem.Challenge.rw_lookedrows_k06_conditions_refused
def hk : PySem.W.Hook := hookG5 4 fa fn gs dsL fxL xdL sdL tf R.prog.main.file
def ob (s : PySem.W.SharedT) : AlG4 := obsGG5 4 fa fn gs dsL fxL xdL sdL tf R.prog.main.file (HandSHeadRun.getT s)
theorem ob_eq (s : PySem.W.SharedT) : ob s = hk.obs s.abs := obsGG5_eq (HandSHeadRun.getT_eq s)
def loose0 : List Str := ["TableError", "Missing", "InvalidValue", "InvalidCondition", "NothingLeft", "LETTERS", "RESERVED", "GREATEST", "is_name", "is_integer", "is_constant", "is_column", "is_plain", "is_value", "integer_text", "value_text", "MOST_DEPTH", "SIGNS", "has_form", "inner_parts", "wrong_path", "check_condition", "text_of", "condition_text", "all_parts", "parts", "values_in", "_law_field", "_law_draws", "_law_pull"]
def loose1 : List Str := ["_law_any", "_law_like", "_law_try", "_law_tries", "_law_near", "_law_some_value", "_law_some_compared", "_law_some_condition", "_law_put", "_law_paths"]
abbrev loose : List Str := loose0 ++ loose1
def hkA : PySem.W.Hook := hookG5 4 fa fn gs dsL [] [] [] [] R.prog.main.file
def obA (s : PySem.W.SharedT) : AlG4 := obsGG5 4 fa fn gs dsL [] [] [] [] R.prog.main.file (HandSHeadRun.getT s)
def hkB : PySem.W.Hook := hookG5 4 [] [] [] [] fxL xdL sdL tf R.prog.main.file
def obB (s : PySem.W.SharedT) : AlG4 := obsGG5 4 [] [] [] [] fxL xdL sdL tf R.prog.main.file (HandSHeadRun.getT s)
end K06
namespace K06
open PySem PySem.Spec PyProof.Rows L2 PD
theorem run0A (w : World) : HandSHeadRun.RunEq R (PySem.W.view R.prog [44]) hkA obA 6000 loose (w.withFollow "special-get-raises" false) := fun os => by kernel_rfl
theorem run0B (w : World) : HandSHeadRun.RunEq R (PySem.W.view R.prog [44]) hkB obB 6000 loose (w.withFollow "special-get-raises" false) := fun os => by kernel_rfl
theorem run1A (w : World) : HandSHeadRun.RunEq R (PySem.W.view R.prog [44]) hkA obA 6000 loose (w.withFollow "special-get-raises" true) := fun os => by kernel_rfl
theorem run1B (w : World) : HandSHeadRun.RunEq R (PySem.W.view R.prog [44]) hkB obB 6000 loose (w.withFollow "special-get-raises" true) := fun os => by kernel_rfl
theorem runJ {w : World} (h1 : HandSHeadRun.RunEq R (PySem.W.view R.prog [44]) hkA obA 6000 loose w) (h2 : HandSHeadRun.RunEq R (PySem.W.view R.prog [44]) hkB obB 6000 loose w) : HandSHeadRun.RunEq R (PySem.W.view R.prog [44]) hk ob 6000 loose w := fun os => run_join3 (h1 os) (h2 os) fun s ha hb => obs_join ha hb
theorem run (w : World) : HandSHeadRun.RunEq R (PySem.W.view R.prog [44]) hk ob 6000 loose w := PySem.W.byRow2 "special-get-raises" (P := fun w => HandSHeadRun.RunEq R (PySem.W.view R.prog [44]) hk ob 6000 loose w) (fun w => runJ (run0A w) (run0B w)) (fun w => runJ (run1A w) (run1B w)) w
end K06
namespace PD
open PySem PySem.Spec PyProof.Rows L2
/-- the text of a lambda; caps: the names that it captures -/
structure LamD where
  qual : Str
  params : Arguments
  body : Expr
  scope : Scope
  caps : List Str
  /-- it has a parameter with the default 0 -/
  df : Bool
/-- the law's lambdas; the tables of code objects of the defs that make them, with the name of what they make -/
class LamTab where
  lam : Nat → LamD
  T : List (Addr × Str)
variable [LamTab]
/-- where one stands: the written part, the module's names, what is not to be touched, the cells' addresses, the heap -/
structure RC where
  K : PySem.W.Frag
  mg : Str → Option Value
  B : Addr → Prop
  ρ : List Addr
  H : Hp
def RC.fr (c : RC) (a : Addr) : Prop := ¬ c.B a ∧ a ∉ c.ρ
/-- the tables are right -/
def RC.tabs (c : RC) : Prop := ∀ p ∈ LamTab.T, LamX.TabS c.H p.1 p.2
structure MgX where
  mg : Str → Option Value
  tabs : Prop
structure MgX.Le (a b : MgX) : Prop where
  e : a.mg = b.mg
  t : b.tabs → a.tabs
theorem MgX.Le.trans {a b d : MgX} (x : MgX.Le a b) (y : MgX.Le b d) : MgX.Le a d := ⟨x.e.trans y.e, fun h => x.t (y.t h)⟩
def RC.mgx (c : RC) : MgX := ⟨c.mg, c.tabs⟩
/-- the module's names are mg, the tables are right -/
abbrev MgE (c : RC) (mg : Str → Option Value) : Prop := MgX.Le c.mgx ⟨mg, True⟩
theorem MgX.Le.e' {c c' : RC} (h : MgX.Le c'.mgx c.mgx) : c'.mg = c.mg := h.e
theorem MgX.Le.mge {c : RC} {mg : Str → Option Value} (h : MgE c mg) : c.mg = mg := h.e
abbrev RC.put (c : RC) (p : Addr) (o : HO) : RC := { c with H := upd c.H p o }
/-- a list that stands locked, or in the written part -/
def ScrL (K : PySem.W.Frag) (H : Hp) (a : Addr) (xs : List V) : Prop := (∃ o, H a = some (.frz o (.lst xs))) ∨
    ∃ (o : Obj) (its : Array Value) (n : Nat), K.lookup a = some o ∧ o.cls = .type "list" ∧ o.dict = none ∧ o.data = .seq its n ∧ its.size ≤ sizeLine ∧ Vals xs its.toList
theorem ScrL.sq {K : PySem.W.Frag} {H : Hp} {a : Addr} {xs : List V} (h : ScrL K H a xs) : SqL K H a xs := by
  rcases h with h | h
  · exact .inl (.inr h)
  · exact .inr h
/-- the dict's pairs -/
def isDic (t : Bool) (o : HO) (zs : List (List Key × V)) : Prop := (t = false ∧ ∃ ys : List (Key × V), o = .dK ys ∧ zs = ys.map fun p => ([p.1], p.2)) ∨ (t = true ∧ o = .dT zs)
theorem isDic.tbl {t : Bool} {o : HO} {zs : List (List Key × V)} (h : isDic t o zs) : ∀ ps, o ≠ .tbl ps := fun ps e => by
  subst e
  rcases h with ⟨_, _, e, _⟩ | ⟨_, e⟩ <;> cases e
theorem isDic.tup {t : Bool} {o : HO} {zs : List (List Key × V)} (h : isDic t o zs) : ∀ xs, o ≠ .tup xs := fun ps e => by
  subst e
  rcases h with ⟨_, _, e, _⟩ | ⟨_, e⟩ <;> cases e
theorem isDic.frz {t : Bool} {o : HO} {zs : List (List Key × V)} (h : isDic t o zs) : ∀ a b, o ≠ .frz a b := fun a b e => by
  subst e
  rcases h with ⟨_, _, e, _⟩ | ⟨_, e⟩ <;> cases e
theorem isDic.lst {t : Bool} {o : HO} {zs : List (List Key × V)} (h : isDic t o zs) : ∀ xs, o ≠ .lst xs := fun ps e => by
  subst e
  rcases h with ⟨_, _, e, _⟩ | ⟨_, e⟩ <;> cases e
/-- the closure has the captured names alone, each with a cell of its own -/
def ClOk (caps : List Str) (cl : List (Str × Addr)) : Prop := (∀ y b, cl.lookup y = some b → y ∈ caps) ∧ ∀ y y' b, cl.lookup y = some b → cl.lookup y' = some b → y = y'
def lamHO (l : LamD) (cl : List (Str × Addr)) (dV : Value) (c' f : Addr) : HO := .ext fun h => ClOk l.caps cl ∧ ∃ doc pm ctv, h.get? f = some (PySem.W.kdv_obj "<lambda>" l.qual l.params (.expr l.body) l.scope cl dV doc pm c' ctv)
def celHO (b : Addr) (o : Obj) : HO := .ext fun h => h.get? b = some o
/-- the tuple of the default -/
def DfR (H : Hp) (fr : Addr → Prop) (df : Bool) (dV : Value) : Prop := (df = false ∧ dV = .none) ∨ (df = true ∧ ∃ (dt : Addr) (t : Tok), dV = .ref dt ∧ H dt = some (celHO dt (PySem.W.kdv_tup [.int 0 t])) ∧ fr dt)
/-- the captured cells -/
inductive CapsR (H : Hp) (cl : List (Str × Addr)) (fr : Addr → Prop) (df : Bool) (dV : Value) : List Str → List V → Prop
  | nil : DfR H fr df dV → CapsR H cl fr df dV [] []
  | cons {y : Str} {ys : List Str} {b : Addr} {o : Obj} {u : Value} {v : V} {vs : List V} : cl.lookup y = some b → H b = some (celHO b o) → fr b → o.data = .cell (some u) → RelV v u → CapsR H cl fr df dV ys vs → CapsR H cl fr df dV (y :: ys) (v :: vs)
theorem CapsR.imp {H H' : Hp} {cl : List (Str × Addr)} {fr fr' : Addr → Prop} {df : Bool} {dV : Value} (k : ∀ b o, H b = some (celHO b o) → fr b → H' b = some (celHO b o) ∧ fr' b) : ∀ {ys : List Str} {vs : List V}, CapsR H cl fr df dV ys vs → CapsR H' cl fr' df dV ys vs
  | _, _, .nil (.inl h) => .nil (.inl h)
  | _, _, .nil (.inr ⟨h, dt, t, e, h1, h2⟩) => .nil (.inr ⟨h, dt, t, e, (k _ _ h1 h2).1, (k _ _ h1 h2).2⟩)
  | _, _, .cons h1 h2 h3 h4 h5 t => .cons h1 (k _ _ h2 h3).1 (k _ _ h2 h3).2 h4 h5 (t.imp k)
/-- an exception's object -/
def excHO (a Ca d : Addr) : HO := .ext fun h => ∃ o vs, h.get? a = some o ∧ o.cls = .ref Ca ∧ o.dict = some d ∧ o.data = .fields vs
theorem lamHO_tbl {l : LamD} {cl : List (Str × Addr)} {dV : Value} {c' f : Addr} (ps : Array Value) : lamHO l cl dV c' f ≠ .tbl ps := fun z => by
  unfold lamHO at z
  cases z
theorem celHO_tbl {b : Addr} {o : Obj} (ps : Array Value) : celHO b o ≠ .tbl ps := fun z => by
  unfold celHO at z
  cases z
theorem excHO_tbl {a Ca d : Addr} (ps : Array Value) : excHO a Ca d ≠ .tbl ps := fun z => by
  unfold excHO at z
  cases z
mutual
inductive Rep (c : RC) : D → V → Prop
  | non : Rep c .non .non
  | bl (b : Bool) : Rep c (.bl b) (.bl b)
  | int (i : Int) : Rep c (.int i) (.int i)
  | str (cs : List Nat) : Rep c (.str cs) (.str ⟨cs.toArray⟩)
  | tup {a : Addr} {ds : List D} {xs : List V} : SqT c.K c.H a xs → Reps c ds xs → Rep c (.tup ds) (.ref a)
  | lst {a : Addr} {ds : List D} {xs : List V} : c.H a = some (.lst xs) → c.fr a → Reps c ds xs → Rep c (.lst ds) (.ref a)
  | scr {a : Addr} {ds : List D} {xs : List V} : ScrL c.K c.H a xs → Reps c ds xs → Rep c (.scr ds) (.ref a)
  | obj {a Ca dx : Addr} {C : Str} {fs : List (Str × D)} {vs : List (Str × V)} : c.mg C = some (.ref Ca) → c.H a = some (.ins Ca dx vs) → c.fr a → RepF c fs vs → Rep c (.obj C fs) (.ref a)
  | ref {n : Nat} {a : Addr} : c.ρ[n]? = some a → Rep c (.ref n) (.ref a)
  | fn {f c' : Addr} {i : Nat} {cl : List (Str × Addr)} {dV : Value} {caps : List D} {vs : List V} : c.H f = some (lamHO (LamTab.lam i) cl dV c' f) → c.fr f → c.H c' = some (LamX.CodeO c' (LamTab.lam i).qual) → c.fr c' → CapsR c.H cl c.fr (LamTab.lam i).df dV (LamTab.lam i).caps vs → Reps c caps vs → Rep c (.fn i caps) (.ref f)
  | exc {a Ca dx : Addr} {C : Str} {fs : List (Str × D)} {vs : List (Str × V)} : c.mg C = some (.ref Ca) → c.H a = some (excHO a Ca dx) → c.fr a → c.H dx = some (.xd vs) → c.fr dx → RepF c fs vs → Rep c (.exc C fs) (.ref a)
  | dic {a : Addr} {t : Bool} {o : HO} {kvs : List (List Key × D)} {zs : List (List Key × V)} : c.H a = some o → isDic t o zs → c.fr a → RepP c kvs zs → Rep c (.dic t kvs) (.ref a)
inductive Reps (c : RC) : List D → List V → Prop
  | nil : Reps c [] []
  | cons {d : D} {ds : List D} {v : V} {vs : List V} : Rep c d v → Reps c ds vs → Reps c (d :: ds) (v :: vs)
inductive RepP (c : RC) : List (List Key × D) → List (List Key × V) → Prop
  | nil : RepP c [] []
  | cons {f : List Key} {d : D} {ds : List (List Key × D)} {v : V} {vs : List (List Key × V)} : Rep c d v → RepP c ds vs → RepP c ((f, d) :: ds) ((f, v) :: vs)
inductive RepF (c : RC) : List (Str × D) → List (Str × V) → Prop
  | nil : RepF c [] []
  | cons {f : Str} {d : D} {ds : List (Str × D)} {v : V} {vs : List (Str × V)} : Rep c d v → RepF c ds vs → RepF c ((f, d) :: ds) ((f, v) :: vs)
end
/-- later: what is not a cell stays -/
structure RC.Le (c c' : RC) : Prop where
  K : c'.K = c.K
  mg : MgX.Le c'.mgx c.mgx
  B : ∀ a, c.B a → c'.B a
  Bn : ∀ a, c'.B a → c.B a ∨ c.H a = none
  dom : ∀ a o, c.H a = some o → ∃ o', c'.H a = some o'
  pre : ∀ (n : Nat) (a : Addr), c.ρ[n]? = some a → c'.ρ[n]? = some a
  keep : ∀ a o, c.H a = some o → (∀ ps, o ≠ .tbl ps) → a ∉ c.ρ → c'.H a = some o ∧ a ∉ c'.ρ
  tup : ∀ a xs, Rd c.H a (.tup xs) → Rd c'.H a (.tup xs)
  frz : ∀ a o u, c.H a = some (.frz o u) → c'.H a = some (.frz o u)
theorem RC.Le.refl (c : RC) : c.Le c := ⟨rfl, ⟨rfl, fun h => h⟩, fun _ h => h, fun _ h => .inl h, fun _ o h => ⟨o, h⟩, fun _ _ h => h, fun _ _ h _ n => ⟨h, n⟩, fun _ _ h => h, fun _ _ _ h => h⟩
theorem RC.Le.trans {a b c : RC} (x : a.Le b) (y : b.Le c) : a.Le c :=
  ⟨y.K.trans x.K, y.mg.trans x.mg, fun p h => y.B p (x.B p h), fun p h => (by
    rcases y.Bn p h with h | h
    · exact x.Bn p h
    · cases q : a.H p with
      | none => exact .inr rfl
      | some o =>
        obtain ⟨o', e⟩ := x.dom p o q
        rw [h] at e
        cases e), fun p o h => let ⟨o', e⟩ := x.dom p o h; y.dom p o' e, fun n p h => y.pre n p (x.pre n p h), fun p o h t n => let ⟨h1, n1⟩ := x.keep p o h t n; y.keep p o h1 t n1, fun p xs h => y.tup p xs (x.tup p xs h), fun p o u h => y.frz p o u (x.frz p o u h)⟩
theorem RC.Le.fr {c c' : RC} (l : c.Le c') {a : Addr} {o : HO} (h : c.H a = some o) (ht : ∀ ps, o ≠ .tbl ps) (f : c.fr a) : c'.fr a :=
  ⟨fun z => (l.Bn a z).elim f.1 fun q => (by rw [h] at q; cases q), (l.keep a o h ht f.2).2⟩
theorem RC.Le.lstH {c c' : RC} (l : c.Le c') {a : Addr} {xs : List V} (h : c.H a = some (.lst xs)) (f : c.fr a) : c'.H a = some (.lst xs) ∧ c'.fr a :=
  ⟨(l.keep a _ h (fun _ z => by cases z) f.2).1, l.fr h (fun _ z => by cases z) f⟩
theorem RC.Le.scrL {c c' : RC} (l : c.Le c') {a : Addr} {xs : List V} (h : ScrL c.K c.H a xs) : ScrL c'.K c'.H a xs := by
  rcases h with ⟨o, h⟩ | h
  · exact .inl ⟨o, l.frz a o _ h⟩
  · rw [l.K]; exact .inr h
theorem RC.Le.sqT {c c' : RC} (l : c.Le c') {a : Addr} {xs : List V} (h : SqT c.K c.H a xs) : SqT c'.K c'.H a xs := by
  rcases h with h | h
  · exact .inl (l.tup a xs h)
  · rw [l.K]; exact .inr h
/-- later, but for what is not to be touched -/
structure RC.LeW (c c' : RC) : Prop where
  K : c'.K = c.K
  mg : c'.mg = c.mg
  Bn : ∀ a, c'.B a → c.B a ∨ c.H a = none
  pre : ∀ (n : Nat) (a : Addr), c.ρ[n]? = some a → c'.ρ[n]? = some a
  dom : ∀ a o, c.H a = some o → ∃ o', c'.H a = some o'
  keep : ∀ a o, c.H a = some o → (∀ ps, o ≠ .tbl ps) → ¬ c.B a → a ∉ c.ρ → c'.H a = some o ∧ a ∉ c'.ρ
  tup : ∀ a xs, Rd c.H a (.tup xs) → Rd c'.H a (.tup xs)
  frz : ∀ a o u, c.H a = some (.frz o u) → c'.H a = some (.frz o u)
theorem RC.Le.toW {c c' : RC} (l : c.Le c') : c.LeW c' := ⟨l.K, l.mg.e, l.Bn, l.pre, l.dom, fun a o h t _ n => l.keep a o h t n, l.tup, l.frz⟩
theorem RC.LeW.trans {a b c : RC} (x : a.LeW b) (y : b.LeW c) : a.LeW c :=
  ⟨y.K.trans x.K, y.mg.trans x.mg, fun p h => (by
    rcases y.Bn p h with h | h
    · exact x.Bn p h
    · cases q : a.H p with
      | none => exact .inr rfl
      | some o =>
        obtain ⟨o', e⟩ := x.dom p o q
        rw [h] at e
        cases e), fun n p h => y.pre n p (x.pre n p h), fun p o h => let ⟨o', e⟩ := x.dom p o h; y.dom p o' e, fun p o h t nb n => (by
    obtain ⟨h1, n1⟩ := x.keep p o h t nb n
    refine y.keep p o h1 t (fun z => ?_) n1
    rcases x.Bn p z with q | q
    · exact nb q
    · rw [h] at q; cases q), fun p xs h => y.tup p xs (x.tup p xs h), fun p o u h => y.frz p o u (x.frz p o u h)⟩
theorem RC.LeW.fr {c c' : RC} (l : c.LeW c') {a : Addr} {o : HO} (h : c.H a = some o) (ht : ∀ ps, o ≠ .tbl ps) (f : c.fr a) : c'.fr a :=
  ⟨fun z => (l.Bn a z).elim f.1 fun q => (by rw [h] at q; cases q), (l.keep a o h ht f.1 f.2).2⟩
theorem RC.LeW.lstH {c c' : RC} (l : c.LeW c') {a : Addr} {xs : List V} (h : c.H a = some (.lst xs)) (f : c.fr a) : c'.H a = some (.lst xs) ∧ c'.fr a :=
  ⟨(l.keep a _ h (fun _ z => by cases z) f.1 f.2).1, l.fr h (fun _ z => by cases z) f⟩
theorem RC.LeW.scrL {c c' : RC} (l : c.LeW c') {a : Addr} {xs : List V} (h : ScrL c.K c.H a xs) : ScrL c'.K c'.H a xs := by
  rcases h with ⟨o, h⟩ | h
  · exact .inl ⟨o, l.frz a o _ h⟩
  · rw [l.K]; exact .inr h
theorem RC.LeW.sqT {c c' : RC} (l : c.LeW c') {a : Addr} {xs : List V} (h : SqT c.K c.H a xs) : SqT c'.K c'.H a xs := by
  rcases h with h | h
  · exact .inl (l.tup a xs h)
  · rw [l.K]; exact .inr h
mutual
theorem Rep.leW {c c' : RC} (l : c.LeW c') : ∀ {d : D} {v : V}, Rep c d v → Rep c' d v
  | _, _, .non => .non
  | _, _, .bl b => .bl b
  | _, _, .int i => .int i
  | _, _, .str cs => .str cs
  | _, _, .tup h r => .tup (l.sqT h) (Reps.leW l r)
  | _, _, .lst h f r => .lst (l.lstH h f).1 (l.lstH h f).2 (Reps.leW l r)
  | _, _, .scr h r => .scr (l.scrL h) (Reps.leW l r)
  | _, _, .obj m h f r => .obj (by rw [l.mg]; exact m) (l.keep _ _ h (fun _ z => by cases z) f.1 f.2).1 (l.fr h (fun _ z => by cases z) f) (RepF.leW l r)
  | _, _, .ref h => .ref (l.pre _ _ h)
  | _, _, .dic h i f r => .dic (l.keep _ _ h i.tbl f.1 f.2).1 i (l.fr h i.tbl f) (RepP.leW l r)
  | _, _, .fn h f h2 f2 cr r => .fn (l.keep _ _ h lamHO_tbl f.1 f.2).1 (l.fr h lamHO_tbl f) (l.keep _ _ h2 LamX.codeO_ne f2.1 f2.2).1 (l.fr h2 LamX.codeO_ne f2) (cr.imp fun b o hb fb => ⟨(l.keep _ _ hb celHO_tbl fb.1 fb.2).1, l.fr hb celHO_tbl fb⟩) (Reps.leW l r)
  | _, _, .exc m h f h2 f2 r => .exc (by rw [l.mg]; exact m) (l.keep _ _ h excHO_tbl f.1 f.2).1 (l.fr h excHO_tbl f) (l.keep _ _ h2 (fun _ z => by cases z) f2.1 f2.2).1 (l.fr h2 (fun _ z => by cases z) f2) (RepF.leW l r)
theorem Reps.leW {c c' : RC} (l : c.LeW c') : ∀ {ds : List D} {vs : List V}, Reps c ds vs → Reps c' ds vs
  | _, _, .nil => .nil
  | _, _, .cons h t => .cons (Rep.leW l h) (Reps.leW l t)
theorem RepP.leW {c c' : RC} (l : c.LeW c') : ∀ {ds : List (List Key × D)} {vs : List (List Key × V)}, RepP c ds vs → RepP c' ds vs
  | _, _, .nil => .nil
  | _, _, .cons h t => .cons (Rep.leW l h) (RepP.leW l t)
theorem RepF.leW {c c' : RC} (l : c.LeW c') : ∀ {ds : List (Str × D)} {vs : List (Str × V)}, RepF c ds vs → RepF c' ds vs
  | _, _, .nil => .nil
  | _, _, .cons h t => .cons (Rep.leW l h) (RepF.leW l t)
end
mutual
theorem Rep.le {c c' : RC} (l : c.Le c') : ∀ {d : D} {v : V}, Rep c d v → Rep c' d v
  | _, _, .non => .non
  | _, _, .bl b => .bl b
  | _, _, .int i => .int i
  | _, _, .str cs => .str cs
  | _, _, .tup h r => .tup (l.sqT h) (Reps.le l r)
  | _, _, .lst h f r => .lst (l.lstH h f).1 (l.lstH h f).2 (Reps.le l r)
  | _, _, .scr h r => .scr (l.scrL h) (Reps.le l r)
  | _, _, .obj m h f r => .obj (by rw [l.mg.e']; exact m) (l.keep _ _ h (fun _ z => by cases z) f.2).1 (l.fr h (fun _ z => by cases z) f) (RepF.le l r)
  | _, _, .ref h => .ref (l.pre _ _ h)
  | _, _, .dic h i f r => .dic (l.keep _ _ h i.tbl f.2).1 i (l.fr h i.tbl f) (RepP.le l r)
  | _, _, .fn h f h2 f2 cr r => .fn (l.keep _ _ h lamHO_tbl f.2).1 (l.fr h lamHO_tbl f) (l.keep _ _ h2 LamX.codeO_ne f2.2).1 (l.fr h2 LamX.codeO_ne f2) (cr.imp fun b o hb fb => ⟨(l.keep _ _ hb celHO_tbl fb.2).1, l.fr hb celHO_tbl fb⟩) (Reps.le l r)
  | _, _, .exc m h f h2 f2 r => .exc (by rw [l.mg.e']; exact m) (l.keep _ _ h excHO_tbl f.2).1 (l.fr h excHO_tbl f) (l.keep _ _ h2 (fun _ z => by cases z) f2.2).1 (l.fr h2 (fun _ z => by cases z) f2) (RepF.le l r)
theorem Reps.le {c c' : RC} (l : c.Le c') : ∀ {ds : List D} {vs : List V}, Reps c ds vs → Reps c' ds vs
  | _, _, .nil => .nil
  | _, _, .cons h t => .cons (Rep.le l h) (Reps.le l t)
theorem RepP.le {c c' : RC} (l : c.Le c') : ∀ {ds : List (List Key × D)} {vs : List (List Key × V)}, RepP c ds vs → RepP c' ds vs
  | _, _, .nil => .nil
  | _, _, .cons h t => .cons (Rep.le l h) (RepP.le l t)
theorem RepF.le {c c' : RC} (l : c.Le c') : ∀ {ds : List (Str × D)} {vs : List (Str × V)}, RepF c ds vs → RepF c' ds vs
  | _, _, .nil => .nil
  | _, _, .cons h t => .cons (Rep.le l h) (RepF.le l t)
end
theorem Reps.length {c : RC} : ∀ {ds : List D} {vs : List V}, Reps c ds vs → ds.length = vs.length
  | _, _, .nil => rfl
  | _, _, .cons _ t => by rw [List.length_cons, List.length_cons, t.length]
theorem Reps.get {c : RC} : ∀ {ds : List D} {vs : List V} {i : Nat} {d : D}, Reps c ds vs → ds[i]? = some d → ∃ v, vs[i]? = some v ∧ Rep c d v
  | _, _, _, _, .nil, e => by simp at e
  | _, _, 0, d, .cons h _, e => by simp at e; subst e; exact ⟨_, rfl, h⟩
  | _, _, i + 1, d, .cons _ t, e => by
    obtain ⟨v, h1, h2⟩ := Reps.get (i := i) t (by simpa using e)
    exact ⟨v, by simpa using h1, h2⟩
theorem Reps.getV {c : RC} : ∀ {ds : List D} {vs : List V} {i : Nat} {v : V}, Reps c ds vs → vs[i]? = some v → ∃ d, ds[i]? = some d ∧ Rep c d v
  | _, _, _, _, .nil, e => by simp at e
  | _, _, 0, d, .cons h _, e => by simp at e; subst e; exact ⟨_, rfl, h⟩
  | _, _, i + 1, d, .cons _ t, e => by
    obtain ⟨v, h1, h2⟩ := Reps.getV (i := i) t (by simpa using e)
    exact ⟨v, by simpa using h1, h2⟩
theorem Reps.append {c : RC} : ∀ {ds es : List D} {vs us : List V}, Reps c ds vs → Reps c es us → Reps c (ds ++ es) (vs ++ us)
  | _, _, _, _, .nil, s => s
  | _, _, _, _, .cons h t, s => .cons h (t.append s)
theorem Reps.take {c : RC} : ∀ {ds : List D} {vs : List V} (n : Nat), Reps c ds vs → Reps c (ds.take n) (vs.take n)
  | _, _, 0, _ => .nil
  | _, _, _ + 1, .nil => .nil
  | _, _, n + 1, .cons h t => .cons h (t.take n)
theorem Reps.drop {c : RC} : ∀ {ds : List D} {vs : List V} (n : Nat), Reps c ds vs → Reps c (ds.drop n) (vs.drop n)
  | _, _, 0, r => r
  | _, _, _ + 1, .nil => .nil
  | _, _, n + 1, .cons _ t => t.drop n
theorem Reps.set {c : RC} {d : D} {v : V} (r : Rep c d v) : ∀ {ds : List D} {vs : List V} (n : Nat), Reps c ds vs → Reps c (ds.set n d) (vs.set n v)
  | _, _, _, .nil => .nil
  | _, _, 0, .cons _ t => .cons r t
  | _, _, n + 1, .cons h t => .cons h (t.set r n)
theorem RepF.look {c : RC} {f : Str} : ∀ {ds : List (Str × D)} {vs : List (Str × V)} {d : D}, RepF c ds vs → ds.lookup f = some d → ∃ v, vs.lookup f = some v ∧ Rep c d v
  | _, _, _, .nil, e => by simp at e
  | _, _, d, .cons (f := g) h t, e => by
    rw [List.lookup_cons] at e ⊢
    cases q : f == g with
    | true => rw [q] at e; cases e; exact ⟨_, rfl, h⟩
    | false => rw [q] at e; exact t.look e
theorem RepF.length {c : RC} : ∀ {ds : List (Str × D)} {vs : List (Str × V)}, RepF c ds vs → ds.length = vs.length
  | _, _, .nil => rfl
  | _, _, .cons _ t => by rw [List.length_cons, List.length_cons, t.length]
/-- a field is stored -/
def putD (f : Str) (d : D) : List (Str × D) → List (Str × D)
  | [] => [(f, d)]
  | (g, e) :: r => if g = f then (g, d) :: r else (g, e) :: putD f d r
inductive Cell where
  | lst (ds : List D)
  | dic (t : Bool) (kvs : List (List Key × D))
  | obj (C : Str) (fs : List (Str × D))
abbrev EH := List Cell
def CellR (c : RC) : Cell → Addr → Prop
  | .lst ds, a => ∃ xs, c.H a = some (.lst xs) ∧ Reps c ds xs
  | .dic t kvs, a => ∃ o zs, c.H a = some o ∧ isDic t o zs ∧ RepP c kvs zs
  | .obj C fs, a => ∃ Ca dx vs, c.mg C = some (.ref Ca) ∧ c.H a = some (.ins Ca dx vs) ∧ RepF c fs vs
structure SR (c : RC) (h : EH) : Prop where
  len : c.ρ.length = h.length
  nd : c.ρ.Nodup
  cells : ∀ (n : Nat) (a : Addr) (k : Cell), c.ρ[n]? = some a → h[n]? = some k → CellR c k a
  nb : ∀ a ∈ c.ρ, ¬ c.B a
  bt : ∀ a, c.B a → ∃ o, c.H a = some o
theorem CellR.le {c c' : RC} (l : c.Le c') {k : Cell} {a : Addr} (h : c'.H a = c.H a) (r : CellR c k a) : CellR c' k a := by
  cases k with
  | lst ds => obtain ⟨xs, e, q⟩ := r; exact ⟨xs, h.trans e, q.le l⟩
  | dic t kvs => obtain ⟨o, zs, e, i, q⟩ := r; exact ⟨o, zs, h.trans e, i, q.le l⟩
  | obj C fs => obtain ⟨Ca, dx, vs, m, e, q⟩ := r; exact ⟨Ca, dx, vs, by rw [l.mg.e']; exact m, h.trans e, q.le l⟩
theorem CellR.ex {c : RC} {k : Cell} {a : Addr} (r : CellR c k a) : ∃ o, c.H a = some o := by
  cases k with
  | lst ds => obtain ⟨xs, e, q⟩ := r; exact ⟨_, e⟩
  | dic t kvs => obtain ⟨o, zs, e, i, q⟩ := r; exact ⟨_, e⟩
  | obj C fs => obtain ⟨Ca, dx, vs, m, e, q⟩ := r; exact ⟨_, e⟩
theorem SR.ex {c : RC} {h : EH} (s : SR c h) {a : Addr} (ha : a ∈ c.ρ) : ∃ o, c.H a = some o := by
  obtain ⟨n, hn, e⟩ := List.mem_iff_getElem.mp ha
  have h1 : c.ρ[n]? = some a := by rw [List.getElem?_eq_getElem hn, e]
  have hn' : n < h.length := by rw [← s.len]; exact hn
  exact (s.cells n a _ h1 (List.getElem?_eq_getElem hn')).ex
theorem codeO_ext {H H' : Hp} {P : Addr} {q : Str} (t : LamX.TabS H P q) (h1 : H' P = H P) (h2 : ∀ a, H a = some (LamX.CodeO a q) → H' a = some (LamX.CodeO a q)) : LamX.TabS H' P q := by
  obtain ⟨ps, k1, k2, k3⟩ := t
  refine ⟨ps, h1.trans k1, k2, fun pos cv hc => ?_⟩
  obtain ⟨c, e1, e2⟩ := k3 pos cv hc
  exact ⟨c, e1, h2 c e2⟩
/-- at a stands no table, no code object -/
def NoTab (H : Hp) (a : Addr) : Prop := (∀ ps, H a ≠ some (.tbl ps)) ∧ ∀ q, H a ≠ some (LamX.CodeO a q)
theorem tabs_upd {c : RC} {p : Addr} {o : HO} {ρ : List Addr} {B : Addr → Prop} (h : NoTab c.H p) : c.tabs → ({ c with ρ := ρ, B := B, H := upd c.H p o } : RC).tabs := fun t q hq =>
  codeO_ext (t q hq) (by
    obtain ⟨ps, k1, _⟩ := t q hq
    exact upd_ne (fun z => h.1 ps (by rw [← z]; exact k1))) fun a e => (upd_ne (fun z => h.2 q.2 (by rw [← z]; exact e))).trans e
theorem noTab_none {H : Hp} {a : Addr} (h : H a = none) : NoTab H a := ⟨fun _ z => (by rw [h] at z; cases z), fun _ z => (by rw [h] at z; cases z)⟩
theorem noTab_of {H : Hp} {a : Addr} {o : HO} (h : H a = some o) (h1 : ∀ ps, o ≠ .tbl ps) (h2 : ∀ φ, o ≠ .ext φ) : NoTab H a := ⟨fun ps z => (by rw [h] at z; exact h1 ps (Option.some.inj z)), fun q z => (by rw [h] at z; exact h2 _ (Option.some.inj z))⟩
theorem CellR.noTab {c : RC} {k : Cell} {a : Addr} (r : CellR c k a) : NoTab c.H a := by
  cases k with
  | lst ds => obtain ⟨xs, e, q⟩ := r; exact noTab_of e (fun _ z => by cases z) (fun _ z => by cases z)
  | dic t kvs =>
    obtain ⟨o, zs, e, i, q⟩ := r
    refine noTab_of e i.tbl fun φ z => ?_
    subst z
    rcases i with ⟨_, _, z, _⟩ | ⟨_, z⟩ <;> cases z
  | obj C fs => obtain ⟨Ca, dx, vs, m, e, q⟩ := r; exact noTab_of e (fun _ z => by cases z) (fun _ z => by cases z)
theorem SR.noTab {c : RC} {h : EH} (s : SR c h) {n : Nat} {a : Addr} (hn : c.ρ[n]? = some a) : NoTab c.H a := by
  have hn' : n < h.length := by rw [← s.len]; exact (List.getElem?_eq_some_iff.mp hn).1
  exact (s.cells n a _ hn (List.getElem?_eq_getElem hn')).noTab
/-- a new object -/
theorem SR.new {c : RC} {h : EH} {p : Addr} {o : HO} (s : SR c h) (hp : c.H p = none) : c.Le (c.put p o) ∧ SR (c.put p o) h ∧ (c.put p o).fr p := by
  have np : p ∉ c.ρ := fun z => by
    obtain ⟨o, e⟩ := s.ex z
    rw [hp] at e; cases e
  have ne : ∀ a o, c.H a = some o → a ≠ p := fun a o e z => by rw [z, hp] at e; cases e
  have l : c.Le (c.put p o) := by
    refine ⟨rfl, ⟨rfl, tabs_upd (noTab_none hp)⟩, fun _ h => h, fun _ h => .inl h, fun a u e => ⟨u, (upd_ne (ne a u e)).trans e⟩, fun _ _ h => h, fun a u e _ n => ⟨(upd_ne (ne a u e)).trans e, n⟩, fun a xs e => ?_, fun a o u e => (upd_ne (ne a _ e)).trans e⟩
    rcases e with e | ⟨u, e⟩
    · exact .inl ((upd_ne (ne a _ e)).trans e)
    · exact .inr ⟨u, (upd_ne (ne a _ e)).trans e⟩
  refine ⟨l, ⟨s.len, s.nd, fun n a k e1 e2 => ?_, s.nb, fun a b => ?_⟩, fun b => ?_, np⟩
  · have r := s.cells n a k e1 e2
    obtain ⟨u, e⟩ := r.ex
    exact r.le l (upd_ne (ne a u e))
  · obtain ⟨u, e⟩ := s.bt a b
    exact ⟨u, (upd_ne (ne a u e)).trans e⟩
  · obtain ⟨u, e⟩ := s.bt p b
    rw [hp] at e; cases e
/-- the cell n is written -/
theorem SR.write {c : RC} {h : EH} {n : Nat} {a : Addr} {o : HO} {k : Cell} (s : SR c h) (hn : c.ρ[n]? = some a) (hnt : ∀ xs, ¬ Rd c.H a (.tup xs)) (hnf : ∀ o u, c.H a ≠ some (.frz o u)) (hk : ∀ c', c.Le c' → c'.H a = some o → CellR c' k a) :
    c.Le (c.put a o) ∧ SR (c.put a o) (h.set n k) := by
  have ha : a ∈ c.ρ := List.mem_of_getElem? hn
  have l : c.Le (c.put a o) := by
    refine ⟨rfl, ⟨rfl, tabs_upd (s.noTab hn)⟩, fun _ h => h, fun _ h => .inl h, fun b u e => ?_, fun _ _ h => h, fun b u e _ nb => ⟨?_, nb⟩, fun b xs e => ?_, fun b o u e => (upd_ne (show b ≠ a from fun z => hnf o u (by rw [← z]; exact e))).trans e⟩
    · by_cases z : b = a
      · exact ⟨o, by rw [z]; exact upd_same⟩
      · exact ⟨u, (upd_ne z).trans e⟩
    · exact (upd_ne (show b ≠ a from fun z => nb (by rw [z]; exact ha))).trans e
    · have nb : b ≠ a := fun z => hnt xs (z ▸ e)
      rcases e with e | ⟨u, e⟩
      · exact .inl ((upd_ne nb).trans e)
      · exact .inr ⟨u, (upd_ne nb).trans e⟩
  refine ⟨l, ⟨by rw [List.length_set]; exact s.len, s.nd, fun m b k' e1 e2 => ?_, s.nb, fun b hb => ?_⟩⟩
  · by_cases hm : m = n
    · subst hm
      have : b = a := by
        have e1' : c.ρ[m]? = some b := e1
        rw [hn] at e1'
        exact (Option.some.inj e1').symm
      subst this
      have hlt : m < h.length := by
        rw [← s.len]; exact (List.getElem?_eq_some_iff.mp hn).1
      rw [List.getElem?_set_self hlt] at e2
      cases e2
      exact hk _ l upd_same
    · rw [List.getElem?_set_ne (Ne.symm hm)] at e2
      have nb : b ≠ a := fun z => hm (by
        subst z
        obtain ⟨h1, e1'⟩ := List.getElem?_eq_some_iff.mp e1
        obtain ⟨h2, e2'⟩ := List.getElem?_eq_some_iff.mp hn
        exact (List.getElem_inj s.nd).mp (e1'.trans e2'.symm))
      exact (s.cells m b k' e1 e2).le l (upd_ne nb)
  · obtain ⟨u, e⟩ := s.bt b hb
    exact ⟨u, (upd_ne (show b ≠ a from fun z => s.nb a ha (by rw [← z]; exact hb))).trans e⟩
abbrev Ev := List (Option D)
structure EnvR (c : RC) (ε : Ev) (σ : L2.St) : Prop where
  len : ε.length = σ.length
  at_ : ∀ (i : Nat) (d : D), ε[i]? = some (some d) → ∃ v, σ[i]? = some (some v) ∧ Rep c d v
theorem EnvR.le {c c' : RC} (l : c.Le c') {ε : Ev} {σ : L2.St} (r : EnvR c ε σ) : EnvR c' ε σ :=
  ⟨r.len, fun i d e => let ⟨v, h1, h2⟩ := r.at_ i d e; ⟨v, h1, h2.le l⟩⟩
theorem EnvR.set {c : RC} {ε : Ev} {σ : L2.St} (r : EnvR c ε σ) {d : D} {v : V} (rv : Rep c d v) (i : Nat) : EnvR c (ε.set i (some d)) (σ.set i (some v)) := by
  refine ⟨by rw [List.length_set, List.length_set]; exact r.len, fun j e h => ?_⟩
  by_cases hj : i = j
  · subst hj
    have hi : i < ε.length := by
      have := (List.getElem?_eq_some_iff.mp h).1
      rwa [List.length_set] at this
    rw [List.getElem?_set_self hi] at h
    cases h
    exact ⟨v, by rw [List.getElem?_set_self (by rw [← r.len]; exact hi)], rv⟩
  · rw [List.getElem?_set_ne hj] at h
    obtain ⟨w, h1, h2⟩ := r.at_ j e h
    exact ⟨w, by rw [List.getElem?_set_ne hj]; exact h1, h2⟩
end PD
namespace PD
open PySem PySem.Spec PyProof.Rows L2
variable [LamTab]
structure Ex where
  cls : Str
  fs : List (Str × D)
inductive R (α : Type) where
  | ok (a : α)
  | ex (e : Ex)
abbrev O (α : Type) := Option (R α × EH)
def ExR (c : RC) (e : Ex) (cls : Value) (dx : Option Addr) : Prop := ∃ Ca d vs, cls = .ref Ca ∧ c.mg e.cls = some (.ref Ca) ∧ dx = some d ∧ c.H d = some (.xd vs) ∧ c.fr d ∧ RepF c e.fs vs
def bR {α β : Type} (x : O α) (f : α → EH → O β) : O β := match x with
  | some (.ok a, h) => f a h
  | some (.ex e, h) => some (.ex e, h)
  | none => none
theorem bR_ok {α β : Type} (a : α) (h : EH) (f : α → EH → O β) : bR (some (.ok a, h)) f = f a h := (rfl)
theorem bR_ex {α β : Type} (e : Ex) (h : EH) (f : α → EH → O β) : bR (some (.ex e, h)) f = some (.ex e, h) := (rfl)
/-- a value, the cells as they are -/
def rt {α : Type} (x : Option α) (h : EH) : O α := match x with
  | some a => some (.ok a, h)
  | none => none
theorem rt_some {α : Type} (a : α) (h : EH) : rt (some a) h = some (.ok a, h) := (rfl)
abbrev M (α : Type) := Ev → EH → O α
/-- what is wanted of an exception -/
def Px {α : Type} (W : WX) (c : RC) (σ : L2.St) (r : R α) (h' : EH) : Prop := ∀ x, r = .ex x → ∀ c' cls dx, c.Le c' → SR c' h' → ExR c' x cls dx → W cls dx σ c'.H
theorem Px.le {α : Type} {W : WX} {c c1 : RC} {σ : L2.St} {r : R α} {h' : EH} (p : Px W c σ r h') (l : c.Le c1) : Px W c1 σ r h' := fun x e c' cls dx l' s q => p x e c' cls dx (l.trans l') s q
theorem Px.ok {α : Type} {W : WX} {c : RC} {σ : L2.St} {a : α} {h' : EH} : Px W c σ (.ok a) h' := fun _ e => nomatch e
/-- the reading of a mirror -/
def tX {α β : Type} (Rl : RC → α → β → Prop) (K : PySem.W.Frag) (mg : Str → Option Value) (W : WX) (m : M α) : L2.St → Hp → (β → Hp → Prop) → Prop := fun σ H Q =>
  ∃ (c : RC) (ε : Ev) (h : EH) (r : R α) (h' : EH), c.K = K ∧ MgE c mg ∧ c.H = H ∧ SR c h ∧ EnvR c ε σ ∧ m ε h = some (r, h') ∧ Px W c σ r h' ∧
    ∀ a, r = .ok a → ∀ c' b, c.Le c' → SR c' h' → Rl c' a b → Q b c'.H
theorem tX.bind {α β γ : Type} {Rl : RC → α → β → Prop} {K : PySem.W.Frag} {mg : Str → Option Value} {W : WX} {m : M α} {k : α → EH → O γ} {c : RC} {ε : Ev} {h h' : EH} {r : R γ} {σ : L2.St} {Q : β → Hp → Prop}
    (hK : c.K = K) (hm : MgE c mg) (sr : SR c h) (er : EnvR c ε σ) (e : bR (m ε h) k = some (r, h')) (px : Px W c σ r h')
    (go : ∀ a h1 c1 b, k a h1 = some (r, h') → c.Le c1 → SR c1 h1 → Rl c1 a b → Q b c1.H) : tX Rl K mg W m σ c.H Q := by
  cases q : m ε h with
  | none => rw [q] at e; cases e
  | some z =>
    obtain ⟨r1, h1⟩ := z
    cases r1 with
    | ok a =>
      rw [q] at e
      exact ⟨c, ε, h, .ok a, h1, hK, hm, rfl, sr, er, q, Px.ok, fun a' ea c1 b l s rb => by cases ea; exact go a h1 c1 b e l s rb⟩
    | ex x =>
      rw [q] at e
      cases e
      exact ⟨c, ε, h, .ex x, _, hK, hm, rfl, sr, er, q, fun y ey => px y (by cases ey; rfl), fun a' ea => nomatch ea⟩
/-- the last step -/
theorem tX.last {α β : Type} {Rl : RC → α → β → Prop} {K : PySem.W.Frag} {mg : Str → Option Value} {W : WX} {m : M α} {c : RC} {ε : Ev} {h h' : EH} {r : R α} {σ : L2.St} {Q : β → Hp → Prop}
    (hK : c.K = K) (hm : MgE c mg) (sr : SR c h) (er : EnvR c ε σ) (e : m ε h = some (r, h')) (px : Px W c σ r h')
    (go : ∀ a, r = .ok a → ∀ c' b, c.Le c' → SR c' h' → Rl c' a b → Q b c'.H) : tX Rl K mg W m σ c.H Q := ⟨c, ε, h, r, h', hK, hm, rfl, sr, er, e, px, go⟩
abbrev tE := tX Rep
abbrev tT := tX (fun (_ : RC) (a b : Bool) => a = b)
abbrev tA := tX Reps
abbrev RE (X : Cx) (W : WX) (e : Expr) (m : M D) : Prop := PE X e (tE X.K X.mg W m)
abbrev RT (X : Cx) (W : WX) (e : Expr) (m : M Bool) : Prop := PT X e (tT X.K X.mg W m)
abbrev RW (X : Cx) (W : WX) (e : Expr) (m : M Bool) : Prop := PW X e (tT X.K X.mg W m)
abbrev RA (X : Cx) (W : WX) (es : List Expr) (m : M (List D)) : Prop := PA X es (tA X.K X.mg W m)
theorem pe_imp {X : Cx} {e : Expr} {t t' : TE} (h : PE X e t) (k : ∀ σ H Q, t' σ H Q → t σ H Q) : PE X e t' := ⟨fun pins s σ H Q I q => h.run pins s σ H Q I (k σ H Q q)⟩
theorem pt_imp {X : Cx} {e : Expr} {t t' : TT} (h : PT X e t) (k : ∀ σ H Q, t' σ H Q → t σ H Q) : PT X e t' := ⟨fun pins s σ H Q I q => h.run pins s σ H Q I (k σ H Q q)⟩
theorem pw_imp {X : Cx} {e : Expr} {t t' : TT} (h : PW X e t) (k : ∀ σ H Q, t' σ H Q → t σ H Q) : PW X e t' := ⟨fun wh pins s σ H Q I q => h.run wh pins s σ H Q I (k σ H Q q)⟩
theorem pa_imp {X : Cx} {es : List Expr} {t t' : TA} (h : PA X es t) (k : ∀ σ H Q, t' σ H Q → t σ H Q) : PA X es t' := ⟨fun pos pins s σ H Q I q => h.run pos pins s σ H Q I (k σ H Q q)⟩
def mVar (i : Nat) : M D := fun ε h => rt (ε.getD i none) h
def mC (d : D) : M D := fun _ h => some (.ok d, h)
section
variable {X : Cx} {W : WX}
theorem re_var (i : Nat) {x : Str} {pos : Pos} (hN : X.N[i]? = some x := by rfl) (hv : Vis X.env.scope x := by first | exact Or.inl rfl | exact Or.inr (Or.inl rfl) | exact Or.inr (Or.inr rfl)) (hd : (x == ("__debug__" : Str)) = false := by decide)
    (hcd : (x == ("__classdict__" : Str)) = false := by decide) : RE X W (.Name x pos) (mVar i) := by
  refine pe_imp (pe_var hN hv hd hcd) fun σ H Q h => ?_
  obtain ⟨c, ε, h, r, h', hK, hm, rfl, sr, er, e, px, go⟩ := h
  cases q : ε.getD i none with
  | none => rw [mVar, q] at e; cases e
  | some d =>
    rw [mVar, q] at e
    cases e
    have q2 : ε[i]? = some (some d) := by
      rw [List.getD_eq_getElem?_getD] at q
      cases z : ε[i]? with
      | none => rw [z] at q; cases q
      | some y => rw [z] at q; exact congrArg some q
    obtain ⟨v, h1, h2⟩ := er.at_ i d q2
    exact ⟨v, h1, go d rfl c v (.refl c) sr h2⟩
theorem re_c {e : Expr} {d : D} {v : V} (h : PE X e (tC v)) (r : ∀ c : RC, c.K = X.K → MgE c X.mg → Rep c d v) : RE X W e (mC d) := by
  refine pe_imp h fun σ H Q h => ?_
  obtain ⟨c, ε, h, r', h', hK, hm, rfl, sr, er, e, px, go⟩ := h
  cases e
  exact go d rfl c v (.refl c) sr (r c hK hm)
theorem re_int {i j pos} : RE X W (.Constant (.int i) j pos) (mC (.int i)) := re_c pe_int fun _ _ _ => .int i
theorem re_bl {b j pos} : RE X W (.Constant (.bool b) j pos) (mC (.bl b)) := re_c pe_bl fun _ _ _ => .bl b
theorem re_non {j pos} : RE X W (.Constant .none j pos) (mC .non) := re_c pe_non fun _ _ _ => .non
theorem re_str (cs : List Nat) {x j pos} (e : x.cps.toList = cs := by decide +kernel) : RE X W (.Constant (.str x) j pos) (mC (.str cs)) := re_c pe_str fun _ _ _ => by
  subst e
  exact .str x.cps.toList
/-- a constant of the module -/
def GlobC (K : PySem.W.Frag) (mg : Str → Option Value) (x : Str) (d : D) : Prop := ∃ u v, mg x = some u ∧ RelV v u ∧ ∀ c : RC, c.K = K → MgE c mg → Rep c d v
theorem re_glob {x : Str} {d : D} {pos : Pos} (g : GlobC X.K X.mg x d) (hg : Gl X x := by rfl) (hd : (x == ("__debug__" : Str)) = false := by decide) : RE X W (.Name x pos) (mC d) := by
  obtain ⟨u, v, hm, r, rp⟩ := g
  exact re_c (pe_glob hg hm r hd) rp
def OpS (K : PySem.W.Frag) (mg : Str → Option Value) (r : R2) (f : EH → D → D → Option D) : Prop := ∀ (c : RC) (h : EH) (x y : V) (dx dy d : D) (Q : VK), c.K = K → MgE c mg → SR c h → Rep c dx x → Rep c dy y → f h dx dy = some d →
  (∀ c' v, c.Le c' → SR c' h → Rep c' d v → Q v c'.H) → r x y c.H Q
def mBin (f : EH → D → D → Option D) (a b : M D) : M D := fun ε h => bR (a ε h) fun x h1 => bR (b ε h1) fun y h2 => rt (f h2 x y) h2
theorem top_of {K : PySem.W.Frag} {mg : Str → Option Value} {r : R2} {f : EH → D → D → Option D} {a b : M D} (hs : OpS K mg r f) {σ : L2.St} {H : Hp} {Q : VK} (h : tE K mg W (mBin f a b) σ H Q) : tOp r (tE K mg W a) (tE K mg W b) σ H Q := by
  obtain ⟨c, ε, h, r', h', hK, hm, rfl, sr, er, e, px, go⟩ := h
  unfold tOp
  refine tX.bind hK hm sr er e px fun dx h1 c1 x e1 l1 s1 r1 => ?_
  refine tX.bind (l1.K.trans hK) (l1.mg.trans hm) s1 (er.le l1) e1 (px.le l1) fun dy h2 c2 y e2 l2 s2 r2 => ?_
  cases q : f h2 dx dy with
  | none => rw [q] at e2; cases e2
  | some d =>
    rw [q] at e2
    cases e2
    exact hs c2 _ x y dx dy d Q ((l2.K.trans l1.K).trans hK) ((l2.mg.trans l1.mg).trans hm) s2 (r1.le l2) r2 q fun c' v l3 s3 r3 => go d rfl c' v ((l1.trans l2).trans l3) s3 r3
theorem re_bin {op : Operator} {r : R2} {f : EH → D → D → Option D} {a b : Expr} {ma mb : M D} {pos : Pos} (ho : OpR X (binaryOp op) r) (hs : OpS X.K X.mg r f) (ha : RE X W a ma) (hb : RE X W b mb) : RE X W (.BinOp a op b pos) (mBin f ma mb) :=
  pe_imp (pe_op ho ha hb) fun _ _ _ h => top_of hs h
theorem re_cmp {op : CmpOp} {r : R2} {f : EH → D → D → Option D} {a b : Expr} {ma mb : M D} {pos : Pos} (ho : OpR X (compareOp op) r) (hs : OpS X.K X.mg r f) (ha : RE X W a ma) (hb : RE X W b mb) (hmk : behindInMarks op b = false) : RE X W (.Compare a [op] [b] pos) (mBin f ma mb) :=
  pe_imp (pe_cmpR ho ha hb hmk) fun _ _ _ h => top_of hs h
/-- a bool as a test -/
def asB (d : D) : Option Bool := match d with
  | .bl b => some b
  | _ => none
def mTst (m : M D) : M Bool := fun ε h => bR (m ε h) fun x h1 => rt (asB x) h1
theorem tB_of {K : PySem.W.Frag} {mg : Str → Option Value} {m : M D} {σ : L2.St} {H : Hp} {Q : Bool → Hp → Prop} (h : tT K mg W (mTst m) σ H Q) : tE K mg W m σ H fun x H1 => ∃ c, x = .bl c ∧ Q c H1 := by
  obtain ⟨c, ε, h, r', h', hK, hm, rfl, sr, er, e, px, go⟩ := h
  refine tX.bind hK hm sr er e px fun dx h1 c1 x e1 l1 s1 r1 => ?_
  cases r1 with
  | bl b => cases e1; exact ⟨b, rfl, go b rfl c1 b l1 s1 rfl⟩
  | _ => cases e1
theorem rt_cmp {op : CmpOp} {r : R2} {f : EH → D → D → Option D} {a b : Expr} {ma mb : M D} {pos : Pos} (ho : OpR X (compareOp op) r) (hs : OpS X.K X.mg r f) (ha : RE X W a ma) (hb : RE X W b mb) (hmk : behindInMarks op b = false) : RT X W (.Compare a [op] [b] pos) (mTst (mBin f ma mb)) :=
  pt_imp (pt_cmpR ho ha hb hmk) fun σ H Q h => top_of hs (tB_of h)
theorem rt_val {e : Expr} {m : M D} (h : RE X W e m) (he : ∀ whole, isTrue e X.env whole = (do let v ← whole; standAt e.pos; holding [v] (truthy v)) := by intro _; rfl) : RT X W e (mTst m) :=
  pt_imp (pt_val h he) fun σ H Q h => tB_of h
def mNot (a : M Bool) : M Bool := fun ε h => bR (a ε h) fun b h1 => some (.ok (!b), h1)
def mAnd (a b : M Bool) : M Bool := fun ε h => bR (a ε h) fun x h1 => if x = true then b ε h1 else some (.ok false, h1)
def mOr (a b : M Bool) : M Bool := fun ε h => bR (a ε h) fun x h1 => if x = true then some (.ok true, h1) else b ε h1
def mIf {α : Type} (t : M Bool) (a b : M α) : M α := fun ε h => bR (t ε h) fun x h1 => if x = true then a ε h1 else b ε h1
theorem rt_not {a : Expr} {ma : M Bool} {pos : Pos} (ha : RT X W a ma) : RT X W (.UnaryOp .Not a pos) (mNot ma) := by
  refine pt_imp (pt_not ha) fun σ H Q h => ?_
  obtain ⟨c, ε, h, r', h', hK, hm, rfl, sr, er, e, px, go⟩ := h
  unfold tNot
  refine tX.bind hK hm sr er e px fun x h1 c1 b e1 l1 s1 r1 => ?_
  cases e1
  subst r1
  exact go _ rfl c1 _ l1 s1 rfl
theorem rw_and1 {a : Expr} {ma : M Bool} {pos : Pos} (ha : RT X W a ma) : RW X W (.BoolOp .And [a] pos) ma := pw_and1 ha
theorem rw_or1 {a : Expr} {ma : M Bool} {pos : Pos} (ha : RT X W a ma) : RW X W (.BoolOp .Or [a] pos) ma := pw_or1 ha
theorem rw_and {a b : Expr} {rest : List Expr} {ma mb : M Bool} {pos : Pos} (ha : RT X W a ma) (hb : RW X W (.BoolOp .And (b :: rest) pos) mb) : RW X W (.BoolOp .And (a :: b :: rest) pos) (mAnd ma mb) := by
  refine pw_imp (pw_and ha hb) fun σ H Q h => ?_
  obtain ⟨c, ε, h, r', h', hK, hm, rfl, sr, er, e, px, go⟩ := h
  unfold tAnd
  refine tX.bind hK hm sr er e px fun x h1 c1 b e1 l1 s1 r1 => ?_
  subst r1
  cases x with
  | true => exact tX.last (l1.K.trans hK) (l1.mg.trans hm) s1 (er.le l1) e1 (px.le l1) fun a ea c' b l s r => go a ea c' b (l1.trans l) s r
  | false => cases e1; exact go _ rfl c1 _ l1 s1 rfl
theorem rw_or {a b : Expr} {rest : List Expr} {ma mb : M Bool} {pos : Pos} (ha : RT X W a ma) (hb : RW X W (.BoolOp .Or (b :: rest) pos) mb) : RW X W (.BoolOp .Or (a :: b :: rest) pos) (mOr ma mb) := by
  refine pw_imp (pw_or ha hb) fun σ H Q h => ?_
  obtain ⟨c, ε, h, r', h', hK, hm, rfl, sr, er, e, px, go⟩ := h
  unfold tOr
  refine tX.bind hK hm sr er e px fun x h1 c1 b e1 l1 s1 r1 => ?_
  subst r1
  cases x with
  | false => exact tX.last (l1.K.trans hK) (l1.mg.trans hm) s1 (er.le l1) e1 (px.le l1) fun a ea c' b l s r => go a ea c' b (l1.trans l) s r
  | true => cases e1; exact go _ rfl c1 _ l1 s1 rfl
theorem rt_bool {e : Expr} {m : M Bool} (h : RW X W e m) : RT X W e m := PW.pt h
/-- .. as values -/
def mAndV (a b : M D) : M D := fun ε h => bR (a ε h) fun x h1 => match x with
  | .bl true => b ε h1
  | .bl false => some (.ok (.bl false), h1)
  | _ => none
def mOrV (a b : M D) : M D := fun ε h => bR (a ε h) fun x h1 => match x with
  | .bl true => some (.ok (.bl true), h1)
  | .bl false => b ε h1
  | _ => none
def mNotV (a : M D) : M D := fun ε h => bR (a ε h) fun x h1 => match x with
  | .bl b => some (.ok (.bl (!b)), h1)
  | _ => none
theorem re_one {op} {a : Expr} {ma : M D} {pos : Pos} (ha : RE X W a ma) : RE X W (.BoolOp op [a] pos) ma := pe_one ha
theorem re_and {a b : Expr} {rest : List Expr} {ma mb : M D} {pos : Pos} (ha : RE X W a ma) (hb : RE X W (.BoolOp .And (b :: rest) pos) mb) : RE X W (.BoolOp .And (a :: b :: rest) pos) (mAndV ma mb) := by
  refine pe_imp (pe_and ha hb) fun σ H Q h => ?_
  obtain ⟨c, ε, h, r', h', hK, hm, rfl, sr, er, e, px, go⟩ := h
  unfold tAndV
  refine tX.bind hK hm sr er e px fun x h1 c1 b e1 l1 s1 r1 => ?_
  cases r1 with
  | bl k =>
    cases k with
    | true => exact ⟨true, rfl, tX.last (l1.K.trans hK) (l1.mg.trans hm) s1 (er.le l1) e1 (px.le l1) fun a ea c' b l s r => go a ea c' b (l1.trans l) s r⟩
    | false => cases e1; exact ⟨false, rfl, go _ rfl c1 _ l1 s1 (.bl false)⟩
  | _ => cases e1
theorem re_or {a b : Expr} {rest : List Expr} {ma mb : M D} {pos : Pos} (ha : RE X W a ma) (hb : RE X W (.BoolOp .Or (b :: rest) pos) mb) : RE X W (.BoolOp .Or (a :: b :: rest) pos) (mOrV ma mb) := by
  refine pe_imp (pe_or ha hb) fun σ H Q h => ?_
  obtain ⟨c, ε, h, r', h', hK, hm, rfl, sr, er, e, px, go⟩ := h
  unfold tOrV
  refine tX.bind hK hm sr er e px fun x h1 c1 b e1 l1 s1 r1 => ?_
  cases r1 with
  | bl k =>
    cases k with
    | false => exact ⟨false, rfl, tX.last (l1.K.trans hK) (l1.mg.trans hm) s1 (er.le l1) e1 (px.le l1) fun a ea c' b l s r => go a ea c' b (l1.trans l) s r⟩
    | true => cases e1; exact ⟨true, rfl, go _ rfl c1 _ l1 s1 (.bl true)⟩
  | _ => cases e1
theorem re_not {a : Expr} {ma : M D} {pos : Pos} (ha : RE X W a ma) : RE X W (.UnaryOp .Not a pos) (mNotV ma) := by
  refine pe_imp (pe_not ha) fun σ H Q h => ?_
  obtain ⟨c, ε, h, r', h', hK, hm, rfl, sr, er, e, px, go⟩ := h
  unfold tNotV
  refine tX.bind hK hm sr er e px fun x h1 c1 b e1 l1 s1 r1 => ?_
  cases r1 with
  | bl k => cases e1; exact ⟨k, rfl, go _ rfl c1 _ l1 s1 (.bl _)⟩
  | _ => cases e1
theorem re_if {t a b : Expr} {mt : M Bool} {ma mb : M D} {pos : Pos} (ht : RT X W t mt) (ha : RE X W a ma) (hb : RE X W b mb) : RE X W (.IfExp t a b pos) (mIf mt ma mb) := by
  refine pe_imp (pe_ifExp ht ha hb) fun σ H Q h => ?_
  obtain ⟨c, ε, h, r', h', hK, hm, rfl, sr, er, e, px, go⟩ := h
  unfold tIf
  refine tX.bind hK hm sr er e px fun x h1 c1 b e1 l1 s1 r1 => ?_
  subst r1
  cases x with
  | true => exact tX.last (l1.K.trans hK) (l1.mg.trans hm) s1 (er.le l1) e1 (px.le l1) fun a ea c' b l s r => go a ea c' b (l1.trans l) s r
  | false => exact tX.last (l1.K.trans hK) (l1.mg.trans hm) s1 (er.le l1) e1 (px.le l1) fun a ea c' b l s r => go a ea c' b (l1.trans l) s r
def mNil : M (List D) := fun _ h => some (.ok [], h)
def mCons (a : M D) (b : M (List D)) : M (List D) := fun ε h => bR (a ε h) fun x h1 => bR (b ε h1) fun xs h2 => some (.ok (x :: xs), h2)
theorem ra_nil : RA X W [] mNil := by
  refine pa_imp pa_nil fun σ H Q h => ?_
  obtain ⟨c, ε, h, r', h', hK, hm, rfl, sr, er, e, px, go⟩ := h
  cases e
  exact go _ rfl c _ (.refl c) sr .nil
theorem ra_cons {e : Expr} {es : List Expr} {me : M D} {m : M (List D)} (ha : RE X W e me) (hr : RA X W es m) (hs : starEach (e :: es) X.env = (false, eval e X.env) :: starEach es X.env := by rfl) : RA X W (e :: es) (mCons me m) := by
  refine pa_imp (pa_cons ha hr hs) fun σ H Q h => ?_
  obtain ⟨c, ε, h, r', h', hK, hm, rfl, sr, er, e, px, go⟩ := h
  unfold tCons
  refine tX.bind hK hm sr er e px fun x h1 c1 b e1 l1 s1 r1 => ?_
  refine tX.bind (l1.K.trans hK) (l1.mg.trans hm) s1 (er.le l1) e1 (px.le l1) fun xs h2 c2 ys e2 l2 s2 r2 => ?_
  cases e2
  exact go _ rfl c2 _ (l1.trans l2) s2 (.cons (r1.le l2) r2)
def szL {α : Type} (ds : List α) (d : D) : Option D := if ds.length ≤ sizeLine then some d else none
def mTup (m : M (List D)) : M D := fun ε h => bR (m ε h) fun ds h1 => rt (szL ds (.tup ds)) h1
def mLst (m : M (List D)) : M D := fun ε h => bR (m ε h) fun ds h1 => rt (szL ds (.lst ds)) h1
theorem szL_some {α : Type} {ds : List α} {d e : D} (h : szL ds d = some e) : ds.length ≤ sizeLine ∧ e = d := by
  unfold szL at h
  split at h
  · exact ⟨by assumption, (Option.some.inj h).symm⟩
  · cases h
theorem re_tup {es : List Expr} {m : M (List D)} {x1 pos} (h : RA X W es m) : RE X W (.Tuple es x1 pos) (mTup m) := by
  refine pe_imp (pe_tup h) fun σ H Q h => ?_
  obtain ⟨c, ε, h, r', h', hK, hm, rfl, sr, er, e, px, go⟩ := h
  unfold tTup
  refine tX.bind hK hm sr er e px fun ds h1 c1 xs e1 l1 s1 r1 => ?_
  cases q : szL ds (.tup ds) with
  | none => rw [q] at e1; cases e1
  | some d =>
    rw [q] at e1
    cases e1
    obtain ⟨hz, rfl⟩ := szL_some q
    refine ⟨by rw [← r1.length]; exact hz, fun p hp => ?_⟩
    obtain ⟨l2, s2, f2⟩ := s1.new (o := .tup xs) hp
    exact go _ rfl _ _ (l1.trans l2) s2 (.tup (.inl (.inl upd_same)) (r1.le l2))
theorem re_lst {es : List Expr} {m : M (List D)} {pos} (h : RA X W es m) : RE X W (.List es pos) (mLst m) := by
  refine pe_imp (pe_lst h) fun σ H Q h => ?_
  obtain ⟨c, ε, h, r', h', hK, hm, rfl, sr, er, e, px, go⟩ := h
  unfold tLst
  refine tX.bind hK hm sr er e px fun ds h1 c1 xs e1 l1 s1 r1 => ?_
  cases q : szL ds (.lst ds) with
  | none => rw [q] at e1; cases e1
  | some d =>
    rw [q] at e1
    cases e1
    obtain ⟨hz, rfl⟩ := szL_some q
    refine ⟨by rw [← r1.length]; exact hz, fun p hp => ?_⟩
    obtain ⟨l2, s2, f2⟩ := s1.new (o := .lst xs) hp
    exact go _ rfl _ _ (l1.trans l2) s2 (.lst upd_same f2 (r1.le l2))
end
end PD
namespace PD
open PySem PySem.Spec PyProof.Rows L2
variable [LamTab]
/-- one's own list -/
def asO (h : EH) (d : D) : Option (List D) := match d with
  | .lst ds => some ds
  | .ref n => match h[n]? with
    | some (.lst ds) => some ds
    | _ => none
  | _ => none
/-- a list -/
def asL (h : EH) (d : D) : Option (List D) := match d with
  | .scr ds => some ds
  | d => asO h d
/-- a list or a tuple -/
def asS (h : EH) (d : D) : Option (List D) := match d with
  | .tup ds => some ds
  | d => asL h d
theorem asO_ok {c : RC} {h : EH} {d : D} {ds : List D} {v : V} (s : SR c h) (r : Rep c d v) (e : asO h d = some ds) : ∃ a xs, v = .ref a ∧ c.H a = some (.lst xs) ∧ Reps c ds xs := by
  cases r with
  | lst h1 f r => cases e; exact ⟨_, _, rfl, h1, r⟩
  | @ref n a hn =>
    unfold asO at e
    cases q : h[n]? with
    | none => simp only [q] at e; cases e
    | some k =>
      have cr := s.cells n a k hn q
      cases k with
      | lst es =>
        simp only [q] at e
        cases e
        obtain ⟨xs, e1, e2⟩ := cr
        exact ⟨a, xs, rfl, e1, e2⟩
      | _ => simp only [q] at e; cases e
  | _ => cases e
theorem asL_ok {c : RC} {h : EH} {d : D} {ds : List D} {v : V} (s : SR c h) (r : Rep c d v) (e : asL h d = some ds) : ∃ a xs, v = .ref a ∧ SqL c.K c.H a xs ∧ Reps c ds xs := by
  cases r with
  | scr h1 r => cases e; exact ⟨_, _, rfl, h1.sq, r⟩
  | lst h1 f r => cases e; exact ⟨_, _, rfl, .inl (.inl h1), r⟩
  | ref hn => obtain ⟨a, xs, e1, e2, e3⟩ := asO_ok s (.ref hn) e; exact ⟨a, xs, e1, .inl (.inl e2), e3⟩
  | _ => cases e
theorem asS_ok {c : RC} {h : EH} {d : D} {ds : List D} {v : V} (s : SR c h) (r : Rep c d v) (e : asS h d = some ds) : ∃ a xs, v = .ref a ∧ (SqL c.K c.H a xs ∨ SqT c.K c.H a xs) ∧ Reps c ds xs := by
  cases r with
  | tup h1 r => cases e; exact ⟨_, _, rfl, .inr h1, r⟩
  | scr h1 r => cases e; exact ⟨_, _, rfl, .inl h1.sq, r⟩
  | lst h1 f r => obtain ⟨a, xs, e1, e2, e3⟩ := asL_ok s (.lst h1 f r) e; exact ⟨a, xs, e1, .inl e2, e3⟩
  | ref hn => obtain ⟨a, xs, e1, e2, e3⟩ := asL_ok s (.ref hn) e; exact ⟨a, xs, e1, .inl e2, e3⟩
  | _ => cases e
/-- a new object's place: what one may say behind it -/
theorem put_ok {c : RC} {h : EH} (s : SR c h) {Q : VK} {d : D} {o : HO} (go : ∀ c' v, c.Le c' → SR c' h → Rep c' d v → Q v c'.H) (r : ∀ p, c.H p = none → c.Le (c.put p o) → (c.put p o).fr p → Rep (c.put p o) d (.ref p)) : ∀ p, c.H p = none → Q (.ref p) (upd c.H p o) := fun p hp => by
  obtain ⟨l, s', f⟩ := s.new (o := o) hp
  exact go _ _ l s' (r p hp l f)
theorem put_lst {c : RC} {h : EH} (s : SR c h) {Q : VK} {ds : List D} {xs : List V} (go : ∀ c' v, c.Le c' → SR c' h → Rep c' (.lst ds) v → Q v c'.H) (r : Reps c ds xs) : ∀ p, c.H p = none → Q (.ref p) (upd c.H p (.lst xs)) :=
  put_ok s go fun _ _ l f => .lst upd_same f (r.le l)
theorem put_tup {c : RC} {h : EH} (s : SR c h) {Q : VK} {ds : List D} {xs : List V} (go : ∀ c' v, c.Le c' → SR c' h → Rep c' (.tup ds) v → Q v c'.H) (r : Reps c ds xs) : ∀ p, c.H p = none → Q (.ref p) (upd c.H p (.tup xs)) :=
  put_ok s go fun _ _ l f => .tup (.inl (.inl upd_same)) (r.le l)
section
variable {K : PySem.W.Frag} {mg : Str → Option Value}
theorem OpS.or {r r' : R2} {f g : EH → D → D → Option D} (h : OpS K mg r f) (h' : OpS K mg r' g) : OpS K mg (fun x y H Q => r x y H Q ∨ r' x y H Q) (fun h x y => (f h x y).or (g h x y)) := by
  intro c eh x y dx dy d Q hK hm sr rx ry e go
  dsimp only at e
  cases q : f eh dx dy with
  | some z => rw [q] at e; cases e; exact .inl (h c eh x y dx dy _ Q hK hm sr rx ry q go)
  | none => rw [q] at e; exact .inr (h' c eh x y dx dy d Q hK hm sr rx ry e go)
def dI2 (f : Int → Int → Option D) : EH → D → D → Option D := fun _ x y => match x, y with
  | .int i, .int j => f i j
  | _, _ => none
theorem ops_I0 (g : Int → Int → Int) : OpS K mg (rI0 fun i j => .int (g i j)) (dI2 fun i j => some (.int (g i j))) := by
  intro c eh x y dx dy d Q hK hm sr rx ry e go
  cases rx with
  | int i =>
    cases ry with
    | int j => cases e; exact ⟨i, j, rfl, rfl, go c _ (.refl c) sr (.int _)⟩
    | _ => cases e
  | _ => cases e
theorem ops_B0 (g : Int → Int → Bool) : OpS K mg (rI0 fun i j => .bl (g i j)) (dI2 fun i j => some (.bl (g i j))) := by
  intro c eh x y dx dy d Q hK hm sr rx ry e go
  cases rx with
  | int i =>
    cases ry with
    | int j => cases e; exact ⟨i, j, rfl, rfl, go c _ (.refl c) sr (.bl _)⟩
    | _ => cases e
  | _ => cases e
theorem ops_IC (C : Int → Int → Prop) [∀ i j, Decidable (C i j)] (g : Int → Int → Int) : OpS K mg (rI C fun i j => .int (g i j)) (dI2 fun i j => if C i j then some (.int (g i j)) else none) := by
  intro c eh x y dx dy d Q hK hm sr rx ry e go
  cases rx with
  | int i =>
    cases ry with
    | int j =>
      have e' : (if C i j then some (D.int (g i j)) else none) = some d := e
      by_cases hc : C i j
      · rw [if_pos hc] at e'; cases e'; exact ⟨i, j, rfl, rfl, hc, go c _ (.refl c) sr (.int _)⟩
      · rw [if_neg hc] at e'; cases e'
    | _ => cases e
  | _ => cases e
instance (i j : Int) : Decidable (CMul i j) := by unfold CMul; infer_instance
instance (i j : Int) : Decidable (CDiv i j) := by unfold CDiv; infer_instance
instance (i j : Int) : Decidable (CPow i j) := by unfold CPow; infer_instance
def dCatS (_ : EH) (x y : D) : Option D := match x, y with
  | .str a, .str b => if a.length + b.length ≤ sizeLine then some (.str (a ++ b)) else none
  | _, _ => none
theorem ops_catS : OpS K mg (fun x y H Q => ∃ i j, x = V.str i ∧ y = V.str j ∧ i.length + j.length ≤ sizeLine ∧ Q (.str (i ++ j)) H) dCatS := by
  intro c eh x y dx dy d Q hK hm sr rx ry e go
  cases rx with
  | str a =>
    cases ry with
    | str b =>
      have e' : (if a.length + b.length ≤ sizeLine then some (D.str (a ++ b)) else none) = some d := e
      by_cases hc : a.length + b.length ≤ sizeLine
      · rw [if_pos hc] at e'
        cases e'
        refine ⟨_, _, rfl, rfl, by simpa [Str.length] using hc, ?_⟩
        have ee : (⟨a.toArray⟩ : Str) ++ (⟨b.toArray⟩ : Str) = ⟨(a ++ b).toArray⟩ := by
          show (⟨a.toArray ++ b.toArray⟩ : Str) = _
          simp
        rw [ee]
        exact go c _ (.refl c) sr (.str _)
      · rw [if_neg hc] at e'; cases e'
    | _ => cases e
  | _ => cases e
def dCatL (h : EH) (x y : D) : Option D := match asO h x with
  | some a => (match asO h y with
    | some b => if a.length + b.length ≤ sizeLine then some (.lst (a ++ b)) else none
    | none => none)
  | none => none
theorem ops_catL : OpS K mg rCat dCatL := by
  intro c eh x y dx dy d Q hK hm sr rx ry e go
  unfold dCatL at e
  cases q : asO eh dx with
  | none => rw [q] at e; cases e
  | some a =>
    rw [q] at e
    dsimp only at e
    cases q2 : asO eh dy with
    | none => rw [q2] at e; cases e
    | some b =>
      rw [q2] at e
      dsimp only at e
      by_cases hc : a.length + b.length ≤ sizeLine
      · rw [if_pos hc] at e
        cases e
        obtain ⟨l, xs, rfl, h1, r1⟩ := asO_ok sr rx q
        obtain ⟨m, ys, rfl, h2, r2⟩ := asO_ok sr ry q2
        exact ⟨l, m, xs, ys, rfl, rfl, h1, h2, by rw [← r1.length, ← r2.length]; exact hc, put_lst sr go (r1.append r2)⟩
      · rw [if_neg hc] at e; cases e
def dCatT (_ : EH) (x y : D) : Option D := match x, y with
  | .tup a, .tup b => if a.length + b.length ≤ sizeLine then some (.tup (a ++ b)) else none
  | _, _ => none
theorem ops_catT : OpS K mg (rCatA K) dCatT := by
  intro c eh x y dx dy d Q hK hm sr rx ry e go
  subst hK
  cases rx with
  | @tup a1 ds1 xs1 h1 r1 =>
    cases ry with
    | @tup a2 ds2 xs2 h2 r2 =>
      have e' : (if ds1.length + ds2.length ≤ sizeLine then some (D.tup (ds1 ++ ds2)) else none) = some d := e
      by_cases hc : ds1.length + ds2.length ≤ sizeLine
      · rw [if_pos hc] at e'
        cases e'
        have q1 := r1.length
        have q2 := r2.length
        refine ⟨_, _, _, _, rfl, rfl, h1, h2, by omega, fun z => ?_, fun _ z => ?_, fun _ _ => put_tup sr go (r1.append r2)⟩
        · subst z
          cases r1
          exact go c _ (.refl c) sr (.tup h2 r2)
        · subst z
          cases r2
          rw [List.append_nil] at go
          exact go c _ (.refl c) sr (.tup h1 r1)
      · rw [if_neg hc] at e'; cases e'
    | _ => cases e
  | _ => cases e
end
def toPD : D → Option PyData
  | .non => some .none
  | .bl b => some (.bool b)
  | .int i => some (.int i)
  | .str cs => some (.str ⟨cs.toArray⟩)
  | .tup ds => (go ds).map .tuple
  | .lst ds => (go ds).map .list
  | _ => none
where go : List D → Option (List PyData)
  | [] => some []
  | d :: ds => match toPD d, go ds with
    | some x, some xs => some (x :: xs)
    | _, _ => none
mutual
theorem toPD_ok {c : RC} : ∀ {d : D} {v : V} {p : PyData}, Rep c d v → toPD d = some p → Dp c.K c.H v p
  | _, _, p, .non, e => by cases e; exact .non
  | _, _, p, .bl b, e => by cases e; exact .bl b
  | _, _, p, .int i, e => by cases e; exact .int i
  | _, _, p, .str cs, e => by cases e; exact .str _
  | .tup ds, _, p, .tup h r, e => by
    rw [toPD] at e
    cases q : toPD.go ds with
    | none => rw [q] at e; cases e
    | some ps => rw [q] at e; cases e; exact .tup h (toPDs_ok r q)
  | .lst ds, _, p, .lst h f r, e => by
    rw [toPD] at e
    cases q : toPD.go ds with
    | none => rw [q] at e; cases e
    | some ps => rw [q] at e; cases e; exact .lst (.inl (.inl h)) (toPDs_ok r q)
  | _, _, p, .obj _ _ _ _, e => by cases e
  | _, _, p, .dic _ _ _ _, e => by cases e
  | _, _, p, .ref _, e => by cases e
  | _, _, p, .scr _ _, e => by cases e
theorem toPDs_ok {c : RC} : ∀ {ds : List D} {vs : List V} {ps : List PyData}, Reps c ds vs → toPD.go ds = some ps → DpAll c.K c.H vs ps
  | _, _, ps, .nil, e => by cases e; exact .nil
  | d :: ds, _, ps, .cons h t, e => by
    rw [toPD.go] at e
    cases q1 : toPD d with
    | none => rw [q1] at e; cases e
    | some x =>
      cases q2 : toPD.go ds with
      | none => rw [q1, q2] at e; cases e
      | some xs => rw [q1, q2] at e; cases e; exact .cons (toPD_ok h q1) (toPDs_ok t q2)
end
/-- two data compared -/
def dEqv (x y : D) : Option Bool := match toPD x, toPD y with
  | some p, some q => if SeqAt.shaped p = true ∧ SeqAt.shaped q = true then some (PyData.eqv p q) else none
  | _, _ => none
def dEqD (neg : Bool) : EH → D → D → Option D := fun _ x y => (dEqv x y).map fun b => .bl (neg != b)
section
variable {K : PySem.W.Frag} {mg : Str → Option Value}
theorem dEqv_ok {c : RC} {x y : D} {v u : V} {b : Bool} (rx : Rep c x v) (ry : Rep c y u) (e : dEqv x y = some b) : ∃ d e, Dp c.K c.H v d ∧ Dp c.K c.H u e ∧ SeqAt.shaped d = true ∧ SeqAt.shaped e = true ∧ PyData.eqv d e = b := by
  unfold dEqv at e
  cases q1 : toPD x with
  | none => rw [q1] at e; cases e
  | some p =>
    cases q2 : toPD y with
    | none => rw [q1, q2] at e; cases e
    | some q =>
      rw [q1, q2] at e
      have e' : (if SeqAt.shaped p = true ∧ SeqAt.shaped q = true then some (PyData.eqv p q) else none) = some b := e
      by_cases hc : SeqAt.shaped p = true ∧ SeqAt.shaped q = true
      · rw [if_pos hc] at e'
        exact ⟨p, q, toPD_ok rx q1, toPD_ok ry q2, hc.1, hc.2, Option.some.inj e'⟩
      · rw [if_neg hc] at e'; cases e'
theorem ops_eqD : OpS K mg (rEqD K) (dEqD false) := by
  intro c eh x y dx dy d Q hK hm sr rx ry e go
  subst hK
  unfold dEqD at e
  cases q : dEqv dx dy with
  | none => rw [q] at e; cases e
  | some b =>
    rw [q] at e
    obtain ⟨p, r, h1, h2, h3, h4, h5⟩ := dEqv_ok rx ry q
    cases e
    exact ⟨p, r, h1, h2, h3, h4, by rw [h5]; exact go c _ (.refl c) sr (by cases b <;> exact .bl _)⟩
theorem ops_neD : OpS K mg (rNeD K) (dEqD true) := by
  intro c eh x y dx dy d Q hK hm sr rx ry e go
  subst hK
  unfold dEqD at e
  cases q : dEqv dx dy with
  | none => rw [q] at e; cases e
  | some b =>
    rw [q] at e
    obtain ⟨p, r, h1, h2, h3, h4, h5⟩ := dEqv_ok rx ry q
    cases e
    exact ⟨p, r, h1, h2, h3, h4, by rw [h5]; exact go c _ (.refl c) sr (by cases b <;> exact .bl _)⟩
/-- scalars, without a look at their signs -/
def scalD : D → D → Option Bool
  | .non, .non => some true | .non, .int _ => some false | .int _, .non => some false | .non, .bl _ => some false | .bl _, .non => some false | .non, .str _ => some false | .str _, .non => some false
  | .int a, .int b => some (decide (a = b)) | .bl a, .bl b => some (decide (a = b)) | .str a, .str b => some (decide (a = b))
  | .int _, .str _ => some false | .str _, .int _ => some false | .bl _, .str _ => some false | .str _, .bl _ => some false
  | _, _ => none
theorem scalD_ok {c : RC} {x y : D} {v u : V} {b : Bool} (rx : Rep c x v) (ry : Rep c y u) (e : scalD x y = some b) : scal v u = true ∧ decide (v = u) = b := by
  cases rx <;> cases ry <;> first
    | (cases e; done)
    | (cases e; exact ⟨rfl, by simp⟩)
theorem ops_eqS : OpS K mg rEq (fun _ x y => (scalD x y).map D.bl) := by
  intro c eh x y dx dy d Q hK hm sr rx ry e go
  dsimp only at e
  cases q : scalD dx dy with
  | none => rw [q] at e; cases e
  | some b =>
    rw [q] at e
    cases e
    obtain ⟨h1, h2⟩ := scalD_ok rx ry q
    exact ⟨h1, by rw [h2]; exact go c _ (.refl c) sr (.bl b)⟩
theorem ops_neS : OpS K mg rNe (fun _ x y => (scalD x y).map fun b => D.bl (!b)) := by
  intro c eh x y dx dy d Q hK hm sr rx ry e go
  dsimp only at e
  cases q : scalD dx dy with
  | none => rw [q] at e; cases e
  | some b =>
    rw [q] at e
    cases e
    obtain ⟨h1, h2⟩ := scalD_ok rx ry q
    exact ⟨h1, by rw [h2]; exact go c _ (.refl c) sr (.bl _)⟩
def dEq : EH → D → D → Option D := fun h x y => ((scalD x y).map D.bl).or (dEqD false h x y)
def dNe : EH → D → D → Option D := fun h x y => ((scalD x y).map fun b => D.bl (!b)).or (dEqD true h x y)
end
end PD
namespace PD
open PySem PySem.Spec PyProof.Rows L2
variable [LamTab]
def flatD : D → Bool
  | .non => true
  | .bl _ => true
  | .int _ => true
  | .str _ => true
  | _ => false
def eqF : D → D → Bool
  | .non, .non => true
  | .bl a, .bl b => a == b
  | .bl a, .int b => (if a then 1 else 0) == b
  | .int a, .bl b => a == (if b then 1 else 0)
  | .int a, .int b => a == b
  | .str a, .str b => a == b
  | _, _ => false
theorem flat_ok {c : RC} {d : D} {v : V} (r : Rep c d v) : flatV v = flatD d := by cases r <;> rfl
theorem eqF_ok {c : RC} {d e : D} {v u : V} (r : Rep c d v) (q : Rep c e u) : eqV v u = eqF d e := by
  cases r <;> cases q <;> first
    | rfl
    | (rename_i a b
       show ((⟨a.toArray⟩ : Str) == ⟨b.toArray⟩) = (a == b)
       rw [Bool.eq_iff_iff]
       simp)
theorem flats_ok {c : RC} : ∀ {ds : List D} {vs : List V}, Reps c ds vs → vs.all flatV = ds.all flatD
  | _, _, .nil => rfl
  | _, _, .cons h t => by rw [List.all_cons, List.all_cons, flat_ok h, flats_ok t]
theorem inV_ok {c : RC} {x : D} {v : V} (r : Rep c x v) : ∀ {ds : List D} {vs : List V}, Reps c ds vs → inV v vs = ds.any fun y => eqF y x
  | _, _, .nil => rfl
  | _, _, .cons h t => by
    have ih := inV_ok r t
    unfold inV at ih ⊢
    rw [List.any_cons, List.any_cons, ih, eqF_ok h r]
def dIn (neg : Bool) (h : EH) (x y : D) : Option D := match asS h y with
  | some ds => if flatD x = true ∧ ds.all flatD = true then some (.bl (neg != ds.any fun z => eqF z x)) else none
  | none => none
def dInS (neg : Bool) (_ : EH) (x y : D) : Option D := match x, y with
  | .str a, .str z => (match a with
    | [c] => some (.bl (neg != decide (c ∈ z)))
    | _ => none)
  | _, _ => none
section
variable {K : PySem.W.Frag} {mg : Str → Option Value}
theorem ops_in (neg : Bool) : OpS K mg (rIn K neg) (dIn neg) := by
  intro c eh x y dx dy d Q hK hm sr rx ry e go
  subst hK
  unfold dIn at e
  cases q : asS eh dy with
  | none => rw [q] at e; cases e
  | some ds =>
    rw [q] at e
    dsimp only at e
    obtain ⟨a, xs, rfl, h1, r1⟩ := asS_ok sr ry q
    by_cases hc : flatD dx = true ∧ ds.all flatD = true
    · rw [if_pos hc] at e
      cases e
      refine ⟨a, xs, rfl, h1, (flat_ok rx).trans hc.1, (flats_ok r1).trans hc.2, ?_⟩
      rw [inV_ok rx r1]
      cases neg
      · exact go c _ (.refl c) sr (by simpa using Rep.bl _)
      · exact go c _ (.refl c) sr (by simpa using Rep.bl _)
    · rw [if_neg hc] at e; cases e
theorem ops_inS : OpS K mg (fun x y H Q => ∃ (c : Nat) (z : Str), x = V.str ⟨#[c]⟩ ∧ y = V.str z ∧ Q (.bl (decide (c ∈ z.cps.toList))) H) (dInS false) := by
  intro c eh x y dx dy d Q hK hm sr rx ry e go
  cases rx with
  | str a =>
    cases ry with
    | str b =>
      match a, e with
      | [k], e =>
        cases e
        exact ⟨k, _, rfl, rfl, go c _ (.refl c) sr (by simpa using Rep.bl _)⟩
    | _ => cases e
  | _ => cases e
theorem ops_ninS : OpS K mg (fun x y H Q => ∃ (c : Nat) (z : Str), x = V.str ⟨#[c]⟩ ∧ y = V.str z ∧ Q (.bl (!decide (c ∈ z.cps.toList))) H) (dInS true) := by
  intro c eh x y dx dy d Q hK hm sr rx ry e go
  cases rx with
  | str a =>
    cases ry with
    | str b =>
      match a, e with
      | [k], e =>
        cases e
        exact ⟨k, _, rfl, rfl, go c _ (.refl c) sr (by simpa using Rep.bl _)⟩
    | _ => cases e
  | _ => cases e
/-- is None, is not None -/
def isNon : D → Bool
  | .non => true
  | _ => false
def dIsN (neg : Bool) (_ : EH) (x y : D) : Option D := match y with
  | .non => some (.bl (neg != isNon x))
  | _ => none
theorem isNon_ok {c : RC} {d : D} {v : V} (r : Rep c d v) : decide (v = .non) = isNon d := by cases r <;> simp [isNon]
theorem ops_isN : OpS K mg (fun x y H Q => y = .non ∧ Q (.bl (decide (x = .non))) H) (dIsN false) := by
  intro c eh x y dx dy d Q hK hm sr rx ry e go
  cases ry with
  | non => cases e; exact ⟨rfl, by rw [isNon_ok rx]; exact go c _ (.refl c) sr (by simpa using Rep.bl _)⟩
  | _ => cases e
theorem ops_isnN : OpS K mg (fun x y H Q => y = .non ∧ Q (.bl (!decide (x = .non))) H) (dIsN true) := by
  intro c eh x y dx dy d Q hK hm sr rx ry e go
  cases ry with
  | non => cases e; exact ⟨rfl, by rw [isNon_ok rx]; exact go c _ (.refl c) sr (by simpa using Rep.bl _)⟩
  | _ => cases e
theorem atI_map {c : RC} {ds : List D} {xs : List V} {i : Int} {d : D} (r : Reps c ds xs) (e : atI ds i = some d) : ∃ v, atI xs i = some v ∧ Rep c d v := by
  unfold atI at e ⊢
  rw [← r.length]
  cases q : ixN ds.length i with
  | none => rw [q] at e; cases e
  | some j => rw [q] at e; exact r.get e
def dIx (h : EH) (x y : D) : Option D := match y with
  | .int i => (match x with
    | .str z => if z.length ≤ sizeLine then (atI z i).map fun k => .str [k] else none
    | x => match asS h x with
      | some ds => atI ds i
      | none => none)
  | _ => none
theorem ops_ix : OpS K mg (rIx K) dIx := by
  intro c eh x y dx dy d Q hK hm sr rx ry e go
  subst hK
  cases ry with
  | int i =>
    have fin : ∀ ds, asS eh dx = some ds → atI ds i = some d → rIx c.K x (.int i) c.H Q := fun ds q e => by
      obtain ⟨a, xs, rfl, h1, r1⟩ := asS_ok sr rx q
      obtain ⟨v, h2, r2⟩ := atI_map r1 e
      rcases h1 with h1 | h1
      · exact .inl ⟨a, xs, i, v, rfl, rfl, h1, h2, go c v (.refl c) sr r2⟩
      · exact .inr (.inl ⟨a, xs, i, v, rfl, rfl, h1, h2, go c v (.refl c) sr r2⟩)
    cases rx with
    | str z =>
      have e' : (if z.length ≤ sizeLine then (atI z i).map fun k => D.str [k] else none) = some d := e
      by_cases hc : z.length ≤ sizeLine
      · rw [if_pos hc] at e'
        cases q : atI z i with
        | none => rw [q] at e'; cases e'
        | some k =>
          rw [q] at e'
          cases e'
          exact .inr (.inr ⟨_, i, k, rfl, rfl, by simpa [Str.length] using hc, by simpa using q, go c _ (.refl c) sr (.str [k])⟩)
      · rw [if_neg hc] at e'; cases e'
    | @tup a ds xs h1 r1 => exact fin ds rfl e
    | @lst a ds xs h1 f r1 => exact fin ds rfl e
    | @scr a ds xs h1 r1 => exact fin ds rfl e
    | @ref n a hn =>
      cases q : asS eh (.ref n) with
      | none => unfold dIx at e; simp only [q] at e; cases e
      | some ds => unfold dIx at e; simp only [q] at e; exact fin ds q e
    | _ => cases e
  | _ => cases e
end
def cutD {α : Type} (xs : List α) (lo hi : Option Int) : List α := (xs.drop (HT.sIx xs.length 0 lo)).take (HT.sIx xs.length xs.length hi - HT.sIx xs.length 0 lo)
def mNoP : M (Option Int) := fun _ h => some (.ok none, h)
def mSmP (m : M D) : M (Option Int) := fun ε h => bR (m ε h) fun x h1 => match x with
  | .int i => some (.ok (some i), h1)
  | _ => none
def tO (K : PySem.W.Frag) (mg : Str → Option Value) (W : WX) := tX (α := Option Int) (fun (_ : RC) a b => a = b) K mg W
abbrev RO (X : Cx) (W : WX) (e : Option Expr) (m : M (Option Int)) : Prop := PO X e (tO X.K X.mg W m)
theorem po_imp {X : Cx} {e : Option Expr} {t t' : TO} (h : PO X e t) (k : ∀ σ H Q, t' σ H Q → t σ H Q) : PO X e t' := ⟨fun pins s σ H Q I q => h.run pins s σ H Q I (k σ H Q q)⟩
def dSl (h : EH) (x : D) (lo hi : Option Int) : Option D := match x with
  | .str z => if z.length ≤ sizeLine then some (.str (cutD z lo hi)) else none
  | .tup ds => some (.tup (cutD ds lo hi))
  | x => match asL h x with
    | some ds => some (.lst (cutD ds lo hi))
    | none => none
def mSl (a : M D) (lo hi : M (Option Int)) : M D := fun ε h => bR (a ε h) fun x h1 => bR (lo ε h1) fun l h2 => bR (hi ε h2) fun u h3 => rt (dSl h3 x l u) h3
section
variable {X : Cx} {W : WX}
theorem ro_none : RO X W none mNoP := by
  refine po_imp po_none fun σ H Q h => ?_
  obtain ⟨c, ε, h, r', h', hK, hm, rfl, sr, er, e, px, go⟩ := h
  cases e
  exact go _ rfl c _ (.refl c) sr rfl
theorem ro_some {e : Expr} {m : M D} (h : RE X W e m) : RO X W (some e) (mSmP m) := by
  refine po_imp (po_some h) fun σ H Q h => ?_
  obtain ⟨c, ε, h, r', h', hK, hm, rfl, sr, er, e, px, go⟩ := h
  unfold tPart
  refine tX.bind hK hm sr er e px fun x h1 c1 b e1 l1 s1 r1 => ?_
  cases r1 with
  | int i => cases e1; exact ⟨i, rfl, go _ rfl c1 _ l1 s1 rfl⟩
  | _ => cases e1
end
end PD
namespace PD
open PySem PySem.Spec PyProof.Rows L2
variable [LamTab]
section
variable {X : Cx} {W : WX}
theorem cutV_reps {c : RC} {ds : List D} {xs : List V} (r : Reps c ds xs) (lo hi : Option Int) : Reps c (cutD ds lo hi) (cutV xs lo hi) := by
  unfold cutD cutV
  rw [← r.length]
  exact (r.drop _).take _
theorem cutS_cutD (z : List Nat) (lo hi : Option Int) : cutS ⟨z.toArray⟩ lo hi = ⟨(cutD z lo hi).toArray⟩ := by
  unfold cutS cutD
  simp [Str.length]
theorem re_slice {a : Expr} {lo hi : Option Expr} {ma : M D} {ml mh : M (Option Int)} {p2 pos : Pos} (ha : RE X W a ma) (hl : RO X W lo ml) (hh : RO X W hi mh) : RE X W (.Subscript a (.Slice lo hi none p2) pos) (mSl ma ml mh) := by
  refine pe_imp (pe_slice (sl_list.or (sl_tupA.or sl_str)) ha hl hh) fun σ H Q h => ?_
  obtain ⟨c, ε, h, r', h', hK, hm, rfl, sr, er, e, px, go⟩ := h
  unfold tSl
  refine tX.bind hK hm sr er e px fun x h1 c1 v e1 l1 s1 r1 => ?_
  refine tX.bind (l1.K.trans hK) (l1.mg.trans hm) s1 (er.le l1) e1 (px.le l1) fun lo' h2 c2 lo2 e2 l2 s2 r2 => ?_
  refine tX.bind ((l2.K.trans l1.K).trans hK) ((l2.mg.trans l1.mg).trans hm) s2 ((er.le l1).le l2) e2 ((px.le l1).le l2) fun hi' h3 c3 hi2 e3 l3 s3 r3 => ?_
  subst r2 r3
  have r1' := (r1.le l2).le l3
  have hK3 : c3.K = X.K := ((l3.K.trans l2.K).trans l1.K).trans hK
  cases q : dSl h3 x lo' hi' with
  | none => rw [q] at e3; cases e3
  | some d =>
    rw [q] at e3
    cases e3
    have go' : ∀ c' v, c3.Le c' → SR c' _ → Rep c' d v → Q v c'.H := fun c' v l s r => go d rfl c' v (((l1.trans l2).trans l3).trans l) s r
    have fin : ∀ ds, asL _ x = some ds → some (D.lst (cutD ds lo' hi')) = some d → rSlL X.K v lo' hi' c3.H Q := fun ds q e => by
      cases e
      obtain ⟨a, xs, rfl, h1, r1⟩ := asL_ok s3 r1' q
      exact ⟨a, xs, rfl, (by rw [← hK3]; exact h1), put_lst s3 go' (cutV_reps r1 lo' hi')⟩
    cases r1' with
    | str z =>
      have e' : (if z.length ≤ sizeLine then some (D.str (cutD z lo' hi')) else none) = some d := q
      by_cases hc : z.length ≤ sizeLine
      · rw [if_pos hc] at e'
        cases e'
        exact .inr (.inr ⟨_, rfl, by simpa [Str.length] using hc, by rw [cutS_cutD]; exact go' c3 _ (.refl c3) s3 (.str _)⟩)
      · rw [if_neg hc] at e'; cases e'
    | @tup a ds xs k1 k2 =>
      cases q
      refine .inr (.inl ⟨a, xs, rfl, by rw [← hK3]; exact k1, fun hw => ?_, fun _ => put_tup s3 go' (cutV_reps k2 lo' hi')⟩)
      have ez : cutD ds lo' hi' = ds := by
        unfold cutD
        rw [k2.length, hw.1, hw.2, List.drop_zero, Nat.sub_zero, List.take_of_length_le (by rw [k2.length]; exact Nat.le_refl _)]
      exact go' c3 _ (.refl c3) s3 (by rw [ez]; exact .tup k1 k2)
    | @lst a ds xs k1 k2 k3 => exact .inl (fin ds rfl q)
    | @scr a ds xs k1 k2 => exact .inl (fin ds rfl q)
    | @ref n a hn =>
      have q' : (match asL h' (D.ref n) with
        | some ds => some (D.lst (cutD ds lo' hi'))
        | none => none) = some d := q
      cases q2 : asL h' (D.ref n) with
      | none => rw [q2] at q'; cases q'
      | some ds => rw [q2] at q'; exact .inl (fin ds q2 q')
    | _ => cases q
def CallS (K : PySem.W.Frag) (mg : Str → Option Value) (r : List V → Hp → VK → Prop) (f : EH → List D → Option D) : Prop := ∀ (c : RC) (h : EH) (xs : List V) (ds : List D) (d : D) (Q : VK), c.K = K → MgE c mg → SR c h → Reps c ds xs → f h ds = some d →
  (∀ c' v, c.Le c' → SR c' h → Rep c' d v → Q v c'.H) → r xs c.H Q
def mCall (f : EH → List D → Option D) (a : M (List D)) : M D := fun ε h => bR (a ε h) fun xs h1 => rt (f h1 xs) h1
theorem tcb_of {K : PySem.W.Frag} {mg : Str → Option Value} {r : List V → Hp → VK → Prop} {f : EH → List D → Option D} {a : M (List D)} (hs : CallS K mg r f) {σ : L2.St} {H : Hp} {Q : VK} (h : tE K mg W (mCall f a) σ H Q) : tCB r (tA K mg W a) σ H Q := by
  obtain ⟨c, ε, h, r', h', hK, hm, rfl, sr, er, e, px, go⟩ := h
  unfold tCB
  refine tX.bind hK hm sr er e px fun ds h1 c1 xs e1 l1 s1 r1 => ?_
  cases q : f h1 ds with
  | none => rw [q] at e1; cases e1
  | some d =>
    rw [q] at e1
    cases e1
    exact hs c1 _ xs ds d Q (l1.K.trans hK) (l1.mg.trans hm) s1 r1 q fun c' v l s r => go d rfl c' v (l1.trans l) s r
variable {e : Expr} {es : List Expr} {x : Str} {p pos : Pos} {ma : M (List D)} {id : String} {T : String} {r : List V → Hp → VK → Prop} {f : EH → List D → Option D}
theorem re_callB (hc : CallR X (.builtin id) r) (hs : CallS X.K X.mg r f) (hm : X.mg x = none) (ha : RA X W (e :: es) ma) (hv : bootBuiltins x = some (.builtin id) := by decide +kernel) (hg : Gl X x := by rfl) (hn : x ≠ "__name__" := by decide) (hdb : (x == ("__debug__" : Str)) = false := by decide)
    (he : starEach (e :: es) X.env = (false, eval e X.env) :: starEach es X.env := by rfl) (hpl : (backTo pos (starEach es X.env)).any (·.1) = false := by rfl) : RE X W (.Call (.Name x p) (e :: es) [] pos) (mCall f ma) :=
  pe_imp (pe_callB hc hg hm hv ha hn hdb he hpl) fun _ _ _ h => tcb_of hs h
theorem re_callTy (hc : CallR X (.type T) r) (hs : CallS X.K X.mg r f) (hm : X.mg x = none) (ha : RA X W (e :: es) ma) (hv : bootBuiltins x = some (.type T) := by decide +kernel) (hg : Gl X x := by rfl) (hn : x ≠ "__name__" := by decide) (hdb : (x == ("__debug__" : Str)) = false := by decide)
    (he : starEach (e :: es) X.env = (false, eval e X.env) :: starEach es X.env := by rfl) (hpl : (backTo pos (starEach es X.env)).any (·.1) = false := by rfl) : RE X W (.Call (.Name x p) (e :: es) [] pos) (mCall f ma) :=
  pe_imp (pe_callTy hc hg hm hv ha hn hdb he hpl) fun _ _ _ h => tcb_of hs h
end
section
variable {K : PySem.W.Frag} {mg : Str → Option Value}
def dLen1 (h : EH) (d : D) : Option D := match d with
  | .str z => if z.length ≤ sizeLine then some (.int z.length) else none
  | d => (match asS h d with
    | some xs => some (.int xs.length)
    | none => none)
def dLen (h : EH) (ds : List D) : Option D := match ds with
  | [d] => dLen1 h d
  | _ => none
theorem cs_len : CallS K mg (fun xs H Q => ∃ x n, xs = [x] ∧ LenV K x H n ∧ Q (.int n) H) dLen := by
  intro c eh xs ds d Q hK hm sr rx e go
  subst hK
  match ds, rx, e with
  | [d0], .cons r0 .nil, e =>
    have fin : ∀ v xs, Rep c d0 v → asS eh d0 = some xs → d = .int xs.length → ∃ x n, [v] = [x] ∧ LenV c.K x c.H n ∧ Q (.int n) c.H := fun v xs r0 q eq => by
      subst eq
      obtain ⟨a, ys, rfl, h1, r1⟩ := asS_ok sr r0 q
      refine ⟨_, ys.length, rfl, ?_, ?_⟩
      · rcases h1 with h1 | h1
        · exact .inl ⟨ys, h1, rfl⟩
        · exact .inr ⟨ys, h1, rfl⟩
      · rw [← r1.length]; exact go c _ (.refl c) sr (.int _)
    cases r0 with
    | str z =>
      have e' : (if z.length ≤ sizeLine then some (D.int z.length) else none) = some d := e
      by_cases hc : z.length ≤ sizeLine
      · rw [if_pos hc] at e'
        cases e'
        exact ⟨_, z.length, rfl, ⟨by simpa [Str.length] using hc, by simp [Str.length]⟩, go c _ (.refl c) sr (.int _)⟩
      · rw [if_neg hc] at e'; cases e'
    | @tup a ds xs h1 r1 => exact fin _ ds (.tup h1 r1) rfl (by cases e; rfl)
    | @lst a ds xs h1 f r1 => exact fin _ ds (.lst h1 f r1) rfl (by cases e; rfl)
    | @scr a ds xs h1 r1 => exact fin _ ds (.scr h1 r1) rfl (by cases e; rfl)
    | @ref n a hn =>
      have e' : (match asS eh (D.ref n) with
        | some xs => some (D.int xs.length)
        | none => none) = some d := e
      cases q : asS eh (.ref n) with
      | none => rw [q] at e'; cases e'
      | some ds => rw [q] at e'; exact fin _ ds (.ref hn) q (by cases e'; rfl)
    | _ => cases e
  | [], _, e => cases e
  | _ :: _ :: _, _, e => cases e
def dInt1 (d : D) : Option D := match d with
  | .int i => some (.int i)
  | .bl k => some (.int (if k then 1 else 0))
  | .str z => if z.length ≤ 640 then (PySem.intText? ⟨z.toArray⟩).map .int else none
  | _ => none
def dInt (_ : EH) (ds : List D) : Option D := match ds with
  | [d] => dInt1 d
  | _ => none
theorem cs_int : CallS K mg (fun xs H Q => ((∃ i, xs = [.int i] ∧ Q (.int i) H) ∨ ∃ k, xs = [.bl k] ∧ Q (.int (if k then 1 else 0)) H) ∨ (∃ a n, xs = [.str a] ∧ PySem.intText? a = some n ∧ a.length ≤ 640 ∧ Q (.int n) H)) dInt := by
  intro c eh xs ds d Q hK hm sr rx e go
  match ds, rx, e with
  | [d0], .cons r0 .nil, e =>
    cases r0 with
    | int i => cases e; exact .inl (.inl ⟨i, rfl, go c _ (.refl c) sr (.int _)⟩)
    | bl k => cases e; exact .inl (.inr ⟨k, rfl, go c _ (.refl c) sr (.int _)⟩)
    | str z =>
      have e' : (if z.length ≤ 640 then (PySem.intText? ⟨z.toArray⟩).map D.int else none) = some d := e
      by_cases hc : z.length ≤ 640
      · rw [if_pos hc] at e'
        cases q : PySem.intText? ⟨z.toArray⟩ with
        | none => rw [q] at e'; cases e'
        | some n => rw [q] at e'; cases e'; exact .inr ⟨_, n, rfl, q, by simpa [Str.length] using hc, go c _ (.refl c) sr (.int _)⟩
      · rw [if_neg hc] at e'; cases e'
    | _ => cases e
  | [], _, e => cases e
  | _ :: _ :: _, _, e => cases e
/-- the digits of an int -/
def decI (i : Int) : List Nat := (toString i).toList.map Char.toNat
def dStr1 (d : D) : Option D := match d with
  | .int i => if i.natAbs.log2 < 1920 then some (.str (decI i)) else none
  | .str z => some (.str z)
  | _ => none
def dStr (_ : EH) (ds : List D) : Option D := match ds with
  | [d] => dStr1 d
  | _ => none
theorem cs_str : CallS K mg (fun xs H Q => (∃ i, xs = [.int i] ∧ i.natAbs.log2 < 1920 ∧ Q (.str (toString i)) H) ∨ (∃ a, xs = [.str a] ∧ Q (.str a) H)) dStr := by
  intro c eh xs ds d Q hK hm sr rx e go
  match ds, rx, e with
  | [d0], .cons r0 .nil, e =>
    cases r0 with
    | int i =>
      have e' : (if i.natAbs.log2 < 1920 then some (D.str (decI i)) else none) = some d := e
      by_cases hc : i.natAbs.log2 < 1920
      · rw [if_pos hc] at e'
        cases e'
        have es : (Str.ofString (toString i)) = ⟨(decI i).toArray⟩ := by
          rw [Str.ofString_eq_toList]
          rfl
        exact .inl ⟨i, rfl, hc, by rw [es]; exact go c _ (.refl c) sr (.str _)⟩
      · rw [if_neg hc] at e'; cases e'
    | str z => cases e; exact .inr ⟨_, rfl, go c _ (.refl c) sr (.str _)⟩
    | _ => cases e
  | [], _, e => cases e
  | _ :: _ :: _, _, e => cases e
def dList (h : EH) (ds : List D) : Option D := match ds with
  | [d] => (match asS h d with
    | some xs => some (.lst xs)
    | none => none)
  | _ => none
theorem cs_list : CallS K mg (fun xs H Q => ∃ p ys, xs = [.ref p] ∧ (SqL K H p ys ∨ SqT K H p ys) ∧ ∀ l, H l = none → Q (.ref l) (upd H l (.lst ys))) dList := by
  intro c eh xs ds d Q hK hm sr rx e go
  subst hK
  match ds, rx, e with
  | [d0], .cons r0 .nil, e =>
    cases q : asS eh d0 with
    | none => unfold dList at e; simp only [q] at e; cases e
    | some xs =>
      unfold dList at e
      simp only [q] at e
      cases e
      obtain ⟨a, ys, rfl, h1, r1⟩ := asS_ok sr r0 q
      exact ⟨a, ys, rfl, h1, put_lst sr go r1⟩
  | [], _, e => cases e
  | _ :: _ :: _, _, e => cases e
def dTuple (h : EH) (ds : List D) : Option D := match ds with
  | [d] => (match asS h d with
    | some xs => some (.tup xs)
    | none => none)
  | _ => none
def asBs : List D → Option (List Bool)
  | [] => some []
  | .bl b :: ds => (asBs ds).map (b :: ·)
  | _ :: _ => none
theorem asBs_ok {c : RC} : ∀ {ds : List D} {xs : List V} {bs : List Bool}, Reps c ds xs → asBs ds = some bs → xs = bs.map V.bl
  | _, _, bs, .nil, e => by cases e; rfl
  | _, _, bs, .cons h t, e => by
    cases h with
    | bl b =>
      unfold asBs at e
      rename_i ds vs
      cases q : asBs ds with
      | none => rw [q] at e; cases e
      | some cs => rw [q] at e; cases e; rw [asBs_ok t q]; rfl
    | _ => cases e
def dAll (h : EH) (ds : List D) : Option D := match ds with
  | [d] => (match asL h d with
    | some xs => (asBs xs).map fun bs => .bl (bs.all id)
    | none => none)
  | _ => none
def dAny (h : EH) (ds : List D) : Option D := match ds with
  | [d] => (match asL h d with
    | some xs => (asBs xs).map fun bs => .bl (bs.any id)
    | none => none)
  | _ => none
theorem cs_all : CallS K mg (rAll K) dAll := by
  intro c eh xs ds d Q hK hm sr rx e go
  subst hK
  match ds, rx, e with
  | [d0], .cons r0 .nil, e =>
    cases q : asL eh d0 with
    | none => unfold dAll at e; simp only [q] at e; cases e
    | some xs =>
      unfold dAll at e
      simp only [q] at e
      obtain ⟨a, ys, rfl, h1, r1⟩ := asL_ok sr r0 q
      cases q2 : asBs xs with
      | none => rw [q2] at e; cases e
      | some bs => rw [q2] at e; cases e; exact ⟨a, bs, rfl, by rw [← asBs_ok r1 q2]; exact h1, go c _ (.refl c) sr (.bl _)⟩
  | [], _, e => cases e
  | _ :: _ :: _, _, e => cases e
end
end PD
namespace PD
open PySem PySem.Spec PyProof.Rows L2
variable [LamTab]
inductive RS where
  | nx (ε : Ev)
  | rt (d : D)
  | bk (ε : Ev)
  | ct (ε : Ev)
  | ex (e : Ex) (ε : Ev)
abbrev MS := Ev → EH → Option (RS × EH)
/-- what is wanted of a statement's end -/
def Fin (W : WX) (D : Ends) (c : RC) (r : RS) (h' : EH) : Prop := match r with
  | .nx ε' => ∀ c' σ', c.Le c' → SR c' h' → EnvR c' ε' σ' → D.nx σ' c'.H
  | .rt d => ∀ c' v, c.Le c' → SR c' h' → Rep c' d v → D.rt v c'.H
  | .bk ε' => ∀ c' σ', c.Le c' → SR c' h' → EnvR c' ε' σ' → D.bk σ' c'.H
  | .ct ε' => ∀ c' σ', c.Le c' → SR c' h' → EnvR c' ε' σ' → D.ct σ' c'.H
  | .ex e ε' => ∀ c' σ' cls dx, c.Le c' → SR c' h' → EnvR c' ε' σ' → ExR c' e cls dx → W cls dx σ' c'.H
theorem Fin.le {W : WX} {D : Ends} {c c1 : RC} {r : RS} {h' : EH} (f : Fin W D c r h') (l : c.Le c1) : Fin W D c1 r h' := by
  cases r with
  | nx ε' => exact fun c' σ' l' => f c' σ' (l.trans l')
  | rt d => exact fun c' v l' => f c' v (l.trans l')
  | bk ε' => exact fun c' σ' l' => f c' σ' (l.trans l')
  | ct ε' => exact fun c' σ' l' => f c' σ' (l.trans l')
  | ex e ε' => exact fun c' σ' cls dx l' => f c' σ' cls dx (l.trans l')
def tS (K : PySem.W.Frag) (mg : Str → Option Value) (W : WX) (m : MS) : TS := fun D σ H =>
  ∃ (c : RC) (ε : Ev) (h : EH) (r : RS) (h' : EH), c.K = K ∧ MgE c mg ∧ c.H = H ∧ SR c h ∧ EnvR c ε σ ∧ m ε h = some (r, h') ∧ Fin W D c r h'
abbrev RSt (X : Cx) (W : WX) (st : Stmt) (m : MS) : Prop := PS X st (tS X.K X.mg W m)
abbrev RSs (X : Cx) (W : WX) (sts : List Stmt) (m : MS) : Prop := PSs X sts (tS X.K X.mg W m)
theorem ps_imp {X : Cx} {st : Stmt} {t t' : TS} (h : PS X st t) (k : ∀ D σ H, t' D σ H → t D σ H) : PS X st t' := ⟨fun pins s σ H D I q => h.run pins s σ H D I (k D σ H q)⟩
theorem pss_imp {X : Cx} {st : List Stmt} {t t' : TS} (h : PSs X st t) (k : ∀ D σ H, t' D σ H → t D σ H) : PSs X st t' := ⟨fun pins s σ H D I q => h.run pins s σ H D I (k D σ H q)⟩
/-- an expression, then a statement's end -/
def bS {α : Type} (x : O α) (ε : Ev) (f : α → EH → Option (RS × EH)) : Option (RS × EH) := match x with
  | some (.ok a, h) => f a h
  | some (.ex e, h) => some (.ex e ε, h)
  | none => none
theorem tX.stm {α β : Type} {Rl : RC → α → β → Prop} {K : PySem.W.Frag} {mg : Str → Option Value} {W : WX} {m : M α} {k : α → EH → Option (RS × EH)} {c : RC} {ε : Ev} {h h' : EH} {r : RS} {σ : L2.St} {D : Ends} {Q : β → Hp → Prop}
    (hK : c.K = K) (hm : MgE c mg) (sr : SR c h) (er : EnvR c ε σ) (e : bS (m ε h) ε k = some (r, h')) (fin : Fin W D c r h')
    (go : ∀ a h1 c1 b, k a h1 = some (r, h') → c.Le c1 → SR c1 h1 → Rl c1 a b → Q b c1.H) : tX Rl K mg W m σ c.H Q := by
  cases q : m ε h with
  | none => rw [q] at e; cases e
  | some z =>
    obtain ⟨r1, h1⟩ := z
    cases r1 with
    | ok a =>
      rw [q] at e
      exact ⟨c, ε, h, .ok a, h1, hK, hm, rfl, sr, er, q, Px.ok, fun a' ea c1 b l s rb => by cases ea; exact go a h1 c1 b e l s rb⟩
    | ex x =>
      rw [q] at e
      cases e
      exact ⟨c, ε, h, .ex x, _, hK, hm, rfl, sr, er, q, fun y ey c' cls dx l s xr => by cases ey; exact fin c' σ cls dx l s (er.le l) xr, fun a' ea => nomatch ea⟩
section
variable {X : Cx} {W : WX}
def msNil : MS := fun ε h => some (.nx ε, h)
def msSeq (a b : MS) : MS := fun ε h => match a ε h with
  | some (.nx ε1, h1) => b ε1 h1
  | some (r, h1) => some (r, h1)
  | none => none
theorem rss_nil : RSs X W [] msNil := by
  refine pss_imp pss_nil fun D σ H h => ?_
  obtain ⟨c, ε, h, r, h', hK, hm, rfl, sr, er, e, fin⟩ := h
  cases e
  exact fin c σ (.refl c) sr er
theorem seq_of {K : PySem.W.Frag} {mg : Str → Option Value} {m1 m2 : MS} {D : Ends} {σ : L2.St} {H : Hp} (h : tS K mg W (msSeq m1 m2) D σ H) : tSeq (tS K mg W m1) (tS K mg W m2) D σ H := by
  obtain ⟨c, ε, h, r, h', hK, hm, rfl, sr, er, e, fin⟩ := h
  unfold msSeq at e
  cases q : m1 ε h with
  | none => rw [q] at e; cases e
  | some z =>
    obtain ⟨r1, h1⟩ := z
    rw [q] at e
    refine ⟨c, ε, h, r1, h1, hK, hm, rfl, sr, er, q, ?_⟩
    cases r1 with
    | nx ε1 => exact fun c' σ' l s en => ⟨c', ε1, h1, r, h', l.K.trans hK, l.mg.trans hm, rfl, s, en, e, fin.le l⟩
    | rt d => cases e; exact fin
    | bk ε' => cases e; exact fin
    | ct ε' => cases e; exact fin
    | ex x ε' => cases e; exact fin
theorem rss_cons {st : Stmt} {rest : List Stmt} {m1 m2 : MS} (h1 : RSt X W st m1) (h2 : RSs X W rest m2) : RSs X W (st :: rest) (msSeq m1 m2) :=
  pss_imp (pss_cons h1 h2) fun _ _ _ h => seq_of h
theorem rss_one {st : Stmt} {m : MS} (h : RSt X W st m) : RSs X W [st] m := pss_one h
def msRet (a : M D) : MS := fun ε h => bS (a ε h) ε fun d h1 => some (.rt d, h1)
theorem rs_ret {e : Expr} {m : M D} {pos : Pos} (he : RE X W e m) : RSt X W (.Return (some e) pos) (msRet m) := by
  refine ps_imp (ps_ret he) fun D σ H h => ?_
  obtain ⟨c, ε, h, r, h', hK, hm, rfl, sr, er, e, fin⟩ := h
  unfold tRet
  refine tX.stm hK hm sr er e fin fun d h1 c1 v e1 l1 s1 r1 => ?_
  cases e1
  exact fin c1 v l1 s1 r1
def msIf (t : M Bool) (a b : MS) : MS := fun ε h => bS (t ε h) ε fun k h1 => if k = true then a ε h1 else b ε h1
theorem rs_if {t : Expr} {a b : List Stmt} {mt : M Bool} {ma mb : MS} {pos : Pos} (ht : RT X W t mt) (ha : RSs X W a ma) (hb : RSs X W b mb) : RSt X W (.If t a b pos) (msIf mt ma mb) := by
  refine ps_imp (ps_if ht ha hb) fun D σ H h => ?_
  obtain ⟨c, ε, h, r, h', hK, hm, rfl, sr, er, e, fin⟩ := h
  unfold tIfS
  refine tX.stm hK hm sr er e fin fun k h1 c1 v e1 l1 s1 r1 => ?_
  subst r1
  cases k with
  | true => exact ⟨c1, ε, h1, r, h', l1.K.trans hK, l1.mg.trans hm, rfl, s1, er.le l1, e1, fin.le l1⟩
  | false => exact ⟨c1, ε, h1, r, h', l1.K.trans hK, l1.mg.trans hm, rfl, s1, er.le l1, e1, fin.le l1⟩
def msExpr (a : M D) : MS := fun ε h => bS (a ε h) ε fun _ h1 => some (.nx ε, h1)
theorem rs_expr {e : Expr} {m : M D} {pos : Pos} (he : RE X W e m) (hs : swapsWith e none pos.line X.env = pure false := by rfl) : RSt X W (.Expr e pos) (msExpr m) := by
  refine ps_imp (ps_expr he hs) fun D σ H h => ?_
  obtain ⟨c, ε, h, r, h', hK, hm, rfl, sr, er, e, fin⟩ := h
  unfold tDrop
  refine tX.stm hK hm sr er e fin fun k h1 c1 v e1 l1 s1 r1 => ?_
  cases e1
  exact fin c1 σ l1 s1 (er.le l1)
def msBk : MS := fun ε h => some (.bk ε, h)
def msCt : MS := fun ε h => some (.ct ε, h)
abbrev MG := D → Ev → EH → Option (Ev × EH)
abbrev MGs := List D → Ev → EH → Option (Ev × EH)
/-- the slots but S are as they were -/
structure Save (S : List Nat) (σ σ' : L2.St) : Prop where
  len : σ'.length = σ.length
  at_ : ∀ i, i ∉ S → σ'[i]? = σ[i]?
theorem Save.refl {S : List Nat} {σ : L2.St} : Save S σ σ := ⟨rfl, fun _ _ => rfl⟩
def tG (K : PySem.W.Frag) (mg : Str → Option Value) (S : List Nat) (m : MG) : TG := fun v σ H Q => ∃ (c : RC) (d : D) (ε : Ev) (h : EH) (ε' : Ev) (h' : EH), c.K = K ∧ MgE c mg ∧ c.H = H ∧ SR c h ∧ Rep c d v ∧ EnvR c ε σ ∧ m d ε h = some (ε', h') ∧ ∀ c' σ', c.Le c' → SR c' h' → EnvR c' ε' σ' → Save S σ σ' → Q σ' c'.H
def tGs (K : PySem.W.Frag) (mg : Str → Option Value) (S : List Nat) (m : MGs) : TGs := fun vs σ H Q => ∃ (c : RC) (ds : List D) (ε : Ev) (h : EH) (ε' : Ev) (h' : EH), c.K = K ∧ MgE c mg ∧ c.H = H ∧ SR c h ∧ Reps c ds vs ∧ EnvR c ε σ ∧ m ds ε h = some (ε', h') ∧ ∀ c' σ', c.Le c' → SR c' h' → EnvR c' ε' σ' → Save S σ σ' → Q σ' c'.H
abbrev RG (X : Cx) (tg : Expr) (S : List Nat) (m : MG) : Prop := PG X tg (tG X.K X.mg S m)
abbrev RGs (X : Cx) (tgs : List Expr) (S : List Nat) (m : MGs) : Prop := PGs X tgs (tGs X.K X.mg S m)
theorem pg_imp {X : Cx} {tg : Expr} {t t' : TG} (h : PG X tg t) (k : ∀ v σ H Q, t' v σ H Q → t v σ H Q) : PG X tg t' := ⟨fun pins s σ H v u Q I r q => h.run pins s σ H v u Q I r (k v σ H Q q)⟩
theorem pgs_imp {X : Cx} {tg : List Expr} {t t' : TGs} (h : PGs X tg t) (k : ∀ v σ H Q, t' v σ H Q → t v σ H Q) : PGs X tg t' := ⟨fun pins s σ H v u Q I r q => h.run pins s σ H v u Q I r (k v σ H Q q)⟩
def mgName (i : Nat) : MG := fun d ε h => some (ε.set i (some d), h)
theorem rg_name (i : Nat) {x : Str} {pos : Pos} (hN : X.N.Nodup) (hi : X.N[i]? = some x := by rfl) (hx : Loc X.env.scope x := by first | exact Or.inl rfl | exact Or.inr rfl) (hf : X.fn x = true ∨ X.env.scope.names.lookup x = some .local := by first | exact .inl rfl | exact .inr rfl | assumption) : RG X (.Name x pos) [i] (mgName i) := by
  refine pg_imp (pg_name hN hi hx hf) fun v σ H Q h => ?_
  obtain ⟨c, d, ε, h, ε', h', hK, hm, rfl, sr, rv, er, e, go⟩ := h
  cases e
  exact go c _ (.refl c) sr (er.set rv i) ⟨List.length_set, fun j hj => List.getElem?_set_ne (fun z => hj (by simp [z]))⟩
def mgNil : MGs := fun ds ε h => match ds with
  | [] => some (ε, h)
  | _ :: _ => none
def mgCons (a : MG) (b : MGs) : MGs := fun ds ε h => match ds with
  | [] => none
  | d :: r => match a d ε h with
    | some (ε1, h1) => b r ε1 h1
    | none => none
theorem rgs_nil : RGs X [] [] mgNil := by
  refine pgs_imp pgs_nil fun vs σ H Q h => ?_
  obtain ⟨c, ds, ε, h, ε', h', hK, hm, rfl, sr, rv, er, e, go⟩ := h
  cases rv with
  | nil => cases e; exact ⟨rfl, go c σ (.refl c) sr er .refl⟩
  | cons _ _ => cases e
theorem rgs_cons {e : Expr} {es : List Expr} {S T : List Nat} {a : MG} {b : MGs} (h1 : RG X e S a) (h2 : RGs X es T b) (hs : (assignEach (e :: es) X.env).map (·.2) = assign e X.env :: (assignEach es X.env).map (·.2) := by rfl) : RGs X (e :: es) (S ++ T) (mgCons a b) := by
  refine pgs_imp (pgs_cons h1 h2 hs) fun vs σ H Q h => ?_
  obtain ⟨c, ds, ε, h, ε', h', hK, hm, rfl, sr, rv, er, e, go⟩ := h
  cases rv with
  | nil => cases e
  | @cons d ds v vs r t =>
    have e' : (match a d ε h with
      | some (ε1, h1) => b ds ε1 h1
      | none => none) = some (ε', h') := e
    cases q : a d ε h with
    | none => rw [q] at e'; cases e'
    | some z =>
      obtain ⟨ε1, h1⟩ := z
      rw [q] at e'
      exact ⟨v, vs, rfl, c, d, ε, h, ε1, h1, hK, hm, rfl, sr, r, er, q, fun c' σ' l s en sv => ⟨c', ds, ε1, h1, ε', h', l.K.trans hK, l.mg.trans hm, rfl, s, t.le l, en, e', fun c2 σ2 l2 s2 en2 sv2 => go c2 σ2 (l.trans l2) s2 en2
        ⟨sv2.len.trans sv.len, fun i hi => (sv2.at_ i fun z => hi (List.mem_append_right _ z)).trans (sv.at_ i fun z => hi (List.mem_append_left _ z))⟩⟩⟩
/-- (a, b, ..) = a tuple of that length -/
def mgTup (n : Nat) (ms : MGs) : MG := fun d ε h => match d with
  | .tup ds => if ds.length = n then ms ds ε h else none
  | _ => none
theorem rg_tup {es : List Expr} {k : Nat} {S : List Nat} {ms : MGs} {pos : Pos} {n : Nat} (hc : X.calm = true) (h : RGs X es S ms) (hn : (assignEach es X.env).length = n := by rfl) (hst : (assignEach es X.env).findIdx? (·.1) = none := by rfl) : RG X (.Tuple es k pos) S (mgTup n ms) := by
  refine pg_imp (pg_tup hc h hn hst) fun v σ H Q h => ?_
  obtain ⟨c, d, ε, h, ε', h', hK, hm, rfl, sr, rv, er, e, go⟩ := h
  cases rv with
  | @tup a ds xs k1 k2 =>
    have e' : (if ds.length = n then ms ds ε h else none) = some (ε', h') := e
    by_cases hl : ds.length = n
    · rw [if_pos hl] at e'
      exact ⟨a, xs, rfl, by rw [← hK]; exact k1, by rw [← k2.length]; exact hl, c, ds, ε, h, ε', h', hK, hm, rfl, sr, k2, er, e', go⟩
    · rw [if_neg hl] at e'; cases e'
  | _ => cases e
/-- o[i] = v, o a list cell -/
def putL (h : EH) (o i v : D) : Option EH := match o, i with
  | .ref n, .int k => (match h[n]? with
    | some (.lst ds) => (match ixN ds.length k with
      | some j => some (h.set n (.lst (ds.set j v)))
      | none => none)
    | _ => none)
  | _, _ => none
def mgSub (o i : M D) : MG := fun v ε h => match o ε h with
  | some (.ok x, h1) => (match i ε h1 with
    | some (.ok y, h2) => (putL h2 x y v).map fun h3 => (ε, h3)
    | _ => none)
  | _ => none
theorem rg_sub {o i : Expr} {mo mi : M D} {pos : Pos} {W : WX} (ho : RE X W o mo) (hi : RE X W i mi)
    (ha : ∀ v, assign (.Subscript o i pos) X.env v = (do
      let ov ← holding [v] (eval o X.env)
      let iv ← holding [v, ov] (eval i X.env)
      standAt pos
      holding [v, ov, iv] (setItem ov iv v)
      release [v, ov, iv] []) := by intro _; rfl) : RG X (.Subscript o i pos) [] (mgSub mo mi) := by
  refine pg_imp (pg_sub ho hi set_list ha) fun v σ H Q h => ?_
  obtain ⟨c, d, ε, h, ε', h', hK, hm, rfl, sr, rv, er, e, go⟩ := h
  unfold mgSub at e
  cases q : mo ε h with
  | none => rw [q] at e; cases e
  | some z =>
    obtain ⟨r1, h1⟩ := z
    cases r1 with
    | ex x => rw [q] at e; cases e
    | ok x =>
      rw [q] at e
      dsimp only at e
      refine ⟨c, ε, h, .ok x, h1, hK, hm, rfl, sr, er, q, Px.ok, fun x' ex c1 ov l1 s1 r1 => ?_⟩
      cases ex
      cases q2 : mi ε h1 with
      | none => rw [q2] at e; cases e
      | some z =>
        obtain ⟨r2, h2⟩ := z
        cases r2 with
        | ex x => rw [q2] at e; cases e
        | ok y =>
          rw [q2] at e
          dsimp only at e
          refine ⟨c1, ε, h1, .ok y, h2, l1.K.trans hK, l1.mg.trans hm, rfl, s1, er.le l1, q2, Px.ok, fun y' ey c2 iv l2 s2 r2 => ?_⟩
          cases ey
          cases q3 : putL h2 x y d with
          | none => rw [q3] at e; cases e
          | some h3 =>
            rw [q3] at e
            cases e
            cases r2 with
            | int k =>
              have r1' := r1.le l2
              cases r1' with
              | @ref n a hn =>
                unfold putL at q3
                dsimp only at q3
                cases q4 : h2[n]? with
                | none => rw [q4] at q3; cases q3
                | some cl =>
                  rw [q4] at q3
                  cases cl with
                  | lst ds =>
                    dsimp only at q3
                    obtain ⟨xs, e1, e2⟩ := s2.cells n a _ hn q4
                    cases q5 : ixN ds.length k with
                    | none => rw [q5] at q3; cases q3
                    | some j =>
                      rw [q5] at q3
                      cases q3
                      refine ⟨a, xs, k, j, rfl, rfl, e1, by rw [← e2.length]; exact q5, ?_⟩
                      have rv2 : Rep c2 d v := (rv.le l1).le l2
                      obtain ⟨l3, s3⟩ := s2.write (o := .lst (xs.set j v)) (k := .lst (ds.set j d)) hn (fun ys z => by
                        rcases z with z | ⟨u, z⟩ <;> rw [e1] at z <;> cases z) (fun o u z => by rw [e1] at z; cases z) fun c' l' eh => ⟨_, eh, (e2.le l').set (rv2.le l') j⟩
                      exact go _ σ ((l1.trans l2).trans l3) s3 (((er.le l1).le l2).le l3) .refl
                  | _ => cases q3
              | _ => cases q3
            | _ => cases x <;> cases q3
def bG (x : Option (Ev × EH)) : Option (RS × EH) := x.map fun z => (.nx z.1, z.2)
def msAsg (a : M D) (g : MG) : MS := fun ε h => bS (a ε h) ε fun d h1 => bG (g d ε h1)
theorem asg_of {K : PySem.W.Frag} {mg : Str → Option Value} {a : M D} {g : MG} {S : List Nat} {D : Ends} {σ : L2.St} {H : Hp} (h : tS K mg W (msAsg a g) D σ H) : tAsg (tE K mg W a) (tG K mg S g) D σ H := by
  obtain ⟨c, ε, h, r, h', hK, hm, rfl, sr, er, e, fin⟩ := h
  unfold tAsg
  refine tX.stm hK hm sr er e fin fun d h1 c1 v e1 l1 s1 r1 => ?_
  cases q : g d ε h1 with
  | none => rw [q] at e1; cases e1
  | some z =>
    obtain ⟨ε2, h2⟩ := z
    rw [q] at e1
    cases e1
    exact ⟨c1, d, ε, h1, ε2, _, l1.K.trans hK, l1.mg.trans hm, rfl, s1, r1, er.le l1, q, fun c' σ' l s en _ => fin c' σ' (l1.trans l) s en⟩
theorem rs_asg {tg e : Expr} {m : M D} {g : MG} {S : List Nat} {pos : Pos} (he : RE X W e m) (hg : RG X tg S g) (hs : swapsWithSole [tg] e pos.line X.env = pure false := by rfl) (hw : swappedStores [tg] e X.env = pure none := by rfl)
    (h1 : (assignEach [tg] X.env).map (·.2) = [assign tg X.env] := by rfl) : RSt X W (.Assign [tg] e pos) (msAsg m g) := ps_imp (ps_asg he hg hs hw h1) fun _ _ _ h => asg_of h
theorem rs_set (i : Nat) {x : Str} {e : Expr} {m : M D} {pos pos' : Pos} (hN : X.N.Nodup) (he : RE X W e m) (hi : X.N[i]? = some x := by rfl) (hx : Loc X.env.scope x := by first | exact Or.inl rfl | exact Or.inr rfl) (hs : swapsWith e (some (.Name x pos')) pos.line X.env = pure false := by rfl)
    (hf : X.fn x = true ∨ X.env.scope.names.lookup x = some .local := by first | exact .inl rfl | exact .inr rfl | assumption) : RSt X W (.Assign [.Name x pos'] e pos) (msAsg m (mgName i)) := by
  refine ps_imp (ps_set hN hi hx he hs hf) fun D σ H h => ?_
  obtain ⟨c, ε, h, r, h', hK, hm, rfl, sr, er, e, fin⟩ := h
  unfold tAsg
  refine tX.stm hK hm sr er e fin fun d h1 c1 v e1 l1 s1 r1 => ?_
  cases e1
  exact fin c1 _ l1 s1 ((er.le l1).set r1 i)
/-- a, b = x, y with plain local names -/
def msPar (i j : Nat) (m : M (List D)) : MS := fun ε h => bS (m ε h) ε fun ds h1 => match ds with
  | [d, e] => some (.nx ((ε.set i (some d)).set j (some e)), h1)
  | _ => none
theorem rs_par (i j : Nat) {x y : Str} {a b : Expr} {m : M (List D)} {px py pt pos : Pos} {kt k2 pt2} (hc : X.calm = true) (hN : X.N.Nodup) (ha : RA X W [a, b] m) (hi : X.N[i]? = some x := by rfl) (hj : X.N[j]? = some y := by rfl) (hij : i ≠ j := by decide)
    (hx : X.env.scope.names.lookup x = some .local := by rfl) (hy : X.env.scope.names.lookup y = some .local := by rfl) (hw : swappedStores [.Tuple [.Name x px, .Name y py] kt pt] (.Tuple [a, b] k2 pt2) X.env = pure (some [x, y]) := by rfl)
    (hs : swapsWithSole [.Tuple [.Name x px, .Name y py] kt pt] (.Tuple [a, b] k2 pt2) pos.line X.env = pure false := by rfl) : RSt X W (.Assign [.Tuple [.Name x px, .Name y py] kt pt] (.Tuple [a, b] k2 pt2) pos) (msPar i j m) := by
  refine ps_imp (ps_par hc hN hi hj hij hx hy ha hw hs) fun D σ H h => ?_
  obtain ⟨c, ε, h, r, h', hK, hm, rfl, sr, er, e, fin⟩ := h
  unfold tPar
  refine tX.stm hK hm sr er e fin fun ds h1 c1 vs e1 l1 s1 r1 => ?_
  match ds, r1, e1 with
  | [d, e], .cons q1 (.cons q2 .nil), e1 =>
    cases e1
    exact ⟨_, _, rfl, fin c1 _ l1 s1 (((er.le l1).set q1 i).set q2 j)⟩
  | [], _, e1 => cases e1
  | [_], _, e1 => cases e1
  | _ :: _ :: _ :: _, _, e1 => cases e1
end
end PD
namespace PD
open PySem PySem.Spec PyProof.Rows L2
variable [LamTab]
/-- the walk J gives ds -/
def WalkR (c : RC) (ds : List D) (J : It) : Prop := ∃ (G : Hp → Prop) (Y : Nat → Hp → V → Hp → Prop), Walk J ds.length G Y ∧ (∀ c', c.LeW c' → G c'.H) ∧
  ∀ (i : Nat) (x : V) (c' : RC) (h : EH) (H' : Hp), c.LeW c' → SR c' h → Y i c'.H x H' → ∃ c'', c''.H = H' ∧ c'.Le c'' ∧ SR c'' h ∧ ∃ d, ds[i]? = some d ∧ Rep c'' d x
theorem WalkR.le {c c1 : RC} {ds : List D} {J : It} (w : WalkR c ds J) (l : c.Le c1) : WalkR c1 ds J := by
  obtain ⟨G, Y, hw, hG, hY⟩ := w
  exact ⟨G, Y, hw, fun c' l' => hG c' (l.toW.trans l'), fun i x c' h H' l' => hY i x c' h H' (l.toW.trans l')⟩
def tI (K : PySem.W.Frag) (mg : Str → Option Value) (W : WX) (m : M (List D)) : TI := tX WalkR K mg W m
abbrev RI (X : Cx) (W : WX) (tg it : Expr) (m : M (List D)) : Prop := PI X tg it (tI X.K X.mg W m)
theorem pi_imp {X : Cx} {tg it : Expr} {t t' : TI} (h : PI X tg it t) (k : ∀ σ H Q, t' σ H Q → t σ H Q) : PI X tg it t' := ⟨fun pins s σ H R I q => h.run pins s σ H R I (k σ H R q)⟩
theorem walkR_list {c : RC} {a : Addr} {ds : List D} {xs : List V} (h : ∀ c', c.LeW c' → SqL c.K c'.H a xs) (r : Reps c ds xs) : WalkR c ds (Itl c.K a) := by
  refine ⟨fun H => SqL c.K H a xs, YAt xs, ?_, h, fun i x c' h H' l s y => ?_⟩
  · rw [r.length]; exact walk_list
  · obtain ⟨rfl, e⟩ := y
    obtain ⟨d, h1, h2⟩ := (r.leW l).getV e
    exact ⟨c', rfl, .refl c', s, d, h1, h2⟩
def miL (a : M D) : M (List D) := fun ε h => bR (a ε h) fun x h1 => match x with
  | .lst ds => some (.ok ds, h1)
  | .scr ds => some (.ok ds, h1)
  | _ => none
def miT (a : M D) : M (List D) := fun ε h => bR (a ε h) fun x h1 => match x with
  | .tup ds => some (.ok ds, h1)
  | _ => none
def miS (a : M D) : M (List D) := fun ε h => bR (a ε h) fun x h1 => match x with
  | .str z => some (.ok (z.map fun c => .str [c]), h1)
  | _ => none
section
variable {X : Cx} {W : WX} {tg : Expr}
theorem ri_list {e : Expr} {m : M D} (he : RE X W e m) : RI X W tg e (miL m) := by
  refine pi_imp (pi_list he) fun σ H R h => ?_
  obtain ⟨c, ε, h, r, h', hK, hm, rfl, sr, er, e, px, go⟩ := h
  unfold iList
  refine tX.bind hK hm sr er e px fun d h1 c1 v e1 l1 s1 r1 => ?_
  cases r1 with
  | @lst a ds xs k1 k2 k3 =>
    cases e1
    refine ⟨a, rfl, ⟨xs, .inl (.inl k1)⟩, go _ rfl c1 _ l1 s1 ?_⟩
    rw [← hK, ← l1.K]
    exact walkR_list (fun c' l => .inl (.inl (l.lstH k1 k2).1)) k3
  | @scr a ds xs k1 k2 =>
    cases e1
    refine ⟨a, rfl, ⟨xs, by rw [← hK, ← l1.K]; exact k1.sq⟩, go _ rfl c1 _ l1 s1 ?_⟩
    rw [← hK, ← l1.K]
    exact walkR_list (fun c' l => by rw [← l.K]; exact (l.scrL k1).sq) k2
  | _ => cases e1
theorem ri_str {e : Expr} {m : M D} (he : RE X W e m) : RI X W tg e (miS m) := by
  refine pi_imp (pi_str he) fun σ H R h => ?_
  obtain ⟨c, ε, h, r, h', hK, hm, rfl, sr, er, e, px, go⟩ := h
  unfold iStr
  refine tX.bind hK hm sr er e px fun d h1 c1 v e1 l1 s1 r1 => ?_
  cases r1 with
  | str z =>
    cases e1
    refine ⟨_, rfl, go _ rfl c1 _ l1 s1 ⟨fun _ => True, fun i H v H' => H' = H ∧ ∃ c, (⟨z.toArray⟩ : Str).cps[i]? = some c ∧ v = .str ⟨#[c]⟩, ?_, fun _ _ => trivial, fun i x c' h H' l s y => ?_⟩⟩
    · have w := walk_str (z := (⟨z.toArray⟩ : Str))
      rw [List.length_map]
      exact w
    · obtain ⟨rfl, k, h1, rfl⟩ := y
      refine ⟨c', rfl, .refl c', s, .str [k], ?_, .str [k]⟩
      have h1' : z[i]? = some k := by simpa using h1
      rw [List.getElem?_map, h1']
      rfl
  | _ => cases e1
/-- range(n) -/
def rngD (lo : Int) (n : Nat) : List D := (List.range n).map fun i => .int (lo + (i : Nat))
def miR1 (a : M (List D)) : M (List D) := fun ε h => bR (a ε h) fun xs h1 => match xs with
  | [.int j] => if -(2 ^ 62) ≤ j ∧ j < 2 ^ 62 then some (.ok (rngD 0 j.toNat), h1) else none
  | _ => none
def miR2 (a : M (List D)) : M (List D) := fun ε h => bR (a ε h) fun xs h1 => match xs with
  | [.int i, .int j] => if -(2 ^ 62) ≤ i ∧ i < 2 ^ 62 ∧ -(2 ^ 62) ≤ j ∧ j < 2 ^ 62 then some (.ok (rngD i (j - i).toNat), h1) else none
  | _ => none
theorem walkR_range {c : RC} (lo : Int) (n : Nat) : WalkR c (rngD lo n) (Itr lo n) := by
  refine ⟨fun _ => True, fun i H x H' => i < n ∧ H' = H ∧ x = .int (lo + (i : Nat)), ?_, fun _ _ => trivial, fun i x c' h H' l s y => ?_⟩
  · have w := walk_range (lo := lo) (n := n)
    have e : (rngD lo n).length = n := by simp [rngD]
    rw [e]
    exact ⟨w.goes, w.stops, fun i H x H' hi g y => (show i < n ∧ H' = H ∧ x = .int (lo + (i : Nat)) from ⟨hi, w.yields i H x H' hi g y⟩)⟩
  · obtain ⟨hi, rfl, rfl⟩ := y
    refine ⟨c', rfl, .refl c', s, .int (lo + (i : Nat)), ?_, .int _⟩
    unfold rngD
    rw [List.getElem?_map, List.getElem?_range hi]
    rfl
theorem ri_range1 {a : Expr} {ma : M (List D)} {p pos : Pos} (hm : X.mg "range" = none) (ha : RA X W [a] ma) (hg : Gl X "range" := by rfl) (hs : starEach [a] X.env = [(false, eval a X.env)] := by rfl) : RI X W tg (.Call (.Name "range" p) [a] [] pos) (miR1 ma) := by
  refine pi_imp (pi_range1 hg hm ha hs) fun σ H R h => ?_
  obtain ⟨c, ε, h, r, h', hK, hm, rfl, sr, er, e, px, go⟩ := h
  unfold iRng1
  refine tX.bind hK hm sr er e px fun ds h1 c1 vs e1 l1 s1 r1 => ?_
  cases r1 with
  | nil => cases e1
  | cons q t =>
    cases q with
    | int j =>
      cases t with
      | nil =>
        have e' : (if -(2 ^ 62) ≤ j ∧ j < 2 ^ 62 then some (PD.R.ok (rngD 0 j.toNat), h1) else none) = some (r, h') := e1
        by_cases hc : -(2 ^ 62) ≤ j ∧ j < 2 ^ 62
        · rw [if_pos hc] at e'
          cases e'
          exact ⟨j, rfl, hc.1, hc.2, go _ rfl c1 _ l1 s1 (walkR_range 0 j.toNat)⟩
        · rw [if_neg hc] at e'; cases e'
      | cons _ _ => cases e1
    | _ => cases e1
theorem ri_range2 {a b : Expr} {ma : M (List D)} {p pos : Pos} (hm : X.mg "range" = none) (ha : RA X W [a, b] ma) (hg : Gl X "range" := by rfl) (hs : starEach [a, b] X.env = [(false, eval a X.env), (false, eval b X.env)] := by rfl) (hs2 : starEach [b] X.env = [(false, eval b X.env)] := by rfl) : RI X W tg (.Call (.Name "range" p) [a, b] [] pos) (miR2 ma) := by
  refine pi_imp (pi_range2 hg hm ha hs hs2) fun σ H R h => ?_
  obtain ⟨c, ε, h, r, h', hK, hm, rfl, sr, er, e, px, go⟩ := h
  unfold iRng2
  refine tX.bind hK hm sr er e px fun ds h1 c1 vs e1 l1 s1 r1 => ?_
  cases r1 with
  | nil => cases e1
  | cons q t =>
    cases q with
    | int i =>
      cases t with
      | nil => cases e1
      | cons q t =>
        cases q with
        | int j =>
          cases t with
          | nil =>
            have e' : (if -(2 ^ 62) ≤ i ∧ i < 2 ^ 62 ∧ -(2 ^ 62) ≤ j ∧ j < 2 ^ 62 then some (PD.R.ok (rngD i (j - i).toNat), h1) else none) = some (r, h') := e1
            by_cases hc : -(2 ^ 62) ≤ i ∧ i < 2 ^ 62 ∧ -(2 ^ 62) ≤ j ∧ j < 2 ^ 62
            · rw [if_pos hc] at e'
              cases e'
              exact ⟨i, j, rfl, hc, go _ rfl c1 _ l1 s1 (walkR_range i _)⟩
            · rw [if_neg hc] at e'; cases e'
          | cons _ _ => cases e1
        | _ => cases e1
    | _ => cases e1
/-- pairs, each a new tuple -/
theorem walkR_pair {c : RC} {J : It} {G : Hp → Prop} {f g : Nat → Option V} {ds : List D} (w : Walk J ds.length G (YPair f g)) (hG : ∀ c', c.LeW c' → G c'.H)
    (hd : ∀ (i : Nat) (x y : V) (c' : RC), c.LeW c' → f i = some x → g i = some y → ∃ d e, ds[i]? = some (.tup [d, e]) ∧ Rep c' d x ∧ Rep c' e y) : WalkR c ds J := by
  refine ⟨G, _, w, hG, fun i v c' h H' l s y => ?_⟩
  obtain ⟨T, x, z, rfl, hT, rfl, h1, h2⟩ := y
  obtain ⟨d, e, e1, r1, r2⟩ := hd i x z c' l h1 h2
  obtain ⟨l', s', f'⟩ := s.new (o := .tup [x, z]) hT
  exact ⟨c'.put T (.tup [x, z]), rfl, l', s', _, e1, .tup (.inl (.inl upd_same)) (.cons (r1.le l') (.cons (r2.le l') .nil))⟩
def zipD (as bs : List D) : List D := (as.zip bs).map fun p => .tup [p.1, p.2]
def miZip (a : M (List D)) : M (List D) := fun ε h => bR (a ε h) fun xs h1 => match xs with
  | [x, y] => (match x, y with
    | .lst as, .lst bs => some (.ok (zipD as bs), h1)
    | .tup as, .tup bs => some (.ok (zipD as bs), h1)
    | _, _ => none)
  | _ => none
theorem zip_at {c : RC} {as bs : List D} {xs ys : List V} (ra : Reps c as xs) (rb : Reps c bs ys) (i : Nat) (x y : V) (c' : RC) (l : c.LeW c') (e1 : xs[i]? = some x) (e2 : ys[i]? = some y) : ∃ d e, (zipD as bs)[i]? = some (.tup [d, e]) ∧ Rep c' d x ∧ Rep c' e y := by
  obtain ⟨d, h1, r1⟩ := ra.getV e1
  obtain ⟨e, h2, r2⟩ := rb.getV e2
  refine ⟨d, e, ?_, r1.leW l, r2.leW l⟩
  unfold zipD
  rw [List.getElem?_map, List.getElem?_zip_eq_some.mpr (show as[i]? = some (d, e).1 ∧ bs[i]? = some (d, e).2 from ⟨h1, h2⟩)]
  rfl
theorem ri_zip {e e2 : Expr} {ma : M (List D)} {p pos tpos : Pos} {elts : List Expr} {kk : Nat} (hm : X.mg "zip" = none) (ha : RA X W [e, e2] ma) (hg : Gl X "zip" := by rfl)
    (hs : starEach [e, e2] X.env = (false, eval e X.env) :: starEach [e2] X.env := by rfl) (hpl : (backTo pos (starEach [e2] X.env)).any (·.1) = false := by rfl) : RI X W (.Tuple elts kk tpos) (.Call (.Name "zip" p) [e, e2] [] pos) (miZip ma) := by
  refine pi_imp (RZ.pi_zipA hg hm ha hs hpl) fun σ H R h => ?_
  obtain ⟨c, ε, h, r, h', hK, hm, rfl, sr, er, e, px, go⟩ := h
  unfold RZ.iZipA
  refine tX.bind hK hm sr er e px fun ds h1 c1 vs e1 l1 s1 r1 => ?_
  have hK1 : c1.K = X.K := l1.K.trans hK
  match ds, r1, e1 with
  | [d1, d2], .cons q1 (.cons q2 .nil), e1 =>
    cases q1 with
    | @lst a as xs k1 k2 k3 =>
      cases q2 with
      | @lst b bs ys j1 j2 j3 =>
        cases e1
        refine ⟨a, b, xs, ys, rfl, .inl ⟨.inl (.inl k1), .inl (.inl j1), go _ rfl c1 _ l1 s1 (walkR_pair (G := fun H => SqL X.K H a xs ∧ SqL X.K H b ys) (walk_zip ?_) (fun c' l => ⟨.inl (.inl (l.lstH k1 k2).1), .inl (.inl (l.lstH j1 j2).1)⟩) (zip_at k3 j3))⟩⟩
        simp [zipD, k3.length, j3.length]
      | _ => cases e1
    | @tup a as xs k1 k2 =>
      cases q2 with
      | @tup b bs ys j1 j2 =>
        cases e1
        have w : Walk (RZ.ItzT X.K a b) (zipD as bs).length (fun H => SqT X.K H a xs ∧ SqT X.K H b ys) (YPair (fun i => xs[i]?) (fun i => ys[i]?)) := by
          have en : (zipD as bs).length = min xs.length ys.length := by simp [zipD, k2.length, j2.length]
          rw [en]
          refine ⟨fun i _ hi q => ?_, fun _ q => ⟨xs, ys, q.1, q.2, by omega⟩, fun i H v H' _ q y => ?_⟩
          · have h1 : i < xs.length := by omega
            have h2 : i < ys.length := by omega
            exact ⟨xs, ys, xs[i], ys[i], q.1, q.2, by simp [h1], by simp [h2]⟩
          · obtain ⟨T, x, z, h1, h2, h3, h4, h5⟩ := y
            exact ⟨T, x, z, h1, h2, h3, h4 xs q.1, h5 ys q.2⟩
        refine ⟨a, b, xs, ys, rfl, .inr ⟨by rw [← hK1]; exact k1, by rw [← hK1]; exact j1, go _ rfl c1 _ l1 s1 (walkR_pair w (fun c' l => ?_) (zip_at k2 j2))⟩⟩
        rw [← hK1, ← l.K]
        exact ⟨l.sqT k1, l.sqT j1⟩
      | _ => cases e1
    | _ => cases e1
  | [], _, e1 => cases e1
  | [_], _, e1 => cases e1
  | _ :: _ :: _ :: _, _, e1 => cases e1
def enumD (as : List D) : List D := as.zipIdx.map fun p => .tup [.int (p.2 : Nat), p.1]
def forL (g : MG) (b : MS) : List D → Ev → EH → Option (RS × EH)
  | [], ε, h => some (.nx ε, h)
  | d :: ds, ε, h => match g d ε h with
    | none => none
    | some (ε1, h1) => match b ε1 h1 with
      | some (.nx ε2, h2) => forL g b ds ε2 h2
      | some (.ct ε2, h2) => forL g b ds ε2 h2
      | some (.bk ε2, h2) => some (.nx ε2, h2)
      | some (.rt d, h2) => some (.rt d, h2)
      | some (.ex e ε2, h2) => some (.ex e ε2, h2)
      | none => none
def msFor (it : M (List D)) (g : MG) (b : MS) : MS := fun ε h => bS (it ε h) ε fun ds h1 => forL g b ds ε h1
theorem rs_for {iter : Expr} {body : List Stmt} {mi : M (List D)} {g : MG} {S : List Nat} {b : MS} {pos : Pos} (hp : PassesOwn (model X.prog X.w) X.A X.env X.xe) (hc : X.calm = true) (hi : RI X W tg iter mi) (hg : RG X tg S g) (hb : RSs X W body b)
    (hs : ∀ x, foldedSetIterable iter X.env x = pure x := by intro _; rfl) : RSt X W (.For tg iter body [] pos) (msFor mi g b) := by
  refine ps_imp (ps_for hp hc hi hg hb hs) fun D σ H h => ?_
  obtain ⟨c, ε, h, r, h', hK, hm, rfl, sr, er, e, fin⟩ := h
  unfold tFor
  refine tX.stm hK hm sr er e fin fun ds h1 c1 J e1 l1 s1 r1 => ?_
  obtain ⟨G, Y, hw, hG, hY⟩ := r1
  have hK1 := l1.K.trans hK
  have hm1 := l1.mg.trans hm
  refine for_it hw (fun i σ H => ∃ c2 ε2 h2, c1.Le c2 ∧ c2.H = H ∧ SR c2 h2 ∧ EnvR c2 ε2 σ ∧ forL g b (ds.drop i) ε2 h2 = some (r, h')) ⟨c1, ε, h1, .refl c1, rfl, s1, er.le l1, by simpa using e1⟩ ?_ ?_ ?_
  · rintro i σ H hi ⟨c2, ε2, h2, l2, rfl, _⟩
    exact hG c2 l2.toW
  · rintro i x σ H H' hi ⟨c2, ε2, h2, l2, rfl, s2, en2, e2⟩ y
    obtain ⟨c3, rfl, l3, s3, d, hd, rd⟩ := hY i x c2 h2 H' l2.toW s2 y
    have hdr : ds.drop i = d :: ds.drop (i + 1) := by
      rw [List.drop_eq_getElem_cons hi]
      have : ds[i] = d := by
        have := List.getElem?_eq_getElem hi
        rw [this] at hd
        exact Option.some.inj hd
      rw [this]
    rw [hdr] at e2
    unfold forL at e2
    cases q : g d ε2 h2 with
    | none => rw [q] at e2; cases e2
    | some z =>
      obtain ⟨ε3, h3⟩ := z
      rw [q] at e2
      dsimp only at e2
      refine ⟨c3, d, ε2, h2, ε3, h3, ((l3.K.trans l2.K).trans hK1), ((l3.mg.trans l2.mg).trans hm1), rfl, s3, rd, en2.le l3, q, fun c4 σ4 l4 s4 en4 _ => ?_⟩
      have L4 := (l2.trans l3).trans l4
      cases q2 : b ε3 h3 with
      | none => rw [q2] at e2; cases e2
      | some z =>
        obtain ⟨rb, h5⟩ := z
        rw [q2] at e2
        refine ⟨c4, ε3, h3, rb, h5, L4.K.trans hK1, L4.mg.trans hm1, rfl, s4, en4, q2, ?_⟩
        cases rb with
        | nx ε5 => exact fun c5 σ5 l5 s5 en5 => ⟨c5, ε5, h5, L4.trans l5, rfl, s5, en5, e2⟩
        | ct ε5 => exact fun c5 σ5 l5 s5 en5 => ⟨c5, ε5, h5, L4.trans l5, rfl, s5, en5, e2⟩
        | bk ε5 => cases e2; exact (fin.le (l1.trans L4))
        | rt d5 => cases e2; exact (fin.le (l1.trans L4))
        | ex x5 ε5 => cases e2; exact (fin.le (l1.trans L4))
  · rintro σ H ⟨c2, ε2, h2, l2, rfl, s2, en2, e2⟩
    rw [List.drop_length] at e2
    cases e2
    exact fin c2 σ (l1.trans l2) s2 en2
end
end PD
namespace PD
open PySem PySem.Spec PyProof.Rows L2
variable [LamTab]
/-- nothing is let out -/
abbrev W0 : WX := fun _ _ _ _ => False
def wipeE (ε : Ev) : List Nat → Ev
  | [] => ε
  | i :: r => (wipeE ε r).set i none
theorem wipe_envR {c : RC} : ∀ (vs : List Nat) {ε : Ev} {σ : L2.St}, EnvR c ε σ → EnvR c (wipeE ε vs) (wipe σ vs)
  | [], _, _, r => r
  | i :: vs, ε, σ, r => by
    have ih := wipe_envR vs r
    unfold wipeE wipe
    refine ⟨by rw [List.length_set, List.length_set]; exact ih.len, fun j d h => ?_⟩
    by_cases hj : i = j
    · subst hj
      have hi : i < (wipeE ε vs).length := by
        have := (List.getElem?_eq_some_iff.mp h).1
        rwa [List.length_set] at this
      rw [List.getElem?_set_self hi] at h
      cases h
    · rw [List.getElem?_set_ne hj] at h
      rw [List.getElem?_set_ne hj]
      exact ih.at_ j d h
theorem wipe_in {i : Nat} : ∀ {vs : List Nat} {σ : L2.St}, i ∈ vs → i < σ.length → (wipe σ vs)[i]? = some none
  | v :: vs, σ, hi, hl => by
    unfold wipe
    by_cases e : v = i
    · subst e
      rw [List.getElem?_set_self (by rw [wipe_length]; exact hl)]
    · rw [List.getElem?_set_ne e]
      exact wipe_in ((List.mem_cons.mp hi).resolve_left fun z => e z.symm) hl
theorem wipe_save {S vs : List Nat} {σ σ' : L2.St} (s : Save S (wipe σ vs) σ') (h : ∀ i ∈ S, i ∈ vs) : wipe σ' vs = wipe σ vs := by
  have hl : σ'.length = σ.length := by rw [s.len, wipe_length]
  refine List.ext_getElem? fun i => ?_
  by_cases hi : i ∈ vs
  · by_cases hb : i < σ.length
    · rw [wipe_in hi (by rw [hl]; exact hb), wipe_in hi hb]
    · rw [List.getElem?_eq_none (by rw [wipe_length, hl]; omega), List.getElem?_eq_none (by rw [wipe_length]; omega)]
  · rw [wipe_out hi, s.at_ i fun z => hi (h i z)]
/-- the tests of a clause -/
abbrev RTs (X : Cx) (W : WX) (ifs : List Expr) (m : M Bool) : Prop := PTs X ifs (tT X.K X.mg W m)
def mYes : M Bool := fun _ h => some (.ok true, h)
theorem pts_imp {X : Cx} {ifs : List Expr} {t t' : TT} (h : PTs X ifs t) (k : ∀ σ H Q, t' σ H Q → t σ H Q) : PTs X ifs t' := ⟨fun pins s σ H Q I q => h.run pins s σ H Q I (k σ H Q q)⟩
theorem rts_nil {X : Cx} {W : WX} : RTs X W [] mYes := by
  refine pts_imp pts_nil fun σ H Q h => ?_
  obtain ⟨c, ε, h, r, h', hK, hm, rfl, sr, er, e, px, go⟩ := h
  cases e
  exact go _ rfl c _ (.refl c) sr rfl
theorem rts_one {X : Cx} {W : WX} {e : Expr} {m : M Bool} (h : RT X W e m) : RTs X W [e] m := pts_one h
/-- the items of a comprehension; nothing is raised within -/
def lcL (g : MG) (t : M Bool) (e : M D) : List D → Ev → EH → Option (List D × EH)
  | [], _, h => some ([], h)
  | d :: ds, ε, h => match g d ε h with
    | none => none
    | some (ε1, h1) => match t ε1 h1 with
      | some (.ok true, h2) => (match e ε1 h2 with
        | some (.ok y, h3) => (match lcL g t e ds ε h3 with
          | some (ys, h4) => some (y :: ys, h4)
          | none => none)
        | _ => none)
      | some (.ok false, h2) => lcL g t e ds ε h2
      | _ => none
def okL (x : Option (List D × EH)) : O D := match x with
  | some (ds, h) => if ds.length ≤ sizeLine then some (.ok (.lst ds), h) else none
  | none => none
def mLc (vs : List Nat) (it : M (List D)) (g : MG) (t : M Bool) (e : M D) : M D := fun ε h => bR (it ε h) fun ds h1 => okL (lcL g t e ds (wipeE ε vs) h1)
/-- other things not to be touched -/
abbrev RC.av (c : RC) (B : Addr → Prop) : RC := { c with B := B }
mutual
theorem Rep.fewer {c : RC} {B : Addr → Prop} (hB : ∀ a, B a → c.B a) : ∀ {d : D} {v : V}, Rep c d v → Rep (c.av B) d v
  | _, _, .non => .non
  | _, _, .bl b => .bl b
  | _, _, .int i => .int i
  | _, _, .str cs => .str cs
  | _, _, .tup h r => .tup h (Reps.fewer hB r)
  | _, _, .lst h f r => .lst h ⟨fun z => f.1 (hB _ z), f.2⟩ (Reps.fewer hB r)
  | _, _, .scr h r => .scr h (Reps.fewer hB r)
  | _, _, .obj m h f r => .obj m h ⟨fun z => f.1 (hB _ z), f.2⟩ (RepF.fewer hB r)
  | _, _, .dic h i f r => .dic h i ⟨fun z => f.1 (hB _ z), f.2⟩ (RepP.fewer hB r)
  | _, _, .fn h f h2 f2 cr r => .fn h ⟨fun z => f.1 (hB _ z), f.2⟩ h2 ⟨fun z => f2.1 (hB _ z), f2.2⟩ (cr.imp fun b o hb fb => ⟨hb, fun z => fb.1 (hB _ z), fb.2⟩) (Reps.fewer hB r)
  | _, _, .exc m h f h2 f2 r => .exc m h ⟨fun z => f.1 (hB _ z), f.2⟩ h2 ⟨fun z => f2.1 (hB _ z), f2.2⟩ (RepF.fewer hB r)
  | _, _, .ref h => .ref h
theorem Reps.fewer {c : RC} {B : Addr → Prop} (hB : ∀ a, B a → c.B a) : ∀ {ds : List D} {vs : List V}, Reps c ds vs → Reps (c.av B) ds vs
  | _, _, .nil => .nil
  | _, _, .cons h t => .cons (Rep.fewer hB h) (Reps.fewer hB t)
theorem RepP.fewer {c : RC} {B : Addr → Prop} (hB : ∀ a, B a → c.B a) : ∀ {ds : List (List Key × D)} {vs : List (List Key × V)}, RepP c ds vs → RepP (c.av B) ds vs
  | _, _, .nil => .nil
  | _, _, .cons h t => .cons (Rep.fewer hB h) (RepP.fewer hB t)
theorem RepF.fewer {c : RC} {B : Addr → Prop} (hB : ∀ a, B a → c.B a) : ∀ {ds : List (Str × D)} {vs : List (Str × V)}, RepF c ds vs → RepF (c.av B) ds vs
  | _, _, .nil => .nil
  | _, _, .cons h t => .cons (Rep.fewer hB h) (RepF.fewer hB t)
end
/-- c before the list at p was laid, c' with the list not to be touched -/
structure Over (c c' : RC) (p : Addr) : Prop where
  le : c.Le c'
  Bp : c'.B p
  new : c.H p = none
  bt : ∀ a, c.B a → ∃ o, c.H a = some o
theorem Over.step {c c' c'' : RC} {p : Addr} (o : Over c c' p) (l : c'.Le c'') : Over c c'' p := ⟨o.le.trans l, l.B p o.Bp, o.new, o.bt⟩
/-- back: the list is one's own -/
theorem Over.back {c c' : RC} {p : Addr} (o : Over c c' p) : c.Le (c'.av c.B) := ⟨o.le.K, o.le.mg, fun _ h => h, fun _ h => .inl h, o.le.dom, o.le.pre, o.le.keep, o.le.tup, o.le.frz⟩
theorem Over.ne {c c' : RC} {p : Addr} (o : Over c c' p) {a : Addr} {u : HO} (h : c.H a = some u) : a ≠ p := fun z => by
  rw [z, o.new] at h; cases h
theorem Over.sr {c c' : RC} {p : Addr} {h : EH} (o : Over c c' p) (s : SR c' h) : SR (c'.av c.B) h :=
  ⟨s.len, s.nd, fun n a k e1 e2 => (by
    have r := s.cells n a k e1 e2
    cases k with
    | lst ds => obtain ⟨xs, h1, h2⟩ := r; exact ⟨xs, h1, h2.fewer o.le.B⟩
    | dic t kvs => obtain ⟨ob, zs, h1, h3, h2⟩ := r; exact ⟨ob, zs, h1, h3, h2.fewer o.le.B⟩
    | obj C fs => obtain ⟨Ca, dx, vs, h0, h1, h2⟩ := r; exact ⟨Ca, dx, vs, h0, h1, h2.fewer o.le.B⟩), fun a ha hb => s.nb a ha (o.le.B a hb), fun a hb => s.bt a (o.le.B a hb)⟩
mutual
theorem Rep.more {c : RC} {p : Addr} {xs : List V} (hp : c.H p = none) : ∀ {d : D} {v : V}, Rep c d v → Rep { c with B := fun a => c.B a ∨ a = p, H := upd c.H p (.lst xs) } d v
  | _, _, .non => .non
  | _, _, .bl b => .bl b
  | _, _, .int i => .int i
  | _, _, .str cs => .str cs
  | _, _, .tup (a := a) (xs := ys) h r => .tup (by
      rcases h with (h | ⟨u, h⟩) | h
      · exact .inl (.inl ((upd_ne (show a ≠ p from fun z => by rw [z, hp] at h; cases h)).trans h))
      · exact .inl (.inr ⟨u, (upd_ne (show a ≠ p from fun z => by rw [z, hp] at h; cases h)).trans h⟩)
      · exact .inr h) (Reps.more hp r)
  | _, _, .lst (a := a) h f r => by
      have ne : a ≠ p := fun z => by rw [z, hp] at h; cases h
      exact .lst ((upd_ne ne).trans h) ⟨fun z => z.elim f.1 ne, f.2⟩ (Reps.more hp r)
  | _, _, .scr (a := a) h r => .scr (by
      rcases h with ⟨u, h⟩ | h
      · exact .inl ⟨u, (upd_ne (show a ≠ p from fun z => by rw [z, hp] at h; cases h)).trans h⟩
      · exact .inr h) (Reps.more hp r)
  | _, _, .obj (a := a) m h f r => by
      have ne : a ≠ p := fun z => by rw [z, hp] at h; cases h
      exact .obj m ((upd_ne ne).trans h) ⟨fun z => z.elim f.1 ne, f.2⟩ (RepF.more hp r)
  | _, _, .dic (a := a) h i f r => by
      have ne : a ≠ p := fun z => by rw [z, hp] at h; cases h
      exact .dic ((upd_ne ne).trans h) i ⟨fun z => z.elim f.1 ne, f.2⟩ (RepP.more hp r)
  | _, _, .fn h f h2 f2 cr r => by
      have ne : ∀ {a : Addr} {o : HO}, c.H a = some o → a ≠ p := fun e z => by rw [z, hp] at e; cases e
      exact .fn ((upd_ne (ne h)).trans h) ⟨fun z => z.elim f.1 (ne h), f.2⟩ ((upd_ne (ne h2)).trans h2) ⟨fun z => z.elim f2.1 (ne h2), f2.2⟩ (cr.imp fun b o hb fb => ⟨(upd_ne (ne hb)).trans hb, fun z => z.elim fb.1 (ne hb), fb.2⟩) (Reps.more hp r)
  | _, _, .exc m h f h2 f2 r => by
      have ne : ∀ {a : Addr} {o : HO}, c.H a = some o → a ≠ p := fun e z => by rw [z, hp] at e; cases e
      exact .exc m ((upd_ne (ne h)).trans h) ⟨fun z => z.elim f.1 (ne h), f.2⟩ ((upd_ne (ne h2)).trans h2) ⟨fun z => z.elim f2.1 (ne h2), f2.2⟩ (RepF.more hp r)
  | _, _, .ref h => .ref h
theorem Reps.more {c : RC} {p : Addr} {xs : List V} (hp : c.H p = none) : ∀ {ds : List D} {vs : List V}, Reps c ds vs → Reps { c with B := fun a => c.B a ∨ a = p, H := upd c.H p (.lst xs) } ds vs
  | _, _, .nil => .nil
  | _, _, .cons h t => .cons (Rep.more hp h) (Reps.more hp t)
theorem RepP.more {c : RC} {p : Addr} {xs : List V} (hp : c.H p = none) : ∀ {ds : List (List Key × D)} {vs : List (List Key × V)}, RepP c ds vs → RepP { c with B := fun a => c.B a ∨ a = p, H := upd c.H p (.lst xs) } ds vs
  | _, _, .nil => .nil
  | _, _, .cons h t => .cons (Rep.more hp h) (RepP.more hp t)
theorem RepF.more {c : RC} {p : Addr} {xs : List V} (hp : c.H p = none) : ∀ {ds : List (Str × D)} {vs : List (Str × V)}, RepF c ds vs → RepF { c with B := fun a => c.B a ∨ a = p, H := upd c.H p (.lst xs) } ds vs
  | _, _, .nil => .nil
  | _, _, .cons h t => .cons (Rep.more hp h) (RepF.more hp t)
end
/-- the start -/
theorem Over.start {c : RC} {h : EH} {p : Addr} {xs : List V} (s : SR c h) (hp : c.H p = none) : Over c { c with B := fun a => c.B a ∨ a = p, H := upd c.H p (.lst xs) } p ∧ SR { c with B := fun a => c.B a ∨ a = p, H := upd c.H p (.lst xs) } h := by
  have np : p ∉ c.ρ := fun z => by
    obtain ⟨o, e⟩ := s.ex z
    rw [hp] at e; cases e
  have ne : ∀ a o, c.H a = some o → a ≠ p := fun a o e z => by rw [z, hp] at e; cases e
  refine ⟨⟨⟨rfl, ⟨rfl, tabs_upd (noTab_none hp)⟩, fun _ h => .inl h, fun a h => h.imp id fun z => by rw [z]; exact hp, fun a u e => ⟨u, (upd_ne (ne a u e)).trans e⟩, fun _ _ h => h, fun a u e _ n => ⟨(upd_ne (ne a u e)).trans e, n⟩, fun a ys e => ?_, fun a o u e => (upd_ne (ne a _ e)).trans e⟩, .inr rfl, hp, s.bt⟩, ⟨s.len, s.nd, fun n a k e1 e2 => ?_, fun a ha z => z.elim (s.nb a ha) fun z => np (z ▸ ha), fun a hb => ?_⟩⟩
  · rcases e with e | ⟨u, e⟩
    · exact .inl ((upd_ne (ne a _ e)).trans e)
    · exact .inr ⟨u, (upd_ne (ne a _ e)).trans e⟩
  · have r := s.cells n a k e1 e2
    cases k with
    | lst ds => obtain ⟨ys, h1, h2⟩ := r; exact ⟨ys, (upd_ne (ne a _ h1)).trans h1, h2.more hp⟩
    | dic t kvs => obtain ⟨ob, zs, h1, h3, h2⟩ := r; exact ⟨ob, zs, (upd_ne (ne a _ h1)).trans h1, h3, h2.more hp⟩
    | obj C fs => obtain ⟨Ca, dx, vs, h0, h1, h2⟩ := r; exact ⟨Ca, dx, vs, h0, (upd_ne (ne a _ h1)).trans h1, h2.more hp⟩
  · rcases hb with hb | rfl
    · obtain ⟨u, e⟩ := s.bt a hb
      exact ⟨u, (upd_ne (ne a u e)).trans e⟩
    · exact ⟨_, upd_same⟩
mutual
theorem Rep.putB {c : RC} {p : Addr} {xs ys : List V} (hB : c.B p) (hp : c.H p = some (.lst xs)) : ∀ {d : D} {v : V}, Rep c d v → Rep (c.put p (.lst ys)) d v
  | _, _, .non => .non
  | _, _, .bl b => .bl b
  | _, _, .int i => .int i
  | _, _, .str cs => .str cs
  | _, _, .tup (a := a) h r => .tup (by
      rcases h with (h | ⟨u, h⟩) | h
      · exact .inl (.inl ((upd_ne (show a ≠ p from fun z => by rw [z, hp] at h; cases h)).trans h))
      · exact .inl (.inr ⟨u, (upd_ne (show a ≠ p from fun z => by rw [z, hp] at h; cases h)).trans h⟩)
      · exact .inr h) (Reps.putB hB hp r)
  | _, _, .lst (a := a) h f r => by
      have ne : a ≠ p := fun z => f.1 (z ▸ hB)
      exact .lst ((upd_ne ne).trans h) f (Reps.putB hB hp r)
  | _, _, .scr (a := a) h r => .scr (by
      rcases h with ⟨u, h⟩ | h
      · exact .inl ⟨u, (upd_ne (show a ≠ p from fun z => by rw [z, hp] at h; cases h)).trans h⟩
      · exact .inr h) (Reps.putB hB hp r)
  | _, _, .obj (a := a) m h f r => by
      have ne : a ≠ p := fun z => f.1 (z ▸ hB)
      exact .obj m ((upd_ne ne).trans h) f (RepF.putB hB hp r)
  | _, _, .dic (a := a) h i f r => by
      have ne : a ≠ p := fun z => f.1 (z ▸ hB)
      exact .dic ((upd_ne ne).trans h) i f (RepP.putB hB hp r)
  | _, _, .fn h f h2 f2 cr r => by
      have ne : ∀ {a : Addr}, c.fr a → a ≠ p := fun f z => f.1 (z ▸ hB)
      exact .fn ((upd_ne (ne f)).trans h) f ((upd_ne (ne f2)).trans h2) f2 (cr.imp fun b o hb fb => ⟨(upd_ne (ne fb)).trans hb, fb⟩) (Reps.putB hB hp r)
  | _, _, .exc m h f h2 f2 r => by
      have ne : ∀ {a : Addr}, c.fr a → a ≠ p := fun f z => f.1 (z ▸ hB)
      exact .exc m ((upd_ne (ne f)).trans h) f ((upd_ne (ne f2)).trans h2) f2 (RepF.putB hB hp r)
  | _, _, .ref h => .ref h
theorem Reps.putB {c : RC} {p : Addr} {xs ys : List V} (hB : c.B p) (hp : c.H p = some (.lst xs)) : ∀ {ds : List D} {vs : List V}, Reps c ds vs → Reps (c.put p (.lst ys)) ds vs
  | _, _, .nil => .nil
  | _, _, .cons h t => .cons (Rep.putB hB hp h) (Reps.putB hB hp t)
theorem RepP.putB {c : RC} {p : Addr} {xs ys : List V} (hB : c.B p) (hp : c.H p = some (.lst xs)) : ∀ {ds : List (List Key × D)} {vs : List (List Key × V)}, RepP c ds vs → RepP (c.put p (.lst ys)) ds vs
  | _, _, .nil => .nil
  | _, _, .cons h t => .cons (Rep.putB hB hp h) (RepP.putB hB hp t)
theorem RepF.putB {c : RC} {p : Addr} {xs ys : List V} (hB : c.B p) (hp : c.H p = some (.lst xs)) : ∀ {ds : List (Str × D)} {vs : List (Str × V)}, RepF c ds vs → RepF (c.put p (.lst ys)) ds vs
  | _, _, .nil => .nil
  | _, _, .cons h t => .cons (Rep.putB hB hp h) (RepF.putB hB hp t)
end
theorem Over.putB {c c' : RC} {h : EH} {p : Addr} {xs ys : List V} (o : Over c c' p) (s : SR c' h) (hp : c'.H p = some (.lst xs)) : Over c (c'.put p (.lst ys)) p ∧ SR (c'.put p (.lst ys)) h := by
  have hB : c'.B p := o.Bp
  refine ⟨⟨⟨o.le.K, ⟨o.le.mg.e, fun t => tabs_upd (ρ := c'.ρ) (B := c'.B) (noTab_of hp (fun _ z => by cases z) fun _ z => by cases z) (o.le.mg.t t)⟩, o.le.B, o.le.Bn, fun a u e => ?_, o.le.pre, fun a u e t n => ?_, fun a zs e => ?_, fun a u w e => (upd_ne (show a ≠ p from o.ne e)).trans (o.le.frz a u w e)⟩, o.Bp, o.new, o.bt⟩, ⟨s.len, s.nd, fun n a k e1 e2 => ?_, s.nb, fun a hb => ?_⟩⟩
  · obtain ⟨u', h1⟩ := o.le.dom a u e
    exact ⟨u', (upd_ne (o.ne e)).trans h1⟩
  · obtain ⟨h1, n1⟩ := o.le.keep a u e t n
    exact ⟨(upd_ne (o.ne e)).trans h1, n1⟩
  · rcases o.le.tup a zs e with e' | ⟨u, e'⟩
    · exact .inl ((upd_ne (show a ≠ p from fun z => by rw [z, hp] at e'; cases e')).trans e')
    · exact .inr ⟨u, (upd_ne (show a ≠ p from fun z => by rw [z, hp] at e'; cases e')).trans e'⟩
  · have r := s.cells n a k e1 e2
    have ne : a ≠ p := fun z => s.nb a (List.mem_of_getElem? e1) (z ▸ hB)
    cases k with
    | lst ds => obtain ⟨zs, h1, h2⟩ := r; exact ⟨zs, (upd_ne ne).trans h1, h2.putB hB hp⟩
    | dic t kvs => obtain ⟨ob, zs, h1, h3, h2⟩ := r; exact ⟨ob, zs, (upd_ne ne).trans h1, h3, h2.putB hB hp⟩
    | obj C fs => obtain ⟨Ca, dx, vs, h0, h1, h2⟩ := r; exact ⟨Ca, dx, vs, h0, (upd_ne ne).trans h1, h2.putB hB hp⟩
  · by_cases e : a = p
    · exact ⟨_, by rw [e]; exact upd_same⟩
    · obtain ⟨u, q⟩ := s.bt a hb
      exact ⟨u, (upd_ne e).trans q⟩
theorem EnvR.putB {c : RC} {p : Addr} {xs ys : List V} (hB : c.B p) (hp : c.H p = some (.lst xs)) {ε : Ev} {σ : L2.St} (r : EnvR c ε σ) : EnvR (c.put p (.lst ys)) ε σ := ⟨r.len, fun i d e => let ⟨v, h1, h2⟩ := r.at_ i d e; ⟨v, h1, h2.putB hB hp⟩⟩
theorem EnvR.more {c : RC} {p : Addr} {xs : List V} (hp : c.H p = none) {ε : Ev} {σ : L2.St} (r : EnvR c ε σ) : EnvR { c with B := fun a => c.B a ∨ a = p, H := upd c.H p (.lst xs) } ε σ := ⟨r.len, fun i d e => let ⟨v, h1, h2⟩ := r.at_ i d e; ⟨v, h1, h2.more hp⟩⟩
theorem lc_of {K : PySem.W.Frag} {mg : Str → Option Value} {W : WX} {mi : M (List D)} {g : MG} {S vs : List Nat} {t : M Bool} {el : M D} {σ : L2.St} {H : Hp} {Q : VK} (hS : ∀ i ∈ S, i ∈ vs) (h : tE K mg W (mLc vs mi g t el) σ H Q) :
    tLc (tI K mg W mi) (tG K mg S g) (tT K mg W0 t) (tE K mg W0 el) vs σ H Q := by
  obtain ⟨c, ε, h, r, h', hK, hm, rfl, sr, er, e, px, go⟩ := h
  unfold tLc
  refine tX.bind hK hm sr er e px fun ds h1 c1 J e1 l1 s1 r1 => ?_
  intro p hp
  obtain ⟨G, Y, hw, hG, hY⟩ := r1
  have hK1 := l1.K.trans hK
  have hm1 := l1.mg.trans hm
  cases q : lcL g t el ds (wipeE ε vs) h1 with
  | none => rw [q] at e1; cases e1
  | some z =>
    obtain ⟨all, hE⟩ := z
    rw [q] at e1
    have e1' : (if all.length ≤ sizeLine then some (PD.R.ok (D.lst all), hE) else none) = some (r, h') := e1
    by_cases hz : all.length ≤ sizeLine
    · rw [if_pos hz] at e1'
      cases e1'
      obtain ⟨o2, s2⟩ := Over.start (xs := []) s1 hp
      refine lc_it hw (fun i H => ∃ c2 h2 acc xs rest, Over c1 c2 p ∧ c2.H = H ∧ SR c2 h2 ∧ H p = some (.lst xs) ∧ Reps c2 acc xs ∧ EnvR c2 (wipeE ε vs) (wipe σ vs) ∧ lcL g t el (ds.drop i) (wipeE ε vs) h2 = some (rest, h') ∧ acc ++ rest = all) ?_ ?_ ?_ ?_
      · exact ⟨_, h1, [], [], all, o2, rfl, s2, upd_same, .nil, EnvR.more hp (wipe_envR vs (er.le l1)), q, rfl⟩
      · rintro i H hi ⟨c2, h2, acc, xs, rest, o, rfl, _⟩
        exact hG c2 o.le.toW
      · rintro i x H H' hi ⟨c2, h2, acc, xs, rest, o, rfl, s, hxs, racc, en, e2, ea⟩ y
        obtain ⟨c3, rfl, l3, s3, d, hd, rd⟩ := hY i x c2 h2 H' o.le.toW s y
        have hdr : ds.drop i = d :: ds.drop (i + 1) := by
          rw [List.drop_eq_getElem_cons hi]
          have : ds[i] = d := by
            have := List.getElem?_eq_getElem hi
            rw [this] at hd
            exact Option.some.inj hd
          rw [this]
        rw [hdr] at e2
        unfold lcL at e2
        have o3 := o.step l3
        have p3 := (l3.keep p _ hxs (fun _ z => by cases z) fun z => s.nb p z o.Bp).1
        have hK3 : c3.K = K := o3.le.K.trans hK1
        have hm3 : MgE c3 mg := o3.le.mg.trans hm1
        cases q2 : g d (wipeE ε vs) h2 with
        | none => rw [q2] at e2; cases e2
        | some z =>
          obtain ⟨ε3, h3⟩ := z
          rw [q2] at e2
          dsimp only at e2
          refine ⟨c3, d, wipeE ε vs, h2, ε3, h3, hK3, hm3, rfl, s3, rd, en.le l3, q2, fun c4 σ4 l4 s4 en4 sv => ⟨wipe_save sv hS, ?_⟩⟩
          have o4 := o3.step l4
          have p4 := (l4.keep p _ p3 (fun _ z => by cases z) fun z => s3.nb p z o3.Bp).1
          have hK4 : c4.K = K := o4.le.K.trans hK1
          have hm4 : MgE c4 mg := o4.le.mg.trans hm1
          cases q3 : t ε3 h3 with
          | none => rw [q3] at e2; cases e2
          | some z =>
            obtain ⟨rb, h5⟩ := z
            rw [q3] at e2
            cases rb with
            | ex x5 => cases e2
            | ok b =>
              refine ⟨c4, ε3, h3, .ok b, h5, hK4, hm4, rfl, s4, en4, q3, Px.ok, fun b' eb c5 b'' l5 s5 rb => ?_⟩
              cases eb
              subst rb
              have o5 := o4.step l5
              have p5 := (l5.keep p _ p4 (fun _ z => by cases z) fun z => s4.nb p z o4.Bp).1
              have en5 : EnvR c5 (wipeE ε vs) (wipe σ vs) := ((en.le l3).le l4).le l5
              have racc5 := ((racc.le l3).le l4).le l5
              cases b with
              | false =>
                rw [if_neg Bool.false_ne_true]
                exact ⟨c5, h5, acc, xs, rest, o5, rfl, s5, p5, racc5, en5, e2, ea⟩
              | true =>
                rw [if_pos rfl]
                dsimp only at e2
                cases q4 : el ε3 h5 with
                | none => rw [q4] at e2; cases e2
                | some z =>
                  obtain ⟨ry, h6⟩ := z
                  rw [q4] at e2
                  cases ry with
                  | ex x6 => cases e2
                  | ok y0 =>
                    dsimp only at e2
                    refine ⟨c5, ε3, h5, .ok y0, h6, o5.le.K.trans hK1, o5.le.mg.trans hm1, rfl, s5, en4.le l5, q4, Px.ok, fun y' ey c6 yv l6 s6 ry => ?_⟩
                    cases ey
                    have o6 := o5.step l6
                    have p6 := (l6.keep p _ p5 (fun _ z => by cases z) fun z => s5.nb p z o5.Bp).1
                    cases q5 : lcL g t el (ds.drop (i + 1)) (wipeE ε vs) h6 with
                    | none => rw [q5] at e2; cases e2
                    | some z =>
                      obtain ⟨ys, h7⟩ := z
                      rw [q5] at e2
                      cases e2
                      have hlen : xs.length < sizeLine := by
                        rw [← racc.length]
                        have := congrArg List.length ea
                        simp only [List.length_append, List.length_cons] at this
                        omega
                      refine ⟨xs, p6, hlen, ?_⟩
                      obtain ⟨o7, s7⟩ := o6.putB (ys := xs ++ [yv]) s6 p6
                      exact ⟨_, h6, acc ++ [y0], xs ++ [yv], ys, o7, rfl, s7, upd_same, ((racc5.le l6).append (.cons ry .nil)).putB o6.Bp p6, (en5.le l6).putB o6.Bp p6, q5, by rw [List.append_assoc]; exact ea⟩
      · rintro H ⟨c2, h2, acc, xs, rest, o, rfl, s, hxs, racc, en, e2, ea⟩
        rw [List.drop_length] at e2
        cases e2
        rw [List.append_nil] at ea
        subst ea
        refine go _ rfl (c2.av c1.B) _ (l1.trans o.back) (o.sr s) (.lst hxs ⟨fun z => ?_, fun z => s.nb p z o.Bp⟩ (racc.fewer o.le.B))
        obtain ⟨u, eu⟩ := o.bt p z
        rw [o.new] at eu; cases eu
    · rw [if_neg hz] at e1'; cases e1'
section
variable {X : Cx} {W : WX}
theorem re_lc {elt tg iter : Expr} {ifs : List Expr} {scope : Scope} {own : List (Str × Nat)} {pos : Pos} {mi : M (List D)} {g : MG} {S : List Nat} {t : M Bool} {e : M D} (hc : X.calm = true) (hN : X.N.Nodup) (hi : RI X W tg iter mi) (ok : BlkOk X.N X.env.scope scope own) (hS : ∀ i ∈ S, i ∈ own.map (·.2))
    (hg : ∀ (s : Shared) (H : Hp) (C : Addr) (cl : List (Str × Addr)) (fp : List Addr), RG (X.blk s H scope (compEnvC scope cl C X.env) fp) tg S g) (ht : ∀ (s : Shared) (H : Hp) (C : Addr) (cl : List (Str × Addr)) (fp : List Addr), RTs (X.blk s H scope (compEnvC scope cl C X.env) fp) W0 ifs t)
    (he : ∀ (s : Shared) (H : Hp) (C : Addr) (cl : List (Str × Addr)) (fp : List Addr), RE (X.blk s H scope (compEnvC scope cl C X.env) fp) W0 elt e) (hs : ∀ x, foldedSetIterable iter X.env x = pure x := by intro _; rfl) :
    RE X W (.ListComp elt [⟨tg, iter, ifs, 0⟩] scope pos) (mLc (own.map (·.2)) mi g t e) := by
  refine pe_imp (pe_lc (g := tG X.K X.mg S g) (tt := tT X.K X.mg W0 t) (te := tE X.K X.mg W0 e) hc hN hi ok hg ht he hs) fun σ H Q h => ?_
  exact lc_of hS h
end
end PD
namespace PD
open PySem PySem.Spec PyProof.Rows L2
variable [LamTab]
def noRef : D → Bool
  | .ref _ => false
  | .tup ds => go ds
  | .lst ds => go ds
  | .scr ds => go ds
  | .obj _ fs => gf fs
  | .dic _ kvs => gp kvs
  | .fn _ ds => go ds
  | .exc _ fs => gf fs
  | _ => true
where
  go : List D → Bool
  | [] => true
  | d :: ds => noRef d && go ds
  gf : List (Str × D) → Bool
  | [] => true
  | (_, d) :: ds => noRef d && gf ds
  gp : List (List Key × D) → Bool
  | [] => true
  | (_, d) :: ds => noRef d && gp ds
/-- the cells forgotten, other things not to be touched -/
abbrev RC.bare (c : RC) (B : Addr → Prop) : RC := { c with ρ := [], B := B }
mutual
theorem Rep.bare {c : RC} {B : Addr → Prop} (hB : ∀ a, B a → c.B a ∨ a ∈ c.ρ) : ∀ {d : D} {v : V}, Rep c d v → noRef d = true → Rep (c.bare B) d v
  | _, _, .non, _ => .non
  | _, _, .bl b, _ => .bl b
  | _, _, .int i, _ => .int i
  | _, _, .str cs, _ => .str cs
  | .tup ds, _, .tup h r, e => .tup h (Reps.bare hB r (by rw [noRef] at e; exact e))
  | .lst ds, _, .lst h f r, e => .lst h ⟨fun z => (hB _ z).elim f.1 f.2, List.not_mem_nil⟩ (Reps.bare hB r (by rw [noRef] at e; exact e))
  | .scr ds, _, .scr h r, e => .scr h (Reps.bare hB r (by rw [noRef] at e; exact e))
  | .obj C fs, _, .obj m h f r, e => .obj m h ⟨fun z => (hB _ z).elim f.1 f.2, List.not_mem_nil⟩ (RepF.bare hB r (by rw [noRef] at e; exact e))
  | .dic t kvs, _, .dic h i f r, e => .dic h i ⟨fun z => (hB _ z).elim f.1 f.2, List.not_mem_nil⟩ (RepP.bare hB r (by rw [noRef] at e; exact e))
  | .fn i ds, _, .fn h f k f2 cr r, e => .fn h ⟨fun z => (hB _ z).elim f.1 f.2, List.not_mem_nil⟩ k ⟨fun z => (hB _ z).elim f2.1 f2.2, List.not_mem_nil⟩ (cr.imp fun b o hb fb => ⟨hb, fun z => (hB _ z).elim fb.1 fb.2, List.not_mem_nil⟩) (Reps.bare hB r (by rw [noRef] at e; exact e))
  | .exc C fs, _, .exc m h f h2 f2 r, e => .exc m h ⟨fun z => (hB _ z).elim f.1 f.2, List.not_mem_nil⟩ h2 ⟨fun z => (hB _ z).elim f2.1 f2.2, List.not_mem_nil⟩ (RepF.bare hB r (by rw [noRef] at e; exact e))
  | _, _, .ref h, e => by cases e
theorem Reps.bare {c : RC} {B : Addr → Prop} (hB : ∀ a, B a → c.B a ∨ a ∈ c.ρ) : ∀ {ds : List D} {vs : List V}, Reps c ds vs → noRef.go ds = true → Reps (c.bare B) ds vs
  | _, _, .nil, _ => .nil
  | _, _, .cons h t, e => by
    rw [noRef.go, Bool.and_eq_true] at e
    exact .cons (Rep.bare hB h e.1) (Reps.bare hB t e.2)
theorem RepP.bare {c : RC} {B : Addr → Prop} (hB : ∀ a, B a → c.B a ∨ a ∈ c.ρ) : ∀ {ds : List (List Key × D)} {vs : List (List Key × V)}, RepP c ds vs → noRef.gp ds = true → RepP (c.bare B) ds vs
  | _, _, .nil, _ => .nil
  | _, _, .cons h t, e => by
    rw [noRef.gp, Bool.and_eq_true] at e
    exact .cons (Rep.bare hB h e.1) (RepP.bare hB t e.2)
theorem RepF.bare {c : RC} {B : Addr → Prop} (hB : ∀ a, B a → c.B a ∨ a ∈ c.ρ) : ∀ {ds : List (Str × D)} {vs : List (Str × V)}, RepF c ds vs → noRef.gf ds = true → RepF (c.bare B) ds vs
  | _, _, .nil, _ => .nil
  | _, _, .cons h t, e => by
    rw [noRef.gf, Bool.and_eq_true] at e
    exact .cons (Rep.bare hB h e.1) (RepF.bare hB t e.2)
end
mutual
theorem Rep.unbare {c : RC} {ρ : List Addr} {B : Addr → Prop} (h1 : ∀ a ∈ ρ, c.B a) (h2 : ∀ a, B a → c.B a) (h0 : c.ρ = []) : ∀ {d : D} {v : V}, Rep c d v → Rep { c with ρ := ρ, B := B } d v
  | _, _, .non => .non
  | _, _, .bl b => .bl b
  | _, _, .int i => .int i
  | _, _, .str cs => .str cs
  | _, _, .tup h r => .tup h (Reps.unbare h1 h2 h0 r)
  | _, _, .lst h f r => .lst h ⟨fun z => f.1 (h2 _ z), fun z => f.1 (h1 _ z)⟩ (Reps.unbare h1 h2 h0 r)
  | _, _, .scr h r => .scr h (Reps.unbare h1 h2 h0 r)
  | _, _, .obj m h f r => .obj m h ⟨fun z => f.1 (h2 _ z), fun z => f.1 (h1 _ z)⟩ (RepF.unbare h1 h2 h0 r)
  | _, _, .dic h i f r => .dic h i ⟨fun z => f.1 (h2 _ z), fun z => f.1 (h1 _ z)⟩ (RepP.unbare h1 h2 h0 r)
  | _, _, .fn h f k f2 cr r => .fn h ⟨fun z => f.1 (h2 _ z), fun z => f.1 (h1 _ z)⟩ k ⟨fun z => f2.1 (h2 _ z), fun z => f2.1 (h1 _ z)⟩ (cr.imp fun b o hb fb => ⟨hb, fun z => fb.1 (h2 _ z), fun z => fb.1 (h1 _ z)⟩) (Reps.unbare h1 h2 h0 r)
  | _, _, .exc m h f k f2 r => .exc m h ⟨fun z => f.1 (h2 _ z), fun z => f.1 (h1 _ z)⟩ k ⟨fun z => f2.1 (h2 _ z), fun z => f2.1 (h1 _ z)⟩ (RepF.unbare h1 h2 h0 r)
  | _, _, .ref h => by rw [h0] at h; simp at h
theorem Reps.unbare {c : RC} {ρ : List Addr} {B : Addr → Prop} (h1 : ∀ a ∈ ρ, c.B a) (h2 : ∀ a, B a → c.B a) (h0 : c.ρ = []) : ∀ {ds : List D} {vs : List V}, Reps c ds vs → Reps { c with ρ := ρ, B := B } ds vs
  | _, _, .nil => .nil
  | _, _, .cons h t => .cons (Rep.unbare h1 h2 h0 h) (Reps.unbare h1 h2 h0 t)
theorem RepP.unbare {c : RC} {ρ : List Addr} {B : Addr → Prop} (h1 : ∀ a ∈ ρ, c.B a) (h2 : ∀ a, B a → c.B a) (h0 : c.ρ = []) : ∀ {ds : List (List Key × D)} {vs : List (List Key × V)}, RepP c ds vs → RepP { c with ρ := ρ, B := B } ds vs
  | _, _, .nil => .nil
  | _, _, .cons h t => .cons (Rep.unbare h1 h2 h0 h) (RepP.unbare h1 h2 h0 t)
theorem RepF.unbare {c : RC} {ρ : List Addr} {B : Addr → Prop} (h1 : ∀ a ∈ ρ, c.B a) (h2 : ∀ a, B a → c.B a) (h0 : c.ρ = []) : ∀ {ds : List (Str × D)} {vs : List (Str × V)}, RepF c ds vs → RepF { c with ρ := ρ, B := B } ds vs
  | _, _, .nil => .nil
  | _, _, .cons h t => .cons (Rep.unbare h1 h2 h0 h) (RepF.unbare h1 h2 h0 t)
end
/-- freeze -/
def frz1 (h : EH) (d : D) : Option D := match d with
  | .ref n => (match h[n]? with
    | some (.lst ds) => if noRef.go ds = true then some (.lst ds) else none
    | some (.obj C fs) => if noRef.gf fs = true then some (.obj C fs) else none
    | some (.dic t kvs) => if noRef.gp kvs = true then some (.dic t kvs) else none
    | _ => none)
  | d => if noRef d = true then some d else none
def frzL (h : EH) : List D → Option (List D)
  | [] => some []
  | d :: ds => match frz1 h d, frzL h ds with
    | some x, some xs => some (x :: xs)
    | _, _ => none
def frz (h : EH) (d : D) : Option D := match d with
  | .tup ds => (frzL h ds).map .tup
  | .lst ds => (frzL h ds).map .lst
  | d => frz1 h d
theorem frz1_ok {c : RC} {h : EH} {B : Addr → Prop} {d e : D} {v : V} (s : SR c h) (hB : ∀ a, B a → c.B a) (r : Rep c d v) (q : frz1 h d = some e) : Rep (c.bare B) e v := by
  have hB' : ∀ a, B a → c.B a ∨ a ∈ c.ρ := fun a z => .inl (hB a z)
  have fin : (if noRef d = true then some d else none) = some e → Rep (c.bare B) e v := fun q => by
    by_cases hc : noRef d = true
    · rw [if_pos hc] at q; cases q; exact r.bare hB' hc
    · rw [if_neg hc] at q; cases q
  cases r with
  | @ref n a hn =>
    unfold frz1 at q
    dsimp only at q
    cases q2 : h[n]? with
    | none => rw [q2] at q; cases q
    | some k =>
      rw [q2] at q
      have cr := s.cells n a k hn q2
      have nb : ¬ B a := fun z => s.nb a (List.mem_of_getElem? hn) (hB a z)
      cases k with
      | lst ds =>
        dsimp only at q
        by_cases hc : noRef.go ds = true
        · rw [if_pos hc] at q
          cases q
          obtain ⟨xs, e1, e2⟩ := cr
          exact .lst e1 ⟨nb, List.not_mem_nil⟩ (e2.bare hB' hc)
        · rw [if_neg hc] at q; cases q
      | dic t kvs =>
        dsimp only at q
        by_cases hc : noRef.gp kvs = true
        · rw [if_pos hc] at q
          cases q
          obtain ⟨o, zs, e1, e3, e2⟩ := cr
          exact .dic e1 e3 ⟨nb, List.not_mem_nil⟩ (e2.bare hB' hc)
        · rw [if_neg hc] at q; cases q
      | obj C fs =>
        dsimp only at q
        by_cases hc : noRef.gf fs = true
        · rw [if_pos hc] at q
          cases q
          obtain ⟨Ca, dx, vs, e0, e1, e2⟩ := cr
          exact .obj e0 e1 ⟨nb, List.not_mem_nil⟩ (e2.bare hB' hc)
        · rw [if_neg hc] at q; cases q
  | _ => exact fin q
theorem frzL_ok {c : RC} {h : EH} {B : Addr → Prop} (s : SR c h) (hB : ∀ a, B a → c.B a) : ∀ {ds es : List D} {vs : List V}, Reps c ds vs → frzL h ds = some es → Reps (c.bare B) es vs
  | _, _, _, .nil, q => by cases q; exact .nil
  | d :: ds, es, _, .cons r t, q => by
    unfold frzL at q
    cases q1 : frz1 h d with
    | none => rw [q1] at q; cases q
    | some x =>
      cases q2 : frzL h ds with
      | none => rw [q1, q2] at q; cases q
      | some xs => rw [q1, q2] at q; cases q; exact .cons (frz1_ok s hB r q1) (frzL_ok s hB t q2)
theorem frz_ok {c : RC} {h : EH} {B : Addr → Prop} {d e : D} {v : V} (s : SR c h) (hB : ∀ a, B a → c.B a) (r : Rep c d v) (q : frz h d = some e) : Rep (c.bare B) e v := by
  cases r with
  | @tup a ds xs k1 k2 =>
    have q' : (frzL h ds).map D.tup = some e := q
    cases q1 : frzL h ds with
    | none => rw [q1] at q'; cases q'
    | some es => rw [q1] at q'; cases q'; exact .tup k1 (frzL_ok s hB k2 q1)
  | @lst a ds xs k1 k2 k3 =>
    have q' : (frzL h ds).map D.lst = some e := q
    cases q1 : frzL h ds with
    | none => rw [q1] at q'; cases q'
    | some es => rw [q1] at q'; cases q'; exact .lst k1 ⟨fun z => k2.1 (hB _ z), List.not_mem_nil⟩ (frzL_ok s hB k3 q1)
  | non => exact frz1_ok s hB .non q
  | bl b => exact frz1_ok s hB (.bl b) q
  | int i => exact frz1_ok s hB (.int i) q
  | str cs => exact frz1_ok s hB (.str cs) q
  | obj m k1 k2 k3 => exact frz1_ok s hB (.obj m k1 k2 k3) q
  | dic k1 k2 k3 k4 => exact frz1_ok s hB (.dic k1 k2 k3 k4) q
  | fn k1 k2 k3 k4 k5 k6 => exact frz1_ok s hB (.fn k1 k2 k3 k4 k5 k6) q
  | exc k1 k2 k3 k4 k5 k6 => exact frz1_ok s hB (.exc k1 k2 k3 k4 k5 k6) q
  | ref hn => exact frz1_ok s hB (.ref hn) q
  | scr k1 k2 => exact frz1_ok s hB (.scr k1 k2) q
abbrev PF := List D → Option (R D)
/-- a body run over no cells -/
def startE (n : Nat) (ds : List D) : Ev := ds.map some ++ List.replicate (n - ds.length) none
def endP (x : Option (RS × EH)) : Option (R D) := match x with
  | some (.rt d, h) => (frz h d).map .ok
  | some (.nx _, _) => some (.ok .non)
  | some (.ex e _, _) => if noRef.gf e.fs = true then some (.ex e) else none
  | _ => none
def runP (n : Nat) (m : MS) : PF := fun ds => endP (m (startE n ds) [])
def SpP (K : PySem.W.Frag) (mg : Str → Option Value) (n : Nat) (F : PF) : Sp := fun vs H Q E => ∃ (c : RC) (ds : List D) (r : R D), c.K = K ∧ MgE c mg ∧ c.H = H ∧ c.ρ = [] ∧ (∀ a, c.B a → ∃ o, H a = some o) ∧ Reps c ds vs ∧ ds.length = n ∧ F ds = some r ∧
  (∀ d, r = .ok d → ∀ c' v, c.Le c' → c'.ρ = [] → Rep c' d v → Q v c'.H) ∧ (∀ e, r = .ex e → ∀ c' cls dx, c.Le c' → c'.ρ = [] → ExR c' e cls dx → E cls dx c'.H)
theorem SR.nil {c : RC} (h : c.ρ = []) (bt : ∀ a, c.B a → ∃ o, c.H a = some o) : SR c [] :=
  ⟨by rw [h]; rfl, by rw [h]; exact List.nodup_nil, fun n a k e => by rw [h] at e; simp at e, fun a e => by rw [h] at e; simp at e, bt⟩
theorem start_envR {c : RC} {ds : List D} {vs : List V} {N : List Str} (r : Reps c ds vs) : EnvR c (startE N.length ds) (L2.start N vs) := by
  refine ⟨by simp [startE, L2.start, r.length], fun i d e => ?_⟩
  unfold startE at e
  unfold L2.start
  by_cases hi : i < ds.length
  · rw [List.getElem?_append_left (by simpa using hi), List.getElem?_map] at e
    rw [List.getElem?_append_left (by rw [List.length_map, ← r.length]; exact hi), List.getElem?_map]
    cases q : ds[i]? with
    | none => rw [q] at e; cases e
    | some d' =>
      rw [q] at e
      cases e
      obtain ⟨v, h1, h2⟩ := r.get q
      exact ⟨v, by rw [h1]; rfl, h2⟩
  · rw [List.getElem?_append_right (by simp; omega)] at e
    exfalso
    rw [List.getElem?_replicate] at e
    split at e <;> cases e
/-- what one has of a pure def -/
structure FnP (P : Program) (w : World) (K : PySem.W.Frag) (mg : Str → Option Value) (base : Heap) (x : Str) (k n : Nat) (F : PF) : Prop where
  ex : ∃ (f : Addr) (fd : FuncData) (ps : List Str), mg x = some (.ref f) ∧ PySem.W.keepIn K (.ref f) = true ∧ Binds K fd ps [] ∧ ps.length = n ∧ FnOk P w K mg base (L2.CX P w) k f fd ps (SpP K mg n F)
section
variable {P : Program} {w : World} {K : PySem.W.Frag} {mg : Str → Option Value} {base : Heap}
theorem body_of {N : List Str} {m : MS} {vs : List V} {H : Hp} {Q : VK} {E : XK} {n : Nat} (h : SpP K mg n (runP N.length m) vs H Q E) : tS K mg (fun cls d _ H' => E cls d H') m { nx := fun _ H' => Q .non H', rt := Q } (L2.start N vs) H := by
  obtain ⟨c, ds, r, hK, hm, rfl, hρ, bt, rv, hn, e, go, gx⟩ := h
  have sr := SR.nil hρ bt
  unfold runP at e
  cases q : m (startE N.length ds) [] with
  | none => rw [q] at e; cases e
  | some z =>
    obtain ⟨rs, h'⟩ := z
    rw [q] at e
    have back : ∀ c', c.Le c' → c.Le (c'.bare c.B) := fun c' l => ⟨l.K, l.mg, fun _ h => h, fun _ h => .inl h, l.dom, fun n a e => by rw [hρ] at e; simp at e, fun a o e t n => ⟨(l.keep a o e t n).1, List.not_mem_nil⟩, l.tup, l.frz⟩
    refine ⟨c, startE N.length ds, [], rs, h', hK, hm, rfl, sr, start_envR rv, q, ?_⟩
    cases rs with
    | nx ε' =>
      cases e
      exact fun c' σ' l s en => go _ rfl (c'.bare c.B) _ (back c' l) rfl .non
    | rt d =>
      have e' : (frz h' d).map R.ok = some r := e
      cases q2 : frz h' d with
      | none => rw [q2] at e'; cases e'
      | some d' =>
        rw [q2] at e'
        cases e'
        exact fun c' v l s rd => go _ rfl (c'.bare c.B) v (back c' l) rfl (frz_ok s l.B rd q2)
    | bk ε' => cases e
    | ct ε' => cases e
    | ex x ε' =>
      have e' : (if noRef.gf x.fs = true then some (R.ex x) else none) = some r := e
      by_cases hc : noRef.gf x.fs = true
      · rw [if_pos hc] at e'
        cases e'
        refine fun c' σ' cls dx l s en xr => gx _ rfl (c'.bare c.B) cls dx (back c' l) rfl ?_
        obtain ⟨Ca, d, vs, h1, h2, h3, h4, h5, h6⟩ := xr
        exact ⟨Ca, d, vs, h1, h2, h3, h4, ⟨fun z => h5.1 (l.B _ z), List.not_mem_nil⟩, h6.bare (fun a z => .inl (l.B a z)) hc⟩
      · rw [if_neg hc] at e'; cases e'
theorem fnP {x qual : Str} {params : Arguments} {body : List Stmt} {scope : Scope} {f : Addr} {fd : FuncData} {N ps : List Str} {k : Nat} {m : MS} {dvs : List V} {kws : List (Str × V)} (F : FunD K x qual params body scope dvs kws f fd) (S : FnScope N ps scope)
    (hb : ∀ (cdv : Value) (A : Around) (outer : List Env) (s : Shared) (H : Hp) (E : XK), Room k (A.deeper (envOfC qual scope s.heap.objs.size f cdv)) → RSs (cxOf (L2.CX P w) P w K mg base N qual scope f cdv A outer s H E) (fun cls d _ H' => E cls d H') body m) :
    FnOk P w K mg base (L2.CX P w) (k + 1) f fd ps (SpP K mg ps.length (runP N.length m)) := by
  refine F.ok S (fun vs H Q E h => ?_) (fun cdv A outer s H vs Q E hr h => ⟨_, hb cdv A outer s H E hr, body_of h⟩)
  obtain ⟨c, ds, r, _, _, _, _, _, rv, hn, _⟩ := h
  rw [← rv.length, hn]
end
/-- a gives lists of n -/
def ArN (n : Nat) (a : M (List D)) : Prop := ∀ ε h ds h', a ε h = some (.ok ds, h') → ds.length = n
theorem ar_nil : ArN 0 mNil := fun ε h ds h' e => by cases e; rfl
theorem ar_cons {n : Nat} {a : M D} {b : M (List D)} (hb : ArN n b) : ArN (n + 1) (mCons a b) := fun ε h ds h' e => by
  unfold mCons at e
  cases q : a ε h with
  | none => rw [q] at e; cases e
  | some z =>
    obtain ⟨r1, h1⟩ := z
    rw [q] at e
    cases r1 with
    | ex x => cases e
    | ok x =>
      rw [bR_ok] at e
      cases q2 : b ε h1 with
      | none => rw [q2] at e; cases e
      | some z =>
        obtain ⟨r2, h2⟩ := z
        rw [q2] at e
        cases r2 with
        | ex x => cases e
        | ok xs => cases e; exact congrArg Nat.succ (hb _ _ _ _ q2)
def mCallP (F : PF) (a : M (List D)) : M D := fun ε h => bR (a ε h) fun ds h1 => if noRef.go ds = true then (F ds).map fun r => (r, h1) else none
section
variable {X : Cx} {W : WX}
theorem callP_of {K : PySem.W.Frag} {mg : Str → Option Value} {n : Nat} {F : PF} {a : M (List D)} {σ : L2.St} {H : Hp} {Q : VK} (hn : ArN n a) (h : tE K mg W (mCallP F a) σ H Q) :
    tCallSD (SpP K mg n F) [] (fun σ cls d H' => W cls d σ H') (tA K mg W a) σ H Q := by
  obtain ⟨c, ε, h, r, h', hK, hm, rfl, sr, er, e, px, go⟩ := h
  unfold tCallSD
  cases q : a ε h with
  | none => rw [mCallP, q] at e; cases e
  | some z =>
    obtain ⟨ra, h1⟩ := z
    rw [mCallP, q] at e
    cases ra with
    | ex x =>
      cases e
      exact ⟨c, ε, h, .ex x, _, hK, hm, rfl, sr, er, q, fun y ey => px y (by cases ey; rfl), fun a' ea => nomatch ea⟩
    | ok ds =>
      refine ⟨c, ε, h, .ok ds, h1, hK, hm, rfl, sr, er, q, Px.ok, fun ds' eds c1 vs l1 s1 r1 => ?_⟩
      cases eds
      have e' : (if noRef.go ds = true then (F ds).map fun r => (r, h1) else none) = some (r, h') := e
      by_cases hc : noRef.go ds = true
      · rw [if_pos hc] at e'
        cases q2 : F ds with
        | none => rw [q2] at e'; cases e'
        | some r2 =>
          rw [q2] at e'
          cases e'
          rw [List.append_nil]
          have hK1 := l1.K.trans hK
          have hm1 := l1.mg.trans hm
          -- the callee's view: our cells are not to be touched
          have r1' : Reps (c1.bare fun a => c1.B a ∨ a ∈ c1.ρ) ds vs := r1.bare (fun _ z => z) hc
          have back : ∀ c', (c1.bare fun a => c1.B a ∨ a ∈ c1.ρ).Le c' → c1.Le { c' with ρ := c1.ρ, B := c1.B } ∧ SR { c' with ρ := c1.ρ, B := c1.B } h' := fun c' l => by
            have l2 : c1.Le { c' with ρ := c1.ρ, B := c1.B } := ⟨l.K, l.mg, fun _ h => h, fun _ h => .inl h, l.dom, fun _ _ h => h, fun a o e t n => ⟨(l.keep a o e t List.not_mem_nil).1, n⟩, l.tup, l.frz⟩
            refine ⟨l2, s1.len, s1.nd, fun n a k e1 e2 => ?_, s1.nb, fun a hb => ?_⟩
            · have cr := s1.cells n a k e1 e2
              obtain ⟨o, eo⟩ := cr.ex
              refine cr.le l2 ?_
              have nt : ∀ ps, o ≠ .tbl ps := fun ps z => by
                subst z
                cases k with
                | lst ds => obtain ⟨xs, h1, _⟩ := cr; rw [eo] at h1; cases h1
                | dic t kvs => obtain ⟨o', zs, h1, h3, _⟩ := cr; rw [eo] at h1; cases h1; exact h3.tbl _ rfl
                | obj C fs => obtain ⟨_, _, _, _, h1, _⟩ := cr; rw [eo] at h1; cases h1
              exact (l.keep a o eo nt List.not_mem_nil).1.trans eo.symm
            · obtain ⟨o, eo⟩ := s1.bt a hb
              exact l.dom a o eo
          refine ⟨c1.bare fun a => c1.B a ∨ a ∈ c1.ρ, ds, r, hK1, hm1, rfl, rfl, fun a z => ?_, r1', hn _ _ _ _ q, q2, fun d ed c' v l hρ rd => ?_, fun x ex c' cls dx l hρ xr => ?_⟩
          · rcases z with z | z
            · exact s1.bt a z
            · exact s1.ex z
          · obtain ⟨l2, s2⟩ := back c' l
            refine go d ed { c' with ρ := c1.ρ, B := c1.B } v (l1.trans l2) s2 ?_
            exact Rep.unbare (fun a ha => l.B a (.inr ha)) (fun a ha => l.B a (.inl ha)) hρ rd
          · obtain ⟨l2, s2⟩ := back c' l
            refine px x ex { c' with ρ := c1.ρ, B := c1.B } cls dx (l1.trans l2) s2 ?_
            obtain ⟨Ca, d, us, h1, h2, h3, h4, h5, h6⟩ := xr
            exact ⟨Ca, d, us, h1, h2, h3, h4, ⟨fun z => h5.1 (l.B _ (.inl z)), fun z => h5.1 (l.B _ (.inr z))⟩, RepF.unbare (fun a ha => l.B a (.inr ha)) (fun a ha => l.B a (.inl ha)) hρ h6⟩
      · rw [if_neg hc] at e'; cases e'
theorem re_callP {x : Str} {p pos : Pos} {e : Expr} {es : List Expr} {k j n : Nat} {F : PF} {ma : M (List D)} (G : FnP X.prog X.w X.K X.mg X.base x k n F) (hr : Room j X.A) (tk : Takes X W) (ha : RA X W (e :: es) ma) (hk : k ≤ j := by decide)
    (hn : ArN n ma := by repeat (first | exact ar_nil | refine ar_cons ?_)) (hg : Gl X x := by rfl)
    (hdb : (x == ("__debug__" : Str)) = false := by decide) (he : starEach (e :: es) X.env = (false, eval e X.env) :: starEach es X.env := by rfl) (hpl : (backTo pos (starEach es X.env)).any (·.1) = false := by rfl) :
    RE X W (.Call (.Name x p) (e :: es) [] pos) (mCallP F ma) := by
  obtain ⟨f, fd, ps, hm, hkp, hb, hl, F⟩ := G.ex
  exact pe_imp (pe_callSD F (hr.mono hk) hg hm hkp hb .nil (fun σ => passAt tk σ) ha hdb he hpl) fun σ H Q h => callP_of hn h
end
end PD
namespace PD
open PySem PySem.Spec PyProof.Rows L2
variable [LamTab]
mutual
theorem Rep.re {c : RC} {ρ : List Addr} {B : Addr → Prop} (hB : ∀ a, B a ∨ a ∈ ρ → c.B a ∨ a ∈ c.ρ) : ∀ {d : D} {v : V}, Rep c d v → noRef d = true → Rep { c with ρ := ρ, B := B } d v
  | _, _, .non, _ => .non
  | _, _, .bl b, _ => .bl b
  | _, _, .int i, _ => .int i
  | _, _, .str cs, _ => .str cs
  | .tup ds, _, .tup h r, e => .tup h (Reps.re hB r (by rw [noRef] at e; exact e))
  | .lst ds, _, .lst h f r, e => .lst h ⟨fun z => (hB _ (.inl z)).elim f.1 f.2, fun z => (hB _ (.inr z)).elim f.1 f.2⟩ (Reps.re hB r (by rw [noRef] at e; exact e))
  | .scr ds, _, .scr h r, e => .scr h (Reps.re hB r (by rw [noRef] at e; exact e))
  | .obj C fs, _, .obj m h f r, e => .obj m h ⟨fun z => (hB _ (.inl z)).elim f.1 f.2, fun z => (hB _ (.inr z)).elim f.1 f.2⟩ (RepF.re hB r (by rw [noRef] at e; exact e))
  | .dic t kvs, _, .dic h i f r, e => .dic h i ⟨fun z => (hB _ (.inl z)).elim f.1 f.2, fun z => (hB _ (.inr z)).elim f.1 f.2⟩ (RepP.re hB r (by rw [noRef] at e; exact e))
  | .fn i ds, _, .fn h f k f2 cr r, e => .fn h ⟨fun z => (hB _ (.inl z)).elim f.1 f.2, fun z => (hB _ (.inr z)).elim f.1 f.2⟩ k ⟨fun z => (hB _ (.inl z)).elim f2.1 f2.2, fun z => (hB _ (.inr z)).elim f2.1 f2.2⟩ (cr.imp fun b o hb fb => ⟨hb, fun z => (hB _ (.inl z)).elim fb.1 fb.2, fun z => (hB _ (.inr z)).elim fb.1 fb.2⟩) (Reps.re hB r (by rw [noRef] at e; exact e))
  | .exc C fs, _, .exc m h f h2 f2 r, e => .exc m h ⟨fun z => (hB _ (.inl z)).elim f.1 f.2, fun z => (hB _ (.inr z)).elim f.1 f.2⟩ h2 ⟨fun z => (hB _ (.inl z)).elim f2.1 f2.2, fun z => (hB _ (.inr z)).elim f2.1 f2.2⟩ (RepF.re hB r (by rw [noRef] at e; exact e))
  | _, _, .ref h, e => by cases e
theorem Reps.re {c : RC} {ρ : List Addr} {B : Addr → Prop} (hB : ∀ a, B a ∨ a ∈ ρ → c.B a ∨ a ∈ c.ρ) : ∀ {ds : List D} {vs : List V}, Reps c ds vs → noRef.go ds = true → Reps { c with ρ := ρ, B := B } ds vs
  | _, _, .nil, _ => .nil
  | _, _, .cons h t, e => by
    rw [noRef.go, Bool.and_eq_true] at e
    exact .cons (Rep.re hB h e.1) (Reps.re hB t e.2)
theorem RepP.re {c : RC} {ρ : List Addr} {B : Addr → Prop} (hB : ∀ a, B a ∨ a ∈ ρ → c.B a ∨ a ∈ c.ρ) : ∀ {ds : List (List Key × D)} {vs : List (List Key × V)}, RepP c ds vs → noRef.gp ds = true → RepP { c with ρ := ρ, B := B } ds vs
  | _, _, .nil, _ => .nil
  | _, _, .cons h t, e => by
    rw [noRef.gp, Bool.and_eq_true] at e
    exact .cons (Rep.re hB h e.1) (RepP.re hB t e.2)
theorem RepF.re {c : RC} {ρ : List Addr} {B : Addr → Prop} (hB : ∀ a, B a ∨ a ∈ ρ → c.B a ∨ a ∈ c.ρ) : ∀ {ds : List (Str × D)} {vs : List (Str × V)}, RepF c ds vs → noRef.gf ds = true → RepF { c with ρ := ρ, B := B } ds vs
  | _, _, .nil, _ => .nil
  | _, _, .cons h t, e => by
    rw [noRef.gf, Bool.and_eq_true] at e
    exact .cons (Rep.re hB h e.1) (RepF.re hB t e.2)
end
def pureC : Cell → Bool
  | .lst ds => noRef.go ds
  | .dic _ kvs => noRef.gp kvs
  | .obj _ fs => noRef.gf fs
/-- the first n cells alone -/
def trim (n : Nat) (h : EH) : Option EH := if h.length = n then some h else if (h.take n).all pureC = true then some (h.take n) else none
def frz1I (n : Nat) (h : EH) (d : D) : Option D := match d with
  | .ref m => if m < n then some (.ref m) else (match h[m]? with
    | some (.lst ds) => if noRef.go ds = true then some (.lst ds) else none
    | some (.obj C fs) => if noRef.gf fs = true then some (.obj C fs) else none
    | some (.dic t kvs) => if noRef.gp kvs = true then some (.dic t kvs) else none
    | _ => none)
  | d => if noRef d = true then some d else none
def frzLI (n : Nat) (h : EH) : List D → Option (List D)
  | [] => some []
  | d :: ds => match frz1I n h d, frzLI n h ds with
    | some x, some xs => some (x :: xs)
    | _, _ => none
def frzI (n : Nat) (h : EH) (d : D) : Option D := match d with
  | .tup ds => (frzLI n h ds).map .tup
  | .lst ds => (frzLI n h ds).map .lst
  | d => frz1I n h d
abbrev RC.cut (c : RC) (n : Nat) : RC := { c with ρ := c.ρ.take n }
theorem cut_sub {c : RC} {n : Nat} : ∀ a, c.B a ∨ a ∈ c.ρ.take n → c.B a ∨ a ∈ c.ρ := fun a z => z.imp id List.mem_of_mem_take
theorem cut_not {c : RC} {h : EH} {n m : Nat} {a : Addr} (s : SR c h) (hm : c.ρ[m]? = some a) (hn : n ≤ m) : a ∉ c.ρ.take n := fun z => by
  obtain ⟨j, hj, e⟩ := List.mem_iff_getElem.mp z
  rw [List.getElem_take] at e
  obtain ⟨h2, e2⟩ := List.getElem?_eq_some_iff.mp hm
  have hj' : j < c.ρ.length := by rw [List.length_take] at hj; omega
  have := (List.getElem_inj s.nd).mp (e.trans e2.symm)
  rw [List.length_take] at hj
  omega
theorem frz1I_ok {c : RC} {h : EH} {n : Nat} {d e : D} {v : V} (s : SR c h) (r : Rep c d v) (q : frz1I n h d = some e) : Rep (c.cut n) e v := by
  have fin : (if noRef d = true then some d else none) = some e → Rep (c.cut n) e v := fun q => by
    by_cases hc : noRef d = true
    · rw [if_pos hc] at q; cases q; exact r.re cut_sub hc
    · rw [if_neg hc] at q; cases q
  cases r with
  | @ref m a hn =>
    unfold frz1I at q
    dsimp only at q
    by_cases hmn : m < n
    · rw [if_pos hmn] at q
      cases q
      exact .ref (by rw [List.getElem?_take_of_lt hmn]; exact hn)
    · rw [if_neg hmn] at q
      cases q2 : h[m]? with
      | none => rw [q2] at q; cases q
      | some k =>
        rw [q2] at q
        have cr := s.cells m a k hn q2
        have nb : ¬ c.B a := fun z => s.nb a (List.mem_of_getElem? hn) z
        have nm := cut_not (n := n) s hn (by omega)
        cases k with
        | lst ds =>
          dsimp only at q
          by_cases hc : noRef.go ds = true
          · rw [if_pos hc] at q
            cases q
            obtain ⟨xs, e1, e2⟩ := cr
            exact .lst e1 ⟨nb, nm⟩ (e2.re cut_sub hc)
          · rw [if_neg hc] at q; cases q
        | dic t kvs =>
          dsimp only at q
          by_cases hc : noRef.gp kvs = true
          · rw [if_pos hc] at q
            cases q
            obtain ⟨o, zs, e1, e3, e2⟩ := cr
            exact .dic e1 e3 ⟨nb, nm⟩ (e2.re cut_sub hc)
          · rw [if_neg hc] at q; cases q
        | obj C fs =>
          dsimp only at q
          by_cases hc : noRef.gf fs = true
          · rw [if_pos hc] at q
            cases q
            obtain ⟨Ca, dx, vs, e0, e1, e2⟩ := cr
            exact .obj e0 e1 ⟨nb, nm⟩ (e2.re cut_sub hc)
          · rw [if_neg hc] at q; cases q
  | _ => exact fin q
theorem frzLI_ok {c : RC} {h : EH} {n : Nat} (s : SR c h) : ∀ {ds es : List D} {vs : List V}, Reps c ds vs → frzLI n h ds = some es → Reps (c.cut n) es vs
  | _, _, _, .nil, q => by cases q; exact .nil
  | d :: ds, es, _, .cons r t, q => by
    unfold frzLI at q
    cases q1 : frz1I n h d with
    | none => rw [q1] at q; cases q
    | some x =>
      cases q2 : frzLI n h ds with
      | none => rw [q1, q2] at q; cases q
      | some xs => rw [q1, q2] at q; cases q; exact .cons (frz1I_ok s r q1) (frzLI_ok s t q2)
theorem frzI_ok {c : RC} {h : EH} {n : Nat} {d e : D} {v : V} (s : SR c h) (r : Rep c d v) (q : frzI n h d = some e) : Rep (c.cut n) e v := by
  cases r with
  | @tup a ds xs k1 k2 =>
    have q' : (frzLI n h ds).map D.tup = some e := q
    cases q1 : frzLI n h ds with
    | none => rw [q1] at q'; cases q'
    | some es => rw [q1] at q'; cases q'; exact .tup k1 (frzLI_ok s k2 q1)
  | @lst a ds xs k1 k2 k3 =>
    have q' : (frzLI n h ds).map D.lst = some e := q
    cases q1 : frzLI n h ds with
    | none => rw [q1] at q'; cases q'
    | some es => rw [q1] at q'; cases q'; exact .lst k1 ⟨k2.1, fun z => k2.2 (List.mem_of_mem_take z)⟩ (frzLI_ok s k3 q1)
  | non => exact frz1I_ok s .non q
  | bl b => exact frz1I_ok s (.bl b) q
  | int i => exact frz1I_ok s (.int i) q
  | str cs => exact frz1I_ok s (.str cs) q
  | obj m k1 k2 k3 => exact frz1I_ok s (.obj m k1 k2 k3) q
  | dic k1 k2 k3 k4 => exact frz1I_ok s (.dic k1 k2 k3 k4) q
  | fn k1 k2 k3 k4 k5 k6 => exact frz1I_ok s (.fn k1 k2 k3 k4 k5 k6) q
  | exc k1 k2 k3 k4 k5 k6 => exact frz1I_ok s (.exc k1 k2 k3 k4 k5 k6) q
  | ref hn => exact frz1I_ok s (.ref hn) q
  | scr k1 k2 => exact frz1I_ok s (.scr k1 k2) q
theorem trim_ok {c : RC} {h h1 : EH} {n : Nat} (s : SR c h) (q : trim n h = some h1) : SR (c.cut n) h1 := by
  unfold trim at q
  by_cases e : h.length = n
  · rw [if_pos e] at q
    cases q
    have e2 : c.ρ.take n = c.ρ := List.take_of_length_le (by rw [s.len, e]; exact Nat.le_refl _)
    have e3 : c.cut n = c := by
      show ({ c with ρ := c.ρ.take n } : RC) = c
      rw [e2]
    rw [e3]; exact s
  · rw [if_neg e] at q
    by_cases hp : (h.take n).all pureC = true
    · rw [if_pos hp] at q
      cases q
      refine ⟨by rw [List.length_take, List.length_take, s.len], s.nd.sublist (List.take_sublist _ _), fun m a k e1 e2 => ?_, fun a ha => s.nb a (List.mem_of_mem_take ha), s.bt⟩
      have hm : m < n := by
        have := (List.getElem?_eq_some_iff.mp e2).1
        rw [List.length_take] at this
        omega
      have e1' : c.ρ[m]? = some a := by
        have z : (c.ρ.take n)[m]? = some a := e1
        rwa [List.getElem?_take_of_lt hm] at z
      have e2' : h[m]? = some k := by rwa [List.getElem?_take_of_lt hm] at e2
      have hk : pureC k = true := List.all_eq_true.mp hp k (List.mem_of_getElem? e2)
      have r := s.cells m a k e1' e2'
      cases k with
      | lst ds => obtain ⟨xs, h1, h2⟩ := r; exact ⟨xs, h1, h2.re cut_sub hk⟩
      | dic t kvs => obtain ⟨o, zs, h1, h3, h2⟩ := r; exact ⟨o, zs, h1, h3, h2.re cut_sub hk⟩
      | obj C fs => obtain ⟨Ca, dx, vs, h0, h1, h2⟩ := r; exact ⟨Ca, dx, vs, h0, h1, h2.re cut_sub hk⟩
    · rw [if_neg hp] at q; cases q
theorem le_cut {c c' : RC} (l : c.Le c') : c.Le (c'.cut c.ρ.length) := by
  refine ⟨l.K, l.mg, l.B, l.Bn, l.dom, fun n a e => ?_, fun a o e t n => ⟨(l.keep a o e t n).1, fun z => (l.keep a o e t n).2 (List.mem_of_mem_take z)⟩, l.tup, l.frz⟩
  have hn := (List.getElem?_eq_some_iff.mp e).1
  show (c'.ρ.take c.ρ.length)[n]? = some a
  rw [List.getElem?_take_of_lt hn]
  exact l.pre n a e
abbrev IF := List D → EH → Option (R D × EH)
def endI (n : Nat) (x : Option (RS × EH)) : Option (R D × EH) := match x with
  | some (.rt d, h) => (match frzI n h d, trim n h with
    | some d', some h1 => some (.ok d', h1)
    | _, _ => none)
  | some (.nx _, h) => (trim n h).map fun h1 => (.ok .non, h1)
  | some (.ex e _, h) => if noRef.gf e.fs = true then (trim n h).map fun h1 => (.ex e, h1) else none
  | _ => none
def runI (n : Nat) (m : MS) : IF := fun ds h => endI h.length (m (startE n ds) h)
/-- the def gives a new cell -/
def endA (n : Nat) (x : Option (RS × EH)) : Option (R D × EH) := match x with
  | some (.rt (.ref m), h) => if n = m ∧ h.length = n + 1 then some (.ok (.ref n), h) else none
  | _ => none
def runA (n : Nat) (m : MS) : IF := fun ds h => endA h.length (m (startE n ds) h)
def SpI (K : PySem.W.Frag) (mg : Str → Option Value) (n : Nat) (F : IF) : Sp := fun vs H Q E => ∃ (c : RC) (h : EH) (ds : List D) (r : R D) (h' : EH), c.K = K ∧ MgE c mg ∧ c.H = H ∧ SR c h ∧ Reps c ds vs ∧ ds.length = n ∧ F ds h = some (r, h') ∧
  (∀ d, r = .ok d → ∀ c' v, c.Le c' → SR c' h' → Rep c' d v → Q v c'.H) ∧ (∀ e, r = .ex e → ∀ c' cls dx, c.Le c' → SR c' h' → ExR c' e cls dx → E cls dx c'.H)
structure FnI (P : Program) (w : World) (K : PySem.W.Frag) (mg : Str → Option Value) (base : Heap) (x : Str) (k n : Nat) (F : IF) : Prop where
  ex : ∃ (f : Addr) (fd : FuncData) (ps : List Str), mg x = some (.ref f) ∧ PySem.W.keepIn K (.ref f) = true ∧ Binds K fd ps [] ∧ ps.length = n ∧ FnOk P w K mg base (L2.CX P w) k f fd ps (SpI K mg n F)
section
variable {P : Program} {w : World} {K : PySem.W.Frag} {mg : Str → Option Value} {base : Heap}
theorem bodyI_of {N : List Str} {m : MS} {vs : List V} {H : Hp} {Q : VK} {E : XK} {n : Nat} (h : SpI K mg n (runI N.length m) vs H Q E) : tS K mg (fun cls d _ H' => E cls d H') m { nx := fun _ H' => Q .non H', rt := Q } (L2.start N vs) H := by
  obtain ⟨c, h, ds, r, h', hK, hm, rfl, sr, rv, hn, e, go, gx⟩ := h
  unfold runI at e
  cases q : m (startE N.length ds) h with
  | none => rw [q] at e; cases e
  | some z =>
    obtain ⟨rs, h2⟩ := z
    rw [q] at e
    refine ⟨c, startE N.length ds, h, rs, h2, hK, hm, rfl, sr, start_envR rv, q, ?_⟩
    rw [← sr.len] at e
    cases rs with
    | nx ε' =>
      have e' : (trim c.ρ.length h2).map (fun h1 => (R.ok D.non, h1)) = some (r, h') := e
      cases q1 : trim c.ρ.length h2 with
      | none => rw [q1] at e'; cases e'
      | some h1 =>
        rw [q1] at e'
        cases e'
        exact fun c' σ' l s en => go _ rfl (c'.cut c.ρ.length) _ (le_cut l) (trim_ok s q1) .non
    | rt d =>
      have e' : (match frzI c.ρ.length h2 d, trim c.ρ.length h2 with
        | some d', some h1 => some (R.ok d', h1)
        | _, _ => none) = some (r, h') := e
      cases q1 : frzI c.ρ.length h2 d with
      | none => rw [q1] at e'; cases e'
      | some d' =>
        cases q2 : trim c.ρ.length h2 with
        | none => rw [q1, q2] at e'; cases e'
        | some h1 =>
          rw [q1, q2] at e'
          cases e'
          exact fun c' v l s rd => go _ rfl (c'.cut c.ρ.length) v (le_cut l) (trim_ok s q2) (frzI_ok s rd q1)
    | bk ε' => cases e
    | ct ε' => cases e
    | ex x ε' =>
      have e' : (if noRef.gf x.fs = true then (trim c.ρ.length h2).map (fun h1 => (R.ex x, h1)) else none) = some (r, h') := e
      by_cases hc : noRef.gf x.fs = true
      · rw [if_pos hc] at e'
        cases q1 : trim c.ρ.length h2 with
        | none => rw [q1] at e'; cases e'
        | some h1 =>
          rw [q1] at e'
          cases e'
          refine fun c' σ' cls dx l s en xr => gx _ rfl (c'.cut c.ρ.length) cls dx (le_cut l) (trim_ok s q1) ?_
          obtain ⟨Ca, d, vs, h1, h2, h3, h4, h5, h6⟩ := xr
          exact ⟨Ca, d, vs, h1, h2, h3, h4, ⟨h5.1, fun z => h5.2 (List.mem_of_mem_take z)⟩, h6.re cut_sub hc⟩
      · rw [if_neg hc] at e'; cases e'
theorem bodyA_of {N : List Str} {m : MS} {vs : List V} {H : Hp} {Q : VK} {E : XK} {n : Nat} (h : SpI K mg n (runA N.length m) vs H Q E) : tS K mg (fun cls d _ H' => E cls d H') m { nx := fun _ H' => Q .non H', rt := Q } (L2.start N vs) H := by
  obtain ⟨c, h, ds, r, h', hK, hm, rfl, sr, rv, hn, e, go, gx⟩ := h
  unfold runA at e
  cases q : m (startE N.length ds) h with
  | none => rw [q] at e; cases e
  | some z =>
    obtain ⟨rs, h2⟩ := z
    rw [q] at e
    refine ⟨c, startE N.length ds, h, rs, h2, hK, hm, rfl, sr, start_envR rv, q, ?_⟩
    cases rs with
    | rt d =>
      cases d with
      | ref m' =>
        have e' : (if h.length = m' ∧ h2.length = h.length + 1 then some (R.ok (D.ref h.length), h2) else none) = some (r, h') := e
        by_cases hc : h.length = m' ∧ h2.length = h.length + 1
        · rw [if_pos hc] at e'
          cases e'
          rw [← hc.1]
          exact fun c' v l s rd => go _ rfl c' v l s rd
        · rw [if_neg hc] at e'; cases e'
      | _ => cases e
    | _ => cases e
theorem fnI {x qual : Str} {params : Arguments} {body : List Stmt} {scope : Scope} {f : Addr} {fd : FuncData} {N ps : List Str} {k : Nat} {m : MS} {dvs : List V} {kws : List (Str × V)} (F : FunD K x qual params body scope dvs kws f fd) (S : FnScope N ps scope)
    (hb : ∀ (cdv : Value) (A : Around) (outer : List Env) (s : Shared) (H : Hp) (E : XK), Room k (A.deeper (envOfC qual scope s.heap.objs.size f cdv)) → RSs (cxOf (L2.CX P w) P w K mg base N qual scope f cdv A outer s H E) (fun cls d _ H' => E cls d H') body m) :
    FnOk P w K mg base (L2.CX P w) (k + 1) f fd ps (SpI K mg ps.length (runI N.length m)) := by
  refine F.ok S (fun vs H Q E h => ?_) (fun cdv A outer s H vs Q E hr h => ⟨_, hb cdv A outer s H E hr, bodyI_of h⟩)
  obtain ⟨c, h, ds, r, h', _, _, _, _, rv, hn, _⟩ := h
  rw [← rv.length, hn]
theorem fnA {x qual : Str} {params : Arguments} {body : List Stmt} {scope : Scope} {f : Addr} {fd : FuncData} {N ps : List Str} {k : Nat} {m : MS} {dvs : List V} {kws : List (Str × V)} (F : FunD K x qual params body scope dvs kws f fd) (S : FnScope N ps scope)
    (hb : ∀ (cdv : Value) (A : Around) (outer : List Env) (s : Shared) (H : Hp) (E : XK), Room k (A.deeper (envOfC qual scope s.heap.objs.size f cdv)) → RSs (cxOf (L2.CX P w) P w K mg base N qual scope f cdv A outer s H E) (fun cls d _ H' => E cls d H') body m) :
    FnOk P w K mg base (L2.CX P w) (k + 1) f fd ps (SpI K mg ps.length (runA N.length m)) := by
  refine F.ok S (fun vs H Q E h => ?_) (fun cdv A outer s H vs Q E hr h => ⟨_, hb cdv A outer s H E hr, bodyA_of h⟩)
  obtain ⟨c, h, ds, r, h', _, _, _, _, rv, hn, _⟩ := h
  rw [← rv.length, hn]
end
def mCallI (F : IF) (a : M (List D)) : M D := fun ε h => bR (a ε h) fun ds h1 => F ds h1
section
variable {X : Cx} {W : WX}
theorem callI_of {K : PySem.W.Frag} {mg : Str → Option Value} {n : Nat} {F : IF} {a : M (List D)} {σ : L2.St} {H : Hp} {Q : VK} (hn : ArN n a) (h : tE K mg W (mCallI F a) σ H Q) :
    tCallSD (SpI K mg n F) [] (fun σ cls d H' => W cls d σ H') (tA K mg W a) σ H Q := by
  obtain ⟨c, ε, h, r, h', hK, hm, rfl, sr, er, e, px, go⟩ := h
  unfold tCallSD
  cases q : a ε h with
  | none => rw [mCallI, q] at e; cases e
  | some z =>
    obtain ⟨ra, h1⟩ := z
    rw [mCallI, q] at e
    cases ra with
    | ex x =>
      cases e
      exact ⟨c, ε, h, .ex x, _, hK, hm, rfl, sr, er, q, fun y ey => px y (by cases ey; rfl), fun a' ea => nomatch ea⟩
    | ok ds =>
      refine ⟨c, ε, h, .ok ds, h1, hK, hm, rfl, sr, er, q, Px.ok, fun ds' eds c1 vs l1 s1 r1 => ?_⟩
      cases eds
      rw [List.append_nil]
      exact ⟨c1, h1, ds, r, h', l1.K.trans hK, l1.mg.trans hm, rfl, s1, r1, hn _ _ _ _ q, e, fun d ed c' v l s rd => go d ed c' v (l1.trans l) s rd, fun x ex c' cls dx l s xr => px x ex c' cls dx (l1.trans l) s xr⟩
theorem re_callI {x : Str} {p pos : Pos} {e : Expr} {es : List Expr} {k j n : Nat} {F : IF} {ma : M (List D)} (G : FnI X.prog X.w X.K X.mg X.base x k n F) (hr : Room j X.A) (tk : Takes X W) (ha : RA X W (e :: es) ma) (hk : k ≤ j := by decide)
    (hn : ArN n ma := by repeat (first | exact ar_nil | refine ar_cons ?_)) (hg : Gl X x := by rfl)
    (hdb : (x == ("__debug__" : Str)) = false := by decide) (he : starEach (e :: es) X.env = (false, eval e X.env) :: starEach es X.env := by rfl) (hpl : (backTo pos (starEach es X.env)).any (·.1) = false := by rfl) :
    RE X W (.Call (.Name x p) (e :: es) [] pos) (mCallI F ma) := by
  obtain ⟨f, fd, ps, hm, hkp, hb, hl, F⟩ := G.ex
  exact pe_imp (pe_callSD F (hr.mono hk) hg hm hkp hb .nil (fun σ => passAt tk σ) ha hdb he hpl) fun σ H Q h => callI_of hn h
end
/-- [..] as a cell -/
def mLstC (m : M (List D)) : M D := fun ε h => bR (m ε h) fun ds h1 => if ds.length ≤ sizeLine then some (.ok (.ref h1.length), h1 ++ [.lst ds]) else none
theorem SR.cell {c : RC} {h : EH} {p : Addr} {ds : List D} {xs : List V} (s : SR c h) (hp : c.H p = none) (r : Reps c ds xs) : c.Le { c with ρ := c.ρ ++ [p], H := upd c.H p (.lst xs) } ∧ SR { c with ρ := c.ρ ++ [p], H := upd c.H p (.lst xs) } (h ++ [.lst ds]) := by
  have np : p ∉ c.ρ := fun z => by
    obtain ⟨o, e⟩ := s.ex z
    rw [hp] at e; cases e
  have ne : ∀ a o, c.H a = some o → a ≠ p := fun a o e z => by rw [z, hp] at e; cases e
  have l : c.Le { c with ρ := c.ρ ++ [p], H := upd c.H p (.lst xs) } := by
    refine ⟨rfl, ⟨rfl, tabs_upd (noTab_none hp)⟩, fun _ h => h, fun _ h => .inl h, fun a u e => ⟨u, (upd_ne (ne a u e)).trans e⟩, fun n a e => ?_, fun a u e _ n => ⟨(upd_ne (ne a u e)).trans e, fun z => ?_⟩, fun a ys e => ?_, fun a o u e => (upd_ne (ne a _ e)).trans e⟩
    · show (c.ρ ++ [p])[n]? = some a
      rw [List.getElem?_append_left (List.getElem?_eq_some_iff.mp e).1]
      exact e
    · rcases List.mem_append.mp z with z | z
      · exact n z
      · exact ne a u e (List.mem_singleton.mp z)
    · rcases e with e | ⟨u, e⟩
      · exact .inl ((upd_ne (ne a _ e)).trans e)
      · exact .inr ⟨u, (upd_ne (ne a _ e)).trans e⟩
  refine ⟨l, ⟨by rw [List.length_append, List.length_append, s.len]; rfl, ?_, fun n a k e1 e2 => ?_, fun a ha z => ?_, fun a hb => ?_⟩⟩
  · rw [List.nodup_append]
    refine ⟨s.nd, by simp, fun a ha b hb => ?_⟩
    rw [List.mem_singleton.mp hb]
    exact fun z => np (z ▸ ha)
  · have e1' : (c.ρ ++ [p])[n]? = some a := e1
    by_cases hn : n < c.ρ.length
    · rw [List.getElem?_append_left hn] at e1'
      rw [List.getElem?_append_left (by rw [← s.len]; exact hn)] at e2
      have cr := s.cells n a k e1' e2
      obtain ⟨o, eo⟩ := cr.ex
      exact cr.le l (upd_ne (ne a o eo))
    · rw [List.getElem?_append_right (by omega)] at e1'
      rw [List.getElem?_append_right (by rw [← s.len]; omega), ← s.len] at e2
      cases q : n - c.ρ.length with
      | zero =>
        rw [q] at e1' e2
        cases e1'
        cases e2
        exact ⟨xs, upd_same, r.le l⟩
      | succ m =>
        rw [q] at e1'
        simp at e1'
  · rcases List.mem_append.mp ha with ha | ha
    · exact s.nb a ha z
    · rw [List.mem_singleton.mp ha] at z
      obtain ⟨o, e⟩ := s.bt p z
      rw [hp] at e; cases e
  · obtain ⟨o, e⟩ := s.bt a hb
    exact ⟨o, (upd_ne (ne a o e)).trans e⟩
theorem re_lstC {X : Cx} {W : WX} {es : List Expr} {m : M (List D)} {pos} (h : RA X W es m) : RE X W (.List es pos) (mLstC m) := by
  refine pe_imp (pe_lst h) fun σ H Q h => ?_
  obtain ⟨c, ε, h, r', h', hK, hm, rfl, sr, er, e, px, go⟩ := h
  unfold tLst
  refine tX.bind hK hm sr er e px fun ds h1 c1 xs e1 l1 s1 r1 => ?_
  by_cases hz : ds.length ≤ sizeLine
  · rw [if_pos hz] at e1
    cases e1
    refine ⟨by rw [← r1.length]; exact hz, fun p hp => ?_⟩
    obtain ⟨l2, s2⟩ := s1.cell hp r1
    refine go _ rfl _ _ (l1.trans l2) s2 (.ref ?_)
    show (c1.ρ ++ [p])[h1.length]? = some p
    rw [← s1.len, List.getElem?_append_right (Nat.le_refl _), Nat.sub_self]
    rfl
  · rw [if_neg hz] at e1; cases e1
end PD
namespace PD
open PySem PySem.Spec PyProof.Rows L2
variable [LamTab]
inductive Ty where
  | non | bool | int | str | tup | lst | dic
  deriving DecidableEq
def Ty.nm : Ty → String
  | .non => "NoneType" | .bool => "bool" | .int => "int" | .str => "str" | .tup => "tuple" | .lst => "list" | .dic => "dict"
def isa : Ty → Ty → Bool
  | .non, .non => true | .bool, .bool => true | .bool, .int => true | .int, .int => true | .str, .str => true | .tup, .tup => true | .lst, .lst => true | .dic, .dic => true
  | _, _ => false
theorem kit_isa : ∀ a b : Ty, kitB a.nm b.nm = some (isa a b) := by
  intro a b
  cases a <;> cases b <;> decide +kernel
def tyD (h : EH) (d : D) : Option Ty := match d with
  | .non => some .non
  | .bl _ => some .bool
  | .int _ => some .int
  | .str _ => some .str
  | .tup _ => some .tup
  | .lst _ => some .lst
  | .ref n => (match h[n]? with
    | some (.lst _) => some .lst
    | _ => none)
  | _ => none
theorem tyD_ok {c : RC} {h : EH} {d : D} {v : V} {t : Ty} (s : SR c h) (r : Rep c d v) (e : tyD h d = some t) : TyX c.K c.H v (.type t.nm) := by
  cases r with
  | non => cases e; exact .base .non
  | bl b => cases e; exact .base (.bl b)
  | int i => cases e; exact .base (.int i)
  | str cs => cases e; exact .base (.str _)
  | @tup a ds xs k1 k2 =>
    cases e
    rcases k1 with (k1 | ⟨o, k1⟩) | ⟨o, its, n, k1, k3, _⟩
    · exact .base (.tup k1)
    · exact .fTuple k1
    · exact .kTuple k1 k3
  | @lst a ds xs k1 k2 k3 =>
    cases e
    exact .base (.lst k1)
  | scr _ _ => cases e
  | obj _ _ _ _ => cases e
  | dic _ _ _ _ => cases e
  | fn _ _ _ _ _ _ => cases e
  | exc _ _ _ _ _ _ => cases e
  | @ref n a hn =>
    unfold tyD at e
    dsimp only at e
    cases q : h[n]? with
    | none => rw [q] at e; cases e
    | some k =>
      rw [q] at e
      cases k with
      | lst ds =>
        cases e
        obtain ⟨xs, e1, _⟩ := s.cells n a _ hn q
        exact .base (.lst e1)
      | _ => cases e
def mIsi (ts : List Ty) (a : M D) : M D := fun ε h => bR (a ε h) fun d h1 => match tyD h1 d with
  | some t => some (.ok (.bl (ts.any (isa t))), h1)
  | none => none
section
variable {X : Cx} {W : WX}
theorem re_isi (T : Ty) {e : Expr} {x : Str} {p p2 pos : Pos} {m : M D} (hm : X.mg "isinstance" = none) (hmx : X.mg x = none) (he : RE X W e m) (hv : bootBuiltins x = some (.type T.nm) := by decide +kernel)
    (hg : Gl X "isinstance" := by rfl) (hgx : Gl X x := by rfl) (hnx : x ≠ "__name__" := by decide) (hdx : (x == ("__debug__" : Str)) = false := by decide)
    (hs1 : starEach [e, .Name x p2] X.env = (false, eval e X.env) :: starEach [.Name x p2] X.env := by rfl) (hs2 : starEach [.Name x p2] X.env = (false, eval (.Name x p2) X.env) :: starEach [] X.env := by rfl)
    (hpl : (backTo pos (starEach [.Name x p2] X.env)).any (·.1) = false := by rfl) : RE X W (.Call (.Name "isinstance" p) [e, .Name x p2] [] pos) (mIsi [T] m) := by
  refine pe_imp (pe_callB (x := "isinstance") call_isi hg hm (by decide +kernel) (pa_cons he (pa_cons (pe_bltn (v := .ty T.nm) (u := .type T.nm) hgx hmx hv rfl hnx hdx) pa_nil hs2) hs1) (by decide) (by decide) hs1 hpl) fun σ H Q h => ?_
  obtain ⟨c, ε, h, r, h', hK, hm, rfl, sr, er, e, px, go⟩ := h
  unfold tCB tCons tC tNil
  refine tX.bind hK hm sr er e px fun d h1 c1 v e1 l1 s1 r1 => ?_
  cases q : tyD h1 d with
  | none => rw [q] at e1; cases e1
  | some t =>
    rw [q] at e1
    cases e1
    have ty := tyD_ok s1 r1 q
    rw [l1.K.trans hK] at ty
    refine ⟨v, .ty T.nm, _, _, isa t T, rfl, .ty _, ty, kit_ty (kit_isa t T), go _ rfl c1 _ l1 s1 ?_⟩
    simpa using Rep.bl (isa t T)
theorem re_isi2 (T U : Ty) {e : Expr} {x y : Str} {p p2 p3 p4 pos : Pos} {k : Nat} {m : M D} (hm : X.mg "isinstance" = none) (hmx : X.mg x = none) (hmy : X.mg y = none) (he : RE X W e m) (hv : bootBuiltins x = some (.type T.nm) := by decide +kernel) (hvy : bootBuiltins y = some (.type U.nm) := by decide +kernel)
    (hg : Gl X "isinstance" := by rfl) (hgx : Gl X x := by rfl) (hgy : Gl X y := by rfl) (hnx : x ≠ "__name__" := by decide) (hdx : (x == ("__debug__" : Str)) = false := by decide) (hny : y ≠ "__name__" := by decide) (hdy : (y == ("__debug__" : Str)) = false := by decide)
    (hs1 : starEach [e, .Tuple [.Name x p2, .Name y p3] k p4] X.env = (false, eval e X.env) :: starEach [.Tuple [.Name x p2, .Name y p3] k p4] X.env := by rfl) (hs2 : starEach [.Tuple [.Name x p2, .Name y p3] k p4] X.env = (false, eval (.Tuple [.Name x p2, .Name y p3] k p4) X.env) :: starEach [] X.env := by rfl)
    (hs3 : starEach [.Name x p2, .Name y p3] X.env = (false, eval (.Name x p2) X.env) :: starEach [.Name y p3] X.env := by rfl) (hs4 : starEach [.Name y p3] X.env = (false, eval (.Name y p3) X.env) :: starEach [] X.env := by rfl)
    (hpl : (backTo pos (starEach [.Tuple [.Name x p2, .Name y p3] k p4] X.env)).any (·.1) = false := by rfl) : RE X W (.Call (.Name "isinstance" p) [e, .Tuple [.Name x p2, .Name y p3] k p4] [] pos) (mIsi [T, U] m) := by
  refine pe_imp (pe_callB (x := "isinstance") call_isiT hg hm (by decide +kernel) (pa_cons he (pa_cons (pe_tup (pa_cons (pe_bltn (v := .ty T.nm) (u := .type T.nm) hgx hmx hv rfl hnx hdx) (pa_cons (pe_bltn (v := .ty U.nm) (u := .type U.nm) hgy hmy hvy rfl hny hdy) pa_nil hs4) hs3)) pa_nil hs2) hs1) (by decide) (by decide) hs1 hpl) fun σ H Q h => ?_
  obtain ⟨c, ε, h, r, h', hK, hm, rfl, sr, er, e, px, go⟩ := h
  unfold tCB tCons tTup tC tNil
  refine tX.bind hK hm sr er e px fun d h1 c1 v e1 l1 s1 r1 => ?_
  refine ⟨by show 2 ≤ sizeLine; decide, fun tp htp => ?_⟩
  cases q : tyD h1 d with
  | none => rw [q] at e1; cases e1
  | some t =>
    rw [q] at e1
    cases e1
    obtain ⟨l2, s2, f2⟩ := s1.new (o := .tup [.ty T.nm, .ty U.nm]) htp
    have ty := tyD_ok s2 (r1.le l2) q
    have hK2 : (c1.put tp (.tup [.ty T.nm, .ty U.nm])).K = X.K := l1.K.trans hK
    rw [hK2] at ty
    refine ⟨v, tp, [.ty T.nm, .ty U.nm], _, [.type T.nm, .type U.nm], [T, U].any (isa t), rfl, upd_same, .cons (.ty _) (.cons (.ty _) .nil), ty, ?_, go _ rfl _ _ (l1.trans l2) s2 (.bl _)⟩
    refine kitAny_cons (b := isa t T) (kit_ty (kit_isa t T)) (fun hb => ?_) fun hb => by simp [hb]
    refine kitAny_cons (b := isa t U) (kit_ty (kit_isa t U)) (fun hb2 => ?_) fun hb2 => by simp [hb2]
    rw [kitAny_nil]
    simp [hb, hb2]
def mMtS (f : EH → List Nat → List D → Option D) (o : M D) (a : M (List D)) : M D := fun ε h => bR (o ε h) fun x h1 => match x with
  | .str z => bR (a ε h1) fun ds h2 => rt (f h2 z ds) h2
  | _ => none
end
/-- lists of texts -/
def asTs : List D → Option (List (List Nat))
  | [] => some []
  | .str z :: ds => (asTs ds).map (z :: ·)
  | _ :: _ => none
def joinT (sep : List Nat) : List (List Nat) → List Nat
  | [] => []
  | [x] => x
  | x :: r => x ++ sep ++ joinT sep r
def dJoin (h : EH) (z : List Nat) (ds : List D) : Option D := match ds with
  | [d] => (match asS h d with
    | some xs => (match asTs xs with
      | some zs => if (zs.map List.length).sum + zs.length * z.length ≤ 16777216 then some (.str (joinT z zs)) else none
      | none => none)
    | none => none)
  | _ => none
def permL {α : Type} (p : List Nat) (xs : List α) : List α := p.filterMap (xs[·]?)
def mPerm (p : List Nat) (a : M (List D)) : M (List D) := fun ε h => bR (a ε h) fun ds h1 => some (.ok (permL p ds), h1)
end PD
namespace PD
open PySem PySem.Spec PyProof.Rows L2
variable [LamTab]
section
variable {X : Cx} {W : WX}
def dAdd : EH → D → D → Option D := fun h x y => (dI2 (fun i j => some (.int (i + j))) h x y).or ((dCatS h x y).or ((dCatT h x y).or (dCatL h x y)))
def dSub : EH → D → D → Option D := dI2 fun i j => some (.int (i - j))
def dMul : EH → D → D → Option D := dI2 fun i j => if CMul i j then some (.int (i * j)) else none
def dDiv : EH → D → D → Option D := dI2 fun i j => if CDiv i j then some (.int (i / j)) else none
def dMod : EH → D → D → Option D := dI2 fun i j => if 0 < j then some (.int (i % j)) else none
def dPow : EH → D → D → Option D := dI2 fun i j => if CPow i j then some (.int (i ^ j.toNat)) else none
def dLt : EH → D → D → Option D := dI2 fun i j => some (.bl (decide (i < j)))
def dLe : EH → D → D → Option D := dI2 fun i j => some (.bl (decide (i ≤ j)))
def dGt : EH → D → D → Option D := dI2 fun i j => some (.bl (decide (j < i)))
def dGe : EH → D → D → Option D := dI2 fun i j => some (.bl (decide (j ≤ i)))
def dInA : EH → D → D → Option D := fun h x y => (dInS false h x y).or (dIn false h x y)
def dNinA : EH → D → D → Option D := fun h x y => (dInS true h x y).or (dIn true h x y)
variable {a b : Expr} {ma mb : M D} {pos : Pos}
theorem re_add (ha : RE X W a ma) (hb : RE X W b mb) : RE X W (.BinOp a .Add b pos) (mBin dAdd ma mb) :=
  re_bin (op_add.or (op_add_str.or (op_catA.or op_cat))) ((ops_I0 _).or (ops_catS.or (ops_catT.or ops_catL))) ha hb
theorem re_sub (ha : RE X W a ma) (hb : RE X W b mb) : RE X W (.BinOp a .Sub b pos) (mBin dSub ma mb) := re_bin op_sub (ops_I0 _) ha hb
theorem re_mul (ha : RE X W a ma) (hb : RE X W b mb) : RE X W (.BinOp a .Mult b pos) (mBin dMul ma mb) := re_bin op_mul (ops_IC CMul _) ha hb
theorem re_div (ha : RE X W a ma) (hb : RE X W b mb) : RE X W (.BinOp a .FloorDiv b pos) (mBin dDiv ma mb) := re_bin op_fdiv (ops_IC CDiv _) ha hb
theorem re_mod (ha : RE X W a ma) (hb : RE X W b mb) : RE X W (.BinOp a .Mod b pos) (mBin dMod ma mb) := re_bin op_mod (ops_IC (fun _ j => 0 < j) _) ha hb
theorem re_pow (ha : RE X W a ma) (hb : RE X W b mb) : RE X W (.BinOp a .Pow b pos) (mBin dPow ma mb) := re_bin op_pow (ops_IC CPow _) ha hb
theorem re_gt (ha : RE X W a ma) (hb : RE X W b mb) : RE X W (.Compare a [.Gt] [b] pos) (mBin dGt ma mb) := re_cmp op_gt (ops_B0 fun i j => decide (j < i)) ha hb (nomark _)
theorem re_eq {k : Nat} (hr : Room k X.A) (ha : RE X W a ma) (hb : RE X W b mb) : RE X W (.Compare a [.Eq] [b] pos) (mBin dEq ma mb) := re_cmp (op_eq.or (op_eqD hr.units)) (ops_eqS.or ops_eqD) ha hb (nomark _)
theorem re_in (ha : RE X W a ma) (hb : RE X W b mb) (hm : behindInMarks .In b = false := by rfl) : RE X W (.Compare a [.In] [b] pos) (mBin dInA ma mb) := re_cmp (op_in_sign.or op_in_seq) (ops_inS.or (ops_in false)) ha hb hm
theorem re_is (ha : RE X W a ma) (hb : RE X W b mb) : RE X W (.Compare a [.Is] [b] pos) (mBin (dIsN false) ma mb) := re_cmp op_isN ops_isN ha hb (nomark _)
theorem rt_lt (ha : RE X W a ma) (hb : RE X W b mb) : RT X W (.Compare a [.Lt] [b] pos) (mTst (mBin dLt ma mb)) := rt_cmp op_lt (ops_B0 _) ha hb (nomark _)
theorem rt_gt (ha : RE X W a ma) (hb : RE X W b mb) : RT X W (.Compare a [.Gt] [b] pos) (mTst (mBin dGt ma mb)) := rt_cmp op_gt (ops_B0 fun i j => decide (j < i)) ha hb (nomark _)
theorem rt_ge (ha : RE X W a ma) (hb : RE X W b mb) : RT X W (.Compare a [.GtE] [b] pos) (mTst (mBin dGe ma mb)) := rt_cmp op_ge (ops_B0 fun i j => decide (j ≤ i)) ha hb (nomark _)
theorem rt_eq {k : Nat} (hr : Room k X.A) (ha : RE X W a ma) (hb : RE X W b mb) : RT X W (.Compare a [.Eq] [b] pos) (mTst (mBin dEq ma mb)) := rt_cmp (op_eq.or (op_eqD hr.units)) (ops_eqS.or ops_eqD) ha hb (nomark _)
theorem rt_ne {k : Nat} (hr : Room k X.A) (ha : RE X W a ma) (hb : RE X W b mb) : RT X W (.Compare a [.NotEq] [b] pos) (mTst (mBin dNe ma mb)) := rt_cmp (op_ne.or (op_neD hr.units)) (ops_neS.or ops_neD) ha hb (nomark _)
theorem rt_in (ha : RE X W a ma) (hb : RE X W b mb) (hm : behindInMarks .In b = false := by rfl) : RT X W (.Compare a [.In] [b] pos) (mTst (mBin dInA ma mb)) := rt_cmp (op_in_sign.or op_in_seq) (ops_inS.or (ops_in false)) ha hb hm
theorem rt_nin (ha : RE X W a ma) (hb : RE X W b mb) (hm : behindInMarks .NotIn b = false := by rfl) : RT X W (.Compare a [.NotIn] [b] pos) (mTst (mBin dNinA ma mb)) := rt_cmp (op_notIn_sign.or op_notIn_seq) (ops_ninS.or (ops_in true)) ha hb hm
theorem rt_is (ha : RE X W a ma) (hb : RE X W b mb) : RT X W (.Compare a [.Is] [b] pos) (mTst (mBin (dIsN false) ma mb)) := rt_cmp op_isN ops_isN ha hb (nomark _)
theorem rt_isn (ha : RE X W a ma) (hb : RE X W b mb) : RT X W (.Compare a [.IsNot] [b] pos) (mTst (mBin (dIsN true) ma mb)) := rt_cmp op_notN ops_isnN ha hb (nomark _)
def mChain (f g : EH → D → D → Option D) (a b c : M D) : M D := fun ε h => bR (a ε h) fun x h1 => bR (b ε h1) fun y h2 => bR (rt ((f h2 x y).bind asB) h2) fun k h3 => if k = true then bR (c ε h3) fun z h4 => rt (g h4 y z) h4 else some (.ok (.bl false), h3)
theorem chain_of {K : PySem.W.Frag} {mg : Str → Option Value} {r r' : R2} {f g : EH → D → D → Option D} {a b c : M D} (hs : OpS K mg r f) (hs' : OpS K mg r' g) {σ : L2.St} {H : Hp} {Q : VK} (h : tE K mg W (mChain f g a b c) σ H Q) : tChain r r' (tE K mg W a) (tE K mg W b) (tE K mg W c) σ H Q := by
  obtain ⟨c0, ε, h, r0, h', hK, hm, rfl, sr, er, e, px, go⟩ := h
  unfold tChain
  refine tX.bind hK hm sr er e px fun dx h1 c1 x e1 l1 s1 r1 => ?_
  refine tX.bind (l1.K.trans hK) (l1.mg.trans hm) s1 (er.le l1) e1 (px.le l1) fun dy h2 c2 y e2 l2 s2 r2 => ?_
  have L2' := l1.trans l2
  cases q : f h2 dx dy with
  | none => rw [q] at e2; cases e2
  | some d =>
    rw [q] at e2
    cases d with
    | bl k =>
      refine hs c2 _ x y dx dy _ _ (L2'.K.trans hK) (L2'.mg.trans hm) s2 (r1.le l2) r2 q fun c3 v l3 s3 r3 => ?_
      have L3 := L2'.trans l3
      cases r3
      refine ⟨k, rfl, ?_⟩
      cases k with
      | false =>
        rw [if_neg Bool.false_ne_true]
        cases e2
        exact go _ rfl c3 _ L3 s3 (.bl false)
      | true =>
        rw [if_pos rfl]
        have e2' : bR (c ε h2) (fun z h4 => rt (g h4 dy z) h4) = some (r0, h') := e2
        refine tX.bind (L3.K.trans hK) (L3.mg.trans hm) s3 (er.le L3) e2' (px.le L3) fun dz h4 c4 z e4 l4 s4 r4 => ?_
        cases q4 : g h4 dy dz with
        | none => rw [q4] at e4; cases e4
        | some d4 =>
          rw [q4] at e4
          cases e4
          exact hs' c4 _ y z dy dz d4 Q ((L3.trans l4).K.trans hK) ((L3.trans l4).mg.trans hm) s4 ((r2.le l3).le l4) r4 q4 fun c' v l s r => go _ rfl c' v ((L3.trans l4).trans l) s r
    | _ => cases e2
variable {c : Expr} {mc : M D}
theorem re_lele (ha : RE X W a ma) (hb : RE X W b mb) (hc : RE X W c mc) (hm : lastMarks [.LtE, .LtE] [b, c] = false := by with_unfolding_all rfl) : RE X W (.Compare a [.LtE, .LtE] [b, c] pos) (mChain dLe dLe ma mb mc) :=
  pe_imp (pe_chain op_le op_le ha hb hc hm) fun _ _ _ h => chain_of (ops_B0 _) (ops_B0 _) h
theorem rt_lele (ha : RE X W a ma) (hb : RE X W b mb) (hc : RE X W c mc) (hm : lastMarks [.LtE, .LtE] [b, c] = false := by with_unfolding_all rfl) : RT X W (.Compare a [.LtE, .LtE] [b, c] pos) (mTst (mChain dLe dLe ma mb mc)) :=
  pt_imp (pt_chain op_le op_le ha hb hc hm) fun _ _ _ h => chain_of (ops_B0 _) (ops_B0 _) (tB_of h)
def mNeg (a : M D) : M D := fun ε h => bR (a ε h) fun x h1 => match x with
  | .int i => some (.ok (.int (-i)), h1)
  | _ => none
theorem re_ix (ha : RE X W a ma) (hb : RE X W b mb) (hs : PlainIx b := by exact fun _ _ => rfl) : RE X W (.Subscript a b pos) (mBin dIx ma mb) := pe_imp (pe_ix ix_seq ha hb hs) fun _ _ _ h => top_of ops_ix h
variable {e : Expr} {p : Pos} {m : M (List D)}
theorem re_len (hm : X.mg "len" = none) (ha : RA X W [e] m) (hg : Gl X "len" := by rfl) (he : starEach [e] X.env = (false, eval e X.env) :: starEach [] X.env := by rfl) : RE X W (.Call (.Name "len" p) [e] [] pos) (mCall dLen m) := re_callB call_len cs_len hm ha (by decide +kernel) hg (by decide) (by decide) he rfl
theorem re_intc (hm : X.mg "int" = none) (ha : RA X W [e] m) (hg : Gl X "int" := by rfl) (he : starEach [e] X.env = (false, eval e X.env) :: starEach [] X.env := by rfl) : RE X W (.Call (.Name "int" p) [e] [] pos) (mCall dInt m) := re_callTy (call_int1.or call_int_str) cs_int hm ha (by decide +kernel) hg (by decide) (by decide) he rfl
theorem re_strc (hm : X.mg "str" = none) (ha : RA X W [e] m) (hg : Gl X "str" := by rfl) (he : starEach [e] X.env = (false, eval e X.env) :: starEach [] X.env := by rfl) : RE X W (.Call (.Name "str" p) [e] [] pos) (mCall dStr m) := re_callTy (call_str_int.or SkE.call_str_str) cs_str hm ha (by decide +kernel) hg (by decide) (by decide) he rfl
theorem re_listc (hm : X.mg "list" = none) (ha : RA X W [e] m) (hg : Gl X "list" := by rfl) (he : starEach [e] X.env = (false, eval e X.env) :: starEach [] X.env := by rfl) : RE X W (.Call (.Name "list" p) [e] [] pos) (mCall dList m) := re_callTy call_list_of cs_list hm ha (by decide +kernel) hg (by decide) (by decide) he rfl
theorem re_all (hc : X.calm = true) (hm : X.mg "all" = none) (ha : RA X W [e] m) (hg : Gl X "all" := by rfl) (he : starEach [e] X.env = (false, eval e X.env) :: starEach [] X.env := by rfl) : RE X W (.Call (.Name "all" p) [e] [] pos) (mCall dAll m) := re_callB (cr_all hc) cs_all hm ha (by decide +kernel) hg (by decide) (by decide) he rfl
end
section
variable {P : Program} {w : World} {K : PySem.W.Frag} {mg : Str → Option Value} {base : Heap} {N : List Str} {qual : Str} {scope : Scope} {f : Addr} {cdv : Value} {A : Around} {outer : List Env} {s : Shared} {H : Hp} {E : XK}
theorem tkOf : Takes (cxOf (L2.CX P w) P w K mg base N qual scope f cdv A outer s H E) (fun cls d _ H' => E cls d H') := takes_of rfl rfl rfl rfl
theorem poOf : PassesOwn (model P w) (A.deeper (envOfC qual scope s.heap.objs.size f cdv)) (envOfC qual scope s.heap.objs.size f cdv) (cxOf (L2.CX P w) P w K mg base N qual scope f cdv A outer s H E).xe := PassesOwn.leaving
end
end PD
namespace PD
open PySem PySem.Spec PyProof.Rows L2
variable [LamTab]
theorem ba2 {a b : Bool} (h : (a && b) = true) : a = true ∧ b = true := by simpa using h
mutual
theorem dB_ok {K : PySem.W.Frag} : ∀ {d : D} {u : Value}, dB K d u = true → ∃ v, RelV v u ∧ ∀ c : RC, c.K = K → Rep c d v
  | .non, u, h => by
    cases u <;> first | (rw [dB] at h <;> first | cases h | (intros; simp at *)) | skip
    exact ⟨.non, rfl, fun c _ => .non⟩
  | .bl b, u, h => by
    cases u with
    | bool c =>
      rw [dB] at h
      have e : b = c := by simpa using h
      subst e
      exact ⟨.bl b, rfl, fun c _ => .bl b⟩
    | _ => simp [dB] at h
  | .int i, u, h => by
    cases u with
    | int j t =>
      rw [dB] at h
      have e : i = j := of_decide_eq_true h
      subst e
      exact ⟨.int i, ⟨t, rfl⟩, fun c _ => .int i⟩
    | _ => simp [dB] at h
  | .str cs, u, h => by
    cases u with
    | str y t =>
      rw [dB] at h
      have e : y.cps.toList = cs := of_decide_eq_true h
      subst e
      exact ⟨.str y, ⟨t, rfl⟩, fun c _ => .str _⟩
    | _ => simp [dB] at h
  | .tup ds, u, h => by
    cases u with
    | ref a =>
      rw [dB] at h
      cases q : K.lookup a with
      | none => rw [q] at h; cases h
      | some o =>
        obtain ⟨oc, od, dt, osl⟩ := o
        rw [q] at h
        cases oc with
        | type c =>
          cases dt with
          | seq its n =>
            obtain ⟨h1, h2⟩ := ba2 (show (decide (c = "tuple") && (decide (its.size ≤ sizeLine) && dBs K ds its.toList)) = true from h)
            obtain ⟨h3, h4⟩ := ba2 h2
            obtain ⟨vs, r, rp⟩ := dBs_ok h4
            refine ⟨.ref a, rfl, fun c0 hK => .tup (.inr ⟨_, its, n, by rw [hK]; exact q, congrArg Value.type (of_decide_eq_true h1), rfl, of_decide_eq_true h3, r⟩) (rp c0 hK)⟩
          | _ => cases h
        | _ => cases dt <;> cases h
    | _ => simp [dB] at h
  | .scr ds, u, h => by
    cases u with
    | ref a =>
      rw [dB] at h
      cases q : K.lookup a with
      | none => rw [q] at h; cases h
      | some o =>
        obtain ⟨oc, od, dt, osl⟩ := o
        rw [q] at h
        cases oc with
        | type c =>
          cases od with
          | none =>
            cases dt with
            | seq its n =>
              obtain ⟨h1, h2⟩ := ba2 (show (decide (c = "list") && (decide (its.size ≤ sizeLine) && dBs K ds its.toList)) = true from h)
              obtain ⟨h3, h4⟩ := ba2 h2
              obtain ⟨vs, r, rp⟩ := dBs_ok h4
              refine ⟨.ref a, rfl, fun c0 hK => .scr (.inr ⟨_, its, n, by rw [hK]; exact q, congrArg Value.type (of_decide_eq_true h1), rfl, rfl, of_decide_eq_true h3, r⟩) (rp c0 hK)⟩
            | _ => cases h
          | some x => cases dt <;> cases h
        | _ => cases od <;> cases dt <;> cases h
    | _ => simp [dB] at h
  | .lst _, u, h => by simp [dB] at h
  | .dic _ _, u, h => by simp [dB] at h
  | .obj _ _, u, h => by simp [dB] at h
  | .ref _, u, h => by simp [dB] at h
theorem dBs_ok {K : PySem.W.Frag} : ∀ {ds : List D} {us : List Value}, dBs K ds us = true → ∃ vs, Vals vs us ∧ ∀ c : RC, c.K = K → Reps c ds vs
  | [], us, h => by
    cases us with
    | nil => exact ⟨[], .nil, fun _ _ => .nil⟩
    | cons _ _ => simp [dBs] at h
  | d :: ds, us, h => by
    cases us with
    | nil => simp [dBs] at h
    | cons u us =>
      rw [dBs] at h
      obtain ⟨h1, h2⟩ := ba2 h
      obtain ⟨v, r, rp⟩ := dB_ok h1
      obtain ⟨vs, rs, rps⟩ := dBs_ok h2
      exact ⟨v :: vs, .cons r rs, fun c hK => .cons (rp c hK) (rps c hK)⟩
end
theorem globC_of {K : PySem.W.Frag} {h : Heap} {mg : Str → Option Value} (X : K.In h) (G : h.Ns mainGlobals mg) {x : Str} {d : D} (c : gloB K x d = true) : GlobC K mg x d := by
  unfold gloB at c
  cases q : PySem.W.nsIn K mainGlobals x with
  | none => rw [q] at c; cases c
  | some u =>
    cases u with
    | none => rw [q] at c; cases c
    | some u =>
      rw [q] at c
      obtain ⟨v, r, rp⟩ := dB_ok c
      exact ⟨u, v, PySem.W.mg_of X G q, r, fun c hK _ => rp c hK⟩
theorem SaysG.d {fa : List He.Fa} {fn : List He.DefD} {gs : List (Str × D)} {K : PySem.W.Frag} (c : SaysG fa fn gs K) : He.SaysD fa fn K := congrArg (fun z : AlG => z.1) c
theorem SaysG.glob {fa : List He.Fa} {fn : List He.DefD} {gs : List (Str × D)} {K : PySem.W.Frag} (c : SaysG fa fn gs K) {p : Str × D} (hp : p ∈ gs) : gloB K p.1 p.2 = true :=
  List.all_eq_true.mp (congrArg (fun z : AlG => z.2) c : (gs.all fun p => gloB K p.1 p.2) = true) p hp
theorem SaysD.facts' {fa : List He.Fa} {fn : List He.DefD} {K : PySem.W.Frag} (c : He.SaysD fa fn K) {f : He.Fa} (h : f ∈ fa) : f.ok K = true := by
  obtain ⟨i, hi, e⟩ := List.mem_iff_getElem.mp h
  exact c.fact i (f := f) (by rw [List.getElem?_eq_getElem hi, e])
theorem SaysD.def' {fa : List He.Fa} {fn : List He.DefD} {K : PySem.W.Frag} (c : He.SaysD fa fn K) {d : He.DefD} (h : d ∈ fn) : ∃ fd, FunD K d.name d.qual d.params d.body d.scope (d.dvs K) (d.kws K) (He.fAd K d.at_) fd := by
  obtain ⟨i, hi, e⟩ := List.mem_iff_getElem.mp h
  exact c.def_ i (d := d) (by rw [List.getElem?_eq_getElem hi, e])
section
variable {P : Program} {w : World} {K : PySem.W.Frag} {mg : Str → Option Value} {base : Heap}
theorem fnOk0 {k n : Nat} {f : Addr} {fd : FuncData} {ps : List Str} : FnOk P w K mg base (L2.CX P w) k f fd ps (SpP K mg n fun _ => none) :=
  ⟨fun vs H Q E h => (by obtain ⟨_, _, _, _, _, _, _, _, _, _, e, _⟩ := h; cases e), fun A outer s H args us vs Q E _ _ _ _ h => (by obtain ⟨_, _, _, _, _, _, _, _, _, _, e, _⟩ := h; cases e)⟩
theorem FnP.mono {x : Str} {j k n : Nat} {F : PF} (h : FnP P w K mg base x j n F) (l : j ≤ k) : FnP P w K mg base x k n F := by
  obtain ⟨f, fd, ps, a, b, c, d, e⟩ := h.ex
  exact ⟨⟨f, fd, ps, a, b, c, d, e.mono l⟩⟩
end
end PD
namespace PD
open PySem PySem.Spec PyProof.Rows L2
variable [LamTab]
theorem reps_ints {c : RC} : ∀ ns : List Int, Reps c (ns.map D.int) (ns.map V.int)
  | [] => .nil
  | n :: ns => .cons (.int n) (reps_ints ns)
end PD
namespace PD
open PySem PySem.Spec PyProof.Rows L2
variable [LamTab]
def s1 (f : List Nat → Option D) (ds : List D) : Option D := match ds with
  | [.str s] => f s
  | _ => none
theorem len_toS (z : List Nat) : (toS z).length = z.length := by simp [toS, Str.length]
section
variable {X : Cx} {W : WX} {o e : Expr} {mo : M D} {m : M (List D)} {apos pos : Pos}
def fmt1 (d : D) : Option D := match d with
  | .str z => if z.length ≤ 16777216 then some (.str z) else none
  | .int i => if i.natAbs.log2 < 1920 then some (.str (decI i)) else none
  | _ => none
def mFmt (m : M D) : M D := fun ε h => bR (m ε h) fun d h1 => rt (fmt1 d) h1
theorem re_fmt {m : M D} (he : RE X W e m) : RE X W (.FormattedValue e (-1) none pos) (mFmt m) := by
  refine pe_imp (pe_fmt he) fun σ H Q h => ?_
  obtain ⟨c, ε, h, r', h', hK, hm, rfl, sr, er, e, px, go⟩ := h
  unfold tFmt
  refine tX.bind hK hm sr er e px fun d h1 c1 v e1 l1 s1 r1 => ?_
  cases r1 with
  | str z =>
    have e2 : rt (if z.length ≤ 16777216 then some (D.str z) else none) h1 = some (r', h') := e1
    by_cases hc : z.length ≤ 16777216
    · rw [if_pos hc] at e2
      cases e2
      exact .inl ⟨_, rfl, by show (toS z).length ≤ 16777216; rw [len_toS]; exact hc, go _ rfl c1 _ l1 s1 (.str z)⟩
    · rw [if_neg hc] at e2; cases e2
  | int i =>
    have e2 : rt (if i.natAbs.log2 < 1920 then some (D.str (decI i)) else none) h1 = some (r', h') := e1
    by_cases hc : i.natAbs.log2 < 1920
    · rw [if_pos hc] at e2
      cases e2
      refine .inr ⟨i, rfl, hc, go _ rfl c1 _ l1 s1 ?_⟩
      have es : (Str.ofString (toString i)) = ⟨(decI i).toArray⟩ := by
        rw [Str.ofString_eq_toList]
        rfl
      rw [es]
      exact Rep.str (decI i)
    · rw [if_neg hc] at e2; cases e2
  | _ => cases e1
inductive RJ (X : Cx) (W : WX) : List Expr → List (M D) → Prop where
  | nil : RJ X W [] []
  | cons {e : Expr} {m : M D} {es : List Expr} {ms : List (M D)} (h : RE X W e m) (r : RJ X W es ms) : RJ X W (e :: es) (m :: ms)
theorem RJ.pj {es : List Expr} {ms : List (M D)} (h : RJ X W es ms) : PJ X es (ms.map (tE X.K X.mg W)) := by
  induction h with
  | nil => exact .nil
  | cons h r ih => exact .cons h ih
def jsL : List (M D) → List Nat → M D
  | [], acc => fun _ h => some (.ok (.str acc), h)
  | m :: ms, acc => fun ε h => bR (m ε h) fun d h1 => match d with
    | .str z => if (acc ++ z).length ≤ 16777216 then jsL ms (acc ++ z) ε h1 else none
    | _ => none
theorem js_of {K : PySem.W.Frag} {mg : Str → Option Value} {σ : L2.St} {Q : VK} : ∀ (ms : List (M D)) (acc : List Nat) (H : Hp), tE K mg W (jsL ms acc) σ H Q → tJs (ms.map (tE K mg W)) (toS acc) σ H fun out H1 => Q (.str out) H1
  | [], acc, H, h => by
    obtain ⟨c, ε, h, r', h', hK, hm, rfl, sr, er, e, px, go⟩ := h
    cases e
    exact go _ rfl c _ (.refl c) sr (.str acc)
  | m :: ms, acc, H, h => by
    obtain ⟨c, ε, h, r', h', hK, hm, rfl, sr, er, e, px, go⟩ := h
    rw [List.map_cons]
    unfold tJs
    refine tX.bind hK hm sr er e px fun d h1 c1 v e1 l1 s1 r1 => ?_
    cases r1 with
    | str z =>
      have e2 : (if (acc ++ z).length ≤ 16777216 then jsL ms (acc ++ z) ε h1 else none) = some (r', h') := e1
      by_cases hc : (acc ++ z).length ≤ 16777216
      · rw [if_pos hc] at e2
        have ea : toS acc ++ toS z = toS (acc ++ z) := by
          show (⟨acc.toArray ++ z.toArray⟩ : Str) = ⟨(acc ++ z).toArray⟩
          simp
        refine ⟨toS z, rfl, ?_, ?_⟩
        · rw [ea, len_toS]; exact hc
        · rw [ea]
          exact js_of ms (acc ++ z) c1.H ⟨c1, ε, h1, r', h', l1.K.trans hK, l1.mg.trans hm, rfl, s1, er.le l1, e2, px.le l1, fun a ea c' b l s rb => go a ea c' b (l1.trans l) s rb⟩
      · rw [if_neg hc] at e2; cases e2
    | _ => cases e1
theorem re_joined {v1 v2 : Expr} {rest : List Expr} {ms : List (M D)} (h : RJ X W (v1 :: v2 :: rest) ms) : RE X W (.JoinedStr (v1 :: v2 :: rest) pos) (jsL ms []) :=
  pe_imp (pe_joined h.pj) fun σ H Q q => js_of ms [] H q
end
end PD
namespace PD
open PySem PySem.Spec PyProof.Rows L2
variable [LamTab]
def insD (h : EH) (d : D) : Option (Str × List (Str × D)) := match d with
  | .obj C fs => some (C, fs)
  | .ref n => (match h[n]? with
    | some (.obj C fs) => some (C, fs)
    | _ => none)
  | _ => none
/-- what one has of a class whose fields fs are read or written -/
def ClsF (K : PySem.W.Frag) (mg : Str → Option Value) (C f : Str) : Prop := ∃ Ca, mg C = some (.ref Ca) ∧ Cls K Ca ∧ NoAttr K Ca f
def ClsFs (K : PySem.W.Frag) (mg : Str → Option Value) (Cs : List Str) (f : Str) : Prop := ∀ C ∈ Cs, ClsF K mg C f
theorem ClsFs.nil {K : PySem.W.Frag} {mg : Str → Option Value} {f : Str} : ClsFs K mg [] f := fun _ h => nomatch h
theorem ClsFs.cons {K : PySem.W.Frag} {mg : Str → Option Value} {C f : Str} {Cs : List Str} (h : ClsF K mg C f) (t : ClsFs K mg Cs f) : ClsFs K mg (C :: Cs) f := fun D hD => by
  rcases List.mem_cons.mp hD with e | e
  · rw [e]; exact h
  · exact t D e
/-- o.f -/
def dFld (Cs : List Str) (f : Str) (h : EH) (d : D) : Option D := match insD h d with
  | some (C, fs) => if C ∈ Cs then fs.lookup f else none
  | none => none
def mFld (Cs : List Str) (f : Str) (a : M D) : M D := fun ε h => bR (a ε h) fun x h1 => rt (dFld Cs f h1 x) h1
section
variable {X : Cx} {W : WX}
def putO (Cs : List Str) (f : Str) (h : EH) (x y : D) : Option EH := match x with
  | .ref n => (match h[n]? with
    | some (.obj C fs) => if C ∈ Cs ∧ fs.length < 1000 then some (h.set n (.obj C (putD f y fs))) else none
    | _ => none)
  | _ => none
def msFld (Cs : List Str) (f : Str) (o v : M D) : MS := fun ε h => bS (v ε h) ε fun y h1 => bS (o ε h1) ε fun x h2 => (putO Cs f h2 x y).map fun h3 => (.nx ε, h3)
end
structure MetI (P : Program) (w : World) (K : PySem.W.Frag) (mg : Str → Option Value) (base : Heap) (C m : Str) (k n : Nat) (F : IF) : Prop where
  ex : ∃ (Ca f : Addr) (fd : FuncData) (ps : List Str), mg C = some (.ref Ca) ∧ Cls K Ca ∧ Meth K Ca m f ∧ Binds K fd ps [] ∧ ps.length = n ∧ FnOk P w K mg base (L2.CX P w) k f fd ps (SpI K mg n F)
structure MetP (P : Program) (w : World) (K : PySem.W.Frag) (mg : Str → Option Value) (base : Heap) (C m : Str) (k n : Nat) (F : PF) : Prop where
  ex : ∃ (Ca f : Addr) (fd : FuncData) (ps : List Str), mg C = some (.ref Ca) ∧ Cls K Ca ∧ Meth K Ca m f ∧ Binds K fd ps [] ∧ ps.length = n ∧ FnOk P w K mg base (L2.CX P w) k f fd ps (SpP K mg n F)
/-- the wish does not look at the slots -/
def Flat (W : WX) : Prop := ∀ cls d σ σ' H, W cls d σ H → W cls d σ' H
theorem flatE {E : XK} : Flat fun cls d _ H' => E cls d H' := fun _ _ _ _ _ h => h
abbrev EW (W : WX) : XK := fun cls d H => W cls d [] H
theorem passE {X : Cx} {W : WX} (tk : Takes X W) (fl : Flat W) : Passes (L2.CX X.prog X.w) X (EW W) := fun pins σ H s e s' I c => by
  obtain ⟨a, B, H', cls, d, h1, h2, h3, h4, h5, h6, h7, h8⟩ := c
  exact passAt tk σ pins H s e s' I ⟨a, B, H', cls, d, h1, h2, h3, h4, h5, h6, h7, fl _ _ _ _ _ h8⟩
def mMeI (C m : Str) (F : IF) (o : M D) (a : M (List D)) : M D := fun ε h => bR (o ε h) fun x h1 => match insD h1 x with
  | some (C', fs) => if C' = C ∧ fs.lookup m = none then bR (a ε h1) fun ds h2 => F (x :: ds) h2 else none
  | none => none
def mMeP (C m : Str) (F : PF) (o : M D) (a : M (List D)) : M D := fun ε h => bR (o ε h) fun x h1 => match insD h1 x with
  | some (C', fs) => if C' = C ∧ fs.lookup m = none then bR (a ε h1) fun ds h2 => if noRef.go (x :: ds) = true then (F (x :: ds)).map fun r => (r, h2) else none else none
  | none => none
end PD
namespace PD
open PySem PySem.Spec PyProof.Rows L2
variable [LamTab]
/-- .. the cell -/
def mMk (C : Str) (dd : List D) (F : IF) (a : M (List D)) : M D := fun ε h => bR (a ε h) fun ds h1 => match F (.ref h1.length :: (ds ++ dd)) (h1 ++ [.obj C []]) with
  | some (.ok .non, h2) => some (.ok (.ref h1.length), h2)
  | some (.ex e, h2) => some (.ex e, h2)
  | _ => none
/-- .. the object as a value, never written again -/
def mMkP (C : Str) (dd : List D) (F : IF) (a : M (List D)) : M D := fun ε h => bR (a ε h) fun ds h1 => match F (.ref h1.length :: (ds ++ dd)) (h1 ++ [.obj C []]) with
  | some (.ok .non, h2) => (match frzI h1.length h2 (.ref h1.length), trim h1.length h2 with
    | some d, some h3 => some (.ok d, h3)
    | _, _ => none)
  | some (.ex e, h2) => if noRef.gf e.fs = true then (trim h1.length h2).map fun h3 => (.ex e, h3) else none
  | _ => none
end PD
namespace PD
open PySem PySem.Spec PyProof.Rows L2
variable [LamTab]
section
variable {X : Cx} {W : WX}
def mStar (a : M D) (b : M (List D)) : M (List D) := fun ε h => bR (a ε h) fun x h1 => match asS h1 x with
  | some xs => bR (b ε h1) fun ys h2 => some (.ok (xs ++ ys), h2)
  | none => none
theorem ra_star {e : Expr} {p : Pos} {es : List Expr} {me : M D} {m : M (List D)} (he : RE X W e me) (hr : RA X W es m) (hs : starEach (.Starred e p :: es) X.env = (true, eval e X.env) :: starEach es X.env := by rfl) : RA X W (.Starred e p :: es) (mStar me m) := by
  refine pa_imp (StX.pa_star he hr hs) fun σ H Q h => ?_
  obtain ⟨c, ε, h, r', h', hK, hm, rfl, sr, er, e, px, go⟩ := h
  unfold StX.tStar
  refine tX.bind hK hm sr er e px fun x h1 c1 v e1 l1 s1 r1 => ?_
  cases q : asS h1 x with
  | none => rw [q] at e1; cases e1
  | some ds =>
    rw [q] at e1
    obtain ⟨a, xs, rfl, hx, rx⟩ := asS_ok s1 r1 q
    have hx' : SqT X.K c1.H a xs ∨ SqL X.K c1.H a xs := by
      rw [← hK, ← l1.K]
      exact hx.symm
    refine ⟨a, xs, rfl, hx', ?_⟩
    refine tX.bind (l1.K.trans hK) (l1.mg.trans hm) s1 (er.le l1) e1 (px.le l1) fun ys h2 c2 zs e2 l2 s2 r2 => ?_
    cases e2
    exact go _ rfl c2 _ (l1.trans l2) s2 ((rx.le l2).append r2)
def addI (x y : D) : Option D := match x, y with
  | .int i, .int j => some (.int (i + j))
  | _, _ => none
def msAug (i : Nat) (m : M D) : MS := fun ε h => match ε.getD i none with
  | some x => bS (m ε h) ε fun y h1 => (addI x y).map fun z => (.nx (ε.set i (some z)), h1)
  | none => none
def msFAug (Cs : List Str) (f : Str) (o v : M D) : MS := fun ε h => bS (o ε h) ε fun x h1 => match dFld Cs f h1 x with
  | some z => bS (v ε h1) ε fun y h2 => (match addI z y with
    | some w => if (insD h1 x).map (·.1) = (insD h2 x).map (·.1) then (putO Cs f h2 x w).map fun h3 => (.nx ε, h3) else none
    | none => none)
  | none => none
end
end PD
namespace PD
open PySem PySem.Spec PyProof.Rows L2
variable [LamTab]
mutual
theorem Rep.moreG {c : RC} {p : Addr} {o : HO} (hp : c.H p = none) : ∀ {d : D} {v : V}, Rep c d v → Rep { c with B := fun a => c.B a ∨ a = p, H := upd c.H p o } d v
  | _, _, .non => .non
  | _, _, .bl b => .bl b
  | _, _, .int i => .int i
  | _, _, .str cs => .str cs
  | _, _, .tup (a := a) (xs := ys) h r => .tup (by
      rcases h with (h | ⟨u, h⟩) | h
      · exact .inl (.inl ((upd_ne (show a ≠ p from fun z => by rw [z, hp] at h; cases h)).trans h))
      · exact .inl (.inr ⟨u, (upd_ne (show a ≠ p from fun z => by rw [z, hp] at h; cases h)).trans h⟩)
      · exact .inr h) (Reps.moreG hp r)
  | _, _, .lst (a := a) h f r => by
      have ne : a ≠ p := fun z => by rw [z, hp] at h; cases h
      exact .lst ((upd_ne ne).trans h) ⟨fun z => z.elim f.1 ne, f.2⟩ (Reps.moreG hp r)
  | _, _, .scr (a := a) h r => .scr (by
      rcases h with ⟨u, h⟩ | h
      · exact .inl ⟨u, (upd_ne (show a ≠ p from fun z => by rw [z, hp] at h; cases h)).trans h⟩
      · exact .inr h) (Reps.moreG hp r)
  | _, _, .obj (a := a) m h f r => by
      have ne : a ≠ p := fun z => by rw [z, hp] at h; cases h
      exact .obj m ((upd_ne ne).trans h) ⟨fun z => z.elim f.1 ne, f.2⟩ (RepF.moreG hp r)
  | _, _, .dic (a := a) h i f r => by
      have ne : a ≠ p := fun z => by rw [z, hp] at h; cases h
      exact .dic ((upd_ne ne).trans h) i ⟨fun z => z.elim f.1 ne, f.2⟩ (RepP.moreG hp r)
  | _, _, .fn h f h2 f2 cr r => by
      have ne : ∀ {a : Addr} {o : HO}, c.H a = some o → a ≠ p := fun e z => by rw [z, hp] at e; cases e
      exact .fn ((upd_ne (ne h)).trans h) ⟨fun z => z.elim f.1 (ne h), f.2⟩ ((upd_ne (ne h2)).trans h2) ⟨fun z => z.elim f2.1 (ne h2), f2.2⟩ (cr.imp fun b o hb fb => ⟨(upd_ne (ne hb)).trans hb, fun z => z.elim fb.1 (ne hb), fb.2⟩) (Reps.moreG hp r)
  | _, _, .exc m h f h2 f2 r => by
      have ne : ∀ {a : Addr} {o : HO}, c.H a = some o → a ≠ p := fun e z => by rw [z, hp] at e; cases e
      exact .exc m ((upd_ne (ne h)).trans h) ⟨fun z => z.elim f.1 (ne h), f.2⟩ ((upd_ne (ne h2)).trans h2) ⟨fun z => z.elim f2.1 (ne h2), f2.2⟩ (RepF.moreG hp r)
  | _, _, .ref h => .ref h
theorem Reps.moreG {c : RC} {p : Addr} {o : HO} (hp : c.H p = none) : ∀ {ds : List D} {vs : List V}, Reps c ds vs → Reps { c with B := fun a => c.B a ∨ a = p, H := upd c.H p o } ds vs
  | _, _, .nil => .nil
  | _, _, .cons h t => .cons (Rep.moreG hp h) (Reps.moreG hp t)
theorem RepP.moreG {c : RC} {p : Addr} {o : HO} (hp : c.H p = none) : ∀ {ds : List (List Key × D)} {vs : List (List Key × V)}, RepP c ds vs → RepP { c with B := fun a => c.B a ∨ a = p, H := upd c.H p o } ds vs
  | _, _, .nil => .nil
  | _, _, .cons h t => .cons (Rep.moreG hp h) (RepP.moreG hp t)
theorem RepF.moreG {c : RC} {p : Addr} {o : HO} (hp : c.H p = none) : ∀ {ds : List (Str × D)} {vs : List (Str × V)}, RepF c ds vs → RepF { c with B := fun a => c.B a ∨ a = p, H := upd c.H p o } ds vs
  | _, _, .nil => .nil
  | _, _, .cons h t => .cons (Rep.moreG hp h) (RepF.moreG hp t)
end
/-- the start -/
theorem Over.startG {c : RC} {h : EH} {p : Addr} {o : HO} (s : SR c h) (hp : c.H p = none) : Over c { c with B := fun a => c.B a ∨ a = p, H := upd c.H p o } p ∧ SR { c with B := fun a => c.B a ∨ a = p, H := upd c.H p o } h := by
  have np : p ∉ c.ρ := fun z => by
    obtain ⟨ob', e⟩ := s.ex z
    rw [hp] at e; cases e
  have ne : ∀ a ob, c.H a = some ob → a ≠ p := fun a o e z => by rw [z, hp] at e; cases e
  refine ⟨⟨⟨rfl, ⟨rfl, tabs_upd (noTab_none hp)⟩, fun _ h => .inl h, fun a h => h.imp id fun z => by rw [z]; exact hp, fun a u e => ⟨u, (upd_ne (ne a u e)).trans e⟩, fun _ _ h => h, fun a u e _ n => ⟨(upd_ne (ne a u e)).trans e, n⟩, fun a ys e => ?_, fun a ob u e => (upd_ne (ne a _ e)).trans e⟩, .inr rfl, hp, s.bt⟩, ⟨s.len, s.nd, fun n a k e1 e2 => ?_, fun a ha z => z.elim (s.nb a ha) fun z => np (z ▸ ha), fun a hb => ?_⟩⟩
  · rcases e with e | ⟨u, e⟩
    · exact .inl ((upd_ne (ne a _ e)).trans e)
    · exact .inr ⟨u, (upd_ne (ne a _ e)).trans e⟩
  · have r := s.cells n a k e1 e2
    cases k with
    | lst ds => obtain ⟨ys, h1, h2⟩ := r; exact ⟨ys, (upd_ne (ne a _ h1)).trans h1, h2.moreG hp⟩
    | dic t kvs => obtain ⟨ob, zs, h1, h3, h2⟩ := r; exact ⟨ob, zs, (upd_ne (ne a _ h1)).trans h1, h3, h2.moreG hp⟩
    | obj C fs => obtain ⟨Ca, dx, vs, h0, h1, h2⟩ := r; exact ⟨Ca, dx, vs, h0, (upd_ne (ne a _ h1)).trans h1, h2.moreG hp⟩
  · rcases hb with hb | rfl
    · obtain ⟨u, e⟩ := s.bt a hb
      exact ⟨u, (upd_ne (ne a u e)).trans e⟩
    · exact ⟨_, upd_same⟩
mutual
theorem Rep.putBG {c : RC} {p : Addr} {o o' : HO} (hB : c.B p) (hp : c.H p = some o) (g1 : ∀ xs, o ≠ .tup xs) (g2 : ∀ a b, o ≠ .frz a b) : ∀ {d : D} {v : V}, Rep c d v → Rep (c.put p o') d v
  | _, _, .non => .non
  | _, _, .bl b => .bl b
  | _, _, .int i => .int i
  | _, _, .str cs => .str cs
  | _, _, .tup (a := a) h r => .tup (by
      rcases h with (h | ⟨u, h⟩) | h
      · exact .inl (.inl ((upd_ne (show a ≠ p from fun z => by rw [z, hp] at h; exact g1 _ (Option.some.inj h))).trans h))
      · exact .inl (.inr ⟨u, (upd_ne (show a ≠ p from fun z => by rw [z, hp] at h; exact g2 _ _ (Option.some.inj h))).trans h⟩)
      · exact .inr h) (Reps.putBG hB hp g1 g2 r)
  | _, _, .lst (a := a) h f r => by
      have ne : a ≠ p := fun z => f.1 (z ▸ hB)
      exact .lst ((upd_ne ne).trans h) f (Reps.putBG hB hp g1 g2 r)
  | _, _, .scr (a := a) h r => .scr (by
      rcases h with ⟨u, h⟩ | h
      · exact .inl ⟨u, (upd_ne (show a ≠ p from fun z => by rw [z, hp] at h; exact g2 _ _ (Option.some.inj h))).trans h⟩
      · exact .inr h) (Reps.putBG hB hp g1 g2 r)
  | _, _, .obj (a := a) m h f r => by
      have ne : a ≠ p := fun z => f.1 (z ▸ hB)
      exact .obj m ((upd_ne ne).trans h) f (RepF.putBG hB hp g1 g2 r)
  | _, _, .dic (a := a) h i f r => by
      have ne : a ≠ p := fun z => f.1 (z ▸ hB)
      exact .dic ((upd_ne ne).trans h) i f (RepP.putBG hB hp g1 g2 r)
  | _, _, .fn h f h2 f2 cr r => by
      have ne : ∀ {a : Addr}, c.fr a → a ≠ p := fun f z => f.1 (z ▸ hB)
      exact .fn ((upd_ne (ne f)).trans h) f ((upd_ne (ne f2)).trans h2) f2 (cr.imp fun b o hb fb => ⟨(upd_ne (ne fb)).trans hb, fb⟩) (Reps.putBG hB hp g1 g2 r)
  | _, _, .exc m h f h2 f2 r => by
      have ne : ∀ {a : Addr}, c.fr a → a ≠ p := fun f z => f.1 (z ▸ hB)
      exact .exc m ((upd_ne (ne f)).trans h) f ((upd_ne (ne f2)).trans h2) f2 (RepF.putBG hB hp g1 g2 r)
  | _, _, .ref h => .ref h
theorem Reps.putBG {c : RC} {p : Addr} {o o' : HO} (hB : c.B p) (hp : c.H p = some o) (g1 : ∀ xs, o ≠ .tup xs) (g2 : ∀ a b, o ≠ .frz a b) : ∀ {ds : List D} {vs : List V}, Reps c ds vs → Reps (c.put p o') ds vs
  | _, _, .nil => .nil
  | _, _, .cons h t => .cons (Rep.putBG hB hp g1 g2 h) (Reps.putBG hB hp g1 g2 t)
theorem RepP.putBG {c : RC} {p : Addr} {o o' : HO} (hB : c.B p) (hp : c.H p = some o) (g1 : ∀ xs, o ≠ .tup xs) (g2 : ∀ a b, o ≠ .frz a b) : ∀ {ds : List (List Key × D)} {vs : List (List Key × V)}, RepP c ds vs → RepP (c.put p o') ds vs
  | _, _, .nil => .nil
  | _, _, .cons h t => .cons (Rep.putBG hB hp g1 g2 h) (RepP.putBG hB hp g1 g2 t)
theorem RepF.putBG {c : RC} {p : Addr} {o o' : HO} (hB : c.B p) (hp : c.H p = some o) (g1 : ∀ xs, o ≠ .tup xs) (g2 : ∀ a b, o ≠ .frz a b) : ∀ {ds : List (Str × D)} {vs : List (Str × V)}, RepF c ds vs → RepF (c.put p o') ds vs
  | _, _, .nil => .nil
  | _, _, .cons h t => .cons (Rep.putBG hB hp g1 g2 h) (RepF.putBG hB hp g1 g2 t)
end
theorem Over.putBG {c c' : RC} {h : EH} {p : Addr} {b b' : HO} (o : Over c c' p) (s : SR c' h) (hp : c'.H p = some b) (g1 : ∀ xs, b ≠ .tup xs) (g2 : ∀ x y, b ≠ .frz x y) (g3 : NoTab c'.H p := by exact noTab_of (by assumption) (fun _ z => by cases z) (fun _ z => by cases z)) : Over c (c'.put p b') p ∧ SR (c'.put p b') h := by
  have hB : c'.B p := o.Bp
  refine ⟨⟨⟨o.le.K, ⟨o.le.mg.e, fun t => tabs_upd (ρ := c'.ρ) (B := c'.B) g3 (o.le.mg.t t)⟩, o.le.B, o.le.Bn, fun a u e => ?_, o.le.pre, fun a u e t n => ?_, fun a zs e => ?_, fun a u w e => (upd_ne (show a ≠ p from o.ne e)).trans (o.le.frz a u w e)⟩, o.Bp, o.new, o.bt⟩, ⟨s.len, s.nd, fun n a k e1 e2 => ?_, s.nb, fun a hb => ?_⟩⟩
  · obtain ⟨u', h1⟩ := o.le.dom a u e
    exact ⟨u', (upd_ne (o.ne e)).trans h1⟩
  · obtain ⟨h1, n1⟩ := o.le.keep a u e t n
    exact ⟨(upd_ne (o.ne e)).trans h1, n1⟩
  · rcases o.le.tup a zs e with e' | ⟨u, e'⟩
    · exact .inl ((upd_ne (show a ≠ p from fun z => by rw [z, hp] at e'; exact g1 _ (Option.some.inj e'))).trans e')
    · exact .inr ⟨u, (upd_ne (show a ≠ p from fun z => by rw [z, hp] at e'; exact g2 _ _ (Option.some.inj e'))).trans e'⟩
  · have r := s.cells n a k e1 e2
    have ne : a ≠ p := fun z => s.nb a (List.mem_of_getElem? e1) (z ▸ hB)
    cases k with
    | lst ds => obtain ⟨zs, h1, h2⟩ := r; exact ⟨zs, (upd_ne ne).trans h1, h2.putBG hB hp g1 g2⟩
    | dic t kvs => obtain ⟨ob, zs, h1, h3, h2⟩ := r; exact ⟨ob, zs, (upd_ne ne).trans h1, h3, h2.putBG hB hp g1 g2⟩
    | obj C fs => obtain ⟨Ca, dx, vs, h0, h1, h2⟩ := r; exact ⟨Ca, dx, vs, h0, (upd_ne ne).trans h1, h2.putBG hB hp g1 g2⟩
  · by_cases e : a = p
    · exact ⟨_, by rw [e]; exact upd_same⟩
    · obtain ⟨u, q⟩ := s.bt a hb
      exact ⟨u, (upd_ne e).trans q⟩
theorem EnvR.putBG {c : RC} {p : Addr} {o o' : HO} (hB : c.B p) (hp : c.H p = some o) (g1 : ∀ xs, o ≠ .tup xs) (g2 : ∀ a b, o ≠ .frz a b) {ε : Ev} {σ : L2.St} (r : EnvR c ε σ) : EnvR (c.put p o') ε σ := ⟨r.len, fun i d e => let ⟨v, h1, h2⟩ := r.at_ i d e; ⟨v, h1, h2.putBG hB hp g1 g2⟩⟩
theorem EnvR.moreG {c : RC} {p : Addr} {o : HO} (hp : c.H p = none) {ε : Ev} {σ : L2.St} (r : EnvR c ε σ) : EnvR { c with B := fun a => c.B a ∨ a = p, H := upd c.H p o } ε σ := ⟨r.len, fun i d e => let ⟨v, h1, h2⟩ := r.at_ i d e; ⟨v, h1, h2.moreG hp⟩⟩
def keyD (d : D) : Option Key := match d with
  | .int i => some (.inl i)
  | .str z => some (.inr (toS z))
  | _ => none
theorem keyD_ok {c : RC} {d : D} {v : V} {k : Key} (r : Rep c d v) (e : keyD d = some k) : v = kV k := by
  cases r with
  | int i => cases e; rfl
  | str z => cases e; rfl
  | _ => cases e
def lkK (k : List Key) : List (List Key × D) → Option D
  | [] => none
  | p :: r => if p.1 = k then some p.2 else lkK k r
theorem lookP {c : RC} {k : List Key} : ∀ {kvs : List (List Key × D)} {zs : List (List Key × V)}, RepP c kvs zs → ∀ {d : D}, lkK k kvs = some d → ∃ v, valV zs k = some v ∧ Rep c d v
  | _, _, .nil, d, e => by cases e
  | _, _, .cons (f := g) h t, d, e => by
    unfold lkK at e
    dsimp only at e
    by_cases q : g = k
    · rw [if_pos q] at e
      cases e
      exact ⟨_, valV_pos q, h⟩
    · rw [if_neg q] at e
      rw [valV_neg q]
      exact lookP t e
theorem lookPN {c : RC} {k : List Key} : ∀ {kvs : List (List Key × D)} {zs : List (List Key × V)}, RepP c kvs zs → lkK k kvs = none → valV zs k = none
  | _, _, .nil, e => valV_nil
  | _, _, .cons (f := g) h t, e => by
    unfold lkK at e
    dsimp only at e
    by_cases q : g = k
    · rw [if_pos q] at e; cases e
    · rw [if_neg q] at e
      rw [valV_neg q]
      exact lookPN t e
theorem valV_one (k : Key) : ∀ zs : List (Key × V), valV (zs.map fun p => ([p.1], p.2)) [k] = valV zs k
  | [] => by rw [List.map_nil, valV_nil, valV_nil]
  | p :: zs => by
    rw [List.map_cons]
    by_cases q : p.1 = k
    · rw [valV_pos q, valV_pos (p := ([p.1], p.2)) (by rw [q])]
    · rw [valV_neg q, valV_neg (p := ([p.1], p.2)) (by simpa using q), valV_one k zs]
end PD
namespace PD
open PySem PySem.Spec PyProof.Rows L2
variable [LamTab]
/-- a dict whose keys are ints and texts -/
def asDic (h : EH) (d : D) : Option (List (List Key × D)) := match d with
  | .dic false kvs => some kvs
  | .ref n => (match h[n]? with
    | some (.dic false kvs) => some kvs
    | _ => none)
  | _ => none
theorem asDic_ok {c : RC} {h : EH} {d : D} {v : V} {kvs : List (List Key × D)} (s : SR c h) (r : Rep c d v) (e : asDic h d = some kvs) : ∃ (a : Addr) (ys : List (Key × V)), v = .ref a ∧ c.H a = some (.dK ys) ∧ RepP c kvs (ys.map fun p => ([p.1], p.2)) := by
  have fin : ∀ {a : Addr} {o : HO} {zs : List (List Key × V)}, v = .ref a → c.H a = some o → isDic false o zs → RepP c kvs zs → ∃ (a : Addr) (ys : List (Key × V)), v = .ref a ∧ c.H a = some (.dK ys) ∧ RepP c kvs (ys.map fun p => ([p.1], p.2)) := fun {a o zs} h1 h2 h3 h4 => by
    rcases h3 with ⟨_, ys, rfl, rfl⟩ | ⟨z, _⟩
    · exact ⟨a, ys, h1, h2, h4⟩
    · cases z
  cases r with
  | @dic a t o kvs' zs k1 k2 k3 k4 =>
    cases t with
    | false => cases e; exact fin rfl k1 k2 k4
    | true => cases e
  | @ref n a hn =>
    unfold asDic at e
    dsimp only at e
    cases q : h[n]? with
    | none => rw [q] at e; cases e
    | some k =>
      rw [q] at e
      cases k with
      | dic t kvs' =>
        cases t with
        | true => cases e
        | false =>
          cases e
          obtain ⟨o, zs, h1, h3, h2⟩ := s.cells n a _ hn q
          exact fin rfl h1 h3 h2
      | _ => cases e
  | _ => cases e
def dDGet (h : EH) (x y : D) : Option (Option D) := match asDic h x, keyD y with
  | some kvs, some k => some (lkK [k] kvs)
  | _, _ => none
theorem dget_ok {c : RC} {h : EH} {x y : D} {v u : V} {r : Option D} (s : SR c h) (rx : Rep c x v) (ry : Rep c y u) (e : dDGet h x y = some r) :
    ∃ a o, v = .ref a ∧ IsD c.H a ∧ DGet c.H a u o ∧ (∀ d, r = some d → ∃ w, o = some w ∧ Rep c d w) ∧ (r = none → o = none) := by
  unfold dDGet at e
  cases q1 : asDic h x with
  | none => rw [q1] at e; cases e
  | some kvs =>
    cases q2 : keyD y with
    | none => rw [q1, q2] at e; cases e
    | some k =>
      rw [q1, q2] at e
      cases e
      obtain ⟨a, ys, rfl, h1, h2⟩ := asDic_ok s rx q1
      have hk := keyD_ok ry q2
      subst hk
      refine ⟨a, valV ys k, rfl, .inl ⟨ys, .inl h1⟩, .k h1, fun d e => ?_, fun e => ?_⟩
      · obtain ⟨w, e1, e2⟩ := lookP h2 e
        rw [valV_one] at e1
        exact ⟨w, e1, e2⟩
      · have := lookPN h2 e
        rwa [valV_one] at this
def dget2K (x : D) (y : D) (z : D) (h : EH) : O D := rt ((dDGet h x y).map fun r => r.getD z) h
def mDGet2 (a b e : M D) : M D := fun ε h => bR (a ε h) fun x h1 => match asDic h1 x with
  | some _ => bR (b ε h1) fun y h2 => bR (e ε h2) fun z h3 => dget2K x y z h3
  | none => none
section
variable {X : Cx} {W : WX} {a b : Expr} {ma mb : M D} {pos : Pos} {k : Nat}
theorem re_dget2 {o e f : Expr} {mo me mf : M D} {apos cpos : Pos} (hr : Room k X.A) (ho : RE X W o mo) (he : RE X W e me) (hf : RE X W f mf) (m : M2 X o "get" apos e f cpos := by exact ⟨rfl, rfl, rfl, rfl⟩) : RE X W (.Call (.Attribute o "get" apos) [e, f] [] cpos) (mDGet2 mo me mf) := by
  refine pe_imp (pe_dget2 (by have := hr.units; omega) ho he hf m) fun σ H Q h => ?_
  obtain ⟨c, ε, h, r', h', hK, hm, rfl, sr, er, e, px, go⟩ := h
  unfold tDGet2
  refine tX.bind hK hm sr er e px fun dx h1 c1 x e1 l1 s1 r1 => ?_
  cases q0 : asDic h1 dx with
  | none => rw [q0] at e1; cases e1
  | some kvs =>
    rw [q0] at e1
    obtain ⟨a, ys, rfl, k1, k2⟩ := asDic_ok s1 r1 q0
    refine ⟨a, rfl, .inl ⟨ys, .inl k1⟩, ?_⟩
    refine tX.bind (l1.K.trans hK) (l1.mg.trans hm) s1 (er.le l1) e1 (px.le l1) fun dy h2 c2 y e2 l2 s2 r2 => ?_
    refine tX.bind (l2.K.trans (l1.K.trans hK)) (l2.mg.trans (l1.mg.trans hm)) s2 ((er.le l1).le l2) e2 ((px.le l1).le l2) fun dz h3 c3 z e3 l3 s3 r3 => ?_
    unfold dget2K at e3
    cases q : dDGet h3 dx dy with
    | none => rw [q] at e3; cases e3
    | some r =>
      rw [q] at e3
      cases e3
      obtain ⟨a', o, ea, _, g1, g2, g3⟩ := dget_ok s3 ((r1.le l2).le l3) (r2.le l3) q
      cases ea
      refine ⟨o, g1, ?_⟩
      have L := (l1.trans l2).trans l3
      cases r with
      | none => rw [g3 rfl]; exact go _ rfl c3 _ L s3 r3
      | some d => obtain ⟨w, e, rw'⟩ := g2 d rfl; rw [e]; exact go _ rfl c3 _ L s3 rw'
end
end PD
namespace PD
open PySem PySem.Spec PyProof.Rows L2
variable [LamTab]
inductive RepPr (c : RC) : List (D × D) → List (V × V) → Prop
  | nil : RepPr c [] []
  | cons {k d : D} {ds : List (D × D)} {x v : V} {vs : List (V × V)} : Rep c k x → Rep c d v → RepPr c ds vs → RepPr c ((k, d) :: ds) ((x, v) :: vs)
theorem RepPr.le {c c' : RC} (l : c.Le c') : ∀ {ds : List (D × D)} {vs : List (V × V)}, RepPr c ds vs → RepPr c' ds vs
  | _, _, .nil => .nil
  | _, _, .cons h1 h2 t => .cons (h1.le l) (h2.le l) (t.le l)
def mPairs : List (M D × M D) → M (List (D × D))
  | [] => fun _ h => some (.ok [], h)
  | p :: r => fun ε h => bR (p.1 ε h) fun x h1 => bR (p.2 ε h1) fun y h2 => bR (mPairs r ε h2) fun ps h3 => some (.ok ((x, y) :: ps), h3)
theorem pairs_of {K : PySem.W.Frag} {mg : Str → Option Value} {W : WX} {σ : L2.St} : ∀ (ps : List (M D × M D)) {H : Hp} {Q : List (V × V) → Hp → Prop}, tX RepPr K mg W (mPairs ps) σ H Q → tPairs (ps.map fun p => (tE K mg W p.1, tE K mg W p.2)) σ H Q
  | [], H, Q, h => by
    obtain ⟨c, ε, h, r', h', hK, hm, rfl, sr, er, e, px, go⟩ := h
    cases e
    exact go _ rfl c _ (.refl c) sr .nil
  | p :: r, H, Q, h => by
    obtain ⟨c, ε, h, r', h', hK, hm, rfl, sr, er, e, px, go⟩ := h
    rw [List.map_cons]
    unfold tPairs
    refine tX.bind hK hm sr er e px fun x h1 c1 v e1 l1 s1 r1 => ?_
    refine tX.bind (l1.K.trans hK) (l1.mg.trans hm) s1 (er.le l1) e1 (px.le l1) fun y h2 c2 u e2 l2 s2 r2 => ?_
    refine pairs_of r ?_
    refine tX.bind (l2.K.trans (l1.K.trans hK)) (l2.mg.trans (l1.mg.trans hm)) s2 ((er.le l1).le l2) e2 ((px.le l1).le l2) fun qs h3 c3 zs e3 l3 s3 r3 => ?_
    cases e3
    exact go _ rfl c3 _ ((l1.trans l2).trans l3) s3 (.cons ((r1.le l2).le l3) (r2.le l3) r3)
inductive RPs (X : Cx) (W : WX) : List (Option Expr) → List Expr → List (M D × M D) → Prop
  | nil : RPs X W [] [] []
  | cons {k v : Expr} {ks : List (Option Expr)} {vs : List Expr} {mk mv : M D} {r : List (M D × M D)} : RE X W k mk → RE X W v mv → RPs X W ks vs r → RPs X W (some k :: ks) (v :: vs) ((mk, mv) :: r)
theorem RPs.pps {X : Cx} {W : WX} {pos : Pos} {ks : List (Option Expr)} {vs : List Expr} {r : List (M D × M D)} (h : RPs X W ks vs r) : PPs X pos ks vs (r.map fun p => (tE X.K X.mg W p.1, tE X.K X.mg W p.2)) := by
  induction h with
  | nil => exact pps_nil
  | cons h1 h2 _ ih => exact pps_cons h1 h2 ih
def putKD (k : List Key) (d : D) (kvs : List (List Key × D)) : List (List Key × D) := if (kvs.any fun p => decide (p.1 = k)) = true then kvs.map (fun p => if p.1 = k then (p.1, d) else p) else kvs ++ [(k, d)]
theorem repP_keys {c : RC} {k : List Key} : ∀ {kvs : List (List Key × D)} {zs : List (List Key × V)}, RepP c kvs zs → (kvs.any fun p => decide (p.1 = k)) = (zs.any fun p => decide (p.1 = k))
  | _, _, .nil => rfl
  | _, _, .cons _ t => by rw [List.any_cons, List.any_cons, repP_keys t]
theorem repP_map {c : RC} {k : List Key} {d : D} {v : V} (r : Rep c d v) : ∀ {kvs : List (List Key × D)} {zs : List (List Key × V)}, RepP c kvs zs → RepP c (kvs.map fun p => if p.1 = k then (p.1, d) else p) (zs.map fun p => if p.1 = k then (p.1, v) else p)
  | _, _, .nil => .nil
  | _, _, .cons (f := g) h t => by
    rw [List.map_cons, List.map_cons]
    by_cases q : g = k
    · rw [if_pos q, if_pos q]; exact .cons r (repP_map r t)
    · rw [if_neg q, if_neg q]; exact .cons h (repP_map r t)
theorem repP_app {c : RC} {k : List Key} {d : D} {v : V} (r : Rep c d v) : ∀ {kvs : List (List Key × D)} {zs : List (List Key × V)}, RepP c kvs zs → RepP c (kvs ++ [(k, d)]) (zs ++ [(k, v)])
  | _, _, .nil => .cons r .nil
  | _, _, .cons h t => .cons h (repP_app r t)
theorem putK_rep {c : RC} {k : List Key} {d : D} {v : V} (r : Rep c d v) {kvs : List (List Key × D)} {zs : List (List Key × V)} (h : RepP c kvs zs) : RepP c (putKD k d kvs) (putK zs k v) := by
  unfold putKD putK
  rw [repP_keys h]
  split
  · exact repP_map r h
  · exact repP_app r h
theorem putK_one (k : Key) (v : V) (ys : List (Key × V)) : putK (ys.map fun p => ([p.1], p.2)) [k] v = (putK ys k v).map fun p => ([p.1], p.2) := by
  unfold putK
  have e1 : ((ys.map fun p => (([p.1] : List Key), p.2)).any fun kv => decide (kv.1 = [k])) = ys.any fun kv => decide (kv.1 = k) := by
    rw [List.any_map]
    congr 1
    funext p
    simp
  rw [e1]
  split
  · rw [List.map_map, List.map_map]
    refine List.map_congr_left fun p _ => ?_
    show (if [p.1] = [k] then ([p.1], v) else ([p.1], p.2)) = _
    by_cases q : p.1 = k
    · rw [if_pos (by rw [q])]
      simp [q]
    · rw [if_neg (by simpa using q)]
      simp [q]
  · simp
/-- the pairs, from the left -/
def mergeD : List (D × D) → List (List Key × D) → Option (List (List Key × D))
  | [], acc => some acc
  | p :: r, acc => match keyD p.1 with
    | some k => mergeD r (putKD [k] p.2 acc)
    | none => none
theorem merge_ok {c : RC} : ∀ {ps : List (D × D)} {vs : List (V × V)} {acc out : List (List Key × D)} {ys : List (Key × V)}, RepPr c ps vs → RepP c acc (ys.map fun p => ([p.1], p.2)) → mergeD ps acc = some out →
    ∃ kvs : List (Key × V), vs = kvs.map (fun kv => (kV kv.1, kv.2)) ∧ RepP c out ((mergeK ys kvs).map fun p => ([p.1], p.2))
  | _, _, acc, out, ys, .nil, h, e => by cases e; exact ⟨[], rfl, h⟩
  | (dk, d) :: ps, _, acc, out, ys, .cons (x := x) (v := v) r1 r2 t, h, e => by
    unfold mergeD at e
    cases q : keyD dk with
    | none => rw [q] at e; cases e
    | some k =>
      rw [q] at e
      have hk := keyD_ok r1 q
      have h2 : RepP c (putKD [k] d acc) ((putK ys k v).map fun p => ([p.1], p.2)) := by
        rw [← putK_one]
        exact putK_rep r2 h
      obtain ⟨kvs, e1, e2⟩ := merge_ok t h2 e
      exact ⟨(k, v) :: kvs, by rw [e1, hk]; rfl, e2⟩
theorem RepPr.len {c : RC} : ∀ {ds : List (D × D)} {vs : List (V × V)}, RepPr c ds vs → ds.length = vs.length
  | _, _, .nil => rfl
  | _, _, .cons _ _ t => by rw [List.length_cons, List.length_cons, t.len]
def dispK (ps : List (D × D)) (h : EH) : O D := if ps.length ≤ 15 then rt ((mergeD ps []).map fun kvs => .dic false kvs) h else none
def mDisp (ps : List (M D × M D)) : M D := fun ε h => bR (mPairs ps ε h) dispK
section
variable {X : Cx} {W : WX}
theorem re_disp {keys : List (Option Expr)} {values : List Expr} {ps : List (M D × M D)} {pos : Pos} (h : RPs X W keys values ps) (hall : keys.all (·.isSome) = true := by rfl) (hl : keys.length = values.length := by rfl) (h0 : keys ≠ [] := by simp) (h15 : keys.length ≤ 15 := by decide) :
    RE X W (.Dict keys values pos) (mDisp ps) := by
  refine pe_imp (pe_disp h.pps hall hl h0 h15) fun σ H Q h => ?_
  obtain ⟨c, ε, h, r', h', hK, hm, rfl, sr, er, e, px, go⟩ := h
  unfold tDisp
  intro p hp
  obtain ⟨o1, s1⟩ := Over.startG (o := .dK []) sr hp
  refine pairs_of ps ?_
  have e' : bR (mPairs ps ε h) dispK = some (r', h') := e
  have er1 : EnvR { c with B := fun a => c.B a ∨ a = p, H := upd c.H p (.dK []) } ε σ := EnvR.moreG hp er
  refine tX.bind (c := { c with B := fun a => c.B a ∨ a = p, H := upd c.H p (.dK []) }) hK (o1.le.mg.trans hm) s1 er1 e' (fun x ex c' cls dx l s xr => ?_) fun qs h2 c2 vs e2 l2 s2 r2 => ?_
  · -- an exception: back over the dict
    have o2 := o1.step l
    refine px x ex (c'.av c.B) cls dx o2.back (o2.sr s) ?_
    obtain ⟨Ca, d, us, g1, g2, g3, g4, g5, g6⟩ := xr
    exact ⟨Ca, d, us, g1, g2, g3, g4, ⟨fun z => g5.1 (o2.le.B _ z), g5.2⟩, RepF.fewer o2.le.B g6⟩
  · have o2 := o1.step l2
    have p2 : c2.H p = some (.dK []) := (l2.keep p _ upd_same (fun _ z => by cases z) fun z => sr.nb p z |> fun k => (by
      obtain ⟨ob, eo⟩ := sr.ex z
      rw [hp] at eo; cases eo)).1
    unfold dispK at e2
    by_cases h15' : qs.length ≤ 15
    · rw [if_pos h15'] at e2
      cases q : mergeD qs [] with
      | none => rw [q] at e2; cases e2
      | some out =>
        rw [q] at e2
        cases e2
        obtain ⟨kvs, rfl, hr⟩ := merge_ok (ys := []) r2 .nil q
        refine ⟨p2, kvs, rfl, by have := r2.len; rw [List.length_map] at this; omega, ?_⟩
        obtain ⟨o3, s3⟩ := o2.putBG (b' := .dK (mergeK [] kvs)) s2 p2 (fun _ z => by cases z) (fun _ _ z => by cases z)
        have hr3 := RepP.putBG (o' := .dK (mergeK [] kvs)) o2.Bp p2 (fun _ z => by cases z) (fun _ _ z => by cases z) hr
        refine go _ rfl ((c2.put p (.dK (mergeK [] kvs))).av c.B) _ o3.back (o3.sr s3) ?_
        refine .dic (o := .dK (mergeK [] kvs)) (zs := (mergeK [] kvs).map fun p => ([p.1], p.2)) upd_same (.inl ⟨rfl, _, rfl, rfl⟩) ⟨fun z => ?_, fun z => s3.nb p z o3.Bp⟩ (RepP.fewer o3.le.B hr3)
        obtain ⟨ob, eo⟩ := sr.bt p z
        rw [hp] at eo; cases eo
    · rw [if_neg h15'] at e2; cases e2
end
end PD
namespace PD
open PySem PySem.Spec PyProof.Rows L2
variable [LamTab]
section
variable {X : Cx} {W : WX}
theorem RepP.len {c : RC} : ∀ {ds : List (List Key × D)} {vs : List (List Key × V)}, RepP c ds vs → ds.length = vs.length
  | _, _, .nil => rfl
  | _, _, .cons _ t => by rw [List.length_cons, List.length_cons, RepP.len t]
end
def lkS (z : List Nat) : List (List Nat × D) → Option D
  | [] => none
  | p :: r => if p.1 = z then some p.2 else lkS z r
inductive Ent (K : PySem.W.Frag) : List (List Nat × D) → List DictEntry → Prop
  | nil : Ent K [] []
  | cons {z : List Nat} {d : D} {r : List (List Nat × D)} {e : DictEntry} {l : List DictEntry} {t : Tok} {v : V} : e.key = .str (toS z) t → RelV v e.val → (∀ c : RC, c.K = K → Rep c d v) → Ent K r l → Ent K ((z, d) :: r) (e :: l)
theorem entB_ok {K : PySem.W.Frag} : ∀ {r : List (List Nat × D)} {l : List DictEntry}, entB K r l = true → Ent K r l
  | [], [], _ => .nil
  | [], _ :: _, h => by cases h
  | _ :: _, [], h => by cases h
  | p :: r, e :: l, h => by
    unfold entB at h
    obtain ⟨h1, h2⟩ := ba2 h
    obtain ⟨h3, h4⟩ := ba2 h2
    obtain ⟨v, rv, rp⟩ := dB_ok h3
    cases q : e.key with
    | str y t =>
      rw [q] at h1
      have ey : y.cps.toList = p.1 := of_decide_eq_true h1
      exact .cons (t := t) (by rw [q, ← ey]; rfl) rv rp (entB_ok h4)
    | _ => rw [q] at h1; cases h1
theorem ent_find {K : PySem.W.Frag} {z : List Nat} : ∀ {r : List (List Nat × D)} {l : List DictEntry}, Ent K r l → (∀ d, lkS z r = some d → ∃ e v, l.find? (·.key.isStr (toS z)) = some e ∧ RelV v e.val ∧ ∀ c : RC, c.K = K → Rep c d v) ∧ (lkS z r = none → l.find? (·.key.isStr (toS z)) = none)
  | _, _, .nil => ⟨fun d h => (by cases h), fun _ => rfl⟩
  | _, _, .cons (z := y) (t := t) (e := e) (l := l) h1 h2 h3 h4 => by
    have ih := ent_find (z := z) h4
    by_cases q : y = z
    · subst q
      refine ⟨fun d h => ?_, fun h => ?_⟩
      · unfold lkS at h
        rw [if_pos rfl] at h
        cases h
        refine ⟨_, _, ?_, h2, h3⟩
        rw [List.find?_cons, h1]
        simp [Value.isStr]
      · unfold lkS at h
        rw [if_pos rfl] at h
        cases h
    · have nz : ¬ toS y = toS z := fun e => q (by
        have := congrArg (fun s : Str => s.cps.toList) e
        simpa [toS] using this)
      unfold lkS
      dsimp only
      rw [if_neg q]
      have : (e :: l).find? (·.key.isStr (toS z)) = l.find? (·.key.isStr (toS z)) := by
        rw [List.find?_cons, h1]
        have : (Value.str (toS y) t).isStr (toS z) = false := by
          simpa [Value.isStr] using nz
        simp only [this]
      rw [this]
      exact ih
end PD
namespace PD
open PySem PySem.Spec PyProof.Rows L2
variable [LamTab]
/-- the module's name x is a dict of these -/
structure DicC (K : PySem.W.Frag) (w : World) (mg : Str → Option Value) (x : Str) (kvs : List (List Nat × D)) : Prop where
  ex : ∃ (d : Addr) (es : Array DictEntry) (n : Nat), mg x = some (.ref d) ∧ KDict K w d es n ∧ Ent K kvs es.toList
theorem ent_noref {K : PySem.W.Frag} : ∀ {r : List (List Nat × D)} {l : List DictEntry}, Ent K r l → l.any (·.refKey) = false
  | _, _, .nil => rfl
  | _, _, .cons h1 _ _ t => by
    rw [List.any_cons, ent_noref t]
    unfold DictEntry.refKey
    rw [h1]; rfl
theorem nsIn_ent {K : PySem.W.Frag} {w : World} {d : Addr} {es : Array DictEntry} {n : Nat} {kvs : List (List Nat × D)} (D : KDict K w d es n) (E : Ent K kvs es.toList) (z : List Nat) :
    (∀ dv, lkS z kvs = some dv → ∃ u v, PySem.W.nsIn K d (toS z) = some (some u) ∧ RelV v u ∧ ∀ c : RC, c.K = K → Rep c dv v) ∧ (lkS z kvs = none → PySem.W.nsIn K d (toS z) = some none) := by
  have e0 : PySem.W.nsIn K d (toS z) = (match es.toList.find? (·.key.isStr (toS z)) with
      | some e => some (some e.val)
      | none => if es.toList.any (·.refKey) then none else some none) := by
    unfold PySem.W.nsIn
    rw [D.at_]
    rfl
  obtain ⟨h1, h2⟩ := ent_find (z := z) E
  refine ⟨fun dv h => ?_, fun h => ?_⟩
  · obtain ⟨e, v, g1, g2, g3⟩ := h1 dv h
    rw [e0, g1]
    exact ⟨_, v, rfl, g2, g3⟩
  · rw [e0, h2 h, ent_noref E]
    rfl
def dCIn (neg : Bool) (kvs : List (List Nat × D)) (x : D) : Option D := match x with
  | .str z => some (.bl (neg != (lkS z kvs).isSome))
  | _ => none
def dCIx (kvs : List (List Nat × D)) (x : D) : Option D := match x with
  | .str z => lkS z kvs
  | _ => none
def mC1 (f : D → Option D) (a : M D) : M D := fun ε h => bR (a ε h) fun x h1 => rt (f x) h1
section
variable {X : Cx} {W : WX} {a : Expr} {ma : M D} {x : Str} {p pos : Pos} {kvs : List (List Nat × D)}
theorem cin_of {d : Addr} {es : Array DictEntry} {n : Nat} (Dd : KDict X.K X.w d es n) (E : Ent X.K kvs es.toList) {σ : L2.St} {H : Hp} {Q : VK} (h : tE X.K X.mg W (mC1 (dCIn false kvs) ma) σ H Q) :
    tOp (fun x y H Q => ∃ (z : Str) (r : Option Value), x = .str z ∧ y = .ref d ∧ PySem.W.nsIn X.K d z = some r ∧ Q (.bl r.isSome) H) (tE X.K X.mg W ma) (tC (.ref d)) σ H Q := by
  obtain ⟨c, ε, h, r', h', hK, hm, rfl, sr, er, e, px, go⟩ := h
  unfold tOp tC
  refine tX.bind hK hm sr er e px fun dx h1 c1 x e1 l1 s1 r1 => ?_
  cases r1 with
  | str z =>
    cases e1
    obtain ⟨g1, g2⟩ := nsIn_ent Dd E z
    cases q : lkS z kvs with
    | none => exact ⟨_, none, rfl, rfl, g2 q, by have := go _ rfl c1 (.bl false) l1 s1 (by rw [q]; exact .bl false); exact this⟩
    | some dv =>
      obtain ⟨u, v, k1, k2, k3⟩ := g1 dv q
      exact ⟨_, some u, rfl, rfl, k1, by have := go _ rfl c1 (.bl true) l1 s1 (by rw [q]; exact .bl true); exact this⟩
  | _ => cases e1
theorem rt_cin (G : DicC X.K X.w X.mg x kvs) (ha : RE X W a ma) (hg : Gl X x := by rfl) (hd : (x == ("__debug__" : Str)) = false := by decide) : RT X W (.Compare a [.In] [.Name x p] pos) (mTst (mC1 (dCIn false kvs) ma)) := by
  obtain ⟨d, es, n, h1, h2, h3⟩ := G.ex
  exact pt_imp (pt_cmpR (op_in_kd h2) ha (pe_glob (v := .ref d) hg h1 rfl hd) rfl) fun _ _ _ h => cin_of h2 h3 (tB_of h)
/-- x[k]: the key behind the dict -/
theorem re_cix (G : DicC X.K X.w X.mg x kvs) (ha : RE X W a ma) (hg : Gl X x := by rfl) (hd : (x == ("__debug__" : Str)) = false := by decide) (hs : PlainIx a := by exact fun _ _ => rfl) : RE X W (.Subscript (.Name x p) a pos) (mC1 (dCIx kvs) ma) := by
  obtain ⟨d, es, n, h1, h2, h3⟩ := G.ex
  refine pe_imp (pe_ix ix_kdict (pe_glob (v := .ref d) hg h1 rfl hd) ha hs) fun σ H Q h => ?_
  obtain ⟨c, ε, h, r', h', hK, hm, rfl, sr, er, e, px, go⟩ := h
  unfold tOp tC
  refine tX.bind hK hm sr er e px fun dx h1' c1 x e1 l1 s1 r1 => ?_
  cases r1 with
  | str z =>
    have e1' : rt (lkS z kvs) h1' = some (r', h') := e1
    obtain ⟨g1, _⟩ := nsIn_ent h2 h3 z
    cases q : lkS z kvs with
    | none => rw [q] at e1'; cases e1'
    | some dv =>
      rw [q] at e1'
      cases e1'
      obtain ⟨u, v, k1, k2, k3⟩ := g1 dv q
      exact ⟨d, _, v, rfl, rfl, ⟨es, n, u, h2.at_, h2.lit, k1, k2⟩, go _ rfl c1 v l1 s1 (k3 c1 (l1.K.trans hK))⟩
  | _ => cases e1
end
theorem SaysG2.g {fa : List He.Fa} {fn : List He.DefD} {gs : List (Str × D)} {ds : List DicD} {w : World} {K : PySem.W.Frag} (c : SaysG2 fa fn gs ds w K) : SaysG fa fn gs K := congrArg (fun z : AlG2 => z.1) c
theorem SaysG2.dic {fa : List He.Fa} {fn : List He.DefD} {gs : List (Str × D)} {ds : List DicD} {w : World} {K : PySem.W.Frag} {h : Heap} {mg : Str → Option Value} (X : K.In h) (G : h.Ns mainGlobals mg) (c : SaysG2 fa fn gs ds w K) {p : DicD} (hp : p ∈ ds) : DicC K w mg p.1 p.2 := by
  have c1 : (ds.all fun p => dicB K p.1 p.2) = true := congrArg (fun z : AlG2 => z.2.1) c
  have c2 : (ds.map fun p => He.dicW K (He.ga K p.1)) = ds.map fun p => some (He.keysIn w.params (p.2.map fun q => toS q.1)) := congrArg (fun z : AlG2 => z.2.2) c
  have b := List.all_eq_true.mp c1 p hp
  have t : He.dicW K (He.ga K p.1) = some (He.keysIn w.params (p.2.map fun q => toS q.1)) := List.map_inj_left.mp c2 p hp
  obtain ⟨es, n, kd⟩ := He.dicW_ok t
  unfold dicB at b
  cases q : PySem.W.nsIn K mainGlobals p.1 with
  | none => rw [q] at b; cases b
  | some u =>
    cases u with
    | none => rw [q] at b; cases b
    | some u =>
      cases u with
      | ref d =>
        rw [q] at b
        have eg : He.ga K p.1 = d := by
          unfold He.ga
          rw [q]
        rw [eg] at kd
        dsimp only at b
        rw [kd.at_] at b
        exact ⟨d, es, n, PySem.W.mg_of X G q, kd, entB_ok b⟩
      | _ => rw [q] at b; cases b
end PD
namespace PD
open PySem PySem.Spec PyProof.Rows L2
variable [LamTab]
/-- objects are added, none is touched -/
theorem SR.grow {c : RC} {h : EH} {H' : Hp} (s : SR c h) (k : ∀ b o, c.H b = some o → H' b = some o) : c.Le { c with H := H' } ∧ SR { c with H := H' } h ∧ ∀ p, c.H p = none → RC.fr { c with H := H' } p := by
  have l : c.Le { c with H := H' } := by
    refine ⟨rfl, ⟨rfl, fun t p hp => (t p hp).ext fun b o e => k b o e⟩, fun _ h => h, fun _ h => .inl h, fun a u e => ⟨u, k a u e⟩, fun _ _ h => h, fun a u e _ n => ⟨k a u e, n⟩, fun a xs e => ?_, fun a o u e => k a _ e⟩
    rcases e with e | ⟨u, e⟩
    · exact .inl (k a _ e)
    · exact .inr ⟨u, k a _ e⟩
  refine ⟨l, ⟨s.len, s.nd, fun n a q e1 e2 => ?_, s.nb, fun a b => ?_⟩, fun p hp => ⟨fun b => ?_, fun z => ?_⟩⟩
  · have r := s.cells n a q e1 e2
    obtain ⟨u, e⟩ := r.ex
    exact r.le l ((k a u e).trans e.symm)
  · obtain ⟨u, e⟩ := s.bt a b
    exact ⟨u, k a u e⟩
  · obtain ⟨u, e⟩ := s.bt p b
    rw [hp] at e; cases e
  · obtain ⟨o, e⟩ := s.ex z
    rw [hp] at e; cases e
end PD
namespace PD
open PySem PySem.Spec PyProof.Rows L2
variable [LamTab]
section
variable {P : Program} {w : World} {K : PySem.W.Frag} {mg : Str → Option Value} {base : Heap}
theorem fnOk0I {k n : Nat} {f : Addr} {fd : FuncData} {ps : List Str} : FnOk P w K mg base (L2.CX P w) k f fd ps (SpI K mg n fun _ _ => none) :=
  ⟨fun vs H Q E h => (by obtain ⟨_, _, _, _, _, _, _, _, _, _, _, e, _⟩ := h; cases e), fun A outer s H args us vs Q E _ _ _ _ h => (by obtain ⟨_, _, _, _, _, _, _, _, _, _, _, e, _⟩ := h; cases e)⟩
theorem FnI.mono {x : Str} {j k n : Nat} {F : IF} (h : FnI P w K mg base x j n F) (l : j ≤ k) : FnI P w K mg base x k n F := by
  obtain ⟨f, fd, ps, a, b, c, d, e⟩ := h.ex
  exact ⟨⟨f, fd, ps, a, b, c, d, e.mono l⟩⟩
theorem MetI.mono {C x : Str} {j k n : Nat} {F : IF} (h : MetI P w K mg base C x j n F) (l : j ≤ k) : MetI P w K mg base C x k n F := by
  obtain ⟨Ca, f, fd, ps, a, a2, b, c, d, e⟩ := h.ex
  exact ⟨⟨Ca, f, fd, ps, a, a2, b, c, d, e.mono l⟩⟩
theorem MetP.mono {C x : Str} {j k n : Nat} {F : PF} (h : MetP P w K mg base C x j n F) (l : j ≤ k) : MetP P w K mg base C x k n F := by
  obtain ⟨Ca, f, fd, ps, a, a2, b, c, d, e⟩ := h.ex
  exact ⟨⟨Ca, f, fd, ps, a, a2, b, c, d, e.mono l⟩⟩
end
end PD
namespace PD
open PySem PySem.Spec PyProof.Rows L2
variable [LamTab]
def lcL2 (g : MG) (t : M Bool) (mi : M (List D)) (g1 : MG) (t1 : M Bool) (e : M D) (vs1 : List Nat) : List D → Ev → EH → Option (List D × EH)
  | [], _, h => some ([], h)
  | d :: ds, ε, h => match g d ε h with
    | none => none
    | some (ε1, h1) => match t ε1 h1 with
      | some (.ok true, h2) => (match mi ε1 h2 with
        | some (.ok ds1, h3) => (match lcL g1 t1 e ds1 (wipeE ε1 vs1) h3 with
          | some (ys, h4) => (match lcL2 g t mi g1 t1 e vs1 ds ε h4 with
            | some (zs, h5) => some (ys ++ zs, h5)
            | none => none)
          | none => none)
        | _ => none)
      | some (.ok false, h2) => lcL2 g t mi g1 t1 e vs1 ds ε h2
      | _ => none
def mLc2 (vs : List Nat) (mi : M (List D)) (g : MG) (t : M Bool) (mi1 : M (List D)) (g1 : MG) (t1 : M Bool) (e : M D) (vs1 : List Nat) : M D := fun ε h => bR (mi ε h) fun ds h1 => okL (lcL2 g t mi1 g1 t1 e vs1 ds (wipeE ε vs) h1)
theorem MgE.put {c : RC} {mg : Str → Option Value} {p : Addr} {o : HO} (h : NoTab c.H p) (m : MgE c mg) : MgE (c.put p o) mg := ⟨m.e, fun _ => tabs_upd (ρ := c.ρ) (B := c.B) h (m.t trivial)⟩
theorem noTab_lst {H : Hp} {p : Addr} {xs : List V} (h : H p = some (.lst xs)) : NoTab H p := noTab_of h (fun _ z => by cases z) (fun _ z => by cases z)
theorem lew_putB {c : RC} {h : EH} {p : Addr} {xs ys : List V} (s : SR c h) (hB : c.B p) (hp : c.H p = some (.lst xs)) : c.LeW (c.put p (.lst ys)) := by
  refine ⟨rfl, rfl, fun _ z => .inl z, fun _ _ z => z, fun a o e => ?_, fun a o e _ nb n => ⟨(upd_ne (show a ≠ p from fun z => nb (z ▸ hB))).trans e, n⟩, fun a zs e => ?_, fun a o u e => ?_⟩
  · by_cases z : a = p
    · exact ⟨_, by rw [z]; exact upd_same⟩
    · exact ⟨o, (upd_ne z).trans e⟩
  · have ne : a ≠ p := fun z => by
      subst z
      rcases e with e | ⟨u, e⟩ <;> rw [hp] at e <;> cases e
    rcases e with e | ⟨u, e⟩
    · exact .inl ((upd_ne ne).trans e)
    · exact .inr ⟨u, (upd_ne ne).trans e⟩
  · exact (upd_ne (show a ≠ p from fun z => by rw [z, hp] at e; cases e)).trans e
/-- one turn, the list at p growing -/
theorem lc_turn {K : PySem.W.Frag} {mg : Str → Option Value} {g : MG} {S vs : List Nat} {t : M Bool} {el : M D} {σ : L2.St} {ε : Ev} {c1 c2 : RC} {h2 hE : EH} {p : Addr} {acc rest dr : List D} {xs : List V} {d : D} {x : V} {Nx : Hp → Prop} (hS : ∀ i ∈ S, i ∈ vs)
    (hK : c2.K = K) (hm : MgE c2 mg) (o : Over c1 c2 p) (s : SR c2 h2) (hxs : c2.H p = some (.lst xs)) (racc : Reps c2 acc xs) (en : EnvR c2 (wipeE ε vs) (wipe σ vs)) (rd : Rep c2 d x) (e2 : lcL g t el (d :: dr) (wipeE ε vs) h2 = some (rest, hE)) (hz : (acc ++ rest).length ≤ sizeLine)
    (next : ∀ c3 h3 acc3 xs3 rest3, c3.K = K → MgE c3 mg → Over c1 c3 p → SR c3 h3 → c3.H p = some (.lst xs3) → Reps c3 acc3 xs3 → c2.LeW c3 → (∀ ε' σ', EnvR c2 ε' σ' → EnvR c3 ε' σ') → lcL g t el dr (wipeE ε vs) h3 = some (rest3, hE) → acc3 ++ rest3 = acc ++ rest → Nx c3.H) :
    tG K mg S g x (wipe σ vs) c2.H fun σ2 H2 => wipe σ2 vs = wipe σ vs ∧ tT K mg W0 t σ2 H2 fun b H3 => if b = true then tE K mg W0 el σ2 H3 fun y H4 => ∃ ac, H4 p = some (.lst ac) ∧ ac.length < sizeLine ∧ Nx (upd H4 p (.lst (ac ++ [y]))) else Nx H3 := by
  unfold lcL at e2
  cases q2 : g d (wipeE ε vs) h2 with
  | none => rw [q2] at e2; cases e2
  | some z =>
    obtain ⟨ε3, h3⟩ := z
    rw [q2] at e2
    dsimp only at e2
    refine ⟨c2, d, wipeE ε vs, h2, ε3, h3, hK, hm, rfl, s, rd, en, q2, fun c4 σ4 l4 s4 en4 sv => ⟨wipe_save sv hS, ?_⟩⟩
    have o4 := o.step l4
    have p4 := (l4.keep p _ hxs (fun _ z => by cases z) fun z => s.nb p z o.Bp).1
    have hK4 : c4.K = K := l4.K.trans hK
    have hm4 : MgE c4 mg := l4.mg.trans hm
    cases q3 : t ε3 h3 with
    | none => rw [q3] at e2; cases e2
    | some z =>
      obtain ⟨rb, h5⟩ := z
      rw [q3] at e2
      cases rb with
      | ex x5 => cases e2
      | ok b =>
        refine ⟨c4, ε3, h3, .ok b, h5, hK4, hm4, rfl, s4, en4, q3, Px.ok, fun b' eb c5 b'' l5 s5 rb => ?_⟩
        cases eb
        subst rb
        have o5 := o4.step l5
        have p5 := (l5.keep p _ p4 (fun _ z => by cases z) fun z => s4.nb p z o4.Bp).1
        have racc5 := (racc.le l4).le l5
        cases b with
        | false =>
          rw [if_neg Bool.false_ne_true]
          exact next c5 h5 acc xs rest (l5.K.trans hK4) (l5.mg.trans hm4) o5 s5 p5 racc5 (l4.trans l5).toW (fun _ _ en' => (en'.le l4).le l5) e2 rfl
        | true =>
          rw [if_pos rfl]
          dsimp only at e2
          cases q4 : el ε3 h5 with
          | none => rw [q4] at e2; cases e2
          | some z =>
            obtain ⟨ry, h6⟩ := z
            rw [q4] at e2
            cases ry with
            | ex x6 => cases e2
            | ok y0 =>
              dsimp only at e2
              refine ⟨c5, ε3, h5, .ok y0, h6, l5.K.trans hK4, l5.mg.trans hm4, rfl, s5, en4.le l5, q4, Px.ok, fun y' ey c6 yv l6 s6 ry => ?_⟩
              cases ey
              have o6 := o5.step l6
              have p6 := (l6.keep p _ p5 (fun _ z => by cases z) fun z => s5.nb p z o5.Bp).1
              cases q5 : lcL g t el dr (wipeE ε vs) h6 with
              | none => rw [q5] at e2; cases e2
              | some z =>
                obtain ⟨ys, h7⟩ := z
                rw [q5] at e2
                cases e2
                have hlen : xs.length < sizeLine := by
                  rw [← racc.length]
                  simp only [List.length_append, List.length_cons] at hz
                  omega
                refine ⟨xs, p6, hlen, ?_⟩
                obtain ⟨o7, s7⟩ := o6.putB (ys := xs ++ [yv]) s6 p6
                exact next (c6.put p (.lst (xs ++ [yv]))) h6 (acc ++ [y0]) (xs ++ [yv]) ys (l6.K.trans (l5.K.trans hK4)) (MgE.put (noTab_lst p6) (l6.mg.trans (l5.mg.trans hm4))) o7 s7 upd_same (((racc5.le l6).append (.cons ry .nil)).putB o6.Bp p6) (((l4.trans l5).trans l6).toW.trans (lew_putB s6 o6.Bp p6)) (fun _ _ en' => (((en'.le l4).le l5).le l6).putB o6.Bp p6) q5 (by rw [List.append_assoc]; rfl)
theorem lc2_of {K : PySem.W.Frag} {mg : Str → Option Value} {W : WX} {mi mi1 : M (List D)} {g g1 : MG} {S S1 vs vs1 : List Nat} {t t1 : M Bool} {el : M D} {σ : L2.St} {H : Hp} {Q : VK} (hS : ∀ i ∈ S, i ∈ vs) (hS1 : ∀ i ∈ S1, i ∈ vs1) (h : tE K mg W (mLc2 vs mi g t mi1 g1 t1 el vs1) σ H Q) :
    tLc2 (tI K mg W mi) (tG K mg S g) (tT K mg W0 t) (tI K mg W0 mi1) (tG K mg S1 g1) (tT K mg W0 t1) (tE K mg W0 el) vs vs1 σ H Q := by
  obtain ⟨c, ε, h, r, h', hK, hm, rfl, sr, er, e, px, go⟩ := h
  unfold tLc2
  refine tX.bind hK hm sr er e px fun ds h1 c1 J e1 l1 s1 r1 => ?_
  intro p hp
  obtain ⟨G, Y, hw, hG, hY⟩ := r1
  have hK1 := l1.K.trans hK
  have hm1 := l1.mg.trans hm
  cases q : lcL2 g t mi1 g1 t1 el vs1 ds (wipeE ε vs) h1 with
  | none => rw [q] at e1; cases e1
  | some z =>
    obtain ⟨all, hE⟩ := z
    rw [q] at e1
    have e1' : (if all.length ≤ sizeLine then some (PD.R.ok (D.lst all), hE) else none) = some (r, h') := e1
    by_cases hz : all.length ≤ sizeLine
    · rw [if_pos hz] at e1'
      cases e1'
      obtain ⟨o2, s2⟩ := Over.start (xs := []) s1 hp
      let Pv : Nat → Hp → Prop := fun i H => ∃ c2 h2 acc xs rest, c2.K = K ∧ MgE c2 mg ∧ Over c1 c2 p ∧ c2.H = H ∧ SR c2 h2 ∧ H p = some (.lst xs) ∧ Reps c2 acc xs ∧ EnvR c2 (wipeE ε vs) (wipe σ vs) ∧ lcL2 g t mi1 g1 t1 el vs1 (ds.drop i) (wipeE ε vs) h2 = some (rest, h') ∧ acc ++ rest = all
      refine ⟨fun i m H => m = ds.length - i ∧ i ≤ ds.length ∧ Pv i H, ⟨ds.length, by simp, Nat.zero_le _, _, h1, [], [], all, o2.le.K.trans hK1, o2.le.mg.trans hm1, o2, rfl, s2, upd_same, .nil, EnvR.more hp (wipe_envR vs (er.le l1)), q, rfl⟩, ?_⟩
      rintro i m H ⟨rfl, hi, c2, h2, acc, xs, rest, hK2, hm2, o, rfl, s, hxs, racc, en, e2, ea⟩
      by_cases hlt : i < ds.length
      · refine .inr ⟨hw.goes i _ hlt (hG c2 o.le.toW), Pv (i + 1), fun H' p' => ⟨ds.length - (i + 1), by omega, rfl, hlt, p'⟩, fun x H' y => ?_⟩
        obtain ⟨c3, rfl, l3, s3, d, hd, rd⟩ := hY i x c2 h2 H' o.le.toW s (hw.yields i _ x H' hlt (hG c2 o.le.toW) y)
        have hdr : ds.drop i = d :: ds.drop (i + 1) := by
          rw [List.drop_eq_getElem_cons hlt]
          have : ds[i] = d := by
            have := List.getElem?_eq_getElem hlt
            rw [this] at hd
            exact Option.some.inj hd
          rw [this]
        rw [hdr] at e2
        unfold lcL2 at e2
        have o3 := o.step l3
        have p3 := (l3.keep p _ hxs (fun _ z => by cases z) fun z => s.nb p z o.Bp).1
        have hK3 : c3.K = K := l3.K.trans hK2
        have hm3 : MgE c3 mg := l3.mg.trans hm2
        cases q2 : g d (wipeE ε vs) h2 with
        | none => rw [q2] at e2; cases e2
        | some z =>
          obtain ⟨ε3, h3⟩ := z
          rw [q2] at e2
          dsimp only at e2
          refine ⟨c3, d, wipeE ε vs, h2, ε3, h3, hK3, hm3, rfl, s3, rd, en.le l3, q2, fun c4 σ4 l4 s4 en4 sv => ⟨wipe_save sv hS, ?_⟩⟩
          have o4 := o3.step l4
          have p4 := (l4.keep p _ p3 (fun _ z => by cases z) fun z => s3.nb p z o3.Bp).1
          have hK4 : c4.K = K := l4.K.trans hK3
          have hm4 : MgE c4 mg := l4.mg.trans hm3
          cases q3 : t ε3 h3 with
          | none => rw [q3] at e2; cases e2
          | some z =>
            obtain ⟨rb, h5⟩ := z
            rw [q3] at e2
            cases rb with
            | ex x5 => cases e2
            | ok b =>
              refine ⟨c4, ε3, h3, .ok b, h5, hK4, hm4, rfl, s4, en4, q3, Px.ok, fun b' eb c5 b'' l5 s5 rb => ?_⟩
              cases eb
              subst rb
              have o5 := o4.step l5
              have p5 := (l5.keep p _ p4 (fun _ z => by cases z) fun z => s4.nb p z o4.Bp).1
              have en5 : EnvR c5 (wipeE ε vs) (wipe σ vs) := ((en.le l3).le l4).le l5
              have racc5 := ((racc.le l3).le l4).le l5
              have hK5 : c5.K = K := l5.K.trans hK4
              have hm5 : MgE c5 mg := l5.mg.trans hm4
              cases b with
              | false =>
                rw [if_neg Bool.false_ne_true]
                exact ⟨c5, h5, acc, xs, rest, hK5, hm5, o5, rfl, s5, p5, racc5, en5, e2, ea⟩
              | true =>
                rw [if_pos rfl]
                dsimp only at e2
                cases q4 : mi1 ε3 h5 with
                | none => rw [q4] at e2; cases e2
                | some z =>
                  obtain ⟨ry, h6⟩ := z
                  rw [q4] at e2
                  cases ry with
                  | ex x6 => cases e2
                  | ok ds1 =>
                    dsimp only at e2
                    refine ⟨c5, ε3, h5, .ok ds1, h6, hK5, hm5, rfl, s5, en4.le l5, q4, Px.ok, fun y' ey c6 J1 l6 s6 rJ => ?_⟩
                    cases ey
                    have o6 := o5.step l6
                    have p6 := (l6.keep p _ p5 (fun _ z => by cases z) fun z => s5.nb p z o5.Bp).1
                    have hK6 : c6.K = K := l6.K.trans hK5
                    have hm6 : MgE c6 mg := l6.mg.trans hm5
                    cases q5 : lcL g1 t1 el ds1 (wipeE ε3 vs1) h6 with
                    | none => rw [q5] at e2; cases e2
                    | some z =>
                      obtain ⟨ys, hM⟩ := z
                      rw [q5] at e2
                      dsimp only at e2
                      cases q6 : lcL2 g t mi1 g1 t1 el vs1 (ds.drop (i + 1)) (wipeE ε vs) hM with
                      | none => rw [q6] at e2; cases e2
                      | some z =>
                        obtain ⟨zs, h7⟩ := z
                        rw [q6] at e2
                        cases e2
                        obtain ⟨G1, Y1, hw1, hG1, hY1⟩ := rJ
                        have o66 : Over c1 c6 p := o6
                        let Pv1 : Nat → Hp → Prop := fun j H => ∃ c7 h7 acc7 xs7 rest7, c7.K = K ∧ MgE c7 mg ∧ c6.LeW c7 ∧ Over c1 c7 p ∧ c7.H = H ∧ SR c7 h7 ∧ H p = some (.lst xs7) ∧ Reps c7 acc7 xs7 ∧ EnvR c7 (wipeE ε vs) (wipe σ vs) ∧ EnvR c7 (wipeE ε3 vs1) (wipe σ4 vs1) ∧
                          lcL g1 t1 el (ds1.drop j) (wipeE ε3 vs1) h7 = some (rest7, hM) ∧ acc7 ++ (rest7 ++ zs) = all
                        refine ⟨fun j k H => k = ds1.length - j ∧ j ≤ ds1.length ∧ Pv1 j H, ⟨ds1.length, by simp, Nat.zero_le _, c6, h6, acc, xs, ys, hK6, hm6, RC.Le.toW (.refl c6), o6, rfl, s6, p6, racc5.le l6, en5.le l6, wipe_envR vs1 ((en4.le l5).le l6), q5, ea⟩, ?_⟩
                        rintro j k H ⟨rfl, hj, c7, h7, acc7, xs7, rest7, hK7, hm7, l7, o7, rfl, s7, hxs7, racc7, en7, en7', e7, ea7⟩
                        by_cases hlt1 : j < ds1.length
                        · refine .inr ⟨hw1.goes j _ hlt1 (hG1 c7 l7), Pv1 (j + 1), fun H' p' => ⟨ds1.length - (j + 1), by omega, rfl, hlt1, p'⟩, fun x1 H' y1 => ?_⟩
                          obtain ⟨c8, rfl, l8, s8, d1, hd1, rd1⟩ := hY1 j x1 c7 h7 H' l7 s7 (hw1.yields j _ x1 H' hlt1 (hG1 c7 l7) y1)
                          have hdr1 : ds1.drop j = d1 :: ds1.drop (j + 1) := by
                            rw [List.drop_eq_getElem_cons hlt1]
                            have : ds1[j] = d1 := by
                              have := List.getElem?_eq_getElem hlt1
                              rw [this] at hd1
                              exact Option.some.inj hd1
                            rw [this]
                          rw [hdr1] at e7
                          have p8 := (l8.keep p _ hxs7 (fun _ z => by cases z) fun z => s7.nb p z o7.Bp).1
                          refine lc_turn (Nx := Pv1 (j + 1)) hS1 (l8.K.trans hK7) (l8.mg.trans hm7) (o7.step l8) s8 p8 (racc7.le l8) (en7'.le l8) rd1 e7 (by
                            have := congrArg List.length ea7
                            simp only [List.length_append] at this ⊢
                            omega) fun c9 h9 acc9 xs9 rest9 hK9 hm9 o9 s9 p9 racc9 lw9 eu9 e9 ea9 => ?_
                          refine ⟨c9, h9, acc9, xs9, rest9, hK9, hm9, (l7.trans l8.toW).trans lw9, o9, rfl, s9, p9, racc9, eu9 _ _ (en7.le l8), eu9 _ _ (en7'.le l8), e9, ?_⟩
                          rw [← List.append_assoc, ea9, List.append_assoc]
                          exact ea7
                        · have ej : j = ds1.length := by omega
                          subst ej
                          refine .inl ⟨hw1.stops _ (hG1 c7 l7), ?_⟩
                          rw [List.drop_length] at e7
                          cases e7
                          exact ⟨c7, _, acc7, xs7, zs, hK7, hm7, o7, rfl, s7, hxs7, racc7, en7, q6, ea7⟩
      · have ei : i = ds.length := by omega
        subst ei
        refine .inl ⟨hw.stops _ (hG c2 o.le.toW), ?_⟩
        rw [List.drop_length] at e2
        cases e2
        rw [List.append_nil] at ea
        subst ea
        refine go _ rfl (c2.av c1.B) _ (l1.trans o.back) (o.sr s) (.lst hxs ⟨fun z => ?_, fun z => s.nb p z o.Bp⟩ (racc.fewer o.le.B))
        obtain ⟨u, eu⟩ := o.bt p z
        rw [o.new] at eu; cases eu
    · rw [if_neg hz] at e1'; cases e1'
section
variable {X : Cx} {W : WX}
theorem re_lc2 {elt tg iter tg1 iter1 : Expr} {ifs ifs1 : List Expr} {scope : Scope} {own : List (Str × Nat)} {vs1 : List Nat} {pos : Pos} {mi mi1 : M (List D)} {g g1 : MG} {S S1 : List Nat} {t t1 : M Bool} {e : M D} (hc : X.calm = true) (hN : X.N.Nodup) (hi : RI X W tg iter mi) (ok : BlkOk X.N X.env.scope scope own) (hS : ∀ i ∈ S, i ∈ own.map (·.2)) (hS1 : ∀ i ∈ S1, i ∈ vs1) (hv : ∀ i ∈ vs1, i ∈ own.map (·.2))
    (hg : ∀ (s : Shared) (H : Hp) (C : Addr) (cl : List (Str × Addr)) (fp : List Addr), RG (X.blk s H scope (compEnvC scope cl C X.env) fp) tg S g) (ht : ∀ (s : Shared) (H : Hp) (C : Addr) (cl : List (Str × Addr)) (fp : List Addr), RTs (X.blk s H scope (compEnvC scope cl C X.env) fp) W0 ifs t)
    (hi1 : ∀ (s : Shared) (H : Hp) (C : Addr) (cl : List (Str × Addr)) (fp : List Addr), RI (X.blk s H scope (compEnvC scope cl C X.env) fp) W0 tg1 iter1 mi1)
    (hg1 : ∀ (s : Shared) (H : Hp) (C : Addr) (cl : List (Str × Addr)) (fp : List Addr), RG (X.blk s H scope (compEnvC scope cl C X.env) fp) tg1 S1 g1) (ht1 : ∀ (s : Shared) (H : Hp) (C : Addr) (cl : List (Str × Addr)) (fp : List Addr), RTs (X.blk s H scope (compEnvC scope cl C X.env) fp) W0 ifs1 t1)
    (he : ∀ (s : Shared) (H : Hp) (C : Addr) (cl : List (Str × Addr)) (fp : List Addr), RE (X.blk s H scope (compEnvC scope cl C X.env) fp) W0 elt e) (hs : ∀ x, foldedSetIterable iter X.env x = pure x := by intro _; rfl) (hs1 : ∀ env x, foldedSetIterable iter1 env x = pure x := by intro _ _; rfl) :
    RE X W (.ListComp elt [⟨tg, iter, ifs, 0⟩, ⟨tg1, iter1, ifs1, 0⟩] scope pos) (mLc2 (own.map (·.2)) mi g t mi1 g1 t1 e vs1) := by
  refine pe_imp (pe_lc2 (g := tG X.K X.mg S g) (tt := tT X.K X.mg W0 t) (wi1 := tI X.K X.mg W0 mi1) (g1 := tG X.K X.mg S1 g1) (tt1 := tT X.K X.mg W0 t1) (te := tE X.K X.mg W0 e) (vs1 := vs1) hc hN hi ok hv hg ht hi1 hg1 ht1 he hs hs1) fun σ H Q h => ?_
  exact lc2_of hS hS1 h
end
end PD
namespace PD
open PySem PySem.Spec PyProof.Rows L2
variable [LamTab]
def isLc (h : EH) (x : D) : Bool := match x with
  | .ref n => (match h[n]? with
    | some (.lst _) => true
    | _ => false)
  | _ => false
def apD (h : EH) (x y : D) : Option EH := match x with
  | .ref n => (match h[n]? with
    | some (.lst ds) => if ds.length < sizeLine then some (h.set n (.lst (ds ++ [y]))) else none
    | _ => none)
  | _ => none
def mAppend (o e : M D) : M D := fun ε h => bR (o ε h) fun x h1 => if isLc h1 x = true then bR (e ε h1) fun y h2 => (apD h2 x y).map fun h3 => (.ok .non, h3) else none
section
variable {X : Cx} {W : WX}
def dMax2 (_ : EH) (ds : List D) : Option D := match ds with
  | [.int i, .int j] => some (.int (if j > i then j else i))
  | _ => none
def dMin2 (_ : EH) (ds : List D) : Option D := match ds with
  | [.int i, .int j] => some (.int (if j < i then j else i))
  | _ => none
theorem cs_two {K : PySem.W.Frag} {mg : Str → Option Value} {g : Int → Int → Int} {f : EH → List D → Option D} (hf : ∀ h ds d, f h ds = some d → ∃ i j, ds = [.int i, .int j] ∧ d = .int (g i j)) : CallS K mg (fun xs H Q => ∃ i j, xs = [V.int i, V.int j] ∧ Q (.int (g i j)) H) f := by
  intro c eh xs ds d Q hK hm sr rx e go
  obtain ⟨i, j, rfl, rfl⟩ := hf _ _ _ e
  cases rx with
  | cons r1 t =>
    cases t with
    | cons r2 t =>
      cases t
      cases r1
      cases r2
      exact ⟨i, j, rfl, go c _ (.refl c) sr (.int _)⟩
theorem dMax2_f (h : EH) (ds : List D) (d : D) (e : dMax2 h ds = some d) : ∃ i j, ds = [.int i, .int j] ∧ d = .int (if j > i then j else i) := by
  unfold dMax2 at e
  split at e
  · cases e; exact ⟨_, _, rfl, rfl⟩
  · cases e
theorem dMin2_f (h : EH) (ds : List D) (d : D) (e : dMin2 h ds = some d) : ∃ i j, ds = [.int i, .int j] ∧ d = .int (if j < i then j else i) := by
  unfold dMin2 at e
  split at e
  · cases e; exact ⟨_, _, rfl, rfl⟩
  · cases e
theorem re_max2 {a b : Expr} {ma : M (List D)} {p pos : Pos} (hc : X.calm = true) (hm : X.mg "max" = none) (ha : RA X W [a, b] ma) (hg : Gl X "max" := by rfl) (hs : starEach [a, b] X.env = (false, eval a X.env) :: starEach [b] X.env := by rfl) (hpl : (backTo pos (starEach [b] X.env)).any (·.1) = false := by rfl) :
    RE X W (.Call (.Name "max" p) [a, b] [] pos) (mCall dMax2 ma) := re_callB (call_max2 hc) (cs_two dMax2_f) hm ha (hg := hg) (he := hs) (hpl := hpl)
theorem re_min2 {a b : Expr} {ma : M (List D)} {p pos : Pos} (hc : X.calm = true) (hm : X.mg "min" = none) (ha : RA X W [a, b] ma) (hg : Gl X "min" := by rfl) (hs : starEach [a, b] X.env = (false, eval a X.env) :: starEach [b] X.env := by rfl) (hpl : (backTo pos (starEach [b] X.env)).any (·.1) = false := by rfl) :
    RE X W (.Call (.Name "min" p) [a, b] [] pos) (mCall dMin2 ma) := re_callB (call_min2 hc) (cs_two dMin2_f) hm ha (hg := hg) (he := hs) (hpl := hpl)
end
def mApp2 (a b : M (List D)) : M (List D) := fun ε h => bR (a ε h) fun xs h1 => bR (b ε h1) fun ys h2 => some (.ok (xs ++ ys), h2)
end PD
namespace PD
open PySem PySem.Spec PyProof.Rows L2
variable [LamTab]
open PySem.Froz (SD sObj TxOk addTx tailTx)
/-- the set at a: the payload D, the texts l, each once; it can be walked -/
structure TxSet (P : Program) (w : World) (h : Heap) (a : Addr) (D : SD) (l : List Str) : Prop where
  ob : h.get? a = some (sObj "set" D)
  ok : TxOk P w D l
  nd : l.Nodup
  ris : Ris D.2.2.place.toList
  led : w.params.followText "set-order" = true ∨ D.2.2.led = true
section
variable {P : Program} {w : World} {A : Around} {E : Value → Shared → Prop} {s : Shared}
theorem TxSet.move {h h' : Heap} {a : Addr} {D : SD} {l : List Str} (S : TxSet P w h a D l) (k : ∀ o, h.get? a = some o → h'.get? a = some o) : TxSet P w h' a D l := ⟨k _ S.ob, S.ok, S.nd, S.ris, S.led⟩
end
end PD
namespace PD
open PySem PySem.Spec PyProof.Rows L2
variable [LamTab]
def insU (x : List Nat) : List (List Nat) → List (List Nat)
  | [] => [x]
  | y :: r => if x < y then x :: y :: r else if y < x then y :: insU x r else y :: r
def srtU (l : List (List Nat)) : List (List Nat) := l.foldr insU []
def txD (h : EH) (d : D) : Option (List (List Nat)) := match asS h d with
  | some xs => (match asTs xs with
    | some zs => if zs.length + 1 < scanBound then some zs else none
    | none => none)
  | none => none
def mSortT (a : M D) : M D := fun ε h => bR (a ε h) fun x h1 => rt ((txD h1 x).map fun zs => .lst ((srtU zs).map .str)) h1
def mLenT (a : M D) : M D := fun ε h => bR (a ε h) fun x h1 => rt ((txD h1 x).map fun zs => .int (srtU zs).length) h1
end PD
namespace PD
open PySem PySem.Spec PyProof.Rows L2
variable [LamTab]
def miEn (a : M (List D)) : M (List D) := fun ε h => bR (a ε h) fun xs h1 => match xs with
  | [x] => (match x with
    | .lst as => some (.ok (enumD as), h1)
    | .tup as => some (.ok (enumD as), h1)
    | _ => none)
  | _ => none
def mPrp (C : Str) (F : PF) (o : M D) : M D := fun ε h => bR (o ε h) fun x h1 => match insD h1 x with
  | some (C', _) => if C' = C ∧ noRef.go [x] = true then (match F [x] with
    | some (.ok d) => some (.ok d, h1)
    | _ => none) else none
  | none => none
def mCGet (kvs : List (List Nat × D)) (a b : M D) : M D := fun ε h => bR (a ε h) fun y h1 => match y with
  | .str k => bR (b ε h1) fun z h2 => some (.ok ((lkS k kvs).getD z), h2)
  | _ => none
end PD
namespace PD
open PySem PySem.Spec PyProof.Rows L2
variable [LamTab]
section
variable {n : Nat} {fa : List He.Fa} {fn : List He.DefD} {gs : List (Str × D)} {ds : List DicD} {fx : List FactB} {xd : List He5.DefA} {w : World} {K : PySem.W.Frag}
theorem SaysG3.two (c : SaysG3 fa fn gs ds fx xd w K) : SaysG2 fa fn gs ds w K := congrArg (fun z : AlG3 => z.1) c
theorem SaysG3.fact (c : SaysG3 fa fn gs ds fx xd w K) {f : FactB} (h : f ∈ fx) : f K = true :=
  List.all_eq_true.mp (ba2 (congrArg (fun z : AlG3 => z.2.1) c : ((fx.all (fun f => f K)) && xd.all (fun d => d.ok K)) = true)).1 f h
theorem SaysG3.defA (c : SaysG3 fa fn gs ds fx xd w K) {d : He5.DefA} (h : d ∈ xd) : ∃ fd, FunD K d.name d.qual d.params d.body d.scope (d.dvs K) (d.kws K) (d.at_ K) fd := by
  have c1 := List.all_eq_true.mp (ba2 (congrArg (fun z : AlG3 => z.2.1) c : ((fx.all (fun f => f K)) && xd.all (fun d => d.ok K)) = true)).2 d h
  have c2 : (xd.map fun d => He5.fnA K (d.at_ K)) = xd.map He5.DefA.val := congrArg (fun z : AlG3 => z.2.2) c
  exact He5.DefA.funD (List.map_inj_left.mp c2 d h) c1
end
def miA (a : M D) : M (List D) := fun ε h => match miL a ε h with
  | some z => some z
  | none => miT a ε h
end PD
namespace PD
open PySem PySem.Spec PyProof.Rows L2
variable [LamTab]
def msPar3 (i j l : Nat) (m : M (List D)) : MS := fun ε h => bS (m ε h) ε fun ds h1 => match ds with
  | [d, e, f] => some (.nx (((ε.set i (some d)).set j (some e)).set l (some f)), h1)
  | _ => none
end PD
namespace PX
open PySem PySem.Spec PyProof.Rows L2 PySem.Calls
section
variable {X : Cx} {pins : List (Addr × Obj)} {σ : L2.St} {H : Hp} {s : Shared} {a C u : Addr} {E : Value → Shared → Prop}
/-- ValueError.__init__ bound to the object, called -/
theorem mw_init {us : List Value} {Q : Value → Shared → Prop} (T : OexC X.K C) (I : Inv X pins σ H s) (e : H a = some (exo a C none)) (hu : s.heap.get? u = some (PySem.W.kxs_mw "ValueError.__init__" a)) (hl : us.length ≤ sizeLine) (h : ∀ s', Inv X pins σ H s' → Q .none s') :
    wpAny (model X.prog X.w) X.A (call (.ref u) us) Q E s := by
  obtain ⟨nm, q, N, bs, bm, sn, sub, ab, col, dd, k0, k1, k2, k3, k5, hC, hbm⟩ := T.cls
  obtain ⟨t1, ho⟩ := exo_at I.hok e
  obtain ⟨hp, g, d, t, os⟩ := s
  have KC := I.kIn _ _ hC
  refine wpAny_call (codeAny_of_tree ?_)
  show wpAny _ X.A.in1 (callAny (.ref u) ⟨us, []⟩) _ _ _
  simp only [callAny]
  refine wpAny_bind (wpAny_load hu ?_)
  simp only [PySem.W.kxs_mw, show (Value.type "method-wrapper" == Value.type "method" || Value.type "method-wrapper" == Value.type "builtin_function_or_method" || Value.type "method-wrapper" == Value.type "method-wrapper") = true by decide, if_true]
  refine PySem.W.KFB.if_so (by decide) ?_
  refine wpAny_bind (PySem.W.check_bound_init F.excBase_ValueError.toExcCallFacts KC ho rfl ?_)
  refine wpAny_bind (wpAny_pure (wpAny_pure ?_))
  refine ⟨plainId_quiet F.excBase_ValueError.init.plain _, codeAny_builtin F.excBase_ValueError.initEntry ?_⟩
  refine PySem.W.exc_init_tree (cls := .ref C) (t0 := t1) (dv := none) (c2 := .none) (c3 := .none) (b4 := .bool false) ho hl fun h' k hx _ => ?_
  have J := I.write (t' := t) (x := a) (e := a) (o := exo a C none) (by rw [e]; exact True.intro) (.inl rfl) k ⟨_, hx⟩ (exo_ok hx)
  have eu : upd H a (exo a C none) = H := by
    funext b
    by_cases hb : b = a
    · rw [hb, upd_same, e]
    · rw [upd_ne hb]
  rw [eu] at J
  exact h _ J
end
/-- a class whose __init__ says super().__init__(code); self.code = code -/
def supBody (b : List Stmt) : Prop := ∃ p0 p1 p2 p3 p4 p5 p6 p7 p8 p9, (∀ env : Env, ∃ pl : Sem Bool, eval (.Call (.Attribute (.Call (.Name "super" p0) [] [] p1) "__init__" p2) [.Name "code" p3] [] p4) env = (do
      let ov ← attributeBase (.Call (.Name "super" p0) [] [] p1) "__init__" env (eval (.Call (.Name "super" p0) [] [] p1) env)
      standAt p2.atName
      let (f, first) ← holding [ov] (getMethod ov "__init__" pl)
      callWith p4 f first (backTo p4 (starEach [.Name "code" p3] env)) [])) ∧ b = [.Expr (.Call (.Attribute (.Call (.Name "super" p0) [] [] p1) "__init__" p2) [.Name "code" p3] [] p4) p5, .Assign [.Attribute (.Name "self" p6) "code" p7] (.Name "code" p8) p9]
structure SupI (P : Program) (K : PySem.W.Frag) (T f : Addr) (fd : FuncData) : Prop where
  ex : ∃ (qual : Str) (params : Arguments) (ar : Arg) (body : List Stmt) (scope : Scope) (oc : Value) (od : Option Addr) (dV kV doc pm : Value) (an : Option Addr) (cda cc : Addr) (ct : Value) (osl : Array (Option Value)),
    fd = PySem.W.ksFn "__init__" qual params body scope dV kV doc pm an (.ref cda) ct cc ∧ supBody body ∧ K.lookup f = some ⟨oc, od, .func fd, osl⟩ ∧ PySem.W.codeIn K (.ref cda) qual = true ∧ (params.posonlyargs ++ params.args).head? = some ar ∧ ar.arg = "self" ∧
    (∃ (oc2 : Value) (od2 : Option Addr) (vs : Array Value) (sl2 : Array (Option Value)) (file : Str) (tf : Tok), K.lookup cda = some ⟨oc2, od2, .fields vs, sl2⟩ ∧ vs[2]? = some (.str file tf) ∧ ((P.main.file : Str) == file) = true) ∧
    (∃ (oc3 : Value) (od3 : Option Addr) (sl3 : Array (Option Value)), K.lookup cc = some ⟨oc3, od3, .cell (some (.ref T)), sl3⟩) ∧
    (∀ x ∈ scope.names, x.2 ≠ .cell) ∧ (∀ x ∈ scope.names, x.2 = .free → x.1 = "__class__") ∧ scope.names.lookup ("super" : Str) = some .globalImplicit ∧ scope.names.lookup ("__class__" : Str) = some .free ∧ scope.names.lookup ("self" : Str) = some .local ∧ scope.names.lookup ("code" : Str) = some .local ∧
    scope.kind = .function ∧ scope.isCoroutine = false ∧ scope.isGenerator = false
  cls : ∃ cd, PySem.W.clsIn K T = some cd
  sup : PySem.W.nsIn K mainGlobals "super" = some none
  top : (P.main.scope.names.lookup ("super" : Str)).isSome = false
  opq : PySem.W.nsIn K cStatics "thirdparty.any" = some none
/-- the class C of the object lies over T -/
structure OverT (K : PySem.W.Frag) (T C : Addr) : Prop where
  oex : OexC K C
  sup : PySem.W.ks_superIn K C T "__init__" = some (some (.builtin "ValueError.__init__"))
  mro : PySem.W.mroIn K C (.ref T) = some true
  sub : PySem.W.subIn K (.ref C) (.type "ValueError") = some true
  no : PySem.W.findIn K (.ref C) "code" = some none
def spT (K : PySem.W.Frag) (T : Addr) : Sp := fun vs H Q _ => ∃ (a C : Addr) (y : V), vs = [.ref a, y] ∧ OverT K T C ∧ H a = some (exo a C none) ∧ ∀ dx, H dx = none → dx ≠ a → Q .non (upd (upd H dx (exd dx [("code", y)])) a (exo a C (some dx)))
def supCx (CX : CXT) (P : Program) (w : World) (K : PySem.W.Frag) (mg : Str → Option Value) (base : Heap) (qual : Str) (scope : Scope) (f cc : Addr) (cd : Value) (A : Around) (outer : List Env) (s : Shared) (H : Hp) (E : XK) : Cx where
  prog := P
  w := w
  K := K
  mg := mg
  base := base
  A := A.deeper (PySem.W.ksEnv qual scope s.heap.objs.size f cd cc)
  N := ["self", "code"]
  s_0 := s
  H_0 := H
  env := PySem.W.ksEnv qual scope s.heap.objs.size f cd cc
  outer := outer
  stack := PySem.W.ksEnv qual scope s.heap.objs.size f cd cc :: outer
  ex := []
  fn := fun _ => false
  calm := true
  pn := []
  xe := fun e s' => wpAny (model P w) (A.deeper (PySem.W.ksEnv qual scope s.heap.objs.size f cd cc)) (leaving (PySem.W.ksEnv qual scope s.heap.objs.size f cd cc) e) (fun _ s'' => CX outer H s E e s'') (fun e' s'' => CX outer H s E e' s'') s'
section
variable {P : Program} {w : World} {K : PySem.W.Frag} {mg : Str → Option Value} {base : Heap} {CX : CXT} {k : Nat} {T f : Addr} {fd : FuncData}
theorem sup_start {qual : Str} {scope : Scope} {cc : Addr} {cd u0 u1 : Value} {v0 v1 : V} {A : Around} {outer : List Env} {s : Shared} {H : Hp} {E : XK} {h₁ : Heap} {tk : Nat} (hd : A.handled = none) (e0 : Env0 P w K mg base A outer s H)
    (hcell : ∃ (oc3 : Value) (od3 : Option Addr) (sl3 : Array (Option Value)), K.lookup cc = some ⟨oc3, od3, .cell (some (.ref T)), sl3⟩) (hc : ∀ x ∈ scope.names, x.2 ≠ .cell) (hf : ∀ x ∈ scope.names, x.2 = .free → x.1 = "__class__") (hks : scope.names.lookup ("self" : Str) = some .local) (hkc : scope.names.lookup ("code" : Str) = some .local) (hkind : scope.kind = .function)
    (r0 : RelV v0 u0) (r1 : RelV v1 u1) (hns : h₁.Ns s.heap.objs.size (fun x => [(("self" : Str), u0), (("code" : Str), u1)].reverse.lookup x)) (hk : ∀ b o, s.heap.get? b = some o → h₁.get? b = some o) :
    Inv (supCx CX P w K mg base qual scope f cc cd A outer s H E) [] [some v0, some v1] H { s with heap := h₁, toks := tk } := by
  obtain ⟨oc3, od3, sl3, hcell⟩ := hcell
  have noA : ∀ b : Addr, b ∉ (supCx CX P w K mg base qual scope f cc cd A outer s H E).ex := fun b z => absurd (show b ∈ ([] : List Addr) from z) (by simp)
  have cells : ∀ {y : Str} {c : Addr}, (supCx CX P w K mg base qual scope f cc cd A outer s H E).env.cells.lookup y = some c → y = "__class__" ∧ c = cc := fun {y c} e => by
    have e' : ([(("__class__" : Str), cc)] : List (Str × Addr)).lookup y = some c := e
    rw [List.lookup_cons] at e'
    cases q : y == ("__class__" : Str) with
    | true => rw [q] at e'; cases e'; exact ⟨beq_iff_eq.mp q, rfl⟩
    | false => rw [q] at e'; cases e'
  have kc := e0.mod.kin _ _ hcell
  refine ⟨⟨e0.mod, hkind, rfl, rfl, Nat.le_refl _, fun y z c h1 h2 => (cells h1).1.trans (cells h2).1.symm, fun y hy => ?_, fun y c z _ => ?_, fun _ => hd, Around.frames_deeper e0.frames, .inr ⟨rfl, rfl⟩, fun b z => absurd z (noA b), e0.bs, e0.bsz, fun b _ _ => noA b, fun b z => absurd z (noA b), e0.funs, e0.frf⟩,
    rfl, e0.bare, Un.kept hk, ⟨_, hns, fun i y v h1 h2 h3 => ?_⟩, fun y c h => ?_, e0.hok.fresh (Nat.le_refl _), fun y c h => ?_, fun p hp => absurd (show p ∈ ([] : List (Addr × Obj)) from hp) (by simp), e0.hok.kept hk, rfl⟩
  · have hy : scope.names.lookup y = some .cell ∨ scope.names.lookup y = some .free := hy
    rcases hy with hy | hy
    · exact absurd rfl (hc _ (PySem.mem_of_lookup hy))
    · have e := hf _ (PySem.mem_of_lookup hy) rfl
      have e' : y = "__class__" := e
      subst e'
      exact ⟨cc, rfl⟩
  · have z : false = true := z
    cases z
  · match i, h1, h2 with
    | 0, h1, h2 =>
      cases h1
      cases h2
      exact ⟨u0, r0, .inl ⟨hks, rfl⟩⟩
    | 1, h1, h2 =>
      cases h1
      cases h2
      exact ⟨u1, r1, .inl ⟨hkc, rfl⟩⟩
    | n + 2, h1, h2 => simp at h2
  · rw [(cells h).2]
    exact ⟨_, _, hk _ _ (e0.bs _ _ kc).1, rfl⟩
  · rw [(cells h).2]
    exact (e0.bs _ _ kc).2
/-- its promise -/
theorem sup_init (S : SupI P K T f fd) : FnOk P w K mg base CX (k + 1) f fd ["self", "code"] (spT K T) := by
  refine ⟨fun vs H Q E h => ?_, fun A outer s H args us vs Q E hr e0 hb r hsp => ?_⟩
  · obtain ⟨a, C, y, rfl, _⟩ := h
    rfl
  obtain ⟨a, C, y, rfl, O, ea, go⟩ := hsp
  obtain ⟨qual, params, ar, body, scope, oc, od, dV, kV, doc, pm, an, cda, cc, ct, osl, rfl, ⟨p0, p1, p2, p3, p4, p5, p6, p7, p8, p9, hev, rfl⟩, lk, hcd, hp, har, ⟨oc2, od2, cvs, sl2, file, tf, hcda, hvs, hfile⟩, hcl, hnc, hnf, hsup, hcls, hself, hcode, hkind, hco, hgen⟩ := S.ex
  obtain ⟨u0, u1, rfl, r0, r1⟩ := r.two
  obtain rfl : u0 = Value.ref a := r0
  have KX : K.In s.heap := e0.mod.kin.keeps fun b o e => (e0.bs b o e).1
  have lim : s.heap.NoLimit := e0.mod.nolimit.keeps fun b o e => (e0.bs b o e).1
  refine PySem.ks_codeAny_call_defAt (fd := PySem.W.ksFn "__init__" qual params _ scope dV kV doc pm an (.ref cda) ct cc) (binds := [("self", .ref a), ("code", u1)]) hr.depth (KX _ _ lk) rfl lim (PySem.W.codeRec_of KX hcd) rfl hb hnc ?_ (fun h₁ hns hk => ?_) hco hgen hkind
  · intro x hx
    rcases List.mem_cons.mp hx with e | hx
    · rw [e]; exact hself
    · rw [List.mem_singleton.mp hx]; exact hcode
  have I := sup_start (CX := CX) (f := f) (qual := qual) (cd := .ref cda) (E := E) (tk := s.toks + 2) hr.hd e0 hcl hnc hnf hself hcode hkind (v0 := .ref a) (v1 := y) rfl r1 hns hk
  obtain ⟨nm, q, N, bs, bm, sn, sub, ab, col, dd, k0, k1, k2, k3, k5, hC, hbm⟩ := O.oex.cls
  obtain ⟨cdT, hT⟩ := S.cls
  let s1 : Shared := { s with heap := h₁, toks := s.toks + 2 }
  have I : Inv (supCx CX P w K mg base qual scope f cc (.ref cda) A outer s H E) [] [some (.ref a), some y] H s1 := I
  have KX1 : K.In h₁ := I.kIn
  obtain ⟨oD, hD1, hD2⟩ : ∃ oD, h₁.get? T = some oD ∧ oD.data = .cls cdT := by
    unfold PySem.W.clsIn at hT
    split at hT
    · rename_i c d cd' sl ho
      cases hT
      exact ⟨_, KX1 _ _ ho, rfl⟩
    · cases hT
  obtain ⟨t1, hx⟩ := exo_at I.hok ea
  have hxC : a ≠ C := fun z => by
    have e1 := KX1 _ _ hC
    rw [← z, hx] at e1
    cases e1
  have hsub : PySem.W.Looks (model P w) h₁ (isSubtype (.ref C) (.ref T)) true := PySem.W.looks_mroIn KX1 O.mro
  let env : Env := PySem.W.ksEnv qual scope s.heap.objs.size f (.ref cda) cc
  have hnsE : h₁.Ns env.locals (fun x => [(("self" : Str), Value.ref a), (("code" : Str), u1)].reverse.lookup x) := hns
  refine PySem.ks_wpAt_execs_cons (PySem.ks_wpAt_Expr_any (PySem.ks_wpAt_MethodCall (env := env) ?_ (hev env).choose_spec) (by show interactive env = false; unfold interactive; rw [show env.scope.kind = _ from hkind] <;> rfl) (by rfl))
  refine PySem.ks_wpAt_super_base (env := env) hsup hcls rfl rfl (KX1 _ _ lk) rfl hp rfl (KX1 _ _ hcda) rfl hvs hfile S.top ?_
  obtain ⟨mb, b1, b2⟩ := e0.mod.blt
  refine PySem.W.ks_loadName_global hkind hsup (loadGlobal_builtin (env := env) (e0.mod.glob.keeps I.bk) (PySem.W.mg_none_of e0.mod.kin e0.mod.glob S.sup) (b1.keeps I.bk) ((b2 "super" (by decide)).trans (by decide +kernel)) ⟨rfl, ?_⟩)
  obtain ⟨oc3, od3, sl3, hcc⟩ := hcl
  refine wpAny_loadName_free hkind hcls rfl ⟨_, KX1 _ _ hcc, rfl⟩ ?_
  rw [har]
  refine wpAny_loadName_local hkind hself hnsE rfl ?_
  refine PySem.ks_wpAny_isType_cls hD1 hD2 ⟨rfl, ?_⟩
  refine PySem.ks_wpAny_call_super hD1 hD2 hx rfl (fun c e => by cases e) hsub (fun h' e k => ?_)
  -- the method
  have I2 : Inv (supCx CX P w K mg base qual scope f cc (.ref cda) A outer s H E) [] [some (.ref a), some y] H { s with heap := h', toks := s.toks + 2 } := I.kept k
  have hcdC : ∃ cd, PySem.W.clsIn K C = some cd := by
    have z := O.sup
    unfold PySem.W.ks_superIn at z
    cases q : PySem.W.clsIn K C with
    | none => rw [q] at z; cases z
    | some cd => exact ⟨cd, rfl⟩
  obtain ⟨cdC, hcdC⟩ := hcdC
  have hal : PySem.W.alongIn K "__init__" ((cdC.mro.dropWhile (· != .ref T)).drop 1) = some (some (.builtin "ValueError.__init__")) := by
    have z := O.sup
    unfold PySem.W.ks_superIn at z
    rw [hcdC] at z
    exact z
  have hmro : PySem.W.Looks (model P w) h' (mroOf (.ref C)) cdC.mro := fun A Q E s k q => wpAny_bind ((PySem.W.looks_clsIn I2.kIn hcdC) A _ E s k (wpAny_pure q))
  have LTy : PySem.W.Looks (model P w) h' (typeOf (.ref a)) (.ref C) := fun A Q E s k2 q => wpAny_typeOf_ref (k2 _ _ (k _ _ hx)) q
  have hI : PySem.W.Looks (model P w) h' (isInstance (.ref a) (.type "ValueError")) true := LTy.andThen (PySem.W.looks_subIn I2.kIn O.sub)
  refine PySem.W.kxs_getMethod PySem.W.kxs_ValueError (by exact e) (PySem.W.looks_opaque I2.kIn S.opq) hmro rfl I2.kIn hal hI hxC (by decide) ?_
  have kp : ∀ b o, h'.get? b = some o → (h'.push (PySem.W.kxs_mw "ValueError.__init__" a)).get? b = some o := fun b o e => Heap.get?_push_of_some _ e
  have I3 : Inv (supCx CX P w K mg base qual scope f cc (.ref cda) A outer s H E) [] [some (.ref a), some y] H { s with heap := h'.push (PySem.W.kxs_mw "ValueError.__init__" a), toks := s.toks + 2 + 1 } := I2.kept kp
  have hu : (h'.push (PySem.W.kxs_mw "ValueError.__init__" a)).get? h'.objs.size = some (PySem.W.kxs_mw "ValueError.__init__" a) := Heap.get?_push_size _ rfl
  refine PySem.W.kxs_callWith (i := "ValueError.__init__") (x := a) rfl (evalArgs_plain ?_)
  obtain ⟨m3, hm3⟩ : ∃ m, (h'.push (PySem.W.kxs_mw "ValueError.__init__" a)).Ns env.locals m ∧ m "code" = some u1 := by
    obtain ⟨o, es, ep, ho, r⟩ := hnsE
    exact ⟨_, ⟨o, es, ep, kp _ _ (k _ _ ho), r⟩, rfl⟩
  show wpAny _ _ (spliced ((false, eval (.Name "code" p3) env) :: backTo p4 (starEach [] env))) _ _ _
  refine PySem.Calls.spliced_cons (ESX.ldL (env := env) hm3.1 hm3.2 (PySem.Calls.spliced_nil ⟨hu, ?_⟩) hkind hcode)
  refine mw_init (X := supCx CX P w K mg base qual scope f cc (.ref cda) A outer s H E) (us := [u1]) O.oex I3 ea hu (by show 1 ≤ sizeLine; rw [sizeLine_eq]; omega) fun s4 I4 => ?_
  refine wpAt_of_wpAny ?_
  have hps : PSs (supCx CX P w K mg base qual scope f cc (.ref cda) A outer s H E) [.Assign [.Attribute (.Name "self" p6) "code" p7] (.Name "code" p8) p9] _ := pss_one (ps_ost (o := .Name "self" p6) (e := .Name "code" p8) (pe_var (i := 0) rfl (.inl hself)) (pe_var (i := 1) rfl (.inl hcode)))
  refine wpAny_mono (hps.run [] s4 [some (.ref a), some y] H { nx := fun _ H' => Q .non H', rt := Q } I4 ?_) (fun fl s' hs => ?_) fun e s' hs => hs
  · exact ⟨y, rfl, .ref a, rfl, a, C, rfl, O.oex, O.no, .inl ⟨ea, go⟩⟩
  · have fin : ∀ {σ' : L2.St} {H' : Hp} {v : V} {u : Value}, Inv (supCx CX P w K mg base qual scope f cc (.ref cda) A outer s H E) [] σ' H' s' → RelV v u → Q v H' → CE outer P w H s Q u s' :=
      fun {σ' H' v u} J rv q => ⟨v, H', J.os, J.bare, J.base, J.hok, rv, q⟩
    cases fl with
    | ret u =>
      obtain ⟨v, σ', H', J, rv, q⟩ := hs
      exact fin J rv q
    | next =>
      obtain ⟨σ', H', J, q⟩ := hs
      exact fin (v := V.non) (u := Value.none) J rfl q
    | brk =>
      obtain ⟨_, _, _, q⟩ := hs
      exact False.elim q
    | cont =>
      obtain ⟨_, _, _, q⟩ := hs
      exact False.elim q
end
end PX
namespace PX
open PySem PySem.Spec PyProof.Rows L2 PySem.Calls
structure ClsFn (K : PySem.W.Frag) (T : Addr) (m : Str) (f : Addr) : Prop where
  rd : PySem.W.readsIn K T (.type "type") = true
  ga : PySem.W.specialIn K (.ref T) "__getattribute__" = some (some (.builtin "type.__getattribute__"))
  at_ : PySem.W.findCls K (.ref T) (.type "type") m = some (.val (.ref f))
  ty : PySem.W.typeIn K (.ref f) = some (.type "function")
  kp : PySem.W.keepIn K (.ref f) = true
theorem clsfn_get {K : PySem.W.Frag} {T f : Addr} {m : Str} {prog : Program} {w : World} {A : Around} {E : Value → Shared → Prop} {s : Shared} {pl : Sem Bool} {Q : Value × List Value → Shared → Prop} (c : ClsFn K T m f) (X : K.In s.heap) (h : Q (.ref f, []) { s with toks := s.toks + 1 }) :
    wpAny (model prog w) A (getMethod (.ref T) m pl) Q E s := by
  exact PySem.W.method_cls X c.ga (PySem.W.cls_value X c.rd c.at_ rfl h)
section
variable {X : Cx} {CX : CXT} {k : Nat} {f T : Addr} {fd : FuncData} {ps : List Str} {sp : Sp} {E : XK} {x m : Str} {p pos apos : Pos} {e : Expr} {es : List Expr} {t : TA}
theorem pe_clsfn {pl : Sem Bool} (hg : Gl X x) (hm : X.mg x = some (.ref T)) (c : ClsFn X.K T m f) (F : FnOk X.prog X.w X.K X.mg X.base CX k f fd ps sp) (hr : Room k X.A) (hb : Binds X.K fd ps []) (hx : Passes CX X E) (ha : PA X (e :: es) t)
    (ht : eval (.Call (.Attribute (.Name x p) m apos) (e :: es) [] pos) X.env = (do
      let ov ← eval (.Name x p) X.env
      standAt apos.atName
      let (f, first) ← holding [ov] (getMethod ov m pl)
      callWith pos f first (backTo pos (starEach (e :: es) X.env)) (backToKw pos (keywordEach [] X.env))) := by rfl)
    (hdb : (x == ("__debug__" : Str)) = false := by decide) (hst : starEach (e :: es) X.env = (false, eval e X.env) :: starEach es X.env := by rfl) (hpl : (backTo pos (starEach es X.env)).any (·.1) = false := by rfl) :
    PE X (.Call (.Attribute (.Name x p) m apos) (e :: es) [] pos) (tCall sp [] E t) := by
  refine ⟨fun pins s σ H Q I h => ?_⟩
  refine PySem.W.methodCall_KW (pl := pl) (ld_glob I hg hm ?_ hdb) ht
  refine clsfn_get c I.kIn ?_
  have I1 := I.tok (s.toks + 1)
  refine PySem.W.callWith_K (first := []) (h₀ := X.base) I.ok.mod.kin c.kp (thn (ha.run pos pins _ σ H _ I1 h) fun us s1 ⟨vs, H1, I2, r, q⟩ => ⟨I2.kIn, ?_⟩) hst hpl
  exact run_fn F hr hb .nil hx I2 r q
end
theorem heap_two {H : Hp} {a dx : Addr} {o u u' : HO} (ne : dx ≠ a) : upd (upd (upd H dx u) a o) dx u' = upd (upd H dx u') a o := by
  funext b
  by_cases h1 : b = dx
  · subst h1
    rw [upd_same, upd_ne ne, upd_same]
  · rw [upd_ne h1]
    by_cases h2 : b = a
    · subst h2
      rw [upd_same, upd_same]
    · rw [upd_ne h2, upd_ne h2, upd_ne h1, upd_ne h1]
def spX0 (K : PySem.W.Frag) (T : Addr) (code : Str) : Sp := fun vs H Q _ => ∃ (a C : Addr), vs = [.ref a] ∧ OverT K T C ∧ H a = some (exo a C none) ∧ ∀ dx, H dx = none → dx ≠ a → Q .non (upd (upd H dx (exd dx [("code", .str code)])) a (exo a C (some dx)))
def spX1 (K : PySem.W.Frag) (T : Addr) (f code : Str) : Sp := fun vs H Q _ => ∃ (a C : Addr) (y : V), vs = [.ref a, y] ∧ OverT K T C ∧ PySem.W.findIn K (.ref C) f = some none ∧ H a = some (exo a C none) ∧ ∀ dx, H dx = none → dx ≠ a → Q .non (upd (upd H dx (exd dx [(f, y), ("code", .str code)])) a (exo a C (some dx)))
section
variable {P : Program} {w : World} {K : PySem.W.Frag} {mg : Str → Option Value} {base : Heap} {CX : CXT} {k : Nat} {T fT : Addr} {fdT : FuncData} {X : Cx}
/-- what one has of T's own __init__ -/
structure TopI (P : Program) (w : World) (K : PySem.W.Frag) (mgl : Str → Option Value) (base : Heap) (CX : CXT) (x : Str) (T : Addr) : Prop where
  ex : ∃ (fT : Addr) (fdT : FuncData), mgl x = some (.ref T) ∧ ClsFn K T "__init__" fT ∧ FnOk P w K mgl base CX 1 fT fdT ["self", "code"] (spT K T) ∧ Binds K fdT ["self", "code"] []
theorem cx_never {P : Program} {w : World} {outer : List Env} {H : Hp} {s s' : Shared} {e : Value} (h : L2.CX P w outer H s (fun _ _ _ => False) e s') : False := by
  obtain ⟨_, _, _, _, _, _, _, _, _, _, _, _, z⟩ := h
  exact z
/-- x.__init__(self, code) of the text -/
def callT (x code : Str) (j : Nat) (e : Expr) : Prop := ∃ p1 p2 p3 p4 p5, (∀ env : Env, ∃ pl : Sem Bool, eval (.Call (.Attribute (.Name x p1) "__init__" p2) [.Name "self" p3, .Constant (.str code) j p4] [] p5) env = (do
      let ov ← eval (.Name x p1) env
      standAt p2.atName
      let (f, first) ← holding [ov] (getMethod ov "__init__" pl)
      callWith p5 f first (backTo p5 (starEach [.Name "self" p3, .Constant (.str code) j p4] env)) (backToKw p5 (keywordEach [] env)))) ∧ e = .Call (.Attribute (.Name x p1) "__init__" p2) [.Name "self" p3, .Constant (.str code) j p4] [] p5
theorem pe_callT {x code : Str} {j : Nat} {e : Expr} {T : Addr} (h : callT x code j e) (G : TopI X.prog X.w X.K X.mg X.base (L2.CX X.prog X.w) x T) (hr : Room k X.A) (hk : 1 ≤ k) (hg : Gl X x) (hN : X.N[0]? = some ("self" : Str)) (hs : X.env.scope.names.lookup ("self" : Str) = some .local) (hdb : (x == ("__debug__" : Str)) = false) :
    PE X e (tCall (spT X.K T) [] (fun _ _ _ => False) (tCons (tVar 0) (tCons (tC (.str code)) tNil))) := by
  obtain ⟨p1, p2, p3, p4, p5, ht, rfl⟩ := h
  obtain ⟨fT, fdT, hm, c, F, hb⟩ := G.ex
  exact pe_clsfn hg hm c F (hr.mono hk) hb (fun pins σ H s e s' I c => (cx_never c).elim) (pa_cons (pe_var (i := 0) hN (.inl hs)) (pa_cons pe_str pa_nil)) (ht X.env).choose_spec hdb
def xBody0 (x code : Str) (b : List Stmt) : Prop := ∃ j e p, callT x code j e ∧ b = [.Expr e p]
def xBody1 (x code f prm : Str) (b : List Stmt) : Prop := ∃ j e p p7 p8 p9 p10, callT x code j e ∧ b = [.Expr e p, .Assign [.Attribute (.Name "self" p7) f p8] (.Name prm p9) p10]
theorem exc_init0 {x code : Str} {qual : Str} {params : Arguments} {body : List Stmt} {scope : Scope} {f T : Addr} {fd : FuncData} (F : FunD K "__init__" qual params body scope [] [] f fd) (S : FnScope ["self"] ["self"] scope) (hb : xBody0 x code body) (hg : scope.names.lookup x = some .globalImplicit) (hdb : (x == ("__debug__" : Str)) = false)
    (hs : scope.names.lookup ("self" : Str) = some .local) (G : TopI P w K mg base (L2.CX P w) x T) : FnOk P w K mg base (L2.CX P w) 2 f fd ["self"] (spX0 K T code) := by
  refine F.ok S (fun vs H Q E h => ?_) (fun cdv A outer s H vs Q E hr h => ?_)
  · obtain ⟨a, C, rfl, _⟩ := h
    rfl
  · obtain ⟨a, C, rfl, O, ea, go⟩ := h
    obtain ⟨j, e, p, hc, rfl⟩ := hb
    have hcall := pe_callT (X := cxOf (L2.CX P w) P w K mg base ["self"] qual scope f cdv A outer s H E) hc G hr (by decide) hg rfl hs hdb
    obtain ⟨p1, p2, p3, p4, p5, ht, rfl⟩ := hc
    refine ⟨_, pss_one (ps_expr hcall), ?_⟩
    exact ⟨.ref a, rfl, a, C, .str code, rfl, O, ea, go⟩
theorem exc_init1 {x code fl prm : Str} {qual : Str} {params : Arguments} {body : List Stmt} {scope : Scope} {f T : Addr} {fd : FuncData} (F : FunD K "__init__" qual params body scope [] [] f fd) (S : FnScope ["self", prm] ["self", prm] scope) (hb : xBody1 x code fl prm body) (hg : scope.names.lookup x = some .globalImplicit) (hdb : (x == ("__debug__" : Str)) = false)
    (hs : scope.names.lookup ("self" : Str) = some .local) (hp : scope.names.lookup prm = some .local) (hpd : (prm == ("__debug__" : Str)) = false) (hpc : (prm == ("__classdict__" : Str)) = false) (G : TopI P w K mg base (L2.CX P w) x T) : FnOk P w K mg base (L2.CX P w) 2 f fd ["self", prm] (spX1 K T fl code) := by
  refine F.ok S (fun vs H Q E h => ?_) (fun cdv A outer s H vs Q E hr h => ?_)
  · obtain ⟨a, C, y, rfl, _⟩ := h
    rfl
  · obtain ⟨a, C, y, rfl, O, hfl, ea, go⟩ := h
    obtain ⟨j, e, p, p7, p8, p9, p10, hc, rfl⟩ := hb
    have hcall := pe_callT (X := cxOf (L2.CX P w) P w K mg base ["self", prm] qual scope f cdv A outer s H E) hc G hr (by decide) hg rfl hs hdb
    obtain ⟨p1, p2, p3, p4, p5, ht, rfl⟩ := hc
    refine ⟨_, pss_cons (ps_expr hcall) (pss_one (ps_ost (pe_var (i := 0) rfl (.inl hs)) (pe_var (i := 1) rfl (.inl hp) hpd hpc))), ?_⟩
    refine ⟨.ref a, rfl, a, C, .str code, rfl, O, ea, fun dx n ne => ?_⟩
    refine ⟨y, rfl, .ref a, rfl, a, C, rfl, O.oex, hfl, .inr ⟨dx, [("code", .str code)], upd_same, (upd_ne ne).trans upd_same, by simp, ?_⟩⟩
    rw [heap_two ne]
    exact go dx n ne
end
end PX
namespace PX
open PySem PySem.Spec PyProof.Rows L2 PySem.Calls
section
variable {X : Cx}
theorem pmk_oex0 {CX : CXT} {x : Str} {p pos : Pos} {C fI : Addr} {k : Nat} {fd : FuncData} {ps : List Str} {sp : Sp} (T : OexC X.K C) (iC : PySem.W.findIn X.K (.ref C) "__init__" = some (some (.ref fI))) (tI : PySem.W.typeIn X.K (.ref fI) = some (.type "function"))
    (F1 : FnOk X.prog X.w X.K X.mg X.base CX k fI fd ps sp) (hr : Room (k + 1) X.A) (hb : Binds X.K fd ps []) (hx : Passes CX X (fun _ _ _ => False)) (hg : Gl X x) (hm : X.mg x = some (.ref C)) (hdb : (x == ("__debug__" : Str)) = false := by decide) :
    PMk X (.Call (.Name x p) [] [] pos) (tMkO C sp [] tNil) := by
  intro pins s σ H Q I h
  obtain ⟨nm, q, N, bs, bm, sn, sub, ab, col, dd, k0, k1, k2, k3, k5, hC, hbm⟩ := T.cls
  refine wpAny_Call_Name_kw (ld_glob I hg hm ?_ hdb)
  refine PySem.W.callWith_K0 I.kIn T.kC ?_
  obtain ⟨hz, q1⟩ := h
  obtain ⟨hp, g, dr, tk, os⟩ := s
  have hsz : hp.objs.size ≤ hp.objs.size + 1 := Nat.le_succ _
  have hn : H (hp.objs.size + 1) = none := I.hok.fresh hsz
  have hq := q1 (hp.objs.size + 1) hn
  have kk : ∀ b o, hp.get? b = some o → ((hp.push (PySem.W.kdv_tup [])).push (PySem.HandSPX.excO C hp.objs.size)).get? b = some o := fun b o e => Heap.get?_push_of_some _ (Heap.get?_push_of_some _ e)
  have hget : ((hp.push (PySem.W.kdv_tup [])).push (PySem.HandSPX.excO C hp.objs.size)).get? (hp.objs.size + 1) = some (PySem.HandSPX.excO C hp.objs.size) := by heap_get
  have I2 : Inv X pins σ (upd H (hp.objs.size + 1) (exo (hp.objs.size + 1) C none)) ⟨(hp.push (PySem.W.kdv_tup [])).push (PySem.HandSPX.excO C hp.objs.size), g, dr, tk, os⟩ :=
    I.laid (t' := tk) (a := hp.objs.size + 1) (o := exo (hp.objs.size + 1) C none) (h' := (hp.push (PySem.W.kdv_tup [])).push (PySem.HandSPX.excO C hp.objs.size)) kk hsz (exo_ok hget)
  have r2 : Vals [V.ref (hp.objs.size + 1)] [Value.ref (hp.objs.size + 1)] := .cons rfl .nil
  have hl : ([Value.ref (hp.objs.size + 1)] ++ []).length = ps.length := by
    exact F1.len _ _ _ _ hq
  refine wpAny_call (PySem.HandSPX.call_own F.excBase_ValueError (fun Y => PySem.HandSPX.refsVE_contains Y bm hbm) (I.kIn _ _ hC) (PySem.W.looks_findIn I.kIn iC) (fun self => PySem.W.bind_fn I.kIn self tI) (by show 0 ≤ sizeLine; omega)
    (codeAny_mono (F1.run _ X.stack _ _ ⟨[Value.ref (hp.objs.size + 1)], []⟩ ([Value.ref (hp.objs.size + 1)] ++ []) _ _ (fun _ _ _ => False) (hr.make C [] []) (I2.env0.make C [] []) (hb _ [Value.ref (hp.objs.size + 1)] I2.kIn hl) r2 hq) fun r s' hq' => ?_))
  cases r with
  | error er => exact hx pins σ _ _ er s' I2 hq'
  | ok fl =>
    cases fl with
    | ret u =>
      obtain ⟨v, H2, os2, bare2, un2, hok2, rv, ev, d, fs, ea, ed, hd1, q2⟩ := hq'
      subst ev
      obtain ⟨h2, g2, d2, t2, os'⟩ := s'
      exact ⟨rv, mk_end (raises_own T.exC T.tyC) I hsz kk un2 hok2 os2 bare2 ea ed hd1 q2⟩
    | next => exact False.elim hq'
    | brk => exact False.elim hq'
    | cont => exact False.elim hq'
end
end PX
namespace PD
open PySem PySem.Spec PyProof.Rows L2 PX
variable [LamTab]
/-- C's __init__ stores these fields: n = 0: the code alone -/
structure ExcC (P : Program) (w : World) (K : PySem.W.Frag) (mg : Str → Option Value) (base : Heap) (C : Str) (fl : Option Str) (code : Str) : Prop where
  ex : ∃ (Ca fI T : Addr) (fd : FuncData) (prm : Str), mg C = some (.ref Ca) ∧ OverT K T Ca ∧ PySem.W.findIn K (.ref Ca) "__init__" = some (some (.ref fI)) ∧ PySem.W.typeIn K (.ref fI) = some (.type "function") ∧
    (match fl with
    | none => FnOk P w K mg base (L2.CX P w) 2 fI fd ["self"] (spX0 K T code) ∧ Binds K fd ["self"] []
    | some f => PySem.W.findIn K (.ref Ca) f = some none ∧ FnOk P w K mg base (L2.CX P w) 2 fI fd ["self", prm] (spX1 K T f code) ∧ Binds K fd ["self", prm] [])
def excFs (fl : Option Str) (code : List Nat) (ds : List D) : Option (List (Str × D)) := match fl, ds with
  | none, [] => some [("code", .str code)]
  | some f, [d] => some [(f, d), ("code", .str code)]
  | _, _ => none
def msRaise (C : Str) (fl : Option Str) (code : List Nat) (a : M (List D)) : MS := fun ε h => bS (a ε h) ε fun ds h1 => match excFs fl code ds with
  | some fs => some (.ex ⟨C, fs⟩ ε, h1)
  | none => none
theorem del_upd {H : Hp} {a d : Addr} {o0 o u o' : HO} (ha : H a = none) (ne : d ≠ a) : upd (del (upd (upd (upd H a o0) d u) a o) a) d o' = upd H d o' := by
  funext b
  by_cases h1 : b = d
  · subst h1
    rw [upd_same, upd_same]
  · rw [upd_ne h1, upd_ne h1]
    by_cases h2 : b = a
    · subst h2
      rw [del_same, ha]
    · rw [del_ne h2, upd_ne h2, upd_ne h1, upd_ne h2]
section
variable {X : Cx} {W : WX}
theorem raise_end {C : Str} {Ca : Addr} {fs : List (Str × D)} {vs : List (Str × V)} {c : RC} {h : EH} {ε : Ev} {σ : L2.St} {D : Ends} {a dx : Addr} {o0 o u : HO} (sr : SR c h) (er : EnvR c ε σ) (hm : c.mg C = some (.ref Ca)) (rf : RepF c fs vs) (fin : Fin W D c (.ex ⟨C, fs⟩ ε) h) (ha : c.H a = none) (hd : c.H dx = none) (ne : dx ≠ a) :
    W (.ref Ca) (some dx) σ (upd (del (upd (upd (upd c.H a o0) dx u) a o) a) dx (.xd vs)) := by
  rw [del_upd ha ne]
  obtain ⟨l, s, f⟩ := sr.new (o := .xd vs) hd
  exact fin (c.put dx (.xd vs)) σ (.ref Ca) (some dx) l s (er.le l) ⟨Ca, dx, vs, rfl, hm, rfl, upd_same, f, rf.le l⟩
theorem raise_heap {H : Hp} {a dx : Addr} {o : HO} {C : Addr} {fs : List (Str × V)} (n : upd H a (exo a C none) dx = none) (ne : dx ≠ a) : (upd (upd (upd H a (exo a C none)) dx (exd dx fs)) a o) a = some o ∧ (upd (upd (upd H a (exo a C none)) dx (exd dx fs)) a o) dx = some (exd dx fs) ∧ H dx = none :=
  ⟨upd_same, (upd_ne ne).trans upd_same, by rw [upd_ne ne] at n; exact n⟩
theorem rs_raise0 {C code : Str} {cs : List Nat} {p pos pos' : Pos} {j : Nat} (G : ExcC X.prog X.w X.K X.mg X.base C none code) (hcs : code.cps.toList = cs) (hr : Room j X.A) (hk : 3 ≤ j) (hc : X.calm = true) (tk : Takes X W) (hg : Gl X C) (hdb : (C == ("__debug__" : Str)) = false) :
    RSt X W (.Raise (some (.Call (.Name C p) [] [] pos)) none pos') (msRaise C none cs mNil) := by
  obtain ⟨Ca, fI, T, fd, prm, hm, O, iC, tI, hF⟩ := G.ex
  subst hcs
  obtain ⟨F1, hb⟩ := hF
  refine ps_imp (ps_raise hc tk (pmk_oex0 O.oex iC tI F1 (hr.mono hk) hb (fun pins σ H s e s' I c => (cx_never c).elim) hg hm hdb)) fun D σ H h => ?_
  obtain ⟨c, ε, h, r, h', hK, hmg, rfl, sr, er, e, fin⟩ := h
  cases e
  refine ⟨by simp, fun a ha => ?_⟩
  refine ⟨a, Ca, rfl, by rw [← hK] at O; rw [← hK]; exact O, upd_same, fun dx n ne => ?_⟩
  obtain ⟨k1, k2, k3⟩ := raise_heap (o := exo a Ca (some dx)) (fs := [("code", .str code)]) n ne
  exact ⟨rfl, dx, _, k1, k2, k3, raise_end sr er (by rw [hmg.mge]; exact hm) (.cons (by simpa using Rep.str code.cps.toList) .nil) fin ha k3 ne⟩
theorem rs_raise1 {C code f : Str} {cs : List Nat} {e : Expr} {ma : M (List D)} {p pos pos' : Pos} {j : Nat} (G : ExcC X.prog X.w X.K X.mg X.base C (some f) code) (hcs : code.cps.toList = cs) (hr : Room j X.A) (hk : 3 ≤ j) (hc : X.calm = true) (tk : Takes X W) (ha : RA X W [e] ma) (hg : Gl X C) (hdb : (C == ("__debug__" : Str)) = false)
    (he : starEach [e] X.env = (false, eval e X.env) :: starEach [] X.env := by rfl) (hpl : (backTo pos (starEach [] X.env)).any (·.1) = false := by rfl) :
    RSt X W (.Raise (some (.Call (.Name C p) [e] [] pos)) none pos') (msRaise C (some f) cs ma) := by
  obtain ⟨Ca, fI, T, fd, prm, hm, O, iC, tI, hF⟩ := G.ex
  subst hcs
  obtain ⟨hno, F1, hb⟩ := hF
  refine ps_imp (ps_raise hc tk (pmk_oex (ds := []) (dvs := []) O.oex iC tI F1 (hr.mono hk) hb .nil (fun pins σ H s e s' I c => (cx_never c).elim) hg hm ha hdb he hpl)) fun D σ H h => ?_
  obtain ⟨c, ε, h, r, h', hK, hmg, rfl, sr, er, e, fin⟩ := h
  unfold tMkO
  refine tX.stm hK hmg sr er e fin fun ds h1 c1 vs e1 l1 s1 r1 => ?_
  match ds, vs, r1, e1 with
  | [d], [v], .cons rd .nil, e1 =>
    cases e1
    refine ⟨by simp, fun a ha => ?_⟩
    refine ⟨a, Ca, v, rfl, O, hno, upd_same, fun dx n ne => ?_⟩
    obtain ⟨k1, k2, k3⟩ := raise_heap (o := exo a Ca (some dx)) (fs := [(f, v), ("code", .str code)]) n ne
    exact ⟨rfl, dx, _, k1, k2, k3, raise_end s1 (er.le l1) (by rw [l1.mg.e', hmg.mge]; exact hm) (.cons rd (.cons (by simpa using Rep.str code.cps.toList) .nil)) (fin.le l1) ha k3 ne⟩
  | [], _, _, e1 => cases e1
  | _ :: _ :: _, _, _, e1 => cases e1
end
end PD
namespace PX
open PySem PySem.Spec PyProof.Rows L2 PySem.Calls
theorem flying_keep {base h h' : Heap} {l : List Env} {e : Addr} {Z : Obj → Prop} (k : ∀ b o, h.get? b = some o → h'.get? b = some o) (f : PySem.HandSPX.FlyingZ base l e Z h) : PySem.HandSPX.FlyingZ base l e Z h' := by
  obtain ⟨f1, f2, f3, oe, vs, T, oT, ts, g1, g2, g3, g4, g5, g6, g7, g8, g9⟩ := f
  exact ⟨fun b o q => k b o (f1 b o q), f2, f3.of_keeps fun b o q _ => ⟨o, k b o q, rfl⟩, oe, vs, T, oT, ts, k _ _ g1, g2, g3, g4, g5, g6, k _ _ g7, g8, g9⟩
theorem upTo_keep {h h' : Heap} (k : ∀ b o, h.get? b = some o → h'.get? b = some o) : h.UpToSlots h' := fun b o q _ => ⟨o.slots, k b o q⟩
/-- what the clause wishes -/
def wAs3 (K : PySem.W.Frag) (cs : List Value) (i : Nat) (ts : Addr → Value → Option Addr → TS) (D : Ends) : WX := fun cls d σ H =>
  PySem.W.exmAny K cls cs = some true ∧ ∀ a, H a = none → ts a cls d { nx := fun σ' H' => D.nx (σ'.set i none) H', rt := D.rt, bk := fun σ' H' => D.bk (σ'.set i none) H', ct := fun σ' H' => D.ct (σ'.set i none) H' } (σ.set i (some (.ref a))) H
section
variable {X : Cx} {x1 x2 x3 n : Str} {c1 c2 c3 : Value} {i kk : Nat} {body suite : List Stmt} {b₀ : Stmt} {q1 q2 q3 tp pos pos' : Pos} {tb : WX → TS} {ts : Addr → Value → Option Addr → TS}
theorem ps_try3 (hs : X.stack = X.env :: X.outer) (hf : X.env.frame = some X.env.locals) (hN : X.N.Nodup) (hi : X.N[i]? = some n) (hln : X.env.kindOf n = some .local) (h1 : Names X x1 c1) (h2 : Names X x2 c2) (h3 : Names X x3 c3)
    (hb : ∀ (W : WX) (pn : List (Addr × Obj)) (xe : Value → Shared → Prop), Takes (X.tr pn xe) W → PassesOwn (model X.prog X.w) X.A X.env xe → PSs (X.tr pn xe) body (tb W))
    (hsu : ∀ (a : Addr) (oe : Obj) (cls : Value) (d : Option Addr) (pn : List (Addr × Obj)), Zc cls d oe → (∃ vs, oe.data = .fields vs) → PSs (X.suite a ((a, oe) :: pn)) (b₀ :: suite) (ts a cls d)) :
    PS X (.Try body [.ExceptHandler (some (.Tuple [.Name x1 q1, .Name x2 q2, .Name x3 q3] kk tp)) (some n) (b₀ :: suite) pos'] [] [] pos) (fun D σ H => tb (wAs3 X.K [c1, c2, c3] i ts D) D σ H) := by
  refine ⟨fun pins s σ H D I h => ?_⟩
  have ok := I.ok
  have hfr : X.A.frames = some (X.env :: X.outer) := by rw [ok.frames, hs]
  have hloc : Loc X.env.scope n := .inl hln
  refine wpAny_Try_except ?_
  refine wpAny_mono ((hb (wAs3 X.K [c1, c2, c3] i ts D) (X.pn ++ pins) (fun e s₁ => wpAny (model X.prog X.w) X.A (noteFrame e X.env) (fun _ s₂ => wpAny (model X.prog X.w) X.A (setFlight e none) (fun _ s₃ =>
    wpAny (model X.prog X.w) X.A (handleBy e X.env [.ExceptHandler (some (.Tuple [.Name x1 q1, .Name x2 q2, .Name x3 q3] kk tp)) (some n) (b₀ :: suite) pos']) (SP X pins D) X.xe s₃) X.xe s₂) X.xe s₁) (fun u s' xx => ?_) PassesOwn.looking).run [] s σ H D (I.toTry _) h) (fun f s1 hsp => ?_) (fun e s1 he => he)
  · obtain ⟨a, B, sI, pins', σ', H', cls, d, rfl, J', nb, up, sky, na, os, ag, hb1, hyes⟩ := xx
    have J : Inv X pins σ' H' sI := J'.ofTry ok
    have sky' : Sky B (X.env :: X.outer) a (Zc cls d) X.env.locals s'.heap := by rw [← hs]; exact sky
    show wpAny (model X.prog X.w) X.A (noteFrame (.ref a) X.env) _ _ _
    refine Sky.land Zc.steady hfr hf sky' fun h3' fl3 up3 => ?_
    have J3 : Inv X pins σ' H' { s' with heap := h3' } := J.landed nb fl3.1 (up.trans up3) os ag
    obtain ⟨oe3, vs3, he3, hz3, hd3⟩ := fl3.there
    have nfr : a ∉ frs (X.env :: X.outer) := fun hm => by
      obtain ⟨_, o', e', hnf⟩ := fl3.2.2.1.mem hm
      rw [he3] at e'; cases e'
      exact hnf _ hd3
    have nL : a ≠ X.env.locals := fun z => nfr (List.mem_filterMap.mpr ⟨X.env, List.mem_cons_self, by rw [hf, z]⟩)
    have nF : a ∉ X.fs := fun hm => by
      obtain ⟨e, he, q⟩ := List.mem_filterMap.mp hm
      exact nfr (List.mem_filterMap.mpr ⟨e, List.mem_cons_of_mem _ he, q⟩)
    have S3 := J3.suite he3 hd3 na nL nF
    refine wpAny_handleBy_cons (codeAny_handlers_test ?_) (by intro q; cases q)
    have test : ∀ {x : Str} {c : Value} {np : Pos}, Names X x c → ∀ {Q : Value → Shared → Prop} {E : Value → Shared → Prop}, Q c { s' with heap := h3' } → wpAny (model X.prog X.w) (X.A.mark (some (.ref a))) (eval (.Name x np) X.env) Q E { s' with heap := h3' } := fun {x c np} hc {Q E} q => by
      obtain ⟨hg, hdbg, hm | ⟨hm, hv, hnn⟩⟩ := hc
      · exact ld_glob (X := X.suite a ((a, oe3) :: (X.pn ++ pins))) S3 hg hm q hdbg
      · exact ld_blt (X := X.suite a ((a, oe3) :: (X.pn ++ pins))) S3 hg hm hv q hnn hdbg
    refine wpAny_Tuple ?_
    refine wpAny_items_cons (test h1 ?_)
    refine wpAny_items_cons (test h2 ?_)
    refine wpAny_items_cons (test h3 ?_)
    refine wpAny_items_nil ⟨by size_fits, ?_⟩
    have kp : ∀ b o, h3'.get? b = some o → (h3'.push { cls := .type "tuple", data := .seq [c1, c2, c3].toArray }).get? b = some o := fun b o z => Heap.get?_push_of_some _ z
    have LT : PySem.W.Looks (model X.prog X.w) (h3'.push { cls := .type "tuple", data := .seq [c1, c2, c3].toArray }) (typeOf (.ref a)) cls := fun A Q E s k q => wpAny_typeOf_ref (k _ _ (kp _ _ he3)) (by rw [hz3.1]; exact q)
    refine (PySem.W.exm_tup3 (M := model X.prog X.w) (J3.kIn.keeps kp) LT (Heap.get?_push_size h3' rfl) hb1).here ?_
    have fl3' := flying_keep kp fl3
    refine codeAny_handlers_suite_as ?_
    refine PySem.HandSPX.lands_againZ fl3' fun h4 fl4 up4 => ?_
    have J4 : Inv X pins σ' H' { s' with heap := h4 } := J.landed nb fl4.1 ((up.trans up3).trans ((upTo_keep kp).trans up4)) os ag
    obtain ⟨oe4, vs4, he4, hz4, hd4⟩ := fl4.there
    have S4 := J4.suite he4 hd4 na nL nF
    refine store_ok (X := X.suite a ((a, oe4) :: (X.pn ++ pins))) (v := .ref a) S4 hN hi hloc rfl (fun s5 S5 => ?_) (.inr hln)
    refine wpAny_mono ((hsu a oe4 cls d (X.pn ++ pins) hz4 ⟨_, hd4⟩).run [] s5 _ H' _ S5 (hyes a na)) (fun f s6 hsp => ?_) (fun _ _ z => False.elim z)
    have end_ : ∀ {σ6 : L2.St} {H6 : Hp} {Q : Shared → Prop}, Inv (X.suite a ((a, oe4) :: (X.pn ++ pins))) [] σ6 H6 s6 → (∀ s7, Inv X pins (σ6.set i none) H6 s7 → Q s7) →
        wpAny (model X.prog X.w) X.A (do bindName X.env n .none; unbindBehindTheSuite X.env n pos') (fun _ s7 => Q s7) X.xe s6 := fun {σ6 H6 Q} S6 hq => gone_ok (S6.unsuite ok) hN hi hln hq
    cases f with
    | next =>
      obtain ⟨σ6, H6, S6, q6⟩ := hsp
      exact end_ S6 fun s7 J7 => ⟨_, _, J7, q6⟩
    | brk =>
      obtain ⟨σ6, H6, S6, q6⟩ := hsp
      exact end_ S6 fun s7 J7 => ⟨_, _, J7, q6⟩
    | cont =>
      obtain ⟨σ6, H6, S6, q6⟩ := hsp
      exact end_ S6 fun s7 J7 => ⟨_, _, J7, q6⟩
    | ret u =>
      obtain ⟨v6, σ6, H6, S6, r6, q6⟩ := hsp
      exact end_ S6 fun s7 J7 => ⟨_, _, _, J7, r6, q6⟩
  · cases f with
    | next =>
      obtain ⟨σ', H', J', q⟩ := hsp
      exact wpAny_execs_nil ⟨σ', H', J'.ofTry ok, q⟩
    | brk =>
      obtain ⟨σ', H', J', q⟩ := hsp
      exact ⟨σ', H', J'.ofTry ok, q⟩
    | cont =>
      obtain ⟨σ', H', J', q⟩ := hsp
      exact ⟨σ', H', J'.ofTry ok, q⟩
    | ret u =>
      obtain ⟨v, σ', H', J', r, q⟩ := hsp
      exact ⟨v, σ', H', J'.ofTry ok, r, q⟩
end
section
variable {X : Cx}
theorem pe_pfld {C d : Addr} {p : Addr × Obj} {e : Expr} {te : TE} {pos : Pos} {n : Str} (hp : p ∈ X.pn) (T : XfC X.K C) (hno : PySem.W.findIn X.K (.ref C) n = some none) (hz : Zc (.ref C) (some d) p.2) (hf : ∃ vs, p.2.data = .fields vs) (he : PE X e te)
    (hb : attributeBase e n X.env (eval e X.env) = eval e X.env := by rfl) :
    PE X (.Attribute e n pos) (fun σ H Q => te σ H fun x H1 => x = .ref p.1 ∧ ∃ (fs : List (Str × V)) (v : V), H1 d = some (.xd fs) ∧ fs.lookup n = some v ∧ Q v H1) := by
  refine ⟨fun pins s σ H Q I h => ?_⟩
  refine attr_of hb (thn (he.run pins s σ H _ I h) fun u s1 hh => ?_)
  obtain ⟨x, H1, I1, rx, ex, fs, v, ea, l, q⟩ := hh
  subst ex
  obtain rfl : u = Value.ref p.1 := rx
  obtain ⟨ha, _⟩ := I1.pin p (List.mem_append_left _ hp)
  obtain ⟨vs, hd⟩ := hf
  have hx : ObjOk X.prog X.w H1 s1.heap d (.xd fs) := I1.hok d _ ea
  obtain ⟨mA, hns, hr⟩ := hx
  obtain ⟨od, ho, hl⟩ := lookIn_ns hns
  obtain ⟨u, hu, ru⟩ := RelO.some_of (v := v) (o := mA n) (by rw [← l]; exact hr n)
  have J : PySem.W.InstAt s1.heap p.1 p.2 C (some od) := ⟨ha, hz.1, by unfold PySem.W.notCls; rw [hd] <;> rfl, by rw [hz.2]; exact ho⟩
  exact PySem.HandSPX.exc_get I1.kIn J T.ga T.gg T.exC (PySem.W.findObj_own T.hdC hno rfl (by rw [hl, hu])) (handed_of ru) ⟨v, H1, I1.tok _, ru, q⟩
end
/-- what such a def gives: by the code, the tuple of a field, or () -/
def chainQ : List (Str × Str) → Str → List (Str × V) → Hp → VK → Prop
  | [], _, _, H, Q => ∀ t, H t = none → Q (.ref t) (upd H t (.tup []))
  | (x, f) :: r, cs, vs, H, Q => if cs = x then ∃ v, vs.lookup f = some v ∧ ∀ t, H t = none → Q (.ref t) (upd H t (.tup [v])) else chainQ r cs vs H Q
/-- the def's body -/
inductive FldBody : List (Str × Str) → List Stmt → Prop
  | nil {k : Nat} {p p2 : Pos} : FldBody [] [.Return (some (.Tuple [] k p)) p2]
  | cons {x f : Str} {r : List (Str × Str)} {b : List Stmt} {j k : Nat} {p1 p2 p3 p4 p5 p6 p7 p8 p9 : Pos} : FldBody r b →
      FldBody ((x, f) :: r) (.If (.Compare (.Attribute (.Name "_law_e" p1) "code" p2) [.Eq] [.Constant (.str x) j p3] p4) [.Return (some (.Tuple [.Attribute (.Name "_law_e" p5) f p6] k p7)) p8] [] p9 :: b)
theorem pss_re {X : Cx} {st : List Stmt} {t t' : TS} (h : PSs X st t) (k : ∀ D σ H, t' D σ H → t D σ H) : PSs X st t' := ⟨fun pins s σ H D I q => h.run pins s σ H D I (k D σ H q)⟩
theorem fld_body {X : Cx} {C d : Addr} {p : Addr × Obj} (hp : p ∈ X.pn) (T : XfC X.K C) (hz : Zc (.ref C) (some d) p.2) (hf : ∃ vs, p.2.data = .fields vs) (hc : PySem.W.findIn X.K (.ref C) "code" = some none)
    (hN : X.N[0]? = some ("_law_e" : Str)) (hv : Vis X.env.scope "_law_e") : ∀ {chain : List (Str × Str)} {b : List Stmt}, FldBody chain b → (∀ q ∈ chain, PySem.W.findIn X.K (.ref C) q.2 = some none) →
    PSs X b (fun D σ H => σ[0]? = some (some (.ref p.1)) ∧ ∃ (fs : List (Str × V)) (cs : Str), H d = some (.xd fs) ∧ fs.lookup ("code" : Str) = some (.str cs) ∧ chainQ chain cs fs H D.rt)
  | _, _, .nil, _ => pss_re (pss_one (ps_ret (pe_tup pa_nil))) fun D σ H h => by
    obtain ⟨_, fs, cs, _, _, q⟩ := h
    exact ⟨by simp, q⟩
  | _, _, .cons (x := x) (f := f) (r := r) h, hq => by
    have ih := fld_body hp T hz hf hc hN hv h fun q hr => hq q (List.mem_cons_of_mem _ hr)
    refine pss_re (pss_cons (ps_if (pt_cmpR op_eq (pe_pfld hp T hc hz hf (pe_var (i := 0) hN hv) rfl) pe_str (by rfl)) (pss_one (ps_ret (pe_tup (pa_cons (pe_pfld hp T (hq (x, f) (List.mem_cons_self ..)) hz hf (pe_var (i := 0) hN hv) rfl) pa_nil)))) pss_nil) ih) fun D σ H hh => ?_
    obtain ⟨h0, fs, cs, h1, h2, q⟩ := hh
    refine ⟨.ref p.1, h0, rfl, fs, .str cs, h1, h2, rfl, decide (V.str cs = V.str x), rfl, ?_⟩
    unfold chainQ at q
    by_cases e : cs = x
    · subst e
      rw [if_pos rfl] at q
      obtain ⟨v, hl, q⟩ := q
      rw [if_pos (decide_eq_true rfl)]
      exact ⟨.ref p.1, h0, rfl, fs, v, h1, hl, by show 1 ≤ sizeLine; rw [sizeLine_eq]; omega, q⟩
    · rw [if_neg e] at q
      rw [if_neg (by simpa using fun z => e (V.str.inj z))]
      exact ⟨h0, fs, cs, h1, h2, q⟩
/-- the class of a caught exception, for such a def -/
structure FldC (K : PySem.W.Frag) (C : Addr) (chain : List (Str × Str)) : Prop where
  xf : XfC K C
  code : PySem.W.findIn K (.ref C) "code" = some none
  fl : ∀ q ∈ chain, PySem.W.findIn K (.ref C) q.2 = some none
/-- the def's promise, where the exception is handled -/
structure FldOk (P : Program) (w : World) (K : PySem.W.Frag) (mg : Str → Option Value) (base : Heap) (k : Nat) (f : Addr) (chain : List (Str × Str)) : Prop where
  run : ∀ (A : Around) (outer : List Env) (s : Shared) (H : Hp) (p : Addr × Obj) (C d : Addr) (fs : List (Str × V)) (cs : Str) (Q : VK), L2H.RoomH k A → L2H.PinOk outer H s p → Env0 P w K mg base A outer s H → Zc (.ref C) (some d) p.2 → (∃ vs, p.2.data = .fields vs) → FldC K C chain →
    H d = some (.xd fs) → fs.lookup ("code" : Str) = some (.str cs) → chainQ chain cs fs H Q → codeAny (model P w) A (.call (.ref f) ⟨[.ref p.1], []⟩) (CR (L2.CX P w) outer P w H s Q (fun _ _ _ => False)) s
theorem fld_ok {P : Program} {w : World} {K : PySem.W.Frag} {mg : Str → Option Value} {base : Heap} {x qual : Str} {params : Arguments} {body : List Stmt} {scope : Scope} {f : Addr} {fd : FuncData} {chain : List (Str × Str)} (F : FunD K x qual params body scope [] [] f fd) (S : FnScope ["_law_e"] ["_law_e"] scope)
    (hb : Binds K fd ["_law_e"] []) (hbody : FldBody chain body) (hv : Vis scope "_law_e") : FldOk P w K mg base 1 f chain := by
  obtain ⟨oc, od, dV, kV, doc, pm, an, cdv, ct, osl, rfl, lk, hcd, _, _⟩ := F.ex
  refine ⟨fun A outer s H p C d fs cs Q hr hpin e0 hz hf hC h1 h2 q => ?_⟩
  have KX : K.In s.heap := e0.mod.kin.keeps fun b o e => (e0.bs b o e).1
  have lim : s.heap.NoLimit := e0.mod.nolimit.keeps fun b o e => (e0.bs b o e).1
  have hkind : ∀ y ∈ (["_law_e"] : List Str).zip [Value.ref p.1], scope.names.lookup y.1 = some .local ∨ (scope.names.lookup y.1 = some .cell ∧ ((cellsFrom (s.heap.objs.size + 1) scope.names []).lookup y.1).isSome = true) := fun ⟨n, v⟩ hy => by
    rcases S.par n (List.of_mem_zip hy).1 with q | q
    · exact .inl q
    · exact .inr ⟨q, PySem.W.cellsFrom_some _ _ _ (.inl q)⟩
  refine codeAny_call_function hr.depth (KX _ _ lk) rfl S.co S.gen rfl (PySem.W.codeRec_of KX hcd) (hb s [.ref p.1] KX rfl _ _ _ _ ?_)
  refine wpAny_newFunctionEnv_cells S.kind hkind fun env he s1 y => ?_
  subst he
  refine ⟨lim.keeps y.toInCall.keep, codeAny_func ?_⟩
  have I : Inv (L2H.cxH (L2.CX P w) P w K mg base ["_law_e"] qual scope f cdv A outer s H (fun _ _ _ => False) p) [] (L2.start ["_law_e"] [.ref p.1]) H s1 := L2H.inv_startH S hpin e0 rfl (.cons rfl .nil) y
  have hps := fld_body (X := L2H.cxH (L2.CX P w) P w K mg base ["_law_e"] qual scope f cdv A outer s H (fun _ _ _ => False) p) (p := p) (List.mem_singleton.mpr rfl) hC.xf hz hf hC.code rfl hv hbody hC.fl
  refine wpAny_mono (hps.run [] s1 _ H { nx := fun _ H' => Q .non H', rt := Q } I ⟨rfl, fs, cs, h1, h2, q⟩) (fun fl s' hs => ?_) fun e s' hs => hs
  have fin : ∀ {σ' : L2.St} {H' : Hp} {v : V} {u : Value}, Inv (L2H.cxH (L2.CX P w) P w K mg base ["_law_e"] qual scope f cdv A outer s H (fun _ _ _ => False) p) [] σ' H' s' → RelV v u → Q v H' → CE outer P w H s Q u s' :=
    fun {σ' H' v u} J rv q => ⟨v, H', J.os, J.bare, J.base, J.hok, rv, q⟩
  cases fl with
  | ret u =>
    obtain ⟨v, σ', H', J, rv, q⟩ := hs
    exact fin J rv q
  | next =>
    obtain ⟨σ', H', J, q⟩ := hs
    exact fin (v := V.non) (u := Value.none) J rfl q
  | brk =>
    obtain ⟨_, _, _, q⟩ := hs
    exact False.elim q
  | cont =>
    obtain ⟨_, _, _, q⟩ := hs
    exact False.elim q
/-- it is called in the except suite -/
theorem pe_fldcall {X : Cx} {C d f a : Addr} {oe : Obj} {pn : List (Addr × Obj)} {chain : List (Str × Str)} {k i : Nat} {x e : Str} {q1 q2 pos : Pos} (F : FldOk X.prog X.w X.K X.mg X.base k f chain) (hr : Room k X.A) (hg : Gl X x) (hm : X.mg x = some (.ref f)) (hkp : PySem.W.keepIn X.K (.ref f) = true)
    (hz : Zc (.ref C) (some d) oe) (hf : ∃ vs, oe.data = .fields vs) (hC : FldC X.K C chain) (hN : X.N[i]? = some e) (hv : Vis X.env.scope e) (hde : (e == ("__debug__" : Str)) = false) (hce : (e == ("__classdict__" : Str)) = false) (hdb : (x == ("__debug__" : Str)) = false) :
    PE (X.suite a ((a, oe) :: pn)) (.Call (.Name x q1) [.Name e q2] [] pos) (fun σ H Q => σ[i]? = some (some (.ref a)) ∧ ∃ (fs : List (Str × V)) (cs : Str), H d = some (.xd fs) ∧ fs.lookup ("code" : Str) = some (.str cs) ∧ chainQ chain cs fs H Q) := by
  refine ⟨fun pins s σ H Q I h => ?_⟩
  obtain ⟨h0, fs, cs, h1, h2, hq⟩ := h
  refine wpAny_Call_Name_kw (ld_glob (X := X.suite a ((a, oe) :: pn)) I hg hm ?_ hdb)
  refine PySem.W.callWith_K (h₀ := X.base) I.ok.mod.kin hkp ?_ (by rfl) (by rfl)
  have hpe := pe_var (X := X.suite a ((a, oe) :: pn)) (pos := q2) (i := i) hN hv hde hce
  show wpAny _ _ (spliced ((false, eval (.Name e q2) X.env) :: backTo pos (starEach [] X.env))) _ _ s
  refine PySem.Calls.spliced_cons (thn (hpe.run pins s σ H (fun v H1 => v = .ref a ∧ H1 = H) I ⟨.ref a, h0, rfl, rfl⟩) fun u s1 ⟨v, H1, I1, r1, ev, eH⟩ => ?_)
  subst ev eH
  obtain rfl : u = Value.ref a := r1
  refine PySem.Calls.spliced_nil ⟨I1.kIn, ?_⟩
  show wpAny _ _ (call (.ref f) [.ref a]) _ _ _
  have P1 := I1.pin (a, oe) (List.mem_append_left _ List.mem_cons_self)
  have hpin : L2H.PinOk X.stack H1 s1 (a, oe) := ⟨P1.1, P1.2.1, fun hm => (List.mem_cons.mp (I1.stkSub a hm)).elim P1.2.2.1 P1.2.2.2.1, P1.2.2.2.2⟩
  refine wpAny_call (codeAny_mono (F.run (X.A.mark (some (.ref a))) X.stack s1 H1 (a, oe) C d fs cs Q ⟨hr.dp, hr.un⟩ hpin I1.env0 hz hf hC h1 h2 hq) fun r s' hq' => ?_)
  cases r with
  | error er => exact (cx_never hq').elim
  | ok fl =>
    cases fl with
    | ret u => exact I1.after hq'
    | next => exact False.elim hq'
    | brk => exact False.elim hq'
    | cont => exact False.elim hq'
end PX
namespace PX
open PySem PySem.Spec PyProof.Rows L2 PySem.Calls PD
variable [LamTab]
def hide (z : Addr → Option Obj) (H : Hp) : Hp := fun b => if (z b).isSome then none else H b
def show_ (z : Addr → Option Obj) (H : Hp) : Hp := fun b => match z b with
  | some o => some (celHO b o)
  | none => H b
theorem hide_in {z : Addr → Option Obj} {H : Hp} {b : Addr} {o : Obj} (h : z b = some o) : hide z H b = none := by
  unfold hide
  rw [h]
  rfl
theorem hide_out {z : Addr → Option Obj} {H : Hp} {b : Addr} (h : z b = none) : hide z H b = H b := by
  unfold hide
  rw [h]
  rfl
theorem show_in {z : Addr → Option Obj} {H : Hp} {b : Addr} {o : Obj} (h : z b = some o) : show_ z H b = some (celHO b o) := by
  unfold show_
  rw [h]
theorem show_out {z : Addr → Option Obj} {H : Hp} {b : Addr} (h : z b = none) : show_ z H b = H b := by
  unfold show_
  rw [h]
theorem hide_none {z : Addr → Option Obj} {H : Hp} {b : Addr} (h : H b = none) : hide z H b = none := by
  cases q : z b with
  | some o => exact hide_in q
  | none => rw [hide_out q]; exact h
theorem hide_some {z : Addr → Option Obj} {H : Hp} {b : Addr} {u : HO} (h : hide z H b = some u) : z b = none ∧ H b = some u := by
  cases q : z b with
  | some o => rw [hide_in q] at h; cases h
  | none => rw [hide_out q] at h; exact ⟨rfl, h⟩
theorem cel_ne {b : Addr} {o : Obj} : (∀ xs, celHO b o ≠ .tup xs) ∧ (∀ x u, celHO b o ≠ .frz x u) ∧ (∀ ps, celHO b o ≠ .tbl ps) ∧ ∀ x, celHO b o ≠ .own x :=
  ⟨fun _ z => (by unfold celHO at z; cases z), fun _ _ z => (by unfold celHO at z; cases z), celHO_tbl, fun _ z => (by unfold celHO at z; cases z)⟩
theorem cel_ok {P : Program} {w : World} {H : Hp} {h : Heap} {b : Addr} {o : Obj} (e : h.get? b = some o) : ObjOk P w H h b (celHO b o) := ⟨e, ⟨o, e⟩, fun _ _ z k => k _ z⟩
theorem cel_at {P : Program} {w : World} {H : Hp} {h : Heap} {b : Addr} {o : Obj} (k : HOk P w H h) (e : H b = some (celHO b o)) : h.get? b = some o := by
  have x : ObjOk P w H h b (.ext fun h => h.get? b = some o) := k b _ e
  exact x.1
/-- z's objects are tracked in H -/
def InH (z : Addr → Option Obj) (H : Hp) : Prop := ∀ b o, z b = some o → H b = some (celHO b o)
/-- .. stand in h, untracked -/
def NoH (z : Addr → Option Obj) (H : Hp) : Prop := ∀ b o, z b = some o → H b = none
section
variable {P : Program} {w : World} {z : Addr → Option Obj} {H H' : Hp} {h h' : Heap} {fs : List Addr}
theorem hok_hide (k : HOk P w H h) (hz : InH z H) : HOk P w (hide z H) h := fun b u e => by
  obtain ⟨e1, e2⟩ := hide_some e
  refine (k b u e2).stay (fun d v _ q => q) (fun d q => ?_) fun d xs q => ?_
  · have : z d = none := by
      cases y : z d with
      | none => rfl
      | some o => rw [hz d o y] at q; exact (cel_ne.2.2.2 _ (Option.some.inj q)).elim
    rw [hide_out this]; exact q
  · have : z d = none := by
      cases y : z d with
      | none => rfl
      | some o => rw [hz d o y] at q; exact (cel_ne.1 _ (Option.some.inj q)).elim
    rw [hide_out this]; exact q
theorem hok_show (k : HOk P w H h) (hn : NoH z H) (hg : ∀ b o, z b = some o → h.get? b = some o) : HOk P w (show_ z H) h := fun b u e => by
  cases q : z b with
  | some o =>
    rw [show_in q] at e
    cases e
    exact cel_ok (hg b o q)
  | none =>
    rw [show_out q] at e
    refine (k b u e).stay (fun d v _ q => q) (fun d q => ?_) fun d xs q => ?_
    · have : z d = none := by
        cases y : z d with
        | none => rfl
        | some o => rw [hn d o y] at q; cases q
      rw [show_out this]; exact q
    · have : z d = none := by
        cases y : z d with
        | none => rfl
        | some o => rw [hn d o y] at q; cases q
      rw [show_out this]; exact q
/-- from the state with z's objects hidden, back -/
theorem un_show (u : Un fs [] (hide z H) H' h h') (hz : InH z H) (hn : NoH z H') : Un fs [] H (show_ z H') h h' := by
  have out : ∀ {b : Addr} {x : HO}, H b = some x → (∀ b o, x ≠ celHO b o) → z b = none := fun {b x} e n => by
    cases y : z b with
    | none => rfl
    | some o => rw [hz b o y] at e; exact (n b o (Option.some.inj e).symm).elim
  refine ⟨fun b o e n hf hx => u.keep b o e (hide_none n) hf hx, fun b o e n hf hx => u.slot b o e (hide_none n) hf hx, fun b o e n hx => ?_, u.there, fun b xs e => ?_, fun b o x e => ?_, fun b ps e => ?_⟩
  · cases y : z b with
    | none => rw [show_out y]; exact u.free b o e (hide_none n) hx
    | some o' => rw [hz b o' y] at n; cases n
  · have y := out e fun b o q => cel_ne.1 _ q.symm
    rw [show_out y]; exact u.tups b xs (by rw [hide_out y]; exact e)
  · have y := out e fun b o q => cel_ne.2.1 _ _ q.symm
    rw [show_out y]; exact u.frzs b o x (by rw [hide_out y]; exact e)
  · have y := out e fun b o q => cel_ne.2.2.1 _ q.symm
    obtain ⟨more, q⟩ := u.tbls b ps (by rw [hide_out y]; exact e)
    exact ⟨more, by rw [show_out y]; exact q⟩
/-- from the state with z's objects tracked, back -/
theorem un_hide (u : Un fs [] (show_ z H) H' h h') (hn : NoH z H) (hz : InH z H') (hg : ∀ b o, z b = some o → h.get? b = some o ∧ b ∉ fs) (hok : HOk P w H' h') : Un fs [] H (hide z H') h h' := by
  have out : ∀ {b : Addr} {x : HO}, H b = some x → z b = none := fun {b x} e => by
    cases y : z b with
    | none => rfl
    | some o => rw [hn b o y] at e; cases e
  refine ⟨fun b o e n hf hx => ?_, fun b o e n hf hx => ?_, fun b o e n hx => ?_, u.there, fun b xs e => ?_, fun b o x e => ?_, fun b ps e => ?_⟩
  · cases y : z b with
    | none => exact u.keep b o e (by rw [show_out y]; exact n) hf hx
    | some o' =>
      rw [(hg b o' y).1] at e
      cases e
      exact cel_at hok (hz b _ y)
  · have y : z b = none := by
      cases y : z b with
      | none => rfl
      | some o' => exact ((hg b o' y).2 hf).elim
    exact u.slot b o e (by rw [show_out y]; exact n) hf hx
  · cases y : z b with
    | none => rw [hide_out y]; exact u.free b o e (by rw [show_out y]; exact n) hx
    | some o' => exact hide_in y
  · rw [hide_out (out e)]; exact u.tups b xs (by rw [show_out (out e)]; exact e)
  · rw [hide_out (out e)]; exact u.frzs b o x (by rw [show_out (out e)]; exact e)
  · obtain ⟨more, q⟩ := u.tbls b ps (by rw [show_out (out e)]; exact e)
    exact ⟨more, by rw [hide_out (out e)]; exact q⟩
end
section
variable {P : Program} {w : World} {z : Addr → Option Obj} {H H' : Hp} {h B h' : Heap} {fs : List Addr}
theorem ub_show (u : UB fs (hide z H) H' h B h') (hz : InH z H) (hn : NoH z H') : UB fs H (show_ z H') h B h' := by
  have out : ∀ {b : Addr} {x : HO}, H b = some x → (∀ b o, x ≠ celHO b o) → z b = none := fun {b x} e n => by
    cases y : z b with
    | none => rfl
    | some o => rw [hz b o y] at e; exact (n b o (Option.some.inj e).symm).elim
  refine ⟨fun b o e n hf => u.keep b o e (hide_none n) hf, u.slot, fun b o e n => ?_, u.there, fun b xs e => ?_, fun b o x e => ?_, fun b ps e => ?_⟩
  · cases y : z b with
    | none => rw [show_out y]; exact u.free b o e (hide_none n)
    | some o' => rw [hz b o' y] at n; cases n
  · have y := out e fun b o q => cel_ne.1 _ q.symm
    rw [show_out y]; exact u.tups b xs (by rw [hide_out y]; exact e)
  · have y := out e fun b o q => cel_ne.2.1 _ _ q.symm
    rw [show_out y]; exact u.frzs b o x (by rw [hide_out y]; exact e)
  · have y := out e fun b o q => cel_ne.2.2.1 _ q.symm
    obtain ⟨more, q⟩ := u.tbls b ps (by rw [hide_out y]; exact e)
    exact ⟨more, by rw [show_out y]; exact q⟩
theorem ub_hide (u : UB fs (show_ z H) H' h B h') (hn : NoH z H) (hz : InH z H') (hg : ∀ b o, z b = some o → h.get? b = some o) (hok : HOk P w H' B) : UB fs H (hide z H') h B h' := by
  have out : ∀ {b : Addr} {x : HO}, H b = some x → z b = none := fun {b x} e => by
    cases y : z b with
    | none => rfl
    | some o => rw [hn b o y] at e; cases e
  refine ⟨fun b o e n hf => ?_, u.slot, fun b o e n => ?_, u.there, fun b xs e => ?_, fun b o x e => ?_, fun b ps e => ?_⟩
  · cases y : z b with
    | none => exact u.keep b o e (by rw [show_out y]; exact n) hf
    | some o' =>
      rw [hg b o' y] at e
      cases e
      exact cel_at hok (hz b _ y)
  · cases y : z b with
    | none => rw [hide_out y]; exact u.free b o e (by rw [show_out y]; exact n)
    | some o' => exact hide_in y
  · rw [hide_out (out e)]; exact u.tups b xs (by rw [show_out (out e)]; exact e)
  · rw [hide_out (out e)]; exact u.frzs b o x (by rw [show_out (out e)]; exact e)
  · obtain ⟨more, q⟩ := u.tbls b ps (by rw [show_out (out e)]; exact e)
    exact ⟨more, by rw [hide_out (out e)]; exact q⟩
end
section
variable {P : Program} {w : World} {outer : List Env} {z : Addr → Option Obj} {H : Hp} {s s' : Shared} {Q Q1 : VK} {E E1 : XK} {r : Result}
theorem cr_show (hz : InH z H) (hg : ∀ b o, z b = some o → s.heap.get? b = some o ∧ b ∉ frs outer) (hQ : ∀ v H', Q1 v H' → NoH z H' → Q v (show_ z H')) (hE : ∀ cls d H', E1 cls d H' → NoH z H' → E cls d (show_ z H'))
    (h : CR (L2.CX P w) outer P w (hide z H) s Q1 E1 r s') : CR (L2.CX P w) outer P w H s Q E r s' := by
  cases r with
  | error e =>
    obtain ⟨a, B, H', cls, d, rfl, fl, hok, ub, na, os, ag, q⟩ := h
    have hn : NoH z H' := fun b o y => ub.free b o (hg b o y).1 (hide_in y)
    have hB : ∀ b o, z b = some o → B.get? b = some o := fun b o y => ub.keep b o (hg b o y).1 (hide_in y) (hg b o y).2
    refine ⟨a, B, show_ z H', cls, d, rfl, fl, hok_show hok hn hB, ub_show ub hz hn, ?_, os, ag, hE _ _ _ q hn⟩
    cases y : z a with
    | none => rw [show_out y]; exact na
    | some o =>
      have e1 := hB a o y
      rw [fl.2.1] at e1
      cases e1
  | ok f =>
    cases f with
    | ret u =>
      obtain ⟨v, H', os, bare, un, hok, rv, q⟩ := h
      have hn : NoH z H' := fun b o y => un.free b o (hg b o y).1 (hide_in y) (by simp)
      exact ⟨v, show_ z H', os, bare, un_show un hz hn, hok_show hok hn (fun b o y => un.keep b o (hg b o y).1 (hide_in y) (hg b o y).2 (by simp)), rv, hQ _ _ q hn⟩
    | next => exact h
    | brk => exact h
    | cont => exact h
theorem cr_hide (hn : NoH z H) (hg : ∀ b o, z b = some o → s.heap.get? b = some o ∧ b ∉ frs outer) (hQ : ∀ v H', Q1 v H' → InH z H' ∧ Q v (hide z H')) (hE : ∀ cls d H', E1 cls d H' → InH z H' ∧ E cls d (hide z H'))
    (h : CR (L2.CX P w) outer P w (show_ z H) s Q1 E1 r s') : CR (L2.CX P w) outer P w H s Q E r s' := by
  cases r with
  | error e =>
    obtain ⟨a, B, H', cls, d, rfl, fl, hok, ub, na, os, ag, q⟩ := h
    obtain ⟨hz, q⟩ := hE _ _ _ q
    exact ⟨a, B, hide z H', cls, d, rfl, fl, hok_hide hok hz, ub_hide ub hn hz (fun b o y => (hg b o y).1) hok, hide_none na, os, ag, q⟩
  | ok f =>
    cases f with
    | ret u =>
      obtain ⟨v, H', os, bare, un, hok, rv, q⟩ := h
      obtain ⟨hz, q⟩ := hQ _ _ q
      exact ⟨v, hide z H', os, bare, un_hide un hn hz hg hok, hok_hide hok hz, rv, q⟩
    | next => exact h
    | brk => exact h
    | cont => exact h
/-- what a call wants, with z's objects tracked -/
theorem env0_show {K : PySem.W.Frag} {mg : Str → Option Value} {base : Heap} {A : Around} (e : Env0 P w K mg base A outer s H) (hn : NoH z H) (hg : ∀ b o, z b = some o → s.heap.get? b = some o ∧ b ∉ frs outer) (hb : ∀ b o, z b = some o → base.get? b = none) : Env0 P w K mg base A outer s (show_ z H) :=
  ⟨e.frames, e.mod, fun b o q => ⟨(e.bs b o q).1, by
    cases y : z b with
    | none => rw [show_out y]; exact (e.bs b o q).2
    | some o' => rw [hb b o' y] at q; cases q⟩, e.bsz, e.funs, fun b q => (by
    cases y : z b with
    | none => rw [show_out y]; exact e.frf b q
    | some o' => exact ((hg b o' y).2 q).elim), hok_show e.hok hn fun b o y => (hg b o y).1, e.bare⟩
theorem env0_hide {K : PySem.W.Frag} {mg : Str → Option Value} {base : Heap} {A : Around} (e : Env0 P w K mg base A outer s H) (hz : InH z H) : Env0 P w K mg base A outer s (hide z H) :=
  ⟨e.frames, e.mod, fun b o q => ⟨(e.bs b o q).1, hide_none (e.bs b o q).2⟩, e.bsz, e.funs, fun b q => hide_none (e.frf b q), hok_hide e.hok hz, e.bare⟩
end
end PX
namespace PD
open PySem PySem.Spec PyProof.Rows L2 PX
variable [LamTab]
def noFn : D → Bool
  | .fn _ _ => false
  | .tup ds => go ds
  | .lst ds => go ds
  | .scr ds => go ds
  | .obj _ fs => gf fs
  | .exc _ fs => gf fs
  | .dic _ kvs => gp kvs
  | _ => true
where
  go : List D → Bool
  | [] => true
  | d :: ds => noFn d && go ds
  gf : List (Str × D) → Bool
  | [] => true
  | (_, d) :: ds => noFn d && gf ds
  gp : List (List Key × D) → Bool
  | [] => true
  | (_, d) :: ds => noFn d && gp ds
def noFnC : Cell → Bool
  | .lst ds => noFn.go ds
  | .dic _ kvs => noFn.gp kvs
  | .obj _ fs => noFn.gf fs
abbrev RC.hide (c : RC) (z : Addr → Option Obj) : RC := { c with H := PX.hide z c.H }
/-- z's objects are captured cells, in c -/
structure Zs (c : RC) (z : Addr → Option Obj) : Prop where
  inH : InH z c.H
  fr : ∀ b o, z b = some o → c.fr b
  exc : ∀ a Ca dx, c.H a = some (excHO a Ca dx) → z a = none
  code : ∀ a q, c.H a = some (LamX.CodeO a q) → z a = none
theorem Zs.out {c : RC} {z : Addr → Option Obj} (h : Zs c z) {a : Addr} {u : HO} (e : c.H a = some u) (n : ∀ b o, u ≠ celHO b o) : PX.hide z c.H a = some u := by
  cases y : z a with
  | none => rw [hide_out y]; exact e
  | some o => rw [h.inH a o y] at e; exact (n a o (Option.some.inj e).symm).elim
theorem Zs.rd {c : RC} {z : Addr → Option Obj} (h : Zs c z) {a : Addr} {xs : List V} (e : Rd c.H a (.tup xs)) : Rd (PX.hide z c.H) a (.tup xs) := by
  rcases e with e | ⟨o, e⟩
  · exact .inl (h.out e fun b o q => cel_ne.1 _ q.symm)
  · exact .inr ⟨o, h.out e fun b o q => cel_ne.2.1 _ _ q.symm⟩
mutual
theorem Rep.hide {c : RC} {z : Addr → Option Obj} (hz : Zs c z) : ∀ {d : D} {v : V}, Rep c d v → noFn d = true → Rep (c.hide z) d v
  | _, _, .non, _ => .non
  | _, _, .bl b, _ => .bl b
  | _, _, .int i, _ => .int i
  | _, _, .str cs, _ => .str cs
  | .tup ds, _, .tup h r, e => .tup (h.imp hz.rd id) (Reps.hide hz r (by rw [noFn] at e; exact e))
  | .lst ds, _, .lst h f r, e => .lst (hz.out h fun b o q => by unfold celHO at q; cases q) f (Reps.hide hz r (by rw [noFn] at e; exact e))
  | .scr ds, _, .scr h r, e => .scr (h.imp (fun ⟨o, h⟩ => ⟨o, hz.out h fun b o q => cel_ne.2.1 _ _ q.symm⟩) id) (Reps.hide hz r (by rw [noFn] at e; exact e))
  | .obj C fs, _, .obj m h f r, e => .obj m (hz.out h fun b o q => by unfold celHO at q; cases q) f (RepF.hide hz r (by rw [noFn] at e; exact e))
  | .dic t kvs, _, .dic h i f r, e => .dic (hz.out h fun b o q => by
      subst q
      rcases i with ⟨_, _, q, _⟩ | ⟨_, q⟩ <;> (unfold celHO at q; cases q)) i f (RepP.hide hz r (by rw [noFn] at e; exact e))
  | .fn i ds, _, .fn _ _ _ _ _ _, e => by cases e
  | .exc C fs, _, .exc m h f h2 f2 r, e => .exc m ((hide_out (hz.exc _ _ _ h)).trans h) f (hz.out h2 fun b o q => by unfold celHO at q; cases q) f2 (RepF.hide hz r (by rw [noFn] at e; exact e))
  | _, _, .ref h, _ => .ref h
theorem Reps.hide {c : RC} {z : Addr → Option Obj} (hz : Zs c z) : ∀ {ds : List D} {vs : List V}, Reps c ds vs → noFn.go ds = true → Reps (c.hide z) ds vs
  | _, _, .nil, _ => .nil
  | _, _, .cons h t, e => by
    rw [noFn.go, Bool.and_eq_true] at e
    exact .cons (Rep.hide hz h e.1) (Reps.hide hz t e.2)
theorem RepP.hide {c : RC} {z : Addr → Option Obj} (hz : Zs c z) : ∀ {ds : List (List Key × D)} {vs : List (List Key × V)}, RepP c ds vs → noFn.gp ds = true → RepP (c.hide z) ds vs
  | _, _, .nil, _ => .nil
  | _, _, .cons h t, e => by
    rw [noFn.gp, Bool.and_eq_true] at e
    exact .cons (Rep.hide hz h e.1) (RepP.hide hz t e.2)
theorem RepF.hide {c : RC} {z : Addr → Option Obj} (hz : Zs c z) : ∀ {ds : List (Str × D)} {vs : List (Str × V)}, RepF c ds vs → noFn.gf ds = true → RepF (c.hide z) ds vs
  | _, _, .nil, _ => .nil
  | _, _, .cons h t, e => by
    rw [noFn.gf, Bool.and_eq_true] at e
    exact .cons (Rep.hide hz h e.1) (RepF.hide hz t e.2)
end
theorem Zs.tabs {c : RC} {z : Addr → Option Obj} (hz : Zs c z) (t : c.tabs) : (c.hide z).tabs := fun p hp => codeO_ext (t p hp) (by
  obtain ⟨ps, k1, _⟩ := t p hp
  exact (hz.out k1 fun b o q => cel_ne.2.2.1 _ q.symm).trans k1.symm) fun a e => (hide_out (hz.code a _ e)).trans e
theorem MgE.hide {c : RC} {z : Addr → Option Obj} {mg : Str → Option Value} (hz : Zs c z) (m : MgE c mg) : MgE (c.hide z) mg := ⟨m.e, fun t => hz.tabs (m.t t)⟩
theorem SR.hide {c : RC} {h : EH} {z : Addr → Option Obj} (hz : Zs c z) (s : SR c h) (hc : h.all noFnC = true) : SR (c.hide z) h := by
  refine ⟨s.len, s.nd, fun n a k e1 e2 => ?_, s.nb, fun a b => ?_⟩
  · have r := s.cells n a k e1 e2
    have hk : noFnC k = true := List.all_eq_true.mp hc k (List.mem_of_getElem? e2)
    have y : z a = none := by
      cases y : z a with
      | none => rfl
      | some o => exact ((hz.fr a o y).2 (List.mem_of_getElem? e1)).elim
    cases k with
    | lst ds => obtain ⟨xs, h1, h2⟩ := r; exact ⟨xs, (hide_out y).trans h1, h2.hide hz hk⟩
    | dic t kvs => obtain ⟨o, zs, h1, h3, h2⟩ := r; exact ⟨o, zs, (hide_out y).trans h1, h3, h2.hide hz hk⟩
    | obj C fs => obtain ⟨Ca, dx, vs, h0, h1, h2⟩ := r; exact ⟨Ca, dx, vs, h0, (hide_out y).trans h1, h2.hide hz hk⟩
  · obtain ⟨o, e⟩ := s.bt a b
    have y : z a = none := by
      cases y : z a with
      | none => rfl
      | some o => exact ((hz.fr a o y).1 b).elim
    exact ⟨o, (hide_out y).trans e⟩
/-- back from the state with z's objects hidden -/
theorem le_show {c c2 : RC} {h : EH} {z : Addr → Option Obj} (hz : Zs c z) (l : (c.hide z).Le c2) (s : SR c2 h) (hn : NoH z c2.H) : c.Le { c2 with H := show_ z c2.H } ∧ c2.Le { c2 with H := show_ z c2.H } ∧ SR { c2 with H := show_ z c2.H } h := by
  have grow : ∀ b o, c2.H b = some o → show_ z c2.H b = some o := fun b o e => by
    cases y : z b with
    | none => rw [show_out y]; exact e
    | some o' => rw [hn b o' y] at e; cases e
  obtain ⟨l2, s2, _⟩ := s.grow grow
  refine ⟨⟨l.K, ⟨l.mg.e, fun t => l2.mg.t (l.mg.t (hz.tabs t))⟩, l.B, fun a b => ?_, fun a o e => ?_, l.pre, fun a o e nt na => ?_, fun a xs e => l2.tup a xs (l.tup a xs (hz.rd e)), fun a o u e => l2.frz a o u (l.frz a o u (hz.out e fun b o q => cel_ne.2.1 _ _ q.symm))⟩, l2, s2⟩
  · rcases l.Bn a b with q | q
    · exact .inl q
    · cases y : z a with
      | none => exact .inr ((hide_out y).symm.trans q)
      | some o' =>
        obtain ⟨u, e⟩ := s.bt a b
        rw [hn a o' y] at e
        cases e
  · cases y : z a with
    | none =>
      obtain ⟨o', q⟩ := l.dom a o ((hide_out y).trans e)
      exact ⟨o', grow _ _ q⟩
    | some o' => exact ⟨_, show_in y⟩
  · cases y : z a with
    | none =>
      obtain ⟨q1, q2⟩ := l.keep a o ((hide_out y).trans e) nt na
      exact ⟨grow _ _ q1, q2⟩
    | some o' =>
      rw [hz.inH a o' y] at e
      cases e
      refine ⟨show_in y, fun q => ?_⟩
      obtain ⟨u, e⟩ := s.ex q
      rw [hn a o' y] at e
      cases e
theorem ExR.le' {c c' : RC} (l : c.Le c') {x : Ex} {cls : Value} {dx : Option Addr} (r : ExR c x cls dx) : ExR c' x cls dx := by
  obtain ⟨Ca, d, vs, h1, h2, h3, h4, h5, h6⟩ := r
  exact ⟨Ca, d, vs, h1, by rw [l.mg.e']; exact h2, h3, (l.keep d _ h4 (fun _ z => by cases z) h5.2).1, l.fr h4 (fun _ z => by cases z) h5, h6.le l⟩
def zPut (b : Addr) (o : Obj) (z : Addr → Option Obj) : Addr → Option Obj := fun a => if a = b then some o else z a
theorem zPut_at {b : Addr} {o : Obj} {z : Addr → Option Obj} {a : Addr} (q : a = b) : zPut b o z a = some o := if_pos q
theorem zPut_ne {b : Addr} {o : Obj} {z : Addr → Option Obj} {a : Addr} (q : ¬ a = b) : zPut b o z a = z a := if_neg q
/-- the captured cells as a map -/
theorem caps_z {H : Hp} {cl : List (Str × Addr)} {fr : Addr → Prop} {df : Bool} {dV : Value} {hp : Heap} (hat : ∀ b o, H b = some (celHO b o) → hp.get? b = some o) : ∀ {ys : List Str} {vs : List V}, CapsR H cl fr df dV ys vs →
    ∃ z : Addr → Option Obj, InH z H ∧ (∀ b o, z b = some o → fr b ∧ ∃ u, o.data = .cell (some u)) ∧ (∀ y b, y ∈ ys → cl.lookup y = some b → ∃ o, z b = some o) ∧
      (∀ (i : Nat) (y : Str) (v : V), ys[i]? = some y → vs[i]? = some v → ∃ b o u, cl.lookup y = some b ∧ z b = some o ∧ o.data = .cell (some u) ∧ RelV v u) ∧ ys.length = vs.length ∧ DfR H fr df dV
  | _, _, .nil d => ⟨fun _ => none, fun _ _ h => (by cases h), fun _ _ h => (by cases h), fun _ _ h => (by cases h), fun _ _ _ h => by simp at h, rfl, d⟩
  | _, _, .cons (y := y) (ys := ys) (b := b) (o := o) (u := u) h1 h2 h3 h4 h5 t => by
    obtain ⟨z, k1, k2, k3, k4, k5, k6⟩ := caps_z hat t
    refine ⟨zPut b o z, fun a o' e => ?_, fun a o' e => ?_, fun y' a hy e => ?_, fun i y' v' e1 e2 => ?_, by simp [k5], k6⟩
    · by_cases q : a = b
      · rw [zPut_at q] at e
        cases e
        rw [q]
        exact h2
      · rw [zPut_ne q] at e
        exact k1 a o' e
    · by_cases q : a = b
      · rw [zPut_at q] at e
        cases e
        rw [q]
        exact ⟨h3, u, h4⟩
      · rw [zPut_ne q] at e
        exact k2 a o' e
    · by_cases q : a = b
      · exact ⟨o, zPut_at q⟩
      · rw [zPut_ne q]
        rcases List.mem_cons.mp hy with hy | hy
        · subst hy
          rw [h1] at e
          exact (q (Option.some.inj e).symm).elim
        · exact k3 y' a hy e
    · cases i with
      | zero =>
        cases e1
        cases e2
        exact ⟨b, o, u, h1, zPut_at rfl, h4, h5⟩
      | succ i =>
        obtain ⟨b', o', u', g1, g2, g3, g4⟩ := k4 i y' v' e1 e2
        by_cases q : b' = b
        · subst q
          have : o' = o := Option.some.inj ((hat _ _ (k1 _ _ g2)).symm.trans (hat _ _ h2))
          exact ⟨b', o, u', g1, zPut_at rfl, by rw [← this]; exact g3, g4⟩
        · exact ⟨b', o', u', g1, (zPut_ne q).trans g2, g3, g4⟩
/-- what is asked of its text -/
structure LamOk (l : LamD) : Prop where
  kind : l.scope.kind = .function
  co : l.scope.isCoroutine = false
  gen : l.scope.isGenerator = false
  cell : ∀ y ∈ l.scope.names, y.2 ≠ .cell
  free : ∀ y ∈ l.scope.names, y.2 = .free → y.1 ∈ l.caps
  caps : ∀ y ∈ l.caps, l.scope.names.lookup y = some .free
  bind : l.df = false → ∀ (cl : List (Str × Addr)) (doc pm cv ctv : Value), bindArgs (PySem.W.kdv_fn "<lambda>" l.qual l.params (.expr l.body) l.scope cl .none doc pm cv ctv) ⟨[], []⟩ = pure []
  bindD : l.df = true → ∃ pn, l.scope.names.lookup pn = some .local ∧ ∀ (cl : List (Str × Addr)) (dV doc pm cv ctv : Value), ∃ k : Option (Array Value) → Sem (List (Str × Value)),
    bindArgs (PySem.W.kdv_fn "<lambda>" l.qual l.params (.expr l.body) l.scope cl dV doc pm cv ctv) ⟨[], []⟩ = (seqItems? dV >>= k) ∧ ∀ t : Tok, k (some #[.int 0 t]) = pure [(pn, .int 0 t)]
def lamCx (P : Program) (w : World) (K : PySem.W.Frag) (mg : Str → Option Value) (base : Heap) (l : LamD) (cl : List (Str × Addr)) (f c' : Addr) (A : Around) (outer : List Env) (s : Shared) (H : Hp) (E : XK) : Cx where
  prog := P
  w := w
  K := K
  mg := mg
  base := base
  A := A.deeper (PySem.W.envX l.qual l.scope s.heap.objs.size f (.ref c') cl)
  N := l.caps
  s_0 := s
  H_0 := H
  env := PySem.W.envX l.qual l.scope s.heap.objs.size f (.ref c') cl
  outer := outer
  stack := PySem.W.envX l.qual l.scope s.heap.objs.size f (.ref c') cl :: outer
  ex := []
  fn := fun _ => false
  calm := true
  pn := []
  xe := fun e s' => wpAny (model P w) (A.deeper (PySem.W.envX l.qual l.scope s.heap.objs.size f (.ref c') cl)) (leaving (PySem.W.envX l.qual l.scope s.heap.objs.size f (.ref c') cl) e) (fun _ s'' => L2.CX P w outer H s E e s'') (fun e' s'' => L2.CX P w outer H s E e' s'') s'
section
variable {P : Program} {w : World} {K : PySem.W.Frag} {mg : Str → Option Value} {base : Heap}
theorem tkLam {l : LamD} {cl : List (Str × Addr)} {f c' : Addr} {A : Around} {outer : List Env} {s : Shared} {H : Hp} {E : XK} : Takes (lamCx P w K mg base l cl f c' A outer s H E) (fun cls d _ H' => E cls d H') := takes_of rfl rfl rfl rfl
theorem lam_start {l : LamD} (L : LamOk l) {cl : List (Str × Addr)} {f c' : Addr} {A : Around} {outer : List Env} {s : Shared} {H : Hp} {E : XK} {z : Addr → Option Obj} {vs : List V} {bs : List (Str × Value)} {h₁ : Heap} {tk : Nat} (hd : A.handled = none) (e0 : Env0 P w K mg base A outer s H)
    (ck : ClOk l.caps cl) (hz : NoH z H) (hg : ∀ b o, z b = some o → s.heap.get? b = some o ∧ ∃ u, o.data = .cell (some u)) (hc : ∀ y b, y ∈ l.caps → cl.lookup y = some b → ∃ o, z b = some o)
    (hv : ∀ (i : Nat) (y : Str) (v : V), l.caps[i]? = some y → vs[i]? = some v → ∃ b o u, cl.lookup y = some b ∧ z b = some o ∧ o.data = .cell (some u) ∧ RelV v u) (hlen : l.caps.length = vs.length)
    (hns : h₁.Ns s.heap.objs.size (fun x => bs.reverse.lookup x)) (hk : ∀ b o, s.heap.get? b = some o → h₁.get? b = some o) :
    Inv (lamCx P w K mg base l cl f c' A outer s H E) [] (vs.map some) H { s with heap := h₁, toks := tk } := by
  have noA : ∀ b : Addr, b ∉ (lamCx P w K mg base l cl f c' A outer s H E).ex := fun b z => absurd (show b ∈ ([] : List Addr) from z) (by simp)
  have has : ∀ y ∈ l.caps, ∃ c, cl.lookup y = some c := fun y hy => by
    obtain ⟨i, hi, e⟩ := List.mem_iff_getElem.mp hy
    obtain ⟨b, _, _, g1, _⟩ := hv i y (vs[i]'(by rw [← hlen]; exact hi)) (by rw [List.getElem?_eq_getElem hi, e]) (List.getElem?_eq_getElem _)
    exact ⟨b, g1⟩
  refine ⟨⟨e0.mod, L.kind, rfl, rfl, Nat.le_refl _, fun y y' c h1 h2 => ck.2 y y' c h1 h2, fun y hy => ?_, fun y c q _ => ?_, fun _ => hd, Around.frames_deeper e0.frames, .inr ⟨rfl, rfl⟩, fun b z => absurd z (noA b), e0.bs, e0.bsz, fun b _ _ => noA b, fun b z => absurd z (noA b), e0.funs, e0.frf⟩,
    rfl, e0.bare, Un.kept hk, ⟨_, hns, fun i y v h1 h2 h3 => ?_⟩, fun y c h => ?_, e0.hok.fresh (Nat.le_refl _), fun y c h => ?_, fun p hp => absurd (show p ∈ ([] : List (Addr × Obj)) from hp) (by simp), e0.hok.kept hk, by rw [List.length_map]; exact hlen.symm⟩
  · have hy : l.scope.names.lookup y = some .cell ∨ l.scope.names.lookup y = some .free := hy
    rcases hy with hy | hy
    · exact absurd rfl (L.cell _ (PySem.mem_of_lookup hy))
    · exact has y (L.free _ (PySem.mem_of_lookup hy) rfl)
  · have q : false = true := q
    cases q
  · rw [List.getElem?_map] at h2
    cases q : vs[i]? with
    | none => rw [q] at h2; cases h2
    | some v' =>
      rw [q] at h2
      cases h2
      obtain ⟨b, o, u, g1, g2, g3, g4⟩ := hv i y v h1 q
      exact ⟨u, g4, .inr ⟨.inr (L.caps y (List.mem_of_getElem? h1)), b, g1, ⟨o, hk _ _ (hg b o g2).1, g3⟩⟩⟩
  · have h : cl.lookup y = some c := h
    obtain ⟨o, e⟩ := hc y c (ck.1 y c h) h
    obtain ⟨g1, u, g2⟩ := hg c o e
    exact ⟨some u, o, hk _ _ g1, g2⟩
  · have h : cl.lookup y = some c := h
    obtain ⟨o, e⟩ := hc y c (ck.1 y c h) h
    exact hz c o e
end
/-- what a lambda gives: its body over no cells -/
def endL (x : O D) : Option (R D) := match x with
  | some (.ok d, h) => (frz h d).map .ok
  | some (.ex e, _) => if noRef.gf e.fs = true then some (.ex e) else none
  | none => none
def runL (m : M D) : PF := fun ds => endL (m (ds.map some) [])
/-- the lambda i is right: called it gives LF i -/
structure LamS (P : Program) (w : World) (K : PySem.W.Frag) (mg : Str → Option Value) (base : Heap) (k i : Nat) (F : PF) : Prop where
  ok : LamOk (LamTab.lam i)
  run : ∃ m, F = runL m ∧ ∀ (cl : List (Str × Addr)) (f c' : Addr) (A : Around) (outer : List Env) (s : Shared) (H : Hp) (E : XK), Room k (A.deeper (PySem.W.envX (LamTab.lam i).qual (LamTab.lam i).scope s.heap.objs.size f (.ref c') cl)) →
    RE (lamCx P w K mg base (LamTab.lam i) cl f c' A outer s H E) (fun cls d _ H' => E cls d H') (LamTab.lam i).body m
end PD
namespace PD
open PySem PySem.Spec PyProof.Rows L2 PX
variable [LamTab]
theorem ext_at {P : Program} {w : World} {H : Hp} {h : Heap} {b : Addr} {φ : Heap → Prop} (k : HOk P w H h) (e : H b = some (.ext φ)) : φ h := by
  have x : ObjOk P w H h b (.ext φ) := k b _ e
  exact x.1
theorem bare_back {c1 c' : RC} {h : EH} (s1 : SR c1 h) (l : (c1.bare fun a => c1.B a ∨ a ∈ c1.ρ).Le c') : c1.Le { c' with ρ := c1.ρ, B := c1.B } ∧ SR { c' with ρ := c1.ρ, B := c1.B } h := by
  have l2 : c1.Le { c' with ρ := c1.ρ, B := c1.B } := ⟨l.K, l.mg, fun _ h => h, fun _ h => .inl h, l.dom, fun _ _ h => h, fun a o e t n => ⟨(l.keep a o e t List.not_mem_nil).1, n⟩, l.tup, l.frz⟩
  refine ⟨l2, s1.len, s1.nd, fun n a k e1 e2 => ?_, s1.nb, fun a hb => ?_⟩
  · have cr := s1.cells n a k e1 e2
    obtain ⟨o, eo⟩ := cr.ex
    refine cr.le l2 ?_
    have nt : ∀ ps, o ≠ .tbl ps := fun ps z => by
      subst z
      cases k with
      | lst ds => obtain ⟨xs, h1, _⟩ := cr; rw [eo] at h1; cases h1
      | dic t kvs => obtain ⟨o', zs, h1, h3, _⟩ := cr; rw [eo] at h1; cases h1; exact h3.tbl _ rfl
      | obj C fs => obtain ⟨_, _, _, _, h1, _⟩ := cr; rw [eo] at h1; cases h1
    exact (l.keep a o eo nt List.not_mem_nil).1.trans eo.symm
  · obtain ⟨o, eo⟩ := s1.bt a hb
    exact l.dom a o eo
section
variable {P : Program} {w : World} {K : PySem.W.Frag} {mg : Str → Option Value} {base : Heap}
theorem lam_call {k i : Nat} {F : PF} (S : LamS P w K mg base k i F) {A : Around} {outer : List Env} {s : Shared} {Q : VK} {E : XK} {c : RC} {caps : List D} {f : Addr} {r : R D} (hr : Room (k + 1) A) (hK : c.K = K) (hm : MgE c mg) (e0 : Env0 P w K mg base A outer s c.H)
    (hρ : c.ρ = []) (bt : ∀ a, c.B a → ∃ o, c.H a = some o) (rf : Rep c (.fn i caps) (.ref f)) (nf : noFn.go caps = true) (e : F caps = some r)
    (go : ∀ d, r = .ok d → ∀ c' v, c.Le c' → c'.ρ = [] → Rep c' d v → Q v c'.H) (gx : ∀ e, r = .ex e → ∀ c' cls dx, c.Le c' → c'.ρ = [] → ExR c' e cls dx → E cls dx c'.H) :
    codeAny (model P w) A (.call (.ref f) ⟨[], []⟩) (CR (L2.CX P w) outer P w c.H s Q E) s := by
  obtain ⟨m, rfl, hbody⟩ := S.run
  have L := S.ok
  cases rf with
  | @fn _ c' _ cl dV _ vs h1 f1 h2 f2 cr rv =>
  obtain ⟨z, k1, k2, k3, k4, k5, k6⟩ := caps_z (hp := s.heap) (fun b o e => cel_at e0.hok e) cr
  have hz0 : ∀ b o, z b = some o → s.heap.get? b = some o ∧ ∃ u, o.data = .cell (some u) := fun b o y => ⟨cel_at e0.hok (k1 b o y), (k2 b o y).2⟩
  have noF : ∀ a o vs, s.heap.get? a = some o → o.data = .fields vs → z a = none := fun a o us ho hd => by
    cases y : z a with
    | none => rfl
    | some o' =>
      obtain ⟨g1, u, g2⟩ := hz0 a o' y
      rw [ho] at g1
      cases g1
      rw [hd] at g2
      cases g2
  have hz : Zs c z := ⟨k1, fun b o y => (k2 b o y).1, fun a Ca dx e => (by
    obtain ⟨o, us, g1, _, _, g4⟩ := ext_at e0.hok e
    exact noF a o us g1 g4), fun a q e => (by
    obtain ⟨o, us, t, g1, g2, _⟩ := ext_at e0.hok e
    exact noF a o us g1 g2)⟩
  obtain ⟨ck, doc, pm, ctv, hf⟩ := ext_at e0.hok h1
  obtain ⟨oc, us, t, hoc, hdc, hvc⟩ := ext_at e0.hok h2
  have hn : PX.NoH z (PX.hide z c.H) := fun b o y => hide_in y
  have hg : ∀ b o, z b = some o → s.heap.get? b = some o ∧ b ∉ frs outer := fun b o y => ⟨(hz0 b o y).1, fun q => by
    have := e0.frf b q
    rw [k1 b o y] at this
    cases this⟩
  have e1 := env0_hide (z := z) e0 k1
  -- in the state with the cells hidden
  let Q1 : VK := fun v H' => ∃ d c2, r = .ok d ∧ (c.hide z).Le c2 ∧ c2.ρ = [] ∧ SR c2 [] ∧ Rep c2 d v ∧ c2.H = H'
  let E1 : XK := fun cls dx H' => ∃ x c2, r = .ex x ∧ (c.hide z).Le c2 ∧ c2.ρ = [] ∧ SR c2 [] ∧ ExR c2 x cls dx ∧ c2.H = H'
  suffices core : codeAny (model P w) A (.call (.ref f) ⟨[], []⟩) (CR (L2.CX P w) outer P w (PX.hide z c.H) s Q1 E1) s by
    refine codeAny_mono core fun rr s' h => cr_show k1 hg (fun v H' q nh => ?_) (fun cls dx H' q nh => ?_) h
    · obtain ⟨d, c2, e1, l, hρ2, s2, rd, rfl⟩ := q
      obtain ⟨l1, l2, s3⟩ := le_show hz l s2 nh
      exact go d e1 _ v l1 hρ2 (rd.le l2)
    · obtain ⟨x, c2, e1, l, hρ2, s2, rd, rfl⟩ := q
      obtain ⟨l1, l2, s3⟩ := le_show hz l s2 nh
      exact gx x e1 _ cls dx l1 hρ2 (rd.le' l2)
  obtain ⟨bs, hbs, hloc⟩ : ∃ bs, BindsTo s (PySem.W.kdv_fn "<lambda>" (LamTab.lam i).qual (LamTab.lam i).params (.expr (LamTab.lam i).body) (LamTab.lam i).scope cl dV doc pm (.ref c') ctv) ⟨[], []⟩ bs ∧ ∀ y ∈ bs, (LamTab.lam i).scope.names.lookup y.1 = some .local := by
    rcases k6 with ⟨hdf, rfl⟩ | ⟨hdf, dt, t, rfl, hdt, _⟩
    · exact ⟨[], BindsTo.of_eq (L.bind hdf cl doc pm (.ref c') ctv), fun y hy => absurd hy (by simp)⟩
    · obtain ⟨pn, hp, hb⟩ := L.bindD hdf
      obtain ⟨kk, b1, b2⟩ := hb cl (.ref dt) doc pm (.ref c') ctv
      refine ⟨[(pn, .int 0 t)], BindsTo.of_defaults rfl (cel_at e0.hok hdt) rfl b1 (b2 t), fun y hy => ?_⟩
      rw [List.mem_singleton.mp hy]
      exact hp
  have lim : s.heap.NoLimit := e0.mod.nolimit.keeps fun b o e => (e0.bs b o e).1
  refine PySem.W.kla_callFunE hr.depth hf rfl L.co L.gen rfl ⟨c', oc, us, t, rfl, hoc, hdc, hvc⟩ (hbs _ _ _ _ ?_)
  refine wpAny_newFunctionEnv L.cell hloc (fun h₁ hns hsb => ⟨lim.fresh _ hsb, ?_⟩) L.kind
  have kp : ∀ b o, s.heap.get? b = some o → h₁.get? b = some o := fun b o e => hsb.extBut b o (Nat.ne_of_lt (Heap.lt_size e)) (Heap.get?_push_of_some _ e)
  have J : Inv (lamCx P w K mg base (LamTab.lam i) cl f c' A outer s (PX.hide z c.H) E1) [] (vs.map some) (PX.hide z c.H) { s with heap := h₁, toks := s.toks + bs.length } :=
    lam_start L hr.hd e1 ck hn hz0 k3 k4 k5 hns kp
  have sr0 : SR (c.hide z) [] := SR.nil hρ fun a b => by
    obtain ⟨o, e⟩ := bt a b
    cases y : z a with
    | none => exact ⟨o, (hide_out y).trans e⟩
    | some o' => exact ((k2 a o' y).1.1 b).elim
  have rv' := Reps.hide hz rv nf
  have er : EnvR (c.hide z) (caps.map some) (vs.map some) := by
    refine ⟨by rw [List.length_map, List.length_map]; exact rv.length, fun i d e => ?_⟩
    rw [List.getElem?_map] at e
    cases q : caps[i]? with
    | none => rw [q] at e; cases e
    | some d' =>
      rw [q] at e
      cases e
      obtain ⟨v, g1, g2⟩ := rv'.get q
      exact ⟨v, by rw [List.getElem?_map, g1]; rfl, g2⟩
  have back : ∀ c2, (c.hide z).Le c2 → (c.hide z).Le (c2.bare c.B) ∧ SR (c2.bare c.B) [] := fun c2 l => ⟨⟨l.K, l.mg, fun _ h => h, fun _ h => .inl h, l.dom, fun n a e => (by
      have e : c.ρ[n]? = some a := e
      rw [hρ] at e; simp at e), fun a o e t n => ⟨(l.keep a o e t n).1, List.not_mem_nil⟩, l.tup, l.frz⟩, SR.nil rfl fun a b => by
      obtain ⟨o, e⟩ := sr0.bt a b
      exact l.dom a o e⟩
  have ht : tE K mg (fun cls d _ H' => E1 cls d H') m (vs.map some) (PX.hide z c.H) Q1 := by
    unfold runL endL at e
    cases q : m (caps.map some) [] with
    | none => rw [q] at e; cases e
    | some y =>
      obtain ⟨r1, h'⟩ := y
      rw [q] at e
      refine ⟨c.hide z, caps.map some, [], r1, h', hK, hm.hide hz, rfl, sr0, er, q, fun x ex c2 cls dx l s2 xr => ?_, fun d ed c2 v l s2 rd => ?_⟩
      · subst ex
        have e' : (if noRef.gf x.fs = true then some (R.ex x) else none) = some r := e
        by_cases hc : noRef.gf x.fs = true
        · rw [if_pos hc] at e'
          cases e'
          obtain ⟨b1, b2⟩ := back c2 l
          obtain ⟨Ca, d, us, h1, h2, h3, h4, h5, h6⟩ := xr
          exact ⟨x, c2.bare c.B, rfl, b1, rfl, b2, ⟨Ca, d, us, h1, h2, h3, h4, ⟨fun z => h5.1 (l.B _ z), List.not_mem_nil⟩, h6.bare (fun a z => .inl (l.B a z)) hc⟩, rfl⟩
        · rw [if_neg hc] at e'; cases e'
      · subst ed
        have e' : (frz h' d).map R.ok = some r := e
        cases q2 : frz h' d with
        | none => rw [q2] at e'; cases e'
        | some d' =>
          rw [q2] at e'
          cases e'
          obtain ⟨b1, b2⟩ := back c2 l
          exact ⟨d', c2.bare c.B, rfl, b1, rfl, b2, frz_ok s2 l.B rd q2, rfl⟩
  refine PySem.W.kla_codeExpr (wpAny_mono ((hbody cl f c' A outer s (PX.hide z c.H) E1 (hr.deeper _)).run [] _ _ (PX.hide z c.H) Q1 J ht) (fun v s' hq => ?_) fun e s' hq => hq)
  obtain ⟨w', H', J', rv, q⟩ := hq
  exact ⟨w', H', J'.os, J'.bare, J'.base, J'.hok, rv, q⟩
end
def mCallF (n : Nat) (LF : Nat → PF) (i : Nat) : M D := fun ε h => match ε.getD i none with
  | some (.fn j caps) => if (decide (j < n) && noRef.go caps && noFn.go caps) = true then (LF j caps).map fun r => (r, h) else none
  | _ => none
section
variable {X : Cx} {W : WX}
theorem re_callF {x : Str} {p pos : Pos} {k j n : Nat} {LF : Nat → PF} (i : Nat) (LS : ∀ t, t < n → LamS X.prog X.w X.K X.mg X.base k t (LF t)) (hr : Room j X.A) (tk : Takes X W) (hk : k + 1 ≤ j := by decide)
    (hN : X.N[i]? = some x := by rfl) (hv : Vis X.env.scope x := by first | exact Or.inl rfl | exact Or.inr (Or.inl rfl) | exact Or.inr (Or.inr rfl)) (hd : (x == ("__debug__" : Str)) = false := by decide)
    (hcd : (x == ("__classdict__" : Str)) = false := by decide) : RE X W (.Call (.Name x p) [] [] pos) (mCallF n LF i) := by
  refine ⟨fun pins s σ H Q I h => ?_⟩
  obtain ⟨c, ε, eh, r, h', hK, hm, rfl, sr, er, e, px, go⟩ := h
  unfold mCallF at e
  cases q : ε.getD i none with
  | none => rw [q] at e; cases e
  | some d =>
  rw [q] at e
  cases d with
  | fn j caps =>
    have e : (if (decide (j < n) && noRef.go caps && noFn.go caps) = true then (LF j caps).map fun r => (r, eh) else none) = some (r, h') := e
    by_cases hc : (decide (j < n) && noRef.go caps && noFn.go caps) = true
    · rw [if_pos hc] at e
      rw [Bool.and_eq_true, Bool.and_eq_true, decide_eq_true_eq] at hc
      obtain ⟨⟨hj, hnr⟩, hnf⟩ := hc
      cases q2 : LF j caps with
      | none => rw [q2] at e; cases e
      | some r2 =>
        rw [q2] at e
        cases e
        have qq : ε[i]? = some (some (.fn j caps)) := by
          rw [List.getD_eq_getElem?_getD] at q
          cases z : ε[i]? with
          | none => rw [z] at q; cases q
          | some y => rw [z] at q; exact congrArg some q
        obtain ⟨v, hs, rv⟩ := er.at_ i _ qq
        obtain ⟨f, rfl⟩ : ∃ f, v = .ref f := by cases rv; exact ⟨_, rfl⟩
        refine wpAny_Call_Name_kw (thn ((pe_var (pos := p) (i := i) hN hv hd hcd).run pins s σ c.H (fun v H1 => v = .ref f ∧ H1 = c.H) I ⟨.ref f, hs, rfl, rfl⟩) fun u s1 ⟨v, H1, I1, r1, q1⟩ => ?_)
        obtain ⟨ev, eH⟩ := q1
        subst ev
        subst eH
        obtain rfl : u = Value.ref f := r1
        have hfn : ∃ o, s1.heap.get? f = some o ∧ ∃ fd, o.data = .func fd := by
          cases rv with
          | fn h1 _ _ _ _ _ =>
            obtain ⟨_, _, _, _, hf⟩ := ext_at I1.hok h1
            exact ⟨_, hf, _, rfl⟩
        obtain ⟨⟨oc, od, dd, sl⟩, hf, fd, hdd⟩ := hfn
        have hdd : dd = .func fd := hdd
        subst hdd
        refine PySem.W.callWith_F0 ⟨_, _, _, _, hf⟩ ?_
        have rv' : Rep (c.bare fun a => c.B a ∨ a ∈ c.ρ) (.fn j caps) (.ref f) := rv.bare (fun _ z => z) (by rw [noRef]; exact hnr)
        have rc : codeAny (model X.prog X.w) X.A (.call (.ref f) ⟨[], []⟩) (CR (L2.CX X.prog X.w) X.stack X.prog X.w c.H s1 Q fun cls d H' => W cls d σ H') s1 := by
          refine lam_call (LS j hj) (hr.mono hk) (c := c.bare fun a => c.B a ∨ a ∈ c.ρ) hK hm I1.env0 rfl (fun a z => z.elim (sr.bt a) fun z => sr.ex z) rv' hnf q2 (fun d ed c' v l hρ rd => ?_) fun x ex c' cls dx l hρ xr => ?_
          · obtain ⟨l2, s2⟩ := bare_back sr l
            exact go d ed { c' with ρ := c.ρ, B := c.B } v l2 s2 (Rep.unbare (fun a ha => l.B a (.inr ha)) (fun a ha => l.B a (.inl ha)) hρ rd)
          · obtain ⟨l2, s2⟩ := bare_back sr l
            refine px x ex { c' with ρ := c.ρ, B := c.B } cls dx l2 s2 ?_
            obtain ⟨Ca, d, us, h1, h2, h3, h4, h5, h6⟩ := xr
            exact ⟨Ca, d, us, h1, h2, h3, h4, ⟨fun z => h5.1 (l.B _ (.inl z)), fun z => h5.1 (l.B _ (.inr z))⟩, RepF.unbare (fun a ha => l.B a (.inr ha)) (fun a ha => l.B a (.inl ha)) hρ h6⟩
        refine wpAny_call (codeAny_mono rc fun rr s2 hq => ?_)
        cases rr with
        | error e => exact passAt tk σ pins c.H s1 e s2 I1 hq
        | ok fl =>
          cases fl with
          | ret u => exact I1.after hq
          | next => exact False.elim hq
          | brk => exact False.elim hq
          | cont => exact False.elim hq
    · rw [if_neg hc] at e; cases e
  | _ => cases e
end
end PD
namespace PD
open PySem PySem.Spec PyProof.Rows L2 PX LamX
variable [LamTab]
/-- the lambda i of this frame stands at f -/
def LamAt (X : Cx) (H : Hp) (i : Nat) (f : Addr) : Prop := ∃ (dV : Value) (c' : Addr), H f = some (lamHO (LamTab.lam i) (cloFrom X.env.cells (LamTab.lam i).scope.names []) dV c' f) ∧ H c' = some (CodeO c' (LamTab.lam i).qual) ∧
  (((LamTab.lam i).df = false ∧ dV = .none) ∨ ((LamTab.lam i).df = true ∧ ∃ (dt : Addr) (t : Tok), dV = .ref dt ∧ H dt = some (celHO dt (PySem.W.kdv_tup [.int 0 t]))))
theorem LamAt.ext {X : Cx} {H H' : Hp} {i : Nat} {f : Addr} (e : ExtN H H') (h : LamAt X H i f) : LamAt X H' i f := by
  obtain ⟨dV, c', h1, h2, h3⟩ := h
  refine ⟨dV, c', e _ _ h1 lamHO_tbl, e _ _ h2 codeO_ne, ?_⟩
  rcases h3 with h3 | ⟨q, dt, t, e1, e2⟩
  · exact .inl h3
  · exact .inr ⟨q, dt, t, e1, e _ _ e2 celHO_tbl⟩
/-- its text, its def's tables -/
structure LamW (X : Cx) (i : Nat) (c P : Addr) : Prop where
  TB : TabB X.base X.mg c P
  code : X.env.code = .ref c
  qual : X.env.qual ++ "<lambda>" = (LamTab.lam i).qual
  mem : (P, (LamTab.lam i).qual) ∈ LamTab.T
  uniq : ∀ p ∈ LamTab.T, p.1 = P → p.2 = (LamTab.lam i).qual
  free : ∀ y ∈ (LamTab.lam i).scope.names, y.2 = .free → ∃ c, X.env.cells.lookup y.1 = some c
  ck : ClOk (LamTab.lam i).caps (cloFrom X.env.cells (LamTab.lam i).scope.names [])
  df : ((LamTab.lam i).df = false ∧ (LamTab.lam i).params.defaults = [] ∧ (LamTab.lam i).params.kw_defaults = []) ∨ ((LamTab.lam i).df = true ∧ (∃ k p, (LamTab.lam i).params.defaults = [.Constant (.int 0) k p]) ∧ (LamTab.lam i).params.kw_defaults = [])
/-- what the making of it leaves -/
structure Made (H H1 : Hp) : Prop where
  ext : ExtN H H1
  tabs : Tabs LamTab.T H → Tabs LamTab.T H1
  dom : ∀ b o, H b = some o → ∃ o', H1 b = some o'
theorem Made.refl (H : Hp) : Made H H := ⟨ExtN.refl H, fun h => h, fun b o e => ⟨o, e⟩⟩
theorem Made.trans {H H1 H2 : Hp} (a : Made H H1) (b : Made H1 H2) : Made H H2 := ⟨a.ext.trans b.ext, fun h => b.tabs (a.tabs h), fun p o e => let ⟨o', q⟩ := a.dom p o e; b.dom p o' q⟩
theorem Made.of {H H1 : Hp} (e : ∀ b o, H b = some o → H1 b = some o) : Made H H1 := ⟨ExtN.of e, fun t => t.ext e, fun b o q => ⟨o, e b o q⟩⟩
theorem upd_new {H : Hp} {a : Addr} {o : HO} (n : H a = none) : ∀ b u, H b = some u → upd H a o b = some u := fun b u e => by
  rw [upd_ne (ne_of_none e n)]; exact e
section
variable {X : Cx} {pins : List (Addr × Obj)} {σ : L2.St} {H : Hp} {s : Shared}
theorem lam_tail {i : Nat} {c P : Addr} {pos : Pos} {fl : Nat} {dV : Value} {E : Value → Shared → Prop} {Q : Value → Shared → Prop} (I : Inv X pins σ H s) (W : LamW X i c P) (hT : Tabs LamTab.T H)
    (hdV : ((LamTab.lam i).df = false ∧ dV = .none) ∨ ((LamTab.lam i).df = true ∧ ∃ (dt : Addr) (t : Tok), dV = .ref dt ∧ H dt = some (celHO dt (PySem.W.kdv_tup [.int 0 t]))))
    (h : ∀ (f : Addr) (H1 : Hp) (s' : Shared), Inv X pins σ H1 s' → Made H H1 → LamAt X H1 i f → Q (.ref f) s') :
    wpAny (model X.prog X.w) X.A (makeTail "<lambda>" (LamTab.lam i).qual (LamTab.lam i).params (.expr (LamTab.lam i).body) (LamTab.lam i).scope X.env dV .none none pos fl) Q E s := by
  obtain ⟨ps, hP, ht, ha⟩ := hT _ W.mem
  have bP : s.heap.BuiltinsAt X.mg P := W.TB.bm.keeps I.bk
  have hP' : s.heap.get? P = some { cls := .none, data := .fields ps } := I.hok P _ hP
  -- the function's object is new
  have fin : ∀ (H1 : Hp) (h' : Heap) (tk : Tok) (c' : Addr) (ctv doc : Value), Inv X pins σ H1 { s with heap := h', toks := tk } → Made H H1 → H1 c' = some (CodeO c' (LamTab.lam i).qual) →
      Q (.ref h'.objs.size) { s with heap := h'.push (PySem.W.kdv_obj "<lambda>" (LamTab.lam i).qual (LamTab.lam i).params (.expr (LamTab.lam i).body) (LamTab.lam i).scope (cloFrom X.env.cells (LamTab.lam i).scope.names []) dV doc ((X.mg "__name__").getD .none) c' ctv), toks := tk } := fun H1 h' tk c' ctv doc I1 md hc => by
    have nf : H1 h'.objs.size = none := I1.hok.fresh (Nat.le_refl _)
    have hf := Heap.get?_push_size h' (o := PySem.W.kdv_obj "<lambda>" (LamTab.lam i).qual (LamTab.lam i).params (.expr (LamTab.lam i).body) (LamTab.lam i).scope (cloFrom X.env.cells (LamTab.lam i).scope.names []) dV doc ((X.mg "__name__").getD .none) c' ctv) rfl
    have I2 := I1.laid (a := h'.objs.size) (o := lamHO (LamTab.lam i) (cloFrom X.env.cells (LamTab.lam i).scope.names []) dV c' h'.objs.size) (t' := tk) (h' := h'.push (PySem.W.kdv_obj "<lambda>" (LamTab.lam i).qual (LamTab.lam i).params (.expr (LamTab.lam i).body) (LamTab.lam i).scope (cloFrom X.env.cells (LamTab.lam i).scope.names []) dV doc ((X.mg "__name__").getD .none) c' ctv)) (fun b o e => Heap.get?_push_of_some _ e) (Nat.le_refl _)
      ⟨⟨W.ck, doc, _, ctv, hf⟩, ⟨_, hf⟩, fun h1 h2 ⟨q, doc, pm, ctv, e⟩ k => ⟨q, doc, pm, ctv, k _ e⟩⟩
    refine h h'.objs.size _ _ I2 (md.trans (Made.of (upd_new nf))) ⟨dV, c', upd_same, upd_new nf _ _ hc, ?_⟩
    rcases hdV with z | ⟨q, dt, t, e1, e2⟩
    · exact .inl z
    · exact .inr ⟨q, dt, t, e1, upd_new nf _ _ (md.ext _ _ e2 celHO_tbl)⟩
  cases hc : codeAmong pos ps.toList with
  | none =>
    refine PySem.W.kdv_makeTail (mg := X.mg) (c := c) (P := P) (ps := ps) (clos := cloFrom X.env.cells (LamTab.lam i).scope.names []) (closure_ok W.free) I.ok.glob (I.mod.glob.keeps I.bk) W.code (W.TB.code.keeps I.bk) hP' ht hc W.TB.gP bP fun c' ctv doc h' tk hx hge hlt hrec htb => ?_
    obtain ⟨c2, oc, vs, t, e2, hoc, hd, hv⟩ := hrec
    cases e2
    have nC : H c' = none := I.hok.fresh hge
    have I1 := inv_table (t' := tk) (more := #[rawInt pos.line, rawInt pos.col, .ref c']) (h' := h') I hP hx htb hge ⟨oc, vs, t, hoc, hd, hv⟩
    have hE : ExtN H (upd (upd H P (.tbl (ps ++ #[rawInt pos.line, rawInt pos.col, .ref c']))) c' (CodeO c' (LamTab.lam i).qual)) := fun b o e n => by
      rw [upd_ne (ne_of_none e nC), upd_ne (fun z => n ps (Option.some.inj (e.symm.trans (by rw [z]; exact hP))))]
      exact e
    have eL : (ps ++ #[rawInt pos.line, rawInt pos.col, .ref c']).toList = ps.toList ++ [rawInt pos.line, rawInt pos.col, .ref c'] := by simp
    refine fin _ h' tk c' ctv doc I1 ⟨hE, fun _ p hp => ?_, fun b o e => ?_⟩ upd_same
    · by_cases hb : p.1 = P
      · rw [W.uniq p hp hb, hb]
        refine ⟨_, by rw [upd_ne (ne_of_none hP nC), upd_same], by rw [eL]; exact PySem.TriplesOk_snoc _ _ _ _ ht, fun p' cv hcv => ?_⟩
        rw [eL] at hcv
        rcases among_app _ ht hcv with z | z
        · obtain ⟨c0, e1, e2⟩ := ha p' cv z
          exact ⟨c0, e1, hE _ _ e2 codeO_ne⟩
        · exact ⟨c', z, upd_same⟩
      · obtain ⟨ps', a1, a2, a3⟩ := hT p hp
        refine ⟨ps', by rw [upd_ne (ne_of_none a1 nC), upd_ne hb]; exact a1, a2, fun p' cv hcv => ?_⟩
        obtain ⟨c0, e1, e2⟩ := a3 p' cv hcv
        exact ⟨c0, e1, hE _ _ e2 codeO_ne⟩
    · rw [upd_ne (ne_of_none e nC)]
      by_cases hb : b = P
      · rw [hb]; exact ⟨_, upd_same⟩
      · exact ⟨o, (upd_ne hb).trans e⟩
  | some cv =>
    obtain ⟨c', e, hco⟩ := ha pos cv hc
    subst e
    refine PySem.W.kdv_makeTailHit (mg := X.mg) (c := c) (P := P) (ps := ps) (clos := cloFrom X.env.cells (LamTab.lam i).scope.names []) (closure_ok W.free) I.ok.glob (I.mod.glob.keeps I.bk) W.code (W.TB.code.keeps I.bk) hP' ht hc bP fun ctv doc h' tk hx hsz => ?_
    exact fin H h' tk c' ctv doc (I.kept hx) (Made.refl H) hco
def tLam (i : Nat) : TE := fun σ H Q => Tabs LamTab.T H ∧ ∀ f H1, Made H H1 → LamAt X H1 i f → Q (.ref f) H1
theorem pe_lam {i : Nat} {c P : Addr} {pos : Pos} (W : LamW X i c P) : PE X (.Lambda (LamTab.lam i).params (LamTab.lam i).body (LamTab.lam i).scope pos) (tLam (X := X) i) := by
  refine ⟨fun pins s σ H Q I h => ?_⟩
  obtain ⟨hT, go⟩ := h
  have fin : ∀ (f : Addr) (H1 : Hp) (s' : Shared), Inv X pins σ H1 s' → Made H H1 → LamAt X H1 i f → EP X pins σ Q (.ref f) s' := fun f H1 s' I1 md la => ⟨.ref f, H1, I1, rfl, go f H1 md la⟩
  rcases W.df with ⟨h1, h2, h3⟩ | ⟨h1, ⟨k, p, h2⟩, h3⟩
  · refine PySem.W.kla_eval (by rw [defaultsOf_eq, h2, h3]; rfl) ?_
    rw [makeFunction_eq]
    simp only [List.zip_nil_right, List.filterMap_nil, List.isEmpty_nil, if_true, pure_bind]
    rw [W.qual]
    exact lam_tail I W hT (.inl ⟨h1, rfl⟩) fin
  · refine PySem.W.kdv_lam (by rw [h2]; rfl) h3 ?_
    rw [h2]
    refine PySem.W.kdv_all1 (thn ((pe_int (X := X)).run pins s σ H (fun v H1 => v = .int 0 ∧ H1 = H) I ⟨rfl, rfl⟩) fun u s1 ⟨v, H1, I1, r1, q1⟩ => ?_)
    obtain ⟨ev, eH⟩ := q1
    subst ev
    subst eH
    obtain ⟨t, rfl⟩ : ∃ t, u = Value.int 0 t := r1
    refine PySem.W.kdv_all0 ?_
    rw [makeFunction_eq]
    simp only [List.zip_nil_right, List.filterMap_nil, List.isEmpty_nil, List.isEmpty_cons, if_true, pure_bind, Bool.false_eq_true, if_false]
    refine wpAny_bind (wpAny_newTextTuple ?_)
    have nf : H1 s1.heap.objs.size = none := I1.hok.fresh (Nat.le_refl _)
    have hf := Heap.get?_push_size s1.heap (o := PySem.W.kdv_tup [.int 0 t]) rfl
    have I2 := I1.laid (a := s1.heap.objs.size) (o := celHO s1.heap.objs.size (PySem.W.kdv_tup [.int 0 t])) (t' := s1.toks) (h' := s1.heap.push (PySem.W.kdv_tup [.int 0 t])) (fun b o e => Heap.get?_push_of_some _ e) (Nat.le_refl _)
      ⟨hf, ⟨_, hf⟩, fun h1 h2 e k => k _ e⟩
    rw [W.qual]
    exact lam_tail I2 W (hT.ext (upd_new nf)) (.inr ⟨h1, _, t, rfl, upd_same⟩) fun f H2 s' I3 md la => fin f H2 s' I3 ((Made.of (upd_new nf)).trans md) la
end
end PD
namespace PD
open PySem PySem.Spec PyProof.Rows L2 PX LamX
variable [LamTab]
/-- data without lambdas, without exceptions -/
def plain : D → Bool
  | .fn _ _ => false
  | .exc _ _ => false
  | .tup ds => go ds
  | .lst ds => go ds
  | .scr ds => go ds
  | .obj _ fs => gf fs
  | .dic _ kvs => gp kvs
  | _ => true
where
  go : List D → Bool
  | [] => true
  | d :: ds => plain d && go ds
  gf : List (Str × D) → Bool
  | [] => true
  | (_, d) :: ds => plain d && gf ds
  gp : List (List Key × D) → Bool
  | [] => true
  | (_, d) :: ds => plain d && gp ds
def plainR : R D → Bool
  | .ok d => plain d
  | .ex x => plain.gf x.fs
section
variable {c c2 : RC} (hK : c2.K = c.K) (hm : c2.mg = c.mg) (hH : ∀ a u, c.H a = some u → (∀ φ, u ≠ .ext φ) → c2.H a = some u) (hf : ∀ a u, c.H a = some u → (∀ φ, u ≠ .ext φ) → c.fr a → c2.fr a) (h0 : c.ρ = [])
include hK hm hH hf h0
mutual
theorem Rep.unshow : ∀ {d : D} {v : V}, Rep c d v → plain d = true → Rep c2 d v
  | _, _, .non, _ => .non
  | _, _, .bl b, _ => .bl b
  | _, _, .int i, _ => .int i
  | _, _, .str cs, _ => .str cs
  | .tup ds, _, .tup (a := a) (xs := xs) h r, e => .tup (by
      rcases h with (h | ⟨o, h⟩) | h
      · exact .inl (.inl (hH _ _ h fun _ z => by cases z))
      · exact .inl (.inr ⟨o, hH _ _ h fun _ z => by cases z⟩)
      · rw [hK]; exact .inr h) (Reps.unshow r (by rw [plain] at e; exact e))
  | .lst ds, _, .lst h f r, e => .lst (hH _ _ h fun _ z => by cases z) (hf _ _ h (fun _ z => by cases z) f) (Reps.unshow r (by rw [plain] at e; exact e))
  | .scr ds, _, .scr h r, e => .scr (by
      rcases h with ⟨o, h⟩ | h
      · exact .inl ⟨o, hH _ _ h fun _ z => by cases z⟩
      · rw [hK]; exact .inr h) (Reps.unshow r (by rw [plain] at e; exact e))
  | .obj C fs, _, .obj m h f r, e => .obj (by rw [hm]; exact m) (hH _ _ h fun _ z => by cases z) (hf _ _ h (fun _ z => by cases z) f) (RepF.unshow r (by rw [plain] at e; exact e))
  | .dic t kvs, _, .dic (o := o) h i f r, e => by
    have nx : ∀ φ, o ≠ .ext φ := fun φ q => by
      subst q
      rcases i with ⟨_, _, q, _⟩ | ⟨_, q⟩ <;> cases q
    exact .dic (hH _ _ h nx) i (hf _ _ h nx f) (RepP.unshow r (by rw [plain] at e; exact e))
  | .fn i ds, _, .fn _ _ _ _ _ _, e => by cases e
  | .exc C fs, _, .exc _ _ _ _ _ _, e => by cases e
  | _, _, .ref h, _ => by rw [h0] at h; simp at h
theorem Reps.unshow : ∀ {ds : List D} {vs : List V}, Reps c ds vs → plain.go ds = true → Reps c2 ds vs
  | _, _, .nil, _ => .nil
  | _, _, .cons h t, e => by
    rw [plain.go, Bool.and_eq_true] at e
    exact .cons (Rep.unshow h e.1) (Reps.unshow t e.2)
theorem RepP.unshow : ∀ {ds : List (List Key × D)} {vs : List (List Key × V)}, RepP c ds vs → plain.gp ds = true → RepP c2 ds vs
  | _, _, .nil, _ => .nil
  | _, _, .cons h t, e => by
    rw [plain.gp, Bool.and_eq_true] at e
    exact .cons (Rep.unshow h e.1) (RepP.unshow t e.2)
theorem RepF.unshow : ∀ {ds : List (Str × D)} {vs : List (Str × V)}, RepF c ds vs → plain.gf ds = true → RepF c2 ds vs
  | _, _, .nil, _ => .nil
  | _, _, .cons h t, e => by
    rw [plain.gf, Bool.and_eq_true] at e
    exact .cons (Rep.unshow h e.1) (RepF.unshow t e.2)
end
end
structure ShowZ (X : Cx) (H : Hp) (s : Shared) (z : Addr → Option Obj) : Prop where
  no : PX.NoH z H
  at_ : ∀ b o, z b = some o → s.heap.get? b = some o ∧ b ∉ frs X.stack
  cel : ∀ b o, z b = some o → s.heap.get? b = some o ∧ ∃ v, o.data = .cell v
  base : ∀ b o, z b = some o → X.base.get? b = none
  all : ∀ y b o, X.env.cells.lookup y = some b → s.heap.get? b = some o → z b = some o
theorem showZ {X : Cx} {pins : List (Addr × Obj)} {σ : L2.St} {H : Hp} {s : Shared} (I : Inv X pins σ H s) (hfn : ∀ y, X.fn y = true) : ∃ z, ShowZ X H s z := by
  classical
  refine ⟨fun b => if ∃ y, X.env.cells.lookup y = some b then s.heap.get? b else none, ?_⟩
  have key : ∀ b o, (if ∃ y, X.env.cells.lookup y = some b then s.heap.get? b else none) = some o → ∃ y, X.env.cells.lookup y = some b ∧ s.heap.get? b = some o := fun b o e => by
    by_cases q : ∃ y, X.env.cells.lookup y = some b
    · rw [if_pos q] at e
      obtain ⟨y, hy⟩ := q
      exact ⟨y, hy, e⟩
    · rw [if_neg q] at e
      cases e
  refine ⟨fun b o e => ?_, fun b o e => ?_, fun b o e => ?_, fun b o e => ?_, fun y b o e ho => ?_⟩
  · obtain ⟨y, hy, ho⟩ := key b o e
    exact I.freeC y b hy
  · obtain ⟨y, hy, ho⟩ := key b o e
    refine ⟨ho, fun q => ?_⟩
    rcases List.mem_cons.mp (I.stkSub _ q) with q | q
    · exact I.cne y b hy q
    · obtain ⟨_, o', e', _⟩ := I.ok.funs.mem q
      exact Nat.lt_irrefl _ (Nat.lt_of_lt_of_le (Heap.lt_size e') (I.ok.cab y b (hfn y) hy))
  · obtain ⟨y, hy, ho⟩ := key b o e
    obtain ⟨v, o', e1, e2⟩ := I.cell y b hy
    rw [ho] at e1
    cases e1
    exact ⟨ho, v, e2⟩
  · obtain ⟨y, hy, ho⟩ := key b o e
    cases q : X.base.get? b with
    | none => rfl
    | some o' => exact (Nat.lt_irrefl _ (Nat.lt_of_lt_of_le (Heap.lt_size q) (Nat.le_trans I.ok.bsz (I.ok.cab y b (hfn y) hy)))).elim
  · exact (if_pos ⟨y, e⟩).trans ho
/-- the callee's view -/
abbrev showC (c : RC) (z : Addr → Option Obj) : RC := { c with H := PX.show_ z c.H, ρ := [], B := fun a => (c.B a ∨ a ∈ c.ρ) ∧ ∀ φ, c.H a ≠ some (.ext φ) }
section
variable {c c' : RC} {h : EH} {z : Addr → Option Obj}
theorem show_grow (no : PX.NoH z c.H) : ∀ b o, c.H b = some o → PX.show_ z c.H b = some o := fun b o e => by
  cases y : z b with
  | none => rw [show_out y]; exact e
  | some o' => rw [no b o' y] at e; cases e
theorem show_in' (l : (showC c z).Le c') : PX.InH z c'.H := fun b o y => (l.keep b _ (show_in y) celHO_tbl List.not_mem_nil).1
theorem code_cel {a : Addr} {q : Str} {o : Obj} {hp : Heap} {v : Option Value} (e : CodeO a q = celHO a o) (h : hp.get? a = some o) (hd : o.data = .cell v) : False := by
  unfold CodeO celHO at e
  have e2 := congrFun (HO.ext.inj e) hp
  have e3 : hp.get? a = some o := h
  rw [← e2] at e3
  obtain ⟨oc, vs, t, k1, k2, _⟩ := e3
  rw [h] at k1
  cases k1
  rw [hd] at k2
  cases k2
theorem show_back {hp : Heap} (hat : ∀ b o, z b = some o → hp.get? b = some o ∧ ∃ v, o.data = .cell v) (no : PX.NoH z c.H) (s1 : SR c h) (l : (showC c z).Le c') : c.Le { c' with ρ := c.ρ, B := c.B, H := PX.hide z c'.H } ∧ SR { c' with ρ := c.ρ, B := c.B, H := PX.hide z c'.H } h := by
  have out : ∀ a o, c.H a = some o → z a = none := fun a o e => by
    cases y : z a with
    | none => rfl
    | some o' => rw [no a o' y] at e; cases e
  have kp : ∀ a o, c.H a = some o → (∀ ps, o ≠ .tbl ps) → PX.hide z c'.H a = some o := fun a o e nt => (hide_out (out a o e)).trans (l.keep a o (show_grow no a o e) nt List.not_mem_nil).1
  obtain ⟨g1, g2, g3⟩ := s1.grow (show_grow no)
  have hin := show_in' l
  have tabs : c.tabs → RC.tabs { c' with ρ := c.ρ, B := c.B, H := PX.hide z c'.H } := fun t p hp => by
    have t1 : c'.tabs := l.mg.t (fun p hp => g1.mg.t t p hp)
    obtain ⟨ps, k1, k2, k3⟩ := t1 p hp
    have oz : ∀ a u, c'.H a = some u → (∀ o, u ≠ celHO a o) → z a = none := fun a u e n => by
      cases y : z a with
      | none => rfl
      | some o => rw [hin a o y] at e; exact (n o (Option.some.inj e).symm).elim
    refine ⟨ps, (hide_out (oz _ _ k1 fun o q => celHO_tbl _ q.symm)).trans k1, k2, fun pos cv hc => ?_⟩
    obtain ⟨a, e1, e2⟩ := k3 pos cv hc
    refine ⟨a, e1, (hide_out ?_).trans e2⟩
    cases y : z a with
    | none => rfl
    | some o =>
      obtain ⟨g1, v, g2⟩ := hat a o y
      rw [hin a o y] at e2
      exact (code_cel (Option.some.inj e2).symm g1 g2).elim
  have l2 : c.Le { c' with ρ := c.ρ, B := c.B, H := PX.hide z c'.H } := by
    refine ⟨l.K, ⟨l.mg.e, tabs⟩, fun _ h => h, fun _ h => .inl h, fun a o e => ?_, fun _ _ h => h, fun a o e nt n => ⟨kp a o e nt, n⟩, fun a xs e => ?_, fun a o u e => kp a _ e fun _ q => by cases q⟩
    · obtain ⟨o', q⟩ := l.dom a o (show_grow no a o e)
      exact ⟨o', (hide_out (out a o e)).trans q⟩
    · rcases e with e | ⟨u, e⟩
      · exact .inl (kp a _ e fun _ q => by cases q)
      · exact .inr ⟨u, kp a _ e fun _ q => by cases q⟩
  refine ⟨l2, s1.len, s1.nd, fun n a k e1 e2 => ?_, s1.nb, fun a hb => ?_⟩
  · have cr := s1.cells n a k e1 e2
    obtain ⟨o, eo⟩ := cr.ex
    refine cr.le l2 ((kp a o eo fun ps q => ?_).trans eo.symm)
    subst q
    exact cr.noTab.1 ps eo
  · obtain ⟨o, eo⟩ := s1.bt a hb
    exact l2.dom a o eo
end
end PD
namespace PD
open PySem PySem.Spec PyProof.Rows L2 PX LamX
variable [LamTab]
def capsE (ε : Ev) : List Nat → Option (List D)
  | [] => some []
  | k :: ks => match ε.getD k none, capsE ε ks with
    | some d, some ds => some (d :: ds)
    | _, _ => none
/-- the names that the lambda i captures: X's variables at ks -/
structure CapN (X : Cx) (i : Nat) (ks : List Nat) : Prop where
  names : ks.map (fun k => X.N[k]?) = (LamTab.lam i).caps.map some
  kind : ∀ y ∈ (LamTab.lam i).caps, X.env.scope.names.lookup y = some .cell ∨ X.env.scope.names.lookup y = some .free
  free : ∀ y ∈ (LamTab.lam i).caps, (LamTab.lam i).scope.names.lookup y = some .free
def OneR (X : Cx) (H : Hp) (ε : Ev) (p : Nat × List Nat) (d : D) (v : V) : Prop := ∃ ds f, d = .fn p.1 ds ∧ capsE ε p.2 = some ds ∧ v = .ref f ∧ LamAt X H p.1 f ∧ CapN X p.1 p.2
inductive OnesR (X : Cx) (H : Hp) (ε : Ev) : List (Nat × List Nat) → List D → List V → Prop
  | nil : OnesR X H ε [] [] []
  | cons {p : Nat × List Nat} {ps : List (Nat × List Nat)} {d : D} {ds : List D} {v : V} {vs : List V} : OneR X H ε p d v → OnesR X H ε ps ds vs → OnesR X H ε (p :: ps) (d :: ds) (v :: vs)
/-- what a call may be handed -/
inductive ArgR (X : Cx) (c : RC) (ε : Ev) : D → V → Prop
  | one {p : Nat × List Nat} {d : D} {v : V} : OneR X c.H ε p d v → ArgR X c ε d v
  | lst {ps : List (Nat × List Nat)} {ds : List D} {a : Addr} {vs : List V} : c.H a = some (.lst vs) → c.fr a → OnesR X c.H ε ps ds vs → ArgR X c ε (.lst ds) (.ref a)
theorem OneR.ext {X : Cx} {H H1 : Hp} {ε : Ev} {p : Nat × List Nat} {d : D} {v : V} (e : ExtN H H1) (h : OneR X H ε p d v) : OneR X H1 ε p d v := by
  obtain ⟨ds, f, h1, h2, h3, h4, h5⟩ := h
  exact ⟨ds, f, h1, h2, h3, h4.ext e, h5⟩
theorem OnesR.ext {X : Cx} {H H1 : Hp} {ε : Ev} (e : ExtN H H1) : ∀ {ps : List (Nat × List Nat)} {ds : List D} {vs : List V}, OnesR X H ε ps ds vs → OnesR X H1 ε ps ds vs
  | _, _, _, .nil => .nil
  | _, _, _, .cons h t => .cons (h.ext e) (t.ext e)
section
variable {X : Cx} {pins : List (Addr × Obj)} {σ : L2.St} {s : Shared} {c : RC} {ε : Ev} {eh : EH} {z : Addr → Option Obj}
theorem caps_show {cl : List (Str × Addr)} (I : Inv X pins σ c.H s) (sz : ShowZ X c.H s z) (sr : SR c eh) (er : EnvR c ε σ) (hcl : ∀ y b, cl.lookup y = some b → X.env.cells.lookup y = some b) {df : Bool} {dV : Value} (hdf : DfR (showC c z).H (showC c z).fr df dV) :
    ∀ {ys : List Str} {ks : List Nat} {ds : List D}, ks.map (fun k => X.N[k]?) = ys.map some → capsE ε ks = some ds → (∀ y ∈ ys, X.env.scope.names.lookup y = some .cell ∨ X.env.scope.names.lookup y = some .free) → (∀ y ∈ ys, ∃ b, cl.lookup y = some b) →
      ∃ vs, CapsR (showC c z).H cl (showC c z).fr df dV ys vs ∧ Reps c ds vs
  | [], [], ds, _, e, _, _ => by cases e; exact ⟨[], .nil hdf, .nil⟩
  | [], _ :: _, _, h, _, _, _ => by cases h
  | _ :: _, [], _, h, _, _, _ => by cases h
  | y :: ys, k :: ks, ds, h, e, hk, hl => by
    rw [List.map_cons, List.map_cons] at h
    obtain ⟨hN, ht⟩ := List.cons.inj h
    rw [capsE] at e
    cases q : ε.getD k none with
    | none => rw [q] at e; cases e
    | some d =>
      cases q2 : capsE ε ks with
      | none => rw [q, q2] at e; cases e
      | some ds' =>
        rw [q, q2] at e
        cases e
        obtain ⟨vs, h1, h2⟩ := caps_show I sz sr er hcl hdf ht q2 (fun y hy => hk y (List.mem_cons_of_mem _ hy)) fun y hy => hl y (List.mem_cons_of_mem _ hy)
        have qq : ε[k]? = some (some d) := by
          rw [List.getD_eq_getElem?_getD] at q
          cases z : ε[k]? with
          | none => rw [z] at q; cases q
          | some y => rw [z] at q; exact congrArg some q
        obtain ⟨v, g1, g2⟩ := er.at_ k d qq
        have ky := hk y (List.mem_cons_self ..)
        obtain ⟨m, hn, hloc⟩ := I.loc
        obtain ⟨u, r, lk⟩ := hloc k y v hN g1 (ky.elim (fun q => .inr (.inl q)) fun q => .inr (.inr q))
        obtain ⟨b, hb⟩ := hl y (List.mem_cons_self ..)
        have hb2 := hcl y b hb
        rcases lk with ⟨q, _⟩ | ⟨_, b', e', o, ho, hd⟩
        · have q : X.env.scope.names.lookup y = some .local := q
          rcases ky with k1 | k1 <;> rw [k1] at q <;> cases q
        · rw [hb2] at e'
          cases e'
          have hz := sz.all y b o hb2 ho
          refine ⟨v :: vs, .cons hb (show_in hz) ⟨fun q => ?_, List.not_mem_nil⟩ hd r h1, .cons g2 h2⟩
          have hno := sz.no b o hz
          rcases q.1 with q | q
          · obtain ⟨o', e⟩ := sr.bt b q
            rw [hno] at e; cases e
          · obtain ⟨o', e⟩ := sr.ex q
            rw [hno] at e; cases e
theorem one_show {p : Nat × List Nat} {d : D} {v : V} (I : Inv X pins σ c.H s) (sz : ShowZ X c.H s z) (sr : SR c eh) (er : EnvR c ε σ) (h : OneR X c.H ε p d v) (nr : noRef d = true) : Rep (showC c z) d v := by
  obtain ⟨ds, f, rfl, h2, rfl, ⟨dV, c', k1, k2, k3⟩, N⟩ := h
  have grow := show_grow sz.no
  have frx : ∀ {a φ}, c.H a = some (.ext φ) → (showC c z).fr a := fun {a φ} e => ⟨fun q => q.2 φ e, List.not_mem_nil⟩
  have hfree : ∀ y ∈ (LamTab.lam p.1).scope.names, y.2 = .free → True := fun _ _ _ => trivial
  obtain ⟨ck, _⟩ := ext_at I.hok k1
  have hdf : DfR (showC c z).H (showC c z).fr (LamTab.lam p.1).df dV := by
    rcases k3 with k3 | ⟨q, dt, t, e1, e2⟩
    · exact .inl k3
    · exact .inr ⟨q, dt, t, e1, grow _ _ e2, frx e2⟩
  have look : ∀ y ∈ (LamTab.lam p.1).caps, ∃ b, (cloFrom X.env.cells (LamTab.lam p.1).scope.names []).lookup y = some b := fun y hy => mem_lookup (cloFrom_has (cells := X.env.cells) (acc := []) (PySem.mem_of_lookup (N.free y hy)))
  have hcl : ∀ y b, (cloFrom X.env.cells (LamTab.lam p.1).scope.names []).lookup y = some b → X.env.cells.lookup y = some b := fun y b e => by
    rcases cloFrom_mem (PySem.mem_of_lookup e) with hm | ⟨h1, h2⟩
    · cases hm
    · obtain ⟨c1, hc⟩ := I.ok.has y (N.kind y (ck.1 y b e))
      have e2 : b = c1 := by
        rw [h2, hc] <;> rfl
      rw [e2]
      exact hc
  obtain ⟨vs, c1, c2⟩ := caps_show I sz sr er hcl hdf N.names h2 N.kind look
  obtain ⟨g1, g2, _⟩ := sr.grow grow
  exact .fn (grow _ _ k1) (frx k1) (grow _ _ k2) (frx k2) c1 ((c2.le g1).bare (fun a q => q.1) (by rw [noRef] at nr; exact nr))
theorem ones_show (I : Inv X pins σ c.H s) (sz : ShowZ X c.H s z) (sr : SR c eh) (er : EnvR c ε σ) : ∀ {ps : List (Nat × List Nat)} {ds : List D} {vs : List V}, OnesR X c.H ε ps ds vs → noRef.go ds = true → Reps (showC c z) ds vs
  | _, _, _, .nil, _ => .nil
  | _, _, _, .cons h t, nr => by
    rw [noRef.go, Bool.and_eq_true] at nr
    exact .cons (one_show I sz sr er h nr.1) (ones_show I sz sr er t nr.2)
theorem arg_show {d : D} {v : V} (I : Inv X pins σ c.H s) (sz : ShowZ X c.H s z) (sr : SR c eh) (er : EnvR c ε σ) (h : ArgR X c ε d v) (nr : noRef d = true) : Rep (showC c z) d v := by
  cases h with
  | one h => exact one_show I sz sr er h nr
  | lst h1 h2 h3 => exact .lst (show_grow sz.no _ _ h1) ⟨fun q => q.1.elim h2.1 h2.2, List.not_mem_nil⟩ (ones_show I sz sr er h3 (by rw [noRef] at nr; exact nr))
/-- the call -/
theorem lamG_call {W : WX} {k : Nat} {F : PF} {f : Addr} {fd : FuncData} {ps : List Str} {arg : D} {va : V} {ua : Value} {r : R D} {Q : VK} (hb : Binds X.K fd ps []) (hl : ps.length = 1) (Fo : FnOk X.prog X.w X.K X.mg X.base (L2.CX X.prog X.w) k f fd ps (SpP X.K X.mg 1 F)) (I : Inv X pins σ c.H s) (hfn : ∀ y, X.fn y = true)
    (hr : Room k X.A) (tk : Takes X W) (hK : c.K = X.K) (hm : MgE c X.mg) (sr : SR c eh) (er : EnvR c ε σ) (ar : ArgR X c ε arg va) (ra : RelV va ua) (nr : noRef arg = true) (e : F [arg] = some r) (pl : plainR r = true)
    (go : ∀ d, r = .ok d → ∀ c' v, c.Le c' → SR c' eh → Rep c' d v → Q v c'.H) (px : ∀ x, r = .ex x → ∀ c' cls dx, c.Le c' → SR c' eh → ExR c' x cls dx → W cls dx σ c'.H) :
    wpAny (model X.prog X.w) X.A (call (.ref f) [ua]) (EP X pins σ Q) X.xe s := by
  obtain ⟨z, sz⟩ := showZ I hfn
  have e0 := env0_show I.env0 sz.no sz.at_ sz.base
  obtain ⟨g1, g2, _⟩ := sr.grow (show_grow sz.no)
  have bt : ∀ a, (showC c z).B a → ∃ o, (showC c z).H a = some o := fun a q => by
    rcases q.1 with q | q
    · obtain ⟨o, e⟩ := sr.bt a q
      exact ⟨o, show_grow sz.no _ _ e⟩
    · obtain ⟨o, e⟩ := sr.ex q
      exact ⟨o, show_grow sz.no _ _ e⟩
  have back : ∀ c', (showC c z).Le c' → ∀ a u, c'.H a = some u → (∀ φ, u ≠ .ext φ) → c'.fr a → ¬ c.B a ∧ a ∉ c.ρ := fun c' l a u ea nx fa => by
    have key : ¬ (c.B a ∨ a ∈ c.ρ) := fun q => by
      obtain ⟨o, eo⟩ : ∃ o, c.H a = some o := q.elim (sr.bt a) fun q => sr.ex q
      by_cases hx : ∃ φ, o = .ext φ
      · obtain ⟨φ, rfl⟩ := hx
        have := (l.keep a _ (show_grow sz.no _ _ eo) (fun _ q => by cases q) List.not_mem_nil).1
        rw [ea] at this
        exact nx φ (Option.some.inj this)
      · exact fa.1 (l.B a ⟨q, fun φ z => hx ⟨φ, by rw [eo] at z; exact Option.some.inj z⟩⟩)
    exact ⟨fun q => key (.inl q), fun q => key (.inr q)⟩
  have hid : ∀ c', (showC c z).Le c' → ∀ a u, c'.H a = some u → (∀ φ, u ≠ .ext φ) → PX.hide z c'.H a = some u := fun c' l a u ea nx => by
    cases y : z a with
    | none => exact (hide_out y).trans ea
    | some o =>
      rw [show_in' l a o y] at ea
      exact (nx _ (Option.some.inj ea).symm).elim
  let Q1 : VK := fun v H' => ∃ d c2, r = .ok d ∧ (showC c z).Le c2 ∧ c2.ρ = [] ∧ Rep c2 d v ∧ c2.H = H'
  let E1 : XK := fun cls dx H' => ∃ x c2, r = .ex x ∧ (showC c z).Le c2 ∧ c2.ρ = [] ∧ ExR c2 x cls dx ∧ c2.H = H'
  have sp : SpP X.K X.mg 1 F [va] (PX.show_ z c.H) Q1 E1 := ⟨showC c z, [arg], r, hK, g1.mg.trans hm, rfl, rfl, bt, .cons (arg_show I sz sr er ar nr) .nil, rfl, e, fun d ed c' v l hρ rd => ⟨d, c', ed, l, hρ, rd, rfl⟩, fun x ex c' cls dx l hρ xr => ⟨x, c', ex, l, hρ, xr, rfl⟩⟩
  have rc := Fo.run X.A X.stack s (PX.show_ z c.H) ⟨[ua], []⟩ [ua] [va] Q1 E1 hr e0 (by
    have := hb s [ua] I.kIn (by rw [hl]; rfl)
    rwa [List.append_nil] at this) (.cons ra .nil) sp
  refine wpAny_call (codeAny_mono rc fun rr s' hq => ?_)
  have hq2 : CR (L2.CX X.prog X.w) X.stack X.prog X.w c.H s Q (fun cls d H' => W cls d σ H') rr s' := by
    refine cr_hide sz.no sz.at_ (fun v H' q => ?_) (fun cls dx H' q => ?_) hq
    · obtain ⟨d, c2, e1, l, hρ, rd, rfl⟩ := q
      obtain ⟨l2, s2⟩ := show_back sz.cel sz.no sr l
      refine ⟨show_in' l, go d e1 _ v l2 s2 ?_⟩
      subst e1
      exact Rep.unshow (c := c2) (c2 := { c2 with ρ := c.ρ, B := c.B, H := PX.hide z c2.H }) rfl rfl (hid c2 l) (back c2 l) hρ rd pl
    · obtain ⟨x, c2, e1, l, hρ, xr, rfl⟩ := q
      obtain ⟨l2, s2⟩ := show_back sz.cel sz.no sr l
      refine ⟨show_in' l, px x e1 _ cls dx l2 s2 ?_⟩
      subst e1
      obtain ⟨Ca, d, us, h1, h2, h3, h4, h5, h6⟩ := xr
      exact ⟨Ca, d, us, h1, h2, h3, hid c2 l _ _ h4 (fun _ q => by cases q), back c2 l _ _ h4 (fun _ q => by cases q) h5, RepF.unshow (c := c2) (c2 := { c2 with ρ := c.ρ, B := c.B, H := PX.hide z c2.H }) rfl rfl (hid c2 l) (back c2 l) hρ h6 pl⟩
  cases rr with
  | error e => exact passAt tk σ pins c.H s e s' I hq2
  | ok fl =>
    cases fl with
    | ret u => exact I.after hq2
    | next => exact False.elim hq2
    | brk => exact False.elim hq2
    | cont => exact False.elim hq2
end
end PD
namespace PD
open PySem PySem.Spec PyProof.Rows L2 PX LamX
variable [LamTab]
theorem SR.made {c : RC} {eh : EH} {H1 : Hp} (s : SR c eh) (m : Made c.H H1) : c.Le { c with H := H1 } ∧ SR { c with H := H1 } eh := by
  have l : c.Le { c with H := H1 } := by
    refine ⟨rfl, ⟨rfl, m.tabs⟩, fun _ h => h, fun _ h => .inl h, m.dom, fun _ _ h => h, fun a o e nt n => ⟨m.ext a o e nt, n⟩, fun a xs e => ?_, fun a o u e => m.ext a _ e fun _ q => by cases q⟩
    rcases e with e | ⟨u, e⟩
    · exact .inl (m.ext a _ e fun _ q => by cases q)
    · exact .inr ⟨u, m.ext a _ e fun _ q => by cases q⟩
  refine ⟨l, s.len, s.nd, fun n a k e1 e2 => ?_, s.nb, fun a b => ?_⟩
  · have r := s.cells n a k e1 e2
    obtain ⟨o, e⟩ := r.ex
    exact r.le l ((m.ext a o e fun ps q => by
      subst q
      exact r.noTab.1 ps e).trans e.symm)
  · obtain ⟨o, e⟩ := s.bt a b
    exact m.dom a o e
def finG (x : Option (R D)) (h : EH) : O D := match x with
  | some r => if plainR r = true then some (r, h) else none
  | none => none
def capsL (ε : Ev) : List (Nat × List Nat) → Option (List D)
  | [] => some []
  | p :: ps => match capsE ε p.2, capsL ε ps with
    | some ds, some es => some (.fn p.1 ds :: es)
    | _, _ => none
def mLam1G (F : PF) (i : Nat) (ks : List Nat) : M D := fun ε h => match capsE ε ks with
  | some ds => if noRef.go ds = true then finG (F [.fn i ds]) h else none
  | none => none
def mLamsG (F : PF) (ps : List (Nat × List Nat)) : M D := fun ε h => match capsL ε ps with
  | some ds => if (noRef.go ds && decide (ds.length ≤ sizeLine)) = true then finG (F [.lst ds]) h else none
  | none => none
inductive LamsX (X : Cx) : List Expr → List (Nat × List Nat) → Prop
  | nil : LamsX X [] []
  | cons {i : Nat} {ks : List Nat} {c P : Addr} {pos : Pos} {es : List Expr} {ps : List (Nat × List Nat)} : LamW X i c P → CapN X i ks → LamsX X es ps → LamsX X (.Lambda (LamTab.lam i).params (LamTab.lam i).body (LamTab.lam i).scope pos :: es) ((i, ks) :: ps)
inductive LamAts (X : Cx) (H : Hp) : List (Nat × List Nat) → List V → Prop
  | nil : LamAts X H [] []
  | cons {p : Nat × List Nat} {ps : List (Nat × List Nat)} {f : Addr} {vs : List V} : LamAt X H p.1 f → LamAts X H ps vs → LamAts X H (p :: ps) (.ref f :: vs)
theorem LamAts.ext {X : Cx} {H H1 : Hp} (e : ExtN H H1) : ∀ {ps : List (Nat × List Nat)} {vs : List V}, LamAts X H ps vs → LamAts X H1 ps vs
  | _, _, .nil => .nil
  | _, _, .cons h t => .cons (h.ext e) (t.ext e)
def tLams (X : Cx) (ps : List (Nat × List Nat)) : TA := fun σ H Q => Tabs LamTab.T H ∧ ∀ vs H1, Made H H1 → LamAts X H1 ps vs → Q vs H1
theorem pa_lams {X : Cx} : ∀ {es : List Expr} {ps : List (Nat × List Nat)}, LamsX X es ps → PA X es (tLams X ps)
  | _, _, .nil => pa_imp pa_nil fun σ H Q h => h.2 [] H (Made.refl H) .nil
  | _, _, .cons W N t => by
    refine pa_imp (pa_cons (pe_lam W) (pa_lams t) rfl) fun σ H Q h => ?_
    refine ⟨h.1, fun f H1 m la => ⟨m.tabs h.1, fun vs H2 m2 ls => h.2 _ H2 (m.trans m2) (.cons (la.ext m2.ext) ls)⟩⟩
theorem LamsX.names {X : Cx} : ∀ {es : List Expr} {ps : List (Nat × List Nat)}, LamsX X es ps → ∀ p ∈ ps, CapN X p.1 p.2
  | _, _, .nil, _, h => by cases h
  | _, _, .cons W N t, p, h => by
    rcases List.mem_cons.mp h with h | h
    · rw [h]; exact N
    · exact t.names p h
theorem ones_of {X : Cx} {H : Hp} {ε : Ev} : ∀ {ps : List (Nat × List Nat)} {vs : List V} {ds : List D}, (∀ p ∈ ps, CapN X p.1 p.2) → LamAts X H ps vs → capsL ε ps = some ds → OnesR X H ε ps ds vs
  | [], _, _, _, .nil, e => by cases e; exact .nil
  | p :: ps, .ref f :: _, _, hN, .cons h t, e => by
    rw [capsL] at e
    cases q : capsE ε p.2 with
    | none => rw [q] at e; cases e
    | some ds =>
      cases q2 : capsL ε ps with
      | none => rw [q, q2] at e; cases e
      | some es =>
        rw [q, q2] at e
        cases e
        exact .cons ⟨ds, f, rfl, q, rfl, h, hN p (List.mem_cons_self ..)⟩ (ones_of (fun p hp => hN p (List.mem_cons_of_mem _ hp)) t q2)
theorem LamAts.length {X : Cx} {H : Hp} : ∀ {ps : List (Nat × List Nat)} {vs : List V}, LamAts X H ps vs → vs.length = ps.length
  | _, _, .nil => rfl
  | _, _, .cons _ t => by rw [List.length_cons, List.length_cons, t.length]
def PostG (X : Cx) (W : WX) (F : PF) (σ : L2.St) (va : V) (H1 : Hp) (Q : VK) : Prop := ∃ (c : RC) (ε : Ev) (eh : EH) (arg : D) (r : R D), c.K = X.K ∧ MgE c X.mg ∧ c.H = H1 ∧ SR c eh ∧ EnvR c ε σ ∧ ArgR X c ε arg va ∧ noRef arg = true ∧ F [arg] = some r ∧ plainR r = true ∧
  (∀ d, r = .ok d → ∀ c' v, c.Le c' → SR c' eh → Rep c' d v → Q v c'.H) ∧ (∀ x, r = .ex x → ∀ c' cls dx, c.Le c' → SR c' eh → ExR c' x cls dx → W cls dx σ c'.H)
section
variable {X : Cx} {W : WX}
theorem pe_lamG {x : Str} {p pos : Pos} {e : Expr} {te : TE} {k j : Nat} {F : PF} (G : FnP X.prog X.w X.K X.mg X.base x k 1 F) (hr : Room j X.A) (tk : Takes X W) (hfn : ∀ y, X.fn y = true) (he : PE X e te) (hk : k ≤ j := by decide) (hg : Gl X x := by rfl)
    (hdb : (x == ("__debug__" : Str)) = false := by decide) (hse : starEach [e] X.env = (false, eval e X.env) :: starEach [] X.env := by rfl) (hpl : (backTo pos (starEach [] X.env)).any (·.1) = false := by rfl) :
    PE X (.Call (.Name x p) [e] [] pos) (fun σ H Q => tCons te tNil σ H fun vs H1 => ∃ va, vs = [va] ∧ PostG X W F σ va H1 Q) := by
  obtain ⟨f, fd, ps, hm, hkp, hb, hl, Fo⟩ := G.ex
  refine ⟨fun pins s σ H Q I h => ?_⟩
  refine wpAny_Call_Name_kw (ld_glob I hg hm ?_ hdb)
  refine PySem.W.callWith_K (h₀ := X.base) I.ok.mod.kin hkp (thn ((pa_cons he pa_nil hse).run pos pins s σ H (fun vs H1 => ∃ va, vs = [va] ∧ PostG X W F σ va H1 Q) I h) fun us s1 ⟨vs, H1, I1, r, q⟩ => ⟨I1.kIn, ?_⟩) hse hpl
  obtain ⟨va, rfl, c, ε, eh, arg, r1, hK, hmg, rfl, sr, er, ar, nr, e1, pl, go, px⟩ := q
  cases r with
  | cons ra rt =>
    cases rt
    exact lamG_call hb hl Fo I1 hfn (hr.mono hk) tk hK hmg sr er ar ra nr e1 pl go px
theorem finG_some {x : Option (R D)} {h h' : EH} {r : R D} (e : finG x h = some (r, h')) : x = some r ∧ h' = h ∧ plainR r = true := by
  cases x with
  | none => cases e
  | some r0 =>
    have e : (if plainR r0 = true then some (r0, h) else none) = some (r, h') := e
    by_cases q : plainR r0 = true
    · rw [if_pos q] at e
      cases e
      exact ⟨rfl, rfl, q⟩
    · rw [if_neg q] at e; cases e
/-- G(lambda: ..) -/
theorem re_lam1G {x : Str} {p pos lpos : Pos} {i : Nat} (ks : List Nat) {c0 P0 : Addr} {k j : Nat} {F : PF} (G : FnP X.prog X.w X.K X.mg X.base x k 1 F) (hr : Room j X.A) (tk : Takes X W) (hfn : ∀ y, X.fn y = true) (LW : LamW X i c0 P0) (N : CapN X i ks) (hk : k ≤ j := by decide) (hg : Gl X x := by rfl)
    (hdb : (x == ("__debug__" : Str)) = false := by decide) : RE X W (.Call (.Name x p) [.Lambda (LamTab.lam i).params (LamTab.lam i).body (LamTab.lam i).scope lpos] [] pos) (mLam1G F i ks) := by
  refine pe_imp (pe_lamG G hr tk hfn (pe_lam LW) hk hg hdb rfl rfl) fun σ H Q h => ?_
  obtain ⟨c, ε, h, r', h', hK, hm, rfl, sr, er, e, px, go⟩ := h
  unfold mLam1G at e
  cases q : capsE ε ks with
  | none => rw [q] at e; cases e
  | some ds =>
    rw [q] at e
    have e : (if noRef.go ds = true then finG (F [.fn i ds]) h else none) = some (r', h') := e
    by_cases nr : noRef.go ds = true
    · rw [if_pos nr] at e
      obtain ⟨e1, rfl, pl⟩ := finG_some e
      refine ⟨hm.t trivial, fun f H1 md la => ⟨.ref f, rfl, ?_⟩⟩
      obtain ⟨l1, s1⟩ := sr.made md
      exact ⟨{ c with H := H1 }, ε, h', .fn i ds, r', hK, l1.mg.trans hm, rfl, s1, er.le l1, .one (p := (i, ks)) ⟨ds, f, rfl, q, rfl, la, N⟩, by rw [noRef]; exact nr, e1, pl, fun d ed c' v l s r => go d ed c' v (l1.trans l) s r, fun x ex c' cls dx l s xr => px x ex c' cls dx (l1.trans l) s xr⟩
    · rw [if_neg nr] at e; cases e
end
end PD
namespace PD
open PySem PySem.Spec PyProof.Rows L2 PX LamX
variable [LamTab]
abbrev LA := RC → L2.St → Prop
/-- x (at ix) holds the list of the lambdas -/
def LAt (X : Cx) (ix : Nat) (ps : List (Nat × List Nat)) : LA := fun c σ => ∃ (a : Addr) (vs : List V), σ[ix]? = some (some (.ref a)) ∧ c.H a = some (.lst vs) ∧ c.fr a ∧ LamAts X c.H ps vs
def tXc (Φ : LA) {α β : Type} (Rl : RC → α → β → Prop) (K : PySem.W.Frag) (mg : Str → Option Value) (W : WX) (m : M α) : L2.St → Hp → (β → Hp → Prop) → Prop := fun σ H Q =>
  ∃ (c : RC) (ε : Ev) (h : EH) (r : R α) (h' : EH), c.K = K ∧ MgE c mg ∧ c.H = H ∧ SR c h ∧ EnvR c ε σ ∧ m ε h = some (r, h') ∧ Px W c σ r h' ∧
    (∀ a, r = .ok a → ∀ c' b, c.Le c' → SR c' h' → Rl c' a b → Q b c'.H) ∧ Φ c σ
theorem tXc.bind {Φ : LA} {α β γ : Type} {Rl : RC → α → β → Prop} {K : PySem.W.Frag} {mg : Str → Option Value} {W : WX} {m : M α} {k : α → EH → O γ} {c : RC} {ε : Ev} {h h' : EH} {r : R γ} {σ : L2.St} {Q : β → Hp → Prop}
    (hK : c.K = K) (hm : MgE c mg) (sr : SR c h) (er : EnvR c ε σ) (e : bR (m ε h) k = some (r, h')) (px : Px W c σ r h') (la : Φ c σ)
    (go : ∀ a h1 c1 b, k a h1 = some (r, h') → c.Le c1 → SR c1 h1 → Rl c1 a b → Q b c1.H) : tXc Φ Rl K mg W m σ c.H Q := by
  cases q : m ε h with
  | none => rw [q] at e; cases e
  | some z =>
    obtain ⟨r1, h1⟩ := z
    cases r1 with
    | ok a =>
      rw [q] at e
      exact ⟨c, ε, h, .ok a, h1, hK, hm, rfl, sr, er, q, Px.ok, fun a' ea c1 b l s rb => by cases ea; exact go a h1 c1 b e l s rb, la⟩
    | ex x =>
      rw [q] at e
      cases e
      exact ⟨c, ε, h, .ex x, _, hK, hm, rfl, sr, er, q, fun y ey => px y (by cases ey; rfl), fun a' ea => (nomatch ea), la⟩
theorem tXc.stm {Φ : LA} {α β : Type} {Rl : RC → α → β → Prop} {K : PySem.W.Frag} {mg : Str → Option Value} {W : WX} {m : M α} {k : α → EH → Option (RS × EH)} {c : RC} {ε : Ev} {h h' : EH} {r : RS} {σ : L2.St} {D : Ends} {Q : β → Hp → Prop}
    (hK : c.K = K) (hm : MgE c mg) (sr : SR c h) (er : EnvR c ε σ) (e : bS (m ε h) ε k = some (r, h')) (fin : Fin W D c r h') (la : Φ c σ)
    (go : ∀ a h1 c1 b, k a h1 = some (r, h') → c.Le c1 → SR c1 h1 → Rl c1 a b → Q b c1.H) : tXc Φ Rl K mg W m σ c.H Q := by
  cases q : m ε h with
  | none => rw [q] at e; cases e
  | some z =>
    obtain ⟨r1, h1⟩ := z
    cases r1 with
    | ok a =>
      rw [q] at e
      exact ⟨c, ε, h, .ok a, h1, hK, hm, rfl, sr, er, q, Px.ok, fun a' ea c1 b l s rb => (by cases ea; exact go a h1 c1 b e l s rb), la⟩
    | ex x =>
      rw [q] at e
      cases e
      exact ⟨c, ε, h, .ex x, _, hK, hm, rfl, sr, er, q, fun y ey c' cls dx l s xr => (by cases ey; exact fin c' σ cls dx l s (er.le l) xr), fun a' ea => (nomatch ea), la⟩
abbrev REc (Φ : LA) (X : Cx) (W : WX) (e : Expr) (m : M D) : Prop := PE X e (tXc Φ Rep X.K X.mg W m)
abbrev RTc (Φ : LA) (X : Cx) (W : WX) (e : Expr) (m : M Bool) : Prop := PT X e (tXc Φ (fun (_ : RC) (a b : Bool) => a = b) X.K X.mg W m)
abbrev RAc (Φ : LA) (X : Cx) (W : WX) (es : List Expr) (m : M (List D)) : Prop := PA X es (tXc Φ Reps X.K X.mg W m)
def tSc (Φ : LA) (K : PySem.W.Frag) (mg : Str → Option Value) (W : WX) (m : MS) : TS := fun D σ H =>
  ∃ (c : RC) (ε : Ev) (h : EH) (r : RS) (h' : EH), c.K = K ∧ MgE c mg ∧ c.H = H ∧ SR c h ∧ EnvR c ε σ ∧ m ε h = some (r, h') ∧ Fin W D c r h' ∧ Φ c σ
abbrev RStc (Φ : LA) (X : Cx) (W : WX) (st : Stmt) (m : MS) : Prop := PS X st (tSc Φ X.K X.mg W m)
abbrev RSsc (Φ : LA) (X : Cx) (W : WX) (sts : List Stmt) (m : MS) : Prop := PSs X sts (tSc Φ X.K X.mg W m)
section
variable {X : Cx} {W : WX} {Φ : LA}
theorem rac_cons {e : Expr} {es : List Expr} {me : M D} {m : M (List D)} (ha : REc Φ X W e me) (hr : RA X W es m) (hs : starEach (e :: es) X.env = (false, eval e X.env) :: starEach es X.env := by rfl) : RAc Φ X W (e :: es) (mCons me m) := by
  refine pa_imp (pa_cons ha hr hs) fun σ H Q h => ?_
  obtain ⟨c, ε, h, r', h', hK, hm, rfl, sr, er, e, px, go, la⟩ := h
  unfold tCons
  refine tXc.bind hK hm sr er e px la fun x h1 c1 b e1 l1 s1 r1 => ?_
  refine tX.bind (l1.K.trans hK) (l1.mg.trans hm) s1 (er.le l1) e1 (px.le l1) fun xs h2 c2 ys e2 l2 s2 r2 => ?_
  cases e2
  exact go _ rfl c2 _ (l1.trans l2) s2 (.cons (r1.le l2) r2)
theorem callPc_of {K : PySem.W.Frag} {mg : Str → Option Value} {n : Nat} {F : PF} {a : M (List D)} {σ : L2.St} {H : Hp} {Q : VK} (hn : ArN n a) (h : tXc Φ Rep K mg W (mCallP F a) σ H Q) :
    tCallSD (SpP K mg n F) [] (fun σ cls d H' => W cls d σ H') (tXc Φ Reps K mg W a) σ H Q := by
  obtain ⟨c, ε, h, r, h', hK, hm, rfl, sr, er, e, px, go, la⟩ := h
  unfold tCallSD
  cases q : a ε h with
  | none => rw [mCallP, q] at e; cases e
  | some z =>
    obtain ⟨ra, h1⟩ := z
    rw [mCallP, q] at e
    cases ra with
    | ex x =>
      cases e
      exact ⟨c, ε, h, .ex x, _, hK, hm, rfl, sr, er, q, fun y ey => px y (by cases ey; rfl), fun a' ea => (nomatch ea), la⟩
    | ok ds =>
      refine ⟨c, ε, h, .ok ds, h1, hK, hm, rfl, sr, er, q, Px.ok, fun ds' eds c1 vs l1 s1 r1 => ?_, la⟩
      cases eds
      have e' : (if noRef.go ds = true then (F ds).map fun r => (r, h1) else none) = some (r, h') := e
      by_cases hc : noRef.go ds = true
      · rw [if_pos hc] at e'
        cases q2 : F ds with
        | none => rw [q2] at e'; cases e'
        | some r2 =>
          rw [q2] at e'
          cases e'
          rw [List.append_nil]
          have hK1 := l1.K.trans hK
          have hm1 := l1.mg.trans hm
          -- the callee's view: our cells are not to be touched
          have r1' : Reps (c1.bare fun a => c1.B a ∨ a ∈ c1.ρ) ds vs := r1.bare (fun _ z => z) hc
          have back : ∀ c', (c1.bare fun a => c1.B a ∨ a ∈ c1.ρ).Le c' → c1.Le { c' with ρ := c1.ρ, B := c1.B } ∧ SR { c' with ρ := c1.ρ, B := c1.B } h' := fun c' l => by
            have l2 : c1.Le { c' with ρ := c1.ρ, B := c1.B } := ⟨l.K, l.mg, fun _ h => h, fun _ h => .inl h, l.dom, fun _ _ h => h, fun a o e t n => ⟨(l.keep a o e t List.not_mem_nil).1, n⟩, l.tup, l.frz⟩
            refine ⟨l2, s1.len, s1.nd, fun n a k e1 e2 => ?_, s1.nb, fun a hb => ?_⟩
            · have cr := s1.cells n a k e1 e2
              obtain ⟨o, eo⟩ := cr.ex
              refine cr.le l2 ?_
              have nt : ∀ ps, o ≠ .tbl ps := fun ps z => by
                subst z
                cases k with
                | lst ds => obtain ⟨xs, h1, _⟩ := cr; rw [eo] at h1; cases h1
                | dic t kvs => obtain ⟨o', zs, h1, h3, _⟩ := cr; rw [eo] at h1; cases h1; exact h3.tbl _ rfl
                | obj C fs => obtain ⟨_, _, _, _, h1, _⟩ := cr; rw [eo] at h1; cases h1
              exact (l.keep a o eo nt List.not_mem_nil).1.trans eo.symm
            · obtain ⟨o, eo⟩ := s1.bt a hb
              exact l.dom a o eo
          refine ⟨c1.bare fun a => c1.B a ∨ a ∈ c1.ρ, ds, r, hK1, hm1, rfl, rfl, fun a z => ?_, r1', hn _ _ _ _ q, q2, fun d ed c' v l hρ rd => ?_, fun x ex c' cls dx l hρ xr => ?_⟩
          · rcases z with z | z
            · exact s1.bt a z
            · exact s1.ex z
          · obtain ⟨l2, s2⟩ := back c' l
            refine go d ed { c' with ρ := c1.ρ, B := c1.B } v (l1.trans l2) s2 ?_
            exact Rep.unbare (fun a ha => l.B a (.inr ha)) (fun a ha => l.B a (.inl ha)) hρ rd
          · obtain ⟨l2, s2⟩ := back c' l
            refine px x ex { c' with ρ := c1.ρ, B := c1.B } cls dx (l1.trans l2) s2 ?_
            obtain ⟨Ca, d, us, h1, h2, h3, h4, h5, h6⟩ := xr
            exact ⟨Ca, d, us, h1, h2, h3, h4, ⟨fun z => h5.1 (l.B _ (.inl z)), fun z => h5.1 (l.B _ (.inr z))⟩, RepF.unbare (fun a ha => l.B a (.inr ha)) (fun a ha => l.B a (.inl ha)) hρ h6⟩
      · rw [if_neg hc] at e'; cases e'
theorem rec_callP {x : Str} {p pos : Pos} {e : Expr} {es : List Expr} {k j n : Nat} {F : PF} {ma : M (List D)} (G : FnP X.prog X.w X.K X.mg X.base x k n F) (hr : Room j X.A) (tk : Takes X W) (ha : RAc Φ X W (e :: es) ma) (hk : k ≤ j := by decide)
    (hn : ArN n ma := by repeat (first | exact ar_nil | refine ar_cons ?_)) (hg : Gl X x := by rfl)
    (hdb : (x == ("__debug__" : Str)) = false := by decide) (he : starEach (e :: es) X.env = (false, eval e X.env) :: starEach es X.env := by rfl) (hpl : (backTo pos (starEach es X.env)).any (·.1) = false := by rfl) :
    REc Φ X W (.Call (.Name x p) (e :: es) [] pos) (mCallP F ma) := by
  obtain ⟨f, fd, ps, hm, hkp, hb, hl, F⟩ := G.ex
  exact pe_imp (pe_callSD F (hr.mono hk) hg hm hkp hb .nil (fun σ => passAt tk σ) ha hdb he hpl) fun σ H Q h => callPc_of hn h
theorem rtc_val {e : Expr} {m : M D} (h : REc Φ X W e m) (he : ∀ whole, isTrue e X.env whole = (do let v ← whole; standAt e.pos; holding [v] (truthy v)) := by intro _; rfl) : RTc Φ X W e (mTst m) := by
  refine pt_imp (pt_val h he) fun σ H Q h => ?_
  obtain ⟨c, ε, h, r', h', hK, hm, rfl, sr, er, e, px, go, la⟩ := h
  refine tXc.bind hK hm sr er e px la fun dx h1 c1 x e1 l1 s1 r1 => ?_
  cases r1 with
  | bl b => cases e1; exact ⟨b, rfl, go b rfl c1 b l1 s1 rfl⟩
  | _ => cases e1
theorem rtc_not {a : Expr} {ma : M Bool} {pos : Pos} (ha : RTc Φ X W a ma) : RTc Φ X W (.UnaryOp .Not a pos) (mNot ma) := by
  refine pt_imp (pt_not ha) fun σ H Q h => ?_
  obtain ⟨c, ε, h, r', h', hK, hm, rfl, sr, er, e, px, go, la⟩ := h
  unfold tNot
  refine tXc.bind hK hm sr er e px la fun x h1 c1 b e1 l1 s1 r1 => ?_
  cases e1
  subst r1
  exact go _ rfl c1 _ l1 s1 rfl
theorem rsc_if {t : Expr} {a b : List Stmt} {mt : M Bool} {ma mb : MS} {pos : Pos} (ht : RTc Φ X W t mt) (ha : RSs X W a ma) (hb : RSs X W b mb) : RStc Φ X W (.If t a b pos) (msIf mt ma mb) := by
  refine ps_imp (ps_if ht ha hb) fun D σ H h => ?_
  obtain ⟨c, ε, h, r, h', hK, hm, rfl, sr, er, e, fin, la⟩ := h
  unfold tIfS
  refine tXc.stm hK hm sr er e fin la fun k h1 c1 v e1 l1 s1 r1 => ?_
  subst r1
  cases k with
  | true => exact ⟨c1, ε, h1, r, h', l1.K.trans hK, l1.mg.trans hm, rfl, s1, er.le l1, e1, fin.le l1⟩
  | false => exact ⟨c1, ε, h1, r, h', l1.K.trans hK, l1.mg.trans hm, rfl, s1, er.le l1, e1, fin.le l1⟩
theorem rssc_one {st : Stmt} {m : MS} (h : RStc Φ X W st m) : RSsc Φ X W [st] m := pss_one h
end
theorem EnvR.unset {c : RC} {ε : Ev} {σ : L2.St} (r : EnvR c ε σ) (i : Nat) (v : Option V) : EnvR c (ε.set i none) (σ.set i v) := by
  refine ⟨by rw [List.length_set, List.length_set]; exact r.len, fun j e h => ?_⟩
  by_cases hj : i = j
  · subst hj
    by_cases hl : i < ε.length
    · rw [List.getElem?_set_self hl] at h; cases h
    · rw [List.getElem?_eq_none (by rw [List.length_set]; omega)] at h; cases h
  · rw [List.getElem?_set_ne hj] at h
    obtain ⟨w, h1, h2⟩ := r.at_ j e h
    exact ⟨w, by rw [List.getElem?_set_ne hj]; exact h1, h2⟩
/-- x forgotten, then on -/
def msLams (ix n : Nat) (m : MS) : MS := fun ε h => if (decide (ix < ε.length) && decide (n ≤ sizeLine)) = true then m (ε.set ix none) h else none
section
variable {X : Cx} {W : WX}
theorem rss_lams (ix : Nat) {x : Str} {es : List Expr} {ps : List (Nat × List Nat)} {rest : List Stmt} {m : MS} {pos pos' lpos : Pos} (hN : X.N.Nodup) (LX : LamsX X es ps) (hrest : RSsc (LAt X ix ps) X W rest m) (hi : X.N[ix]? = some x := by rfl) (hx : Loc X.env.scope x := by first | exact Or.inl rfl | exact Or.inr rfl)
    (hs : swapsWith (.List es lpos) (some (.Name x pos')) pos.line X.env = pure false := by rfl) (hf : X.fn x = true ∨ X.env.scope.names.lookup x = some .local := by first | exact .inl rfl | exact .inr rfl | assumption) :
    RSs X W (.Assign [.Name x pos'] (.List es lpos) pos :: rest) (msLams ix ps.length m) := by
  refine pss_imp (pss_cons (ps_set hN hi hx (pe_lst (pa_lams LX)) hs hf) hrest) fun D σ H h => ?_
  obtain ⟨c, ε, h, r, h', hK, hm, rfl, sr, er, e, fin⟩ := h
  unfold msLams at e
  by_cases q : (decide (ix < ε.length) && decide (ps.length ≤ sizeLine)) = true
  · rw [if_pos q] at e
    rw [Bool.and_eq_true, decide_eq_true_eq, decide_eq_true_eq] at q
    refine ⟨hm.t trivial, fun vs H1 md la => ⟨by rw [la.length]; exact q.2, fun a na => ?_⟩⟩
    obtain ⟨l1, s1⟩ := sr.made md
    obtain ⟨l2, s2, f2⟩ := s1.new (o := .lst vs) na
    refine ⟨RC.put { c with H := H1 } a (.lst vs), ε.set ix none, h, r, h', hK, (l1.trans l2).mg.trans hm, rfl, s2, (er.le (l1.trans l2)).unset ix _, e, fin.le (l1.trans l2), a, vs, ?_, upd_same, f2, la.ext (ExtN.of (upd_new na))⟩
    exact List.getElem?_set_self (by rw [← er.len]; exact q.1)
  · rw [if_neg q] at e; cases e
/-- G(x) -/
theorem rec_G (ix : Nat) {x y : Str} {p p2 pos : Pos} {ps : List (Nat × List Nat)} {k j : Nat} {F : PF} (G : FnP X.prog X.w X.K X.mg X.base x k 1 F) (hr : Room j X.A) (tk : Takes X W) (hfn : ∀ y, X.fn y = true) (CN : ∀ p ∈ ps, CapN X p.1 p.2) (hk : k ≤ j := by decide) (hN : X.N[ix]? = some y := by rfl)
    (hv : Vis X.env.scope y := by first | exact Or.inl rfl | exact Or.inr (Or.inl rfl) | exact Or.inr (Or.inr rfl)) (hg : Gl X x := by rfl) (hdb : (x == ("__debug__" : Str)) = false := by decide) (hd : (y == ("__debug__" : Str)) = false := by decide) (hcd : (y == ("__classdict__" : Str)) = false := by decide) :
    REc (LAt X ix ps) X W (.Call (.Name x p) [.Name y p2] [] pos) (mLamsG F ps) := by
  refine pe_imp (pe_lamG G hr tk hfn (pe_var hN hv hd hcd) hk hg hdb rfl rfl) fun σ H Q h => ?_
  obtain ⟨c, ε, h, r', h', hK, hm, rfl, sr, er, e, px, go, a, vs, hσ, ha, fa, la⟩ := h
  unfold mLamsG at e
  cases q : capsL ε ps with
  | none => rw [q] at e; cases e
  | some ds =>
    rw [q] at e
    have e : (if (noRef.go ds && decide (ds.length ≤ sizeLine)) = true then finG (F [.lst ds]) h else none) = some (r', h') := e
    by_cases nr : (noRef.go ds && decide (ds.length ≤ sizeLine)) = true
    · rw [if_pos nr] at e
      rw [Bool.and_eq_true, decide_eq_true_eq] at nr
      obtain ⟨e1, rfl, pl⟩ := finG_some e
      exact ⟨.ref a, hσ, .ref a, rfl, c, ε, h', .lst ds, r', hK, hm, rfl, sr, er, .lst ha fa (ones_of CN la q), by rw [noRef]; exact nr.1, e1, pl, go, px⟩
    · rw [if_neg nr] at e; cases e
end
end PD
namespace PD
open PySem PySem.Spec PyProof.Rows L2 PX
variable [LamTab]
/-- the class C: caught by the tuple, its fields are its own -/
structure TryC (K : PySem.W.Frag) (mg : Str → Option Value) (cs : List Value) (chain : List (Str × Str)) (C : Str) : Prop where
  ex : ∃ Ca, mg C = some (.ref Ca) ∧ PySem.W.exmAny K (.ref Ca) cs = some true ∧ FldC K Ca chain
def chainD : List (List Nat × Str) → List Nat → List (Str × D) → Option D
  | [], _, _ => some (.tup [])
  | (x, f) :: r, cs, fs => if cs = x then (fs.lookup f).map fun d => .tup [d] else chainD r cs fs
def chainL (chain : List (Str × Str)) : List (List Nat × Str) := chain.map fun p => (p.1.cps.toList, p.2)
def tryEnd (CL : List Str) (ch : List (List Nat × Str)) (i : Nat) (x : Ex) (ε : Ev) (h : EH) : Option (RS × EH) :=
  if (CL.contains x.cls && decide (i < ε.length)) = true then match x.fs.lookup ("code" : Str) with
    | some (.str cs) => (chainD ch cs x.fs).map fun d => (.rt (.tup [.str cs, d]), h)
    | _ => none
  else none
def msTryT (CL : List Str) (ch : List (List Nat × Str)) (i : Nat) (mb : MS) : MS := fun ε h => match mb ε h with
  | some (.rt d, h1) => some (.rt d, h1)
  | some (.ex x ε1, h1) => tryEnd CL ch i x ε1 h1
  | _ => none
/-- what the chain gives -/
theorem fldchain_of {c : RC} {h : EH} {fs : List (Str × D)} {vs : List (Str × V)} {cs : List Nat} {Q : VK} (rf : RepF c fs vs) (sr : SR c h) : ∀ {chain : List (Str × Str)} {d : D}, chainD (chainL chain) cs fs = some d →
    (∀ c' v, c.Le c' → SR c' h → Rep c' d v → Q v c'.H) → chainQ chain (⟨cs.toArray⟩ : Str) vs c.H Q
  | [], d, e, go => by
    cases e
    intro t nt
    obtain ⟨l, s, f⟩ := sr.new (o := .tup []) nt
    exact go _ _ l s (.tup (.inl (.inl upd_same)) .nil)
  | (x, f) :: r, d, e, go => by
    have e : (if cs = x.cps.toList then (fs.lookup f).map fun d => D.tup [d] else chainD (chainL r) cs fs) = some d := e
    unfold chainQ
    by_cases q : cs = x.cps.toList
    · rw [if_pos q] at e
      rw [if_pos (by subst q; rfl)]
      cases q2 : fs.lookup f with
      | none => rw [q2] at e; cases e
      | some d0 =>
        rw [q2] at e
        cases e
        obtain ⟨v, h1, h2⟩ := rf.look q2
        refine ⟨v, h1, fun t nt => ?_⟩
        obtain ⟨l, s, f⟩ := sr.new (o := .tup [v]) nt
        exact go _ _ l s (.tup (.inl (.inl upd_same)) (.cons (h2.le l) .nil))
    · rw [if_neg q] at e
      rw [if_neg (by rintro rfl; exact q rfl)]
      exact fldchain_of rf sr e go
theorem chainQ_mono {cs : Str} {vs : List (Str × V)} {H : Hp} {Q Q' : VK} : ∀ {chain : List (Str × Str)}, chainQ chain cs vs H Q → (∀ v H, Q v H → Q' v H) → chainQ chain cs vs H Q'
  | [], h, k => fun t n => k _ _ (h t n)
  | (x, f) :: r, h, k => by
    unfold chainQ at h ⊢
    by_cases q : cs = x
    · rw [if_pos q] at h ⊢
      obtain ⟨v, h1, h2⟩ := h
      exact ⟨v, h1, fun t n => k _ _ (h2 t n)⟩
    · rw [if_neg q] at h ⊢
      exact chainQ_mono h k
section
variable {X : Cx} {W : WX}
theorem rs_tryT (i : Nat) {x1 x2 x3 n g : Str} {c1 c2 c3 : Value} {kk k2 kf : Nat} {body : List Stmt} {q1 q2 q3 tp pos pos' p1 p2 p3 p4 p5 p6 p7 : Pos} {CL : List Str} {chain : List (Str × Str)} {mb : MS} {fG : Addr} (hs : X.stack = X.env :: X.outer) (hf : X.env.frame = some X.env.locals) (hN : X.N.Nodup) (h1 : Names X x1 c1) (h2 : Names X x2 c2) (h3 : Names X x3 c3)
    (hC : ∀ C ∈ CL, TryC X.K X.mg [c1, c2, c3] chain C) (GF : FldOk X.prog X.w X.K X.mg X.base kf fG chain) (hmG : X.mg g = some (.ref fG)) (hkG : PySem.W.keepIn X.K (.ref fG) = true) (hr : Room kf X.A)
    (hb : ∀ (W : WX) (pn : List (Addr × Obj)) (xe : Value → Shared → Prop), Takes (X.tr pn xe) W → PassesOwn (model X.prog X.w) X.A X.env xe → RSs (X.tr pn xe) W body mb)
    (hi : X.N[i]? = some n := by rfl) (hln : X.env.kindOf n = some .local := by rfl) (hgG : Gl X g := by rfl) (hdn : (n == ("__debug__" : Str)) = false := by decide) (hcn : (n == ("__classdict__" : Str)) = false := by decide) (hdg : (g == ("__debug__" : Str)) = false := by decide) :
    RSt X W (.Try body [.ExceptHandler (some (.Tuple [.Name x1 q1, .Name x2 q2, .Name x3 q3] kk tp)) (some n) [.Return (some (.Tuple [.Attribute (.Name n p1) "code" p2, .Call (.Name g p3) [.Name n p4] [] p5] k2 p6)) p7] pos'] [] [] pos) (msTryT CL (chainL chain) i mb) := by
  have hv : Vis X.env.scope n := .inl hln
  refine ps_imp (ps_try3 (X := X) (c1 := c1) (c2 := c2) (c3 := c3) (i := i) (tb := fun W => tS X.K X.mg W mb)
    (ts := fun a cls d D σ H => ∃ (C d' : Addr), cls = .ref C ∧ d = some d' ∧ FldC X.K C chain ∧ σ[i]? = some (some (.ref a)) ∧ ∃ (fs : List (Str × V)) (cs : Str), H d' = some (.xd fs) ∧ fs.lookup ("code" : Str) = some (.str cs) ∧
      chainQ chain cs fs H fun v H1 => ∀ p, H1 p = none → D.rt (.ref p) (upd H1 p (.tup [.str cs, v])))
    hs hf hN hi hln h1 h2 h3 hb (fun a oe cls d pn hz hfs => ?_)) fun D σ H h => ?_
  · refine ⟨fun pins s σ H D I h => ?_⟩
    obtain ⟨C, d', rfl, rfl, FC, hσ, fs, cs, e1, e2, hq⟩ := h
    have hpf := pe_pfld (X := X.suite a ((a, oe) :: pn)) (p := (a, oe)) (pos := p2) (n := "code") List.mem_cons_self FC.xf FC.code hz hfs (pe_var (X := X.suite a ((a, oe) :: pn)) (pos := p1) (i := i) hi hv hdn hcn) rfl
    have hfc := pe_fldcall (X := X) (a := a) (pn := pn) (q1 := p3) (q2 := p4) (pos := p5) GF hr hgG hmG hkG hz hfs FC hi hv hdn hcn hdg
    refine (pss_one (ps_ret (pos := p7) (pe_tup (x1 := k2) (pos := p6) (pa_cons hpf (pa_cons hfc pa_nil rfl) rfl)))).run pins s σ H D I ?_
    refine ⟨.ref a, hσ, rfl, fs, .str cs, e1, e2, hσ, fs, cs, e1, e2, ?_⟩
    exact chainQ_mono hq fun v H1 k => ⟨by show 2 ≤ sizeLine; rw [sizeLine_eq]; omega, k⟩
  · obtain ⟨c, ε, h, r, h', hK, hm, rfl, sr, er, e, fin⟩ := h
    unfold msTryT at e
    cases q : mb ε h with
    | none => rw [q] at e; cases e
    | some z =>
      obtain ⟨r1, h1'⟩ := z
      rw [q] at e
      refine ⟨c, ε, h, r1, h1', hK, hm, rfl, sr, er, q, ?_⟩
      cases r1 with
      | rt d => cases e; exact fin
      | nx ε1 => cases e
      | bk ε1 => cases e
      | ct ε1 => cases e
      | ex x ε1 =>
        have e : tryEnd CL (chainL chain) i x ε1 h1' = some (r, h') := e
        unfold tryEnd at e
        by_cases hc : (CL.contains x.cls && decide (i < ε1.length)) = true
        · rw [if_pos hc] at e
          rw [Bool.and_eq_true, decide_eq_true_eq] at hc
          cases q2 : x.fs.lookup ("code" : Str) with
          | none => rw [q2] at e; cases e
          | some dc =>
            rw [q2] at e
            cases dc with
            | str cs =>
              have e : ((chainD (chainL chain) cs x.fs).map fun d => (RS.rt (.tup [.str cs, d]), h1')) = some (r, h') := e
              cases q3 : chainD (chainL chain) cs x.fs with
              | none => rw [q3] at e; cases e
              | some dd =>
                rw [q3] at e
                cases e
                intro c' σ' cls dx l s en xr
                obtain ⟨Ca, d, vs, rfl, e2, rfl, e4, e5, e6⟩ := xr
                obtain ⟨Ca', m1, m2, FC⟩ := (hC x.cls (List.contains_iff_mem.mp hc.1)).ex
                have : Ca' = Ca := by
                  have e2' : X.mg x.cls = some (.ref Ca) := by rw [← (l.mg.trans hm).mge]; exact e2
                  rw [m1] at e2'
                  cases e2'
                  rfl
                subst this
                refine ⟨m2, fun a na => ⟨Ca', d, rfl, rfl, FC, List.getElem?_set_self (by rw [← en.len]; exact hc.2), vs, ⟨cs.toArray⟩, e4, ?_, ?_⟩⟩
                · obtain ⟨v, g1, g2⟩ := e6.look q2
                  cases g2
                  exact g1
                · refine fldchain_of e6 s q3 fun c2 v l2 s2 rv p np => ?_
                  obtain ⟨l3, s3, f3⟩ := s2.new (o := .tup [.str ⟨cs.toArray⟩, v]) np
                  exact fin _ _ ((l.trans l2).trans l3) s3 (.tup (.inl (.inl upd_same)) (.cons (.str cs) (.cons (rv.le l3) .nil)))
            | _ => cases e
        · rw [if_neg hc] at e; cases e
end
end PD
namespace PD
open PySem PySem.Spec PyProof.Rows L2 PX
theorem oexB_ok {K : PySem.W.Frag} {C : Addr} (h : oexB K C = true) : OexC K C := by
  unfold oexB at h
  obtain ⟨h1, h⟩ := Bool.and_eq_true_iff.mp h
  obtain ⟨h2, h⟩ := Bool.and_eq_true_iff.mp h
  obtain ⟨h3, h⟩ := Bool.and_eq_true_iff.mp h
  obtain ⟨h4, h5⟩ := Bool.and_eq_true_iff.mp h
  refine ⟨?_, of_decide_eq_true h2, of_decide_eq_true h3, of_decide_eq_true h4, h5⟩
  cases q : K.lookup C with
  | none => rw [q] at h1; cases h1
  | some o =>
    obtain ⟨oc, od, dt, sl⟩ := o
    rw [q] at h1
    cases oc with
    | type t =>
      cases dt with
      | cls cd =>
        obtain ⟨g1, g⟩ := Bool.and_eq_true_iff.mp h1
        have g1 := of_decide_eq_true g1
        subst g1
        obtain ⟨nm, bs, mro, ns, qn, hdct, sn, sub, ab, col, hdel⟩ := cd
        obtain ⟨sl⟩ := sl
        match mro, sl, g with
        | .ref C' :: bm, [k0, k1, k2, k3, some (.builtin n), k5], g =>
          obtain ⟨a1, a⟩ := Bool.and_eq_true_iff.mp g
          obtain ⟨a2, a⟩ := Bool.and_eq_true_iff.mp a
          obtain ⟨a3, a⟩ := Bool.and_eq_true_iff.mp a
          obtain ⟨a4, a5⟩ := Bool.and_eq_true_iff.mp a
          have a1 := of_decide_eq_true a1
          have a2 := of_decide_eq_true a2
          have a3 : (!hdel) = true := a3
          have a4 : hdct = true := a4
          subst a1 a2 a4
          have a3 : hdel = false := by simpa using a3
          subst a3
          exact ⟨nm, qn, ns, bs, bm, sn, sub, ab, col, od, k0, k1, k2, k3, k5, rfl, a5⟩
      | _ => cases h1
    | _ => cases h1
theorem overB_ok {K : PySem.W.Frag} {T C : Addr} (h : overB K T C = true) : OverT K T C := by
  unfold overB at h
  obtain ⟨h1, h⟩ := Bool.and_eq_true_iff.mp h
  obtain ⟨h2, h⟩ := Bool.and_eq_true_iff.mp h
  obtain ⟨h3, h⟩ := Bool.and_eq_true_iff.mp h
  obtain ⟨h4, h5⟩ := Bool.and_eq_true_iff.mp h
  exact ⟨oexB_ok h1, of_decide_eq_true h2, of_decide_eq_true h3, of_decide_eq_true h4, of_decide_eq_true h5⟩
theorem clsfnB_ok {K : PySem.W.Frag} {T : Addr} (h : clsvB K T = true) : ClsFn K T "__init__" (He.ma K T "__init__") := by
  unfold clsvB at h
  obtain ⟨h1, h⟩ := Bool.and_eq_true_iff.mp h
  obtain ⟨h2, h⟩ := Bool.and_eq_true_iff.mp h
  obtain ⟨h3, h⟩ := Bool.and_eq_true_iff.mp h
  obtain ⟨h4, h5⟩ := Bool.and_eq_true_iff.mp h
  refine ⟨h1, of_decide_eq_true h2, ?_, of_decide_eq_true h4, h5⟩
  split at h3
  · rename_i f e
    rw [e, of_decide_eq_true h3]
  · cases h3
/-- the text of an __init__ that says super() -/
structure SupT (P : Program) (d : SupD) : Prop where
  body : supBody d.body
  self : ∃ ar, (d.params.posonlyargs ++ d.params.args).head? = some ar ∧ ar.arg = "self"
  cell : ∀ x ∈ d.scope.names, x.2 ≠ .cell
  free : ∀ x ∈ d.scope.names, x.2 = .free → x.1 = "__class__"
  l1 : d.scope.names.lookup ("super" : Str) = some .globalImplicit
  l2 : d.scope.names.lookup ("__class__" : Str) = some .free
  l3 : d.scope.names.lookup ("self" : Str) = some .local
  l4 : d.scope.names.lookup ("code" : Str) = some .local
  kind : d.scope.kind = .function
  co : d.scope.isCoroutine = false
  gen : d.scope.isGenerator = false
  top : (P.main.scope.names.lookup ("super" : Str)).isSome = false
  bind : ∀ (doc pm : Value) (an : Option Addr) (cdv ct : Value) (cc : Addr) (us : List Value), us.length = 2 → bindArgs (PySem.W.ksFn "__init__" d.qual d.params d.body d.scope .none .none doc pm an cdv ct cc) ⟨us, []⟩ = pure ((["self", "code"] : List Str).zip us)
theorem sup_of {P : Program} {K : PySem.W.Frag} {d : SupD} (h : supB K P.main.file d = true) (e : fnC K (d.at_ K) = d.val) (T : SupT P d) : ∃ fd, SupI P K (He.ga K d.C) (d.at_ K) fd ∧ Binds K fd ["self", "code"] [] := by
  unfold supB at h
  obtain ⟨h1, h⟩ := Bool.and_eq_true_iff.mp h
  obtain ⟨h2, h⟩ := Bool.and_eq_true_iff.mp h
  obtain ⟨h3, h4⟩ := Bool.and_eq_true_iff.mp h
  unfold fnC at e
  cases q : K.lookup (d.at_ K) with
  | none => rw [q] at h1; cases h1
  | some o =>
    obtain ⟨oc, od, dt, osl⟩ := o
    rw [q] at h1 e
    cases dt with
    | func fd =>
      obtain ⟨n1, n2, n3, n4, n5, n6, n7, n8, n9, n10, n11, n12, n13, n14, n15⟩ := fd
      have e2 : ((some (n1, n2, n3, n4, n5, n6, n7.map (·.1), n15) : FnC) = (some (("__init__" : Str), d.qual, d.params, .stmts d.body, d.scope, mainGlobals, [("__class__" : Str)], builtinsNs) : FnC)) := e
      simp only [Option.some.injEq, Prod.mk.injEq] at e2
      obtain ⟨e2a, e2b, e2c, e2d, e2e, e2f, e2g, e2h⟩ := e2
      subst e2a e2b e2c e2d e2e e2f e2h
      obtain ⟨g1, g⟩ := Bool.and_eq_true_iff.mp h1
      obtain ⟨g2, g3⟩ := Bool.and_eq_true_iff.mp g
      match n7, e2g, g2 with
      | [(y, cc)], e2g, g2 =>
        have ey : y = "__class__" := by simpa using e2g
        subst ey
        have g2 : (match K.lookup cc with
          | some ⟨_, _, .cell (some (.ref T)), _⟩ => decide (T = He.ga K d.C)
          | _ => false) = true := g2
        obtain ⟨oc3, od3, sl3, hcc⟩ : ∃ oc3 od3 sl3, K.lookup cc = some ⟨oc3, od3, .cell (some (.ref (He.ga K d.C))), sl3⟩ := by
          cases qc : K.lookup cc with
          | none => rw [qc] at g2; cases g2
          | some o =>
            obtain ⟨a1, a2, a3, a4⟩ := o
            rw [qc] at g2
            cases a3 with
            | cell v =>
              cases v with
              | none => cases g2
              | some v =>
                cases v with
                | ref T' =>
                  have g2 : decide (T' = He.ga K d.C) = true := g2
                  rw [of_decide_eq_true g2]
                  exact ⟨_, _, _, rfl⟩
                | _ => cases g2
            | _ => cases g2
        have hnn : n8 = .none ∧ n9 = .none := by
          clear e h1 g g1 g2 q
          cases n8 <;> first | (cases n9 <;> first | exact ⟨rfl, rfl⟩ | cases g3) | cases g3
        obtain ⟨rfl, rfl⟩ := hnn
        cases n13 with
        | ref cda =>
          have g1 : (PySem.W.codeIn K (.ref cda) d.qual && (match K.lookup cda with
            | some ⟨_, _, .fields vs, _⟩ => (match (vs[2]? : Option Value) with
              | some (.str file _) => P.main.file == file
              | _ => false)
            | _ => false)) = true := g1
          obtain ⟨b1, b2⟩ := Bool.and_eq_true_iff.mp g1
          obtain ⟨ar, ha1, ha2⟩ := T.self
          obtain ⟨oc2, od2, vs2, sl2, file, tf, hcda, hvs, hfile⟩ : ∃ oc2 od2 vs2 sl2 file tf, K.lookup cda = some ⟨oc2, od2, .fields vs2, sl2⟩ ∧ (vs2[2]? : Option Value) = some (.str file tf) ∧ ((P.main.file : Str) == file) = true := by
            cases qc : K.lookup cda with
            | none => rw [qc] at b2; cases b2
            | some o =>
              obtain ⟨a1, a2, a3, a4⟩ := o
              rw [qc] at b2
              cases a3 with
              | fields vs =>
                have b2 : (match (vs[2]? : Option Value) with
                  | some (.str file _) => P.main.file == file
                  | _ => false) = true := b2
                split at b2
                · rename_i file tf e
                  exact ⟨_, _, vs, _, file, tf, rfl, e, b2⟩
                · cases b2
              | _ => cases b2
          obtain ⟨cd, hcd⟩ := Option.isSome_iff_exists.mp h2
          exact ⟨_, ⟨⟨d.qual, d.params, ar, d.body, d.scope, oc, od, .none, .none, n10, n11, n12, cda, cc, n14, osl, rfl, T.body, q, b1, ha1, ha2, ⟨oc2, od2, vs2, sl2, file, tf, hcda, hvs, hfile⟩, ⟨oc3, od3, sl3, hcc⟩, T.cell, T.free, T.l1, T.l2, T.l3, T.l4, T.kind, T.co, T.gen⟩, ⟨cd, hcd⟩, of_decide_eq_true h3, T.top, of_decide_eq_true h4⟩, Binds.all fun us hl => T.bind n10 n11 n12 (.ref cda) n14 cc us hl⟩
        | _ => cases g1
    | _ => cases h1
section
variable {P : Program} {w : World} {K : PySem.W.Frag} {mg : Str → Option Value} {base : Heap}
theorem topI_of {d : SupD} (hm : mg d.C = some (.ref (He.ga K d.C))) (h : supB K P.main.file d = true) (e : fnC K (d.at_ K) = d.val) (T : SupT P d) (c : clsvB K (He.ga K d.C) = true) : TopI P w K mg base (L2.CX P w) d.C (He.ga K d.C) := by
  obtain ⟨fd, S, b⟩ := sup_of h e T
  exact ⟨_, fd, hm, clsfnB_ok c, sup_init S, b⟩
theorem excC_of0 [LamTab] {C x code qual : Str} {params : Arguments} {body : List Stmt} {scope : Scope} {fd : FuncData} (hm : mg C = some (.ref (He.ga K C))) (ov : overB K (He.ga K x) (He.ga K C) = true) (ib : initB K (He.ga K C) = true) (G : TopI P w K mg base (L2.CX P w) x (He.ga K x))
    (Fd : FunD K "__init__" qual params body scope [] [] (He.ma K (He.ga K C) "__init__") fd) (S : FnScope ["self"] ["self"] scope) (hb : xBody0 x code body) (bi : Binds K fd ["self"] []) (hg : scope.names.lookup x = some .globalImplicit := by rfl) (hdb : (x == ("__debug__" : Str)) = false := by decide)
    (hs : scope.names.lookup ("self" : Str) = some .local := by rfl) : ExcC P w K mg base C none code := by
  obtain ⟨i1, i2⟩ := Bool.and_eq_true_iff.mp ib
  exact ⟨_, _, _, fd, "", hm, overB_ok ov, of_decide_eq_true i1, of_decide_eq_true i2, exc_init0 Fd S hb hg hdb hs G, bi⟩
theorem excC_of1 [LamTab] {C x code f prm qual : Str} {params : Arguments} {body : List Stmt} {scope : Scope} {fd : FuncData} (hm : mg C = some (.ref (He.ga K C))) (ov : overB K (He.ga K x) (He.ga K C) = true) (ib : initB K (He.ga K C) = true) (nb : noB K (He.ga K C) f = true) (G : TopI P w K mg base (L2.CX P w) x (He.ga K x))
    (Fd : FunD K "__init__" qual params body scope [] [] (He.ma K (He.ga K C) "__init__") fd) (S : FnScope ["self", prm] ["self", prm] scope) (hb : xBody1 x code f prm body) (bi : Binds K fd ["self", prm] []) (hg : scope.names.lookup x = some .globalImplicit := by rfl) (hdb : (x == ("__debug__" : Str)) = false := by decide)
    (hs : scope.names.lookup ("self" : Str) = some .local := by rfl) (hp : scope.names.lookup prm = some .local := by rfl) (hpd : (prm == ("__debug__" : Str)) = false := by decide) (hpc : (prm == ("__classdict__" : Str)) = false := by decide) : ExcC P w K mg base C (some f) code := by
  obtain ⟨i1, i2⟩ := Bool.and_eq_true_iff.mp ib
  exact ⟨_, _, _, fd, prm, hm, overB_ok ov, of_decide_eq_true i1, of_decide_eq_true i2, of_decide_eq_true nb, exc_init1 Fd S hb hg hdb hs hp hpd hpc G, bi⟩
theorem tryC_of {C : Str} {xs : List Str} {chain : List (Str × Str)} (hm : mg C = some (.ref (He.ga K C))) (h : tryB K xs (chain.map (·.2)) C = true) : TryC K mg (xs.map fun x => .ref (He.ga K x)) chain C := by
  obtain ⟨h1, h⟩ := Bool.and_eq_true_iff.mp h
  obtain ⟨h2, h⟩ := Bool.and_eq_true_iff.mp h
  obtain ⟨h3, h4⟩ := Bool.and_eq_true_iff.mp h
  exact ⟨_, hm, of_decide_eq_true h1, xfB_ok h2, of_decide_eq_true h3, fun q hq => of_decide_eq_true (List.all_eq_true.mp h4 q.2 (List.mem_map_of_mem hq))⟩
end
end PD
namespace PD
open PySem PySem.Spec PyProof.Rows L2 PX LamX
theorem walk_pdT {l : PySem.W.OpenLaw} {n k : Nat} {q : Program} {loose : List Str} {XP : (Str → Option Value) → Heap → Prop} {YP : World → Heap → Prop} {d : DefRec} {x : Str} {Fl : IF} {lams : Nat → LamD}
    (hn : l.most = some n) (hn2 : n ≤ sizeLine) (hdf : d.params.defaults = []) (hr : Room k callerA)
    (F : ∀ (w : World) (mg : Str → Option Value) (fa : Addr) (h : Heap), YP w h → h.Ns mainGlobals mg → mg d.name = some (.ref fa) →
      ∃ (K : PySem.W.Frag) (fd : FuncData) (cs : List (Addr × Addr)) (T : List (Addr × Str)), K.In h ∧ (∀ p ∈ cs, h.get? p.2 = some { cls := .none, data := .fields #[] }) ∧ (∀ p ∈ cs, K.lookup p.2 = none) ∧ (∀ p ∈ cs, PySem.W.CodeHd h p.1 p.2) ∧ (∀ p ∈ T, ∃ c, (c, p.1) ∈ cs) ∧
        (∀ (s : Shared) (u : Value), BindsTo s fd ⟨[u], []⟩ [(x, u)]) ∧ ∀ base : Heap, K.In base → base.Ns mainGlobals mg → (∀ p ∈ cs, TabB base mg p.1 p.2) → FnOk l.prog w K mg base (L2.CX l.prog w) k fa fd [x] (@SpI ⟨lams, T⟩ K mg 1 Fl))
    (math : ∀ ns : List Int, ns.length ≤ n → (∀ z ∈ ns, Builtin.Int.intBits z ≤ 1048576) → (∃ h', Fl [.scr (ns.map .int)] [] = some (.ok (.bl true), h')) ∧ ∃ h', Fl [.lst (ns.map .int)] [] = some (.ok (.bl true), h')) :
    PySem.W.WalkO q loose XP YP l.row.toRowW d [] (fun f vs => PySem.call f vs) := by
  refine Att.attach_callB hn hdf fun w s₀ s₁ mg mb fa o pm cd doc a vs ns G Y ho hd hcd hmg hobj hints hlen hbits hg => ?_
  obtain ⟨K, fd, cs, T, KX, hT, nT, C, hTc, hb, hF⟩ := F w mg fa _ Y G.T.g hmg
  refine law_callTs KX G.T.g G.T.b G.T.builtins G.T.nolimit hg hT nT C G.T.bmain hobj hints (Nat.le_trans hlen hn2) hr hF hb (fun H hH hS => ?_) fun H e s' hz => ?_
  · letI : LamTab := ⟨lams, T⟩
    obtain ⟨⟨h1, e1⟩, h2, e2⟩ := math ns hlen hbits
    have tb : MgE (⟨K, mg, fun _ => False, [], H⟩ : RC) mg := ⟨rfl, fun _ p hp => by
      obtain ⟨c, hc⟩ := hTc p hp
      exact TabS.nil (hH _ hc)⟩
    have fin : ∀ (r : R D) (h' : EH) , r = .ok (.bl true) → (∀ d, r = .ok d → ∀ (c' : RC) v, Rep c' d v → v = .bl true) := fun r h' er d ed c' v rv => by
      rw [er] at ed
      cases ed
      cases rv
      rfl
    rcases hS with (hS | ⟨o, hS⟩) | hS
    · exact ⟨⟨K, mg, fun _ => False, [], H⟩, [], [.lst (ns.map .int)], .ok (.bl true), h2, rfl, tb, rfl, SR.nil rfl (fun _ z => z.elim), .cons (.lst hS ⟨fun z => z, List.not_mem_nil⟩ (reps_ints ns)) .nil, rfl, e2, fun d ed c' v l s r => fin _ h2 rfl d ed c' v r, fun e ee => nomatch ee⟩
    · exact ⟨⟨K, mg, fun _ => False, [], H⟩, [], [.scr (ns.map .int)], .ok (.bl true), h1, rfl, tb, rfl, SR.nil rfl (fun _ z => z.elim), .cons (.scr (.inl ⟨o, hS⟩) (reps_ints ns)) .nil, rfl, e1, fun d ed c' v l s r => fin _ h1 rfl d ed c' v r, fun e ee => nomatch ee⟩
    · exact ⟨⟨K, mg, fun _ => False, [], H⟩, [], [.scr (ns.map .int)], .ok (.bl true), h1, rfl, tb, rfl, SR.nil rfl (fun _ z => z.elim), .cons (.scr (.inr hS) (reps_ints ns)) .nil, rfl, e1, fun d ed c' v l s r => fin _ h1 rfl d ed c' v r, fun e ee => nomatch ee⟩
  · obtain ⟨_, _, _, _, _, _, _, _, _, _, _, _, z⟩ := hz
    exact z
end PD
namespace PD
open PySem PySem.Spec PyProof.Rows L2 PX
end PD
namespace PD
open PySem PySem.Spec PyProof.Rows L2 PX
variable [LamTab]
def dRepL (h : EH) (x y : D) : Option D := match x, y with
  | .lst ds, .int k => if 0 ≤ k ∧ k < 2 ^ 62 ∧ ds.length * k.toNat ≤ sizeLine then some (.lst (List.replicate k.toNat ds).flatten) else none
  | _, _ => none
theorem Reps.rep {c : RC} {ds : List D} {vs : List V} (r : Reps c ds vs) : ∀ m : Nat, Reps c (List.replicate m ds).flatten (List.replicate m vs).flatten
  | 0 => .nil
  | m + 1 => by
    rw [List.replicate_succ, List.replicate_succ, List.flatten_cons, List.flatten_cons]
    exact r.append (Reps.rep r m)
theorem ops_rep {K : PySem.W.Frag} {mg : Str → Option Value} : OpS K mg rRep dRepL := by
  intro c h x y dx dy d Q hK hm sr rx ry e go
  unfold dRepL at e
  cases rx with
  | @lst a ds xs k1 k2 k3 =>
    cases ry with
    | int k =>
      have e2 : (if 0 ≤ k ∧ k < 2 ^ 62 ∧ ds.length * k.toNat ≤ sizeLine then some (D.lst (List.replicate k.toNat ds).flatten) else none) = some d := e
      clear e
      by_cases hc : 0 ≤ k ∧ k < 2 ^ 62 ∧ ds.length * k.toNat ≤ sizeLine
      · rw [if_pos hc] at e2
        cases e2
        refine ⟨a, k, xs, rfl, rfl, k1, by omega, by omega, by rw [← k3.length]; exact hc.2.2, fun p np => ?_⟩
        obtain ⟨l, s, f⟩ := sr.new (o := .lst (List.replicate k.toNat xs).flatten) np
        exact go _ _ l s (.lst upd_same f ((k3.le l).rep _))
      · rw [if_neg hc] at e2; cases e2
    | _ => cases e
  | _ => cases ry <;> cases e
section
variable {X : Cx} {W : WX}
theorem re_repL {a b : Expr} {ma mb : M D} {pos : Pos} (ha : RE X W a ma) (hb : RE X W b mb) : RE X W (.BinOp a .Mult b pos) (mBin dRepL ma mb) := re_bin op_rep ops_rep ha hb
end
end PD
namespace PD
open PySem PySem.Spec PyProof.Rows L2 PX LamX
variable [LamTab]
section
variable {P : Program} {w : World} {K : PySem.W.Frag} {mg : Str → Option Value} {base : Heap}
theorem okC {x qual : Str} {params : Arguments} {body : List Stmt} {scope : Scope} {f : Addr} {fd : FuncData} {dvs : List V} {kws : List (Str × V)} {CX : CXT} {N ps : List Str} {k : Nat} {sp : Sp} {p : He.Defn} (F : FunD K x qual params body scope dvs kws f fd) (hp : f = He.fAd K p) (S : FnScope N ps scope) (len : ∀ vs H Q E, sp vs H Q E → vs.length = ps.length)
    (hbody : ∀ (cdv : Value) (A : Around) (outer : List Env) (s : Shared) (H : Hp) (vs : List V) (Q : VK) (E : XK), cdv = .ref (He.cT K p).1 → Room k (A.deeper (envOfC qual scope s.heap.objs.size f cdv)) → sp vs H Q E →
      ∃ t, PSs (cxOf CX P w K mg base N qual scope f cdv A outer s H E) body t ∧ t { nx := fun _ H' => Q .non H', rt := Q } (L2.start N vs) H) : FnOk P w K mg base CX (k + 1) f fd ps sp := by
  obtain ⟨oc, od, dV, kV, doc, pm, an, cdv, ct, osl, rfl, lk, hcd, _, _⟩ := F.ex
  obtain ⟨c, rfl⟩ := He.codeIn_ref hcd
  have e : He.codeOf K p = c := He.codeOf_eq (by rw [← hp]; exact lk) rfl
  exact fn_of lk hcd S len fun A outer s H vs Q E hr hsp => hbody (.ref c) A outer s H vs Q E (by show Value.ref c = Value.ref (He.codeOf K p); rw [e]) hr hsp
theorem fnIC {x qual : Str} {params : Arguments} {body : List Stmt} {scope : Scope} {f : Addr} {fd : FuncData} {N ps : List Str} {k : Nat} {m : MS} {dvs : List V} {kws : List (Str × V)} {p : He.Defn} (F : FunD K x qual params body scope dvs kws f fd) (hp : f = He.fAd K p) (S : FnScope N ps scope)
    (hb : ∀ (cdv : Value) (A : Around) (outer : List Env) (s : Shared) (H : Hp) (E : XK), cdv = .ref (He.cT K p).1 → Room k (A.deeper (envOfC qual scope s.heap.objs.size f cdv)) → RSs (cxOf (L2.CX P w) P w K mg base N qual scope f cdv A outer s H E) (fun cls d _ H' => E cls d H') body m) :
    FnOk P w K mg base (L2.CX P w) (k + 1) f fd ps (SpI K mg ps.length (runI N.length m)) := by
  refine okC F hp S (fun vs H Q E h => ?_) (fun cdv A outer s H vs Q E hc hr h => ⟨_, hb cdv A outer s H E hc hr, bodyI_of h⟩)
  obtain ⟨c, h, ds, r, h', _, _, _, _, rv, hn, _⟩ := h
  rw [← rv.length, hn]
theorem LamS.mono {i j k : Nat} {F : PF} (h : LamS P w K mg base j i F) (l : j ≤ k) : LamS P w K mg base k i F := by
  obtain ⟨m, e, r⟩ := h.run
  exact ⟨h.ok, m, e, fun cl f c' A outer s H E hr => r cl f c' A outer s H E (hr.mono l)⟩
end
/-- what the text of a lambda needs in the def that makes it -/
structure LamF (env : Env) (N : List Str) (l : LamD) (ks : List Nat) : Prop where
  qual : env.qual ++ "<lambda>" = l.qual
  free : ∀ y ∈ l.scope.names, y.2 = .free → ∃ c, env.cells.lookup y.1 = some c
  ck : ClOk l.caps (cloFrom env.cells l.scope.names [])
  df : (l.df = false ∧ l.params.defaults = [] ∧ l.params.kw_defaults = []) ∨ (l.df = true ∧ (∃ k p, l.params.defaults = [.Constant (.int 0) k p]) ∧ l.params.kw_defaults = [])
  names : ks.map (fun k => N[k]?) = l.caps.map some
  kind : ∀ y ∈ l.caps, env.scope.names.lookup y = some .cell ∨ env.scope.names.lookup y = some .free
  freeN : ∀ y ∈ l.caps, l.scope.names.lookup y = some .free
theorem cells_inj0 : ∀ (names : List (Str × NameKind)) (n : Nat) (acc : List (Str × Addr)), (∀ p ∈ acc, p.2 < n) → (∀ p ∈ acc, ∀ q ∈ acc, p.2 = q.2 → p.1 = q.1) → ∀ p ∈ cellsFrom n names acc, ∀ q ∈ cellsFrom n names acc, p.2 = q.2 → p.1 = q.1
  | [], n, acc, _, h2 => h2
  | (x, k) :: r, n, acc, h1, h2 => by
    unfold cellsFrom
    split
    · refine cells_inj0 r (n + 1) ((x, n) :: acc) (fun p hp => ?_) (fun p hp q hq e => ?_)
      · rcases List.mem_cons.mp hp with rfl | hp
        · exact Nat.lt_succ_self n
        · exact Nat.lt_succ_of_lt (h1 p hp)
      · rcases List.mem_cons.mp hp with rfl | hp <;> rcases List.mem_cons.mp hq with rfl | hq
        · rfl
        · exact absurd e (Nat.ne_of_gt (h1 q hq))
        · exact absurd e (Nat.ne_of_lt (h1 p hp))
        · exact h2 p hp q hq e
    · exact cells_inj0 r n acc h1 h2
theorem cells_inj {names : List (Str × NameKind)} {n : Nat} (x y : Str) (c : Addr) (h1 : (cellsFrom n names []).lookup x = some c) (h2 : (cellsFrom n names []).lookup y = some c) : x = y :=
  cells_inj0 names n [] (fun _ h => absurd h (by simp)) (fun _ h => absurd h (by simp)) (x, c) (PySem.mem_of_lookup h1) (y, c) (PySem.mem_of_lookup h2) rfl
/-- .. of cells alone, by the scopes -/
theorem lamF_of {N : List Str} {qual : Str} {scope : Scope} {n f : Addr} {cd : Value} {l : LamD} {ks : List Nat} (hq : (qual ++ ".<locals>.") ++ "<lambda>" = l.qual)
    (h1 : ∀ y ∈ l.scope.names, y.2 = .free → y.1 ∈ l.caps) (h2 : ∀ y ∈ l.caps, scope.names.lookup y = some .cell) (h3 : ∀ y ∈ l.caps, l.scope.names.lookup y = some .free)
    (hd : (l.df = false ∧ l.params.defaults = [] ∧ l.params.kw_defaults = []) ∨ (l.df = true ∧ (∃ k p, l.params.defaults = [.Constant (.int 0) k p]) ∧ l.params.kw_defaults = [])) (hn : ks.map (fun k => N[k]?) = l.caps.map some) : LamF (envOfC qual scope n f cd) N l ks := by
  have has : ∀ y ∈ l.caps, ∃ c, (cellsFrom (n + 1) scope.names []).lookup y = some c := fun y hy => cell_has (h2 y hy)
  have cm : ∀ {y c}, (cloFrom (cellsFrom (n + 1) scope.names []) l.scope.names []).lookup y = some c → y ∈ l.caps ∧ (cellsFrom (n + 1) scope.names []).lookup y = some c := fun {y c} e => by
    rcases cloFrom_mem (PySem.mem_of_lookup e) with hm | ⟨g1, g2⟩
    · cases hm
    · have hy := h1 _ g1 rfl
      obtain ⟨c1, hc⟩ := has _ hy
      have e2 : c = c1 := by
        rw [g2, hc] <;> rfl
      rw [e2]
      exact ⟨hy, hc⟩
  exact ⟨hq, fun y hy e => has _ (h1 y hy e), ⟨fun y b e => (cm e).1, fun y y' b e e' => cells_inj y y' b (cm e).2 (cm e').2⟩, hd, hn, fun y hy => .inl (h2 y hy), h3⟩
structure LamP (base : Heap) (mg : Str → Option Value) (K : PySem.W.Frag) (env : Env) (p : He.Defn) (q : Str) : Prop where
  TB : TabB base mg (He.cT K p).1 (He.cT K p).2
  code : env.code = .ref (He.cT K p).1
  mem : ((He.cT K p).2, q) ∈ LamTab.T
  uniq : ∀ z ∈ LamTab.T, z.1 = (He.cT K p).2 → z.2 = q
section
variable {X : Cx} {W : WX} {lams : Nat → LamD}
theorem lamW_of {p : He.Defn} {i : Nat} {ks : List Nat} (hl : LamTab.lam = lams) (L : LamF X.env X.N (lams i) ks) (Pq : LamP X.base X.mg X.K X.env p (lams i).qual) : LamW X i (He.cT X.K p).1 (He.cT X.K p).2 ∧ CapN X i ks := by
  subst hl
  exact ⟨⟨Pq.TB, Pq.code, L.qual, Pq.mem, Pq.uniq, L.free, L.ck, L.df⟩, ⟨L.names, L.kind, L.freeN⟩⟩
theorem capN_of {i : Nat} {ks : List Nat} (hl : LamTab.lam = lams) (L : LamF X.env X.N (lams i) ks) : CapN X i ks := by
  subst hl
  exact ⟨L.names, L.kind, L.freeN⟩
theorem capNs_nil : ∀ p ∈ ([] : List (Nat × List Nat)), CapN X p.1 p.2 := fun p h => absurd h (by simp)
theorem capNs_cons {i : Nat} {ks : List Nat} {ps : List (Nat × List Nat)} (h : CapN X i ks) (t : ∀ p ∈ ps, CapN X p.1 p.2) : ∀ p ∈ (i, ks) :: ps, CapN X p.1 p.2 := fun p hp => by
  rcases List.mem_cons.mp hp with rfl | hp
  · exact h
  · exact t p hp
theorem lamsX_cons {p : He.Defn} {i : Nat} {ks : List Nat} {e : Expr} {pos : Pos} {es : List Expr} {ps : List (Nat × List Nat)} (hl : LamTab.lam = lams) (L : LamF X.env X.N (lams i) ks) (Pq : LamP X.base X.mg X.K X.env p (lams i).qual) (he : e = .Lambda (lams i).params (lams i).body (lams i).scope pos) (t : LamsX X es ps) : LamsX X (e :: es) ((i, ks) :: ps) := by
  obtain ⟨h1, h2⟩ := lamW_of hl L Pq
  subst hl
  rw [he]
  exact .cons h1 h2 t
theorem re_lam1 {x : Str} {p0 pos lpos : Pos} {p : He.Defn} {i : Nat} (ks : List Nat) {e : Expr} {k j : Nat} {F : PF} (hl : LamTab.lam = lams) (L : LamF X.env X.N (lams i) ks) (Pq : LamP X.base X.mg X.K X.env p (lams i).qual) (he : e = .Lambda (lams i).params (lams i).body (lams i).scope lpos) (G : FnP X.prog X.w X.K X.mg X.base x k 1 F) (hr : Room j X.A) (tk : Takes X W) (hfn : ∀ y, X.fn y = true) (hk : k ≤ j := by decide) (hg : Gl X x := by rfl)
    (hdb : (x == ("__debug__" : Str)) = false := by decide) : RE X W (.Call (.Name x p0) [e] [] pos) (mLam1G F i ks) := by
  obtain ⟨h1, h2⟩ := lamW_of hl L Pq
  subst hl
  rw [he]
  exact re_lam1G ks G hr tk hfn h1 h2 hk hg hdb
end
end PD
namespace PD
open PySem PySem.Spec PyProof.Rows L2 PX LamX
variable [LamTab]
theorem SR.extN {c : RC} {h : EH} (s : SR c h) {b : Addr} {φ : Heap → Prop} (e : c.H b = some (.ext φ)) : b ∉ c.ρ := fun z => by
  obtain ⟨n, hn, eq⟩ := List.mem_iff_getElem.mp z
  have h1 : c.ρ[n]? = some b := by rw [List.getElem?_eq_getElem hn, eq]
  have hn' : n < h.length := by rw [← s.len]; exact hn
  have r := s.cells n b _ h1 (List.getElem?_eq_getElem hn')
  cases q : h[n] with
  | lst ds => rw [q] at r; obtain ⟨xs, e2, _⟩ := r; rw [e] at e2; cases e2
  | dic t kvs =>
    rw [q] at r
    obtain ⟨o, zs, e2, i, _⟩ := r
    rw [e] at e2
    cases e2
    rcases i with ⟨_, _, z, _⟩ | ⟨_, z⟩ <;> cases z
  | obj C fs => rw [q] at r; obtain ⟨_, _, _, _, e2, _⟩ := r; rw [e] at e2; cases e2
theorem LamAt.extE {X : Cx} {H H' : Hp} {i : Nat} {f : Addr} (e : ∀ b φ, H b = some (.ext φ) → H' b = some (.ext φ)) (h : LamAt X H i f) : LamAt X H' i f := by
  obtain ⟨dV, c', h1, h2, h3⟩ := h
  refine ⟨dV, c', e _ _ h1, e _ _ h2, ?_⟩
  rcases h3 with h3 | ⟨q, dt, t, e1, e2⟩
  · exact .inl h3
  · exact .inr ⟨q, dt, t, e1, e _ _ e2⟩
theorem LamAts.extE {X : Cx} {H H1 : Hp} (e : ∀ b φ, H b = some (.ext φ) → H1 b = some (.ext φ)) : ∀ {ps : List (Nat × List Nat)} {vs : List V}, LamAts X H ps vs → LamAts X H1 ps vs
  | _, _, .nil => .nil
  | _, _, .cons h t => .cons (h.extE e) (t.extE e)
theorem LAt.le {X : Cx} {ix : Nat} {ps : List (Nat × List Nat)} {c c' : RC} {σ : L2.St} {h : EH} (la : LAt X ix ps c σ) (s : SR c h) (l : c.Le c') {j : Nat} (hj : j ≠ ix) (v : Option V) : LAt X ix ps c' (σ.set j v) := by
  obtain ⟨a, vs, h1, h2, h3, h4⟩ := la
  refine ⟨a, vs, ?_, (l.lstH h2 h3).1, (l.lstH h2 h3).2, h4.extE fun b φ e => (l.keep b _ e (fun _ z => by cases z) (s.extN e)).1⟩
  rw [List.getElem?_set_ne hj]
  exact h1
end PD
namespace PD
open PySem PySem.Spec PyProof.Rows L2 PX LamX
end PD
namespace L2
open PySem PySem.Spec PyProof.Rows
end L2
namespace PD
open PySem PySem.Spec PyProof.Rows L2 PX LamX
end PD
namespace PD
open PySem PySem.Spec PyProof.Rows L2 PX LamX
end PD
namespace PD
open PySem PySem.Spec PyProof.Rows L2 PX LamX
end PD
namespace PX
open PySem PySem.Spec PyProof.Rows L2 PySem.Calls PD
variable [LamTab]
def lock (z : Addr → Option Obj) (H : Hp) : Hp := fun b => match z b, H b with
  | some o, some (.lst xs) => some (.frz o (.lst xs))
  | _, u => u
/-- z's objects are lists of H -/
def InL (z : Addr → Option Obj) (H : Hp) : Prop := ∀ b o, z b = some o → ∃ xs, H b = some (.lst xs)
section
variable {z : Addr → Option Obj} {H : Hp} {b : Addr}
theorem lock_in {o : Obj} {xs : List V} (h : z b = some o) (e : H b = some (.lst xs)) : lock z H b = some (.frz o (.lst xs)) := by
  unfold lock; rw [h, e]
theorem lock_out (h : z b = none) : lock z H b = H b := by
  unfold lock; rw [h]
theorem inl_out (hz : InL z H) {u : HO} (h : H b = some u) (n : ∀ xs, u ≠ .lst xs) : z b = none := by
  cases y : z b with
  | none => rfl
  | some o =>
    obtain ⟨xs, e⟩ := hz b o y
    rw [h] at e
    exact (n xs (Option.some.inj e)).elim
end
end PX
namespace PD
open PySem PySem.Spec PyProof.Rows L2 PX LamX
/-- data in which the cells of lists are read as locked lists -/
def lkD (h : EH) : D → Option D
  | .ref n => (match h[n]? with
    | some (.lst ds) => if noRef.go ds = true then some (.scr ds) else none
    | _ => none)
  | .lst ds => (go h ds).map .lst
  | .tup ds => (go h ds).map .tup
  | d => if noRef d = true then some d else none
where
  go (h : EH) : List D → Option (List D)
  | [] => some []
  | d :: ds => (match lkD h d, go h ds with
    | some a, some b => some (a :: b)
    | _, _ => none)
variable [LamTab]
abbrev lockC (c : RC) (z : Addr → Option Obj) : RC := { c with H := PX.lock z c.H, ρ := [], B := fun a => c.B a ∨ a ∈ c.ρ }
/-- z has just the cells of lists -/
structure LkZ (c : RC) (z : Addr → Option Obj) : Prop where
  in_ : ∀ b o, z b = some o → b ∈ c.ρ ∧ ∃ xs, c.H b = some (.lst xs)
  all : ∀ b xs, b ∈ c.ρ → c.H b = some (.lst xs) → ∃ o, z b = some o
section
variable {c c' : RC} {h : EH} {z : Addr → Option Obj}
theorem LkZ.inL (k : LkZ c z) : PX.InL z c.H := fun b o y => (k.in_ b o y).2
theorem LkZ.out (k : LkZ c z) {a : Addr} (h : a ∉ c.ρ) : z a = none := by
  cases y : z a with
  | none => rfl
  | some o => exact absurd (k.in_ a o y).1 h
theorem lock_some {H : Hp} {a : Addr} {o : HO} (e : H a = some o) : ∃ o', PX.lock z H a = some o' := by
  cases y : z a with
  | none => exact ⟨o, (lock_out y).trans e⟩
  | some ob =>
    unfold PX.lock
    rw [y, e]
    cases o <;> exact ⟨_, rfl⟩
theorem LkZ.leW (k : LkZ c z) : (c.bare fun a => c.B a ∨ a ∈ c.ρ).LeW (lockC c z) := by
  refine ⟨rfl, rfl, fun a h => .inl h, fun n a h => by simp at h, fun a o e => lock_some e, fun a o e nt nb nr => ⟨?_, nr⟩, fun a xs e => ?_, fun a o u e => ?_⟩
  · exact (lock_out (k.out fun q => nb (.inr q))).trans e
  · rcases e with e | ⟨o, e⟩
    · exact .inl ((lock_out (inl_out k.inL e fun _ q => by cases q)).trans e)
    · exact .inr ⟨o, (lock_out (inl_out k.inL e fun _ q => by cases q)).trans e⟩
  · exact (lock_out (inl_out k.inL e fun _ q => by cases q)).trans e
theorem LkZ.rep (k : LkZ c z) {d : D} {v : V} (r : Rep c d v) (n : noRef d = true) : Rep (lockC c z) d v := Rep.leW k.leW (Rep.bare (fun _ q => q) r n)
theorem LkZ.reps (k : LkZ c z) {ds : List D} {vs : List V} (r : Reps c ds vs) (n : noRef.go ds = true) : Reps (lockC c z) ds vs := Reps.leW k.leW (Reps.bare (fun _ q => q) r n)
section
variable (k : LkZ c z) (s : SR c h)
include k s
mutual
theorem Rep.lk : ∀ {d : D} {v : V}, Rep c d v → ∀ {d' : D}, lkD h d = some d' → Rep (lockC c z) d' v
  | _, _, .non, d', e => by cases e; exact .non
  | _, _, .bl b, d', e => by cases e; exact .bl b
  | _, _, .int i, d', e => by cases e; exact .int i
  | _, _, .str cs, d', e => by cases e; exact .str cs
  | .tup ds, _, .tup q r, d', e => by
    have e' : (lkD.go h ds).map D.tup = some d' := by rw [lkD] at e; exact e
    cases g : lkD.go h ds with
    | none => rw [g] at e'; cases e'
    | some es =>
      rw [g] at e'; cases e'
      refine .tup ?_ (Reps.lk r g)
      rcases q with q | q
      · exact .inl (k.leW.tup _ _ q)
      · exact .inr q
  | .lst ds, _, .lst (a := a) q f r, d', e => by
    have e' : (lkD.go h ds).map D.lst = some d' := by rw [lkD] at e; exact e
    cases g : lkD.go h ds with
    | none => rw [g] at e'; cases e'
    | some es =>
      rw [g] at e'; cases e'
      exact .lst ((lock_out (k.out f.2)).trans q) ⟨fun y => y.elim f.1 f.2, List.not_mem_nil⟩ (Reps.lk r g)
  | .scr ds, _, .scr q r, d', e => by
    have e' : (if noRef (.scr ds) = true then some (D.scr ds) else none) = some d' := by rw [lkD] at e; exact e; all_goals (intro _ q; cases q)
    by_cases n : noRef (.scr ds) = true
    · rw [if_pos n] at e'; cases e'; exact k.rep (.scr q r) n
    · rw [if_neg n] at e'; cases e'
  | .obj C fs, _, .obj m q f r, d', e => by
    have e' : (if noRef (.obj C fs) = true then some (D.obj C fs) else none) = some d' := by rw [lkD] at e; exact e; all_goals (intro _ q; cases q)
    by_cases n : noRef (.obj C fs) = true
    · rw [if_pos n] at e'; cases e'; exact k.rep (.obj m q f r) n
    · rw [if_neg n] at e'; cases e'
  | .dic t kvs, _, .dic q i f r, d', e => by
    have e' : (if noRef (.dic t kvs) = true then some (D.dic t kvs) else none) = some d' := by rw [lkD] at e; exact e; all_goals (intro _ q; cases q)
    by_cases n : noRef (.dic t kvs) = true
    · rw [if_pos n] at e'; cases e'; exact k.rep (.dic q i f r) n
    · rw [if_neg n] at e'; cases e'
  | .fn i ds, _, .fn a1 a2 a3 a4 a5 a6, d', e => by
    have e' : (if noRef (.fn i ds) = true then some (D.fn i ds) else none) = some d' := by rw [lkD] at e; exact e; all_goals (intro _ q; cases q)
    by_cases n : noRef (.fn i ds) = true
    · rw [if_pos n] at e'; cases e'; exact k.rep (.fn a1 a2 a3 a4 a5 a6) n
    · rw [if_neg n] at e'; cases e'
  | .exc C fs, _, .exc a1 a2 a3 a4 a5 a6, d', e => by
    have e' : (if noRef (.exc C fs) = true then some (D.exc C fs) else none) = some d' := by rw [lkD] at e; exact e; all_goals (intro _ q; cases q)
    by_cases n : noRef (.exc C fs) = true
    · rw [if_pos n] at e'; cases e'; exact k.rep (.exc a1 a2 a3 a4 a5 a6) n
    · rw [if_neg n] at e'; cases e'
  | .ref n, _, .ref (a := a) q, d', e => by
    rw [lkD] at e
    have hn : n < h.length := by rw [← s.len]; exact (List.getElem?_eq_some_iff.mp q).1
    cases g : h[n]? with
    | none => rw [g] at e; cases e
    | some x =>
      rw [g] at e
      cases x with
      | lst ds =>
        dsimp only at e
        by_cases nr : noRef.go ds = true
        · rw [if_pos nr] at e
          cases e
          obtain ⟨xs, h1, r⟩ := s.cells n a _ q g
          obtain ⟨o, y⟩ := k.all a xs (List.mem_of_getElem? q) h1
          exact .scr (.inl ⟨o, lock_in y h1⟩) (k.reps r nr)
        · rw [if_neg nr] at e; cases e
      | _ => cases e
theorem Reps.lk : ∀ {ds : List D} {vs : List V}, Reps c ds vs → ∀ {es : List D}, lkD.go h ds = some es → Reps (lockC c z) es vs
  | _, _, .nil, es, e => by cases e; exact .nil
  | d :: ds, _, .cons r t, es, e => by
    rw [lkD.go] at e
    cases g1 : lkD h d with
    | none => rw [g1] at e; cases e
    | some d' =>
      cases g2 : lkD.go h ds with
      | none => rw [g1, g2] at e; cases e
      | some es' =>
        rw [g1, g2] at e
        cases e
        exact .cons (Rep.lk r g1) (Reps.lk t g2)
end
end
theorem LkZ.tabs (k : LkZ c z) (t : c.tabs) : RC.tabs (lockC c z) := fun q hq => codeO_ext (t q hq) (by
    obtain ⟨ps, k1, _⟩ := t q hq
    exact lock_out (inl_out k.inL k1 fun _ z => by cases z)) fun a e => (lock_out (inl_out k.inL e fun _ z => by cases z)).trans e
end
end PD
namespace PX
open PySem PySem.Spec PyProof.Rows L2 PySem.Calls PD
end PX
namespace PD
open PySem PySem.Spec PyProof.Rows L2 PX LamX
end PD
namespace PD
open PySem PySem.Spec PyProof.Rows L2 PX LamX
end PD
namespace PD
open PySem PySem.Spec PyProof.Rows L2 PX LamX
/-- the exception that the first statement of the generator's body raises -/
def genX (n : Nat) (m : MS) (ds : List D) : Option Ex := match m (startE n ds) [] with
  | some (.ex e _, _) => if noRef.gf e.fs = true then some e else none
  | _ => none
def mListGX (C : Str) (F : List D → Option Ex) (a : M (List D)) : M D := fun ε h => bR (a ε h) fun ds h1 => if noRef.go ds = true then (match F ds with
  | some e => if e.cls = C then some (.ex e, h1) else none
  | none => none) else none
variable [LamTab]
/-- a generator def whose promise is that exception -/
def SpGX (K : PySem.W.Frag) (mg : Str → Option Value) (n : Nat) (F : List D → Option Ex) : SpG := fun vs H cont E => ∃ (c : RC) (ds : List D) (e : Ex), c.K = K ∧ MgE c mg ∧ c.H = H ∧ c.ρ = [] ∧ (∀ a, c.B a → ∃ o, H a = some o) ∧ Reps c ds vs ∧ ds.length = n ∧ F ds = some e ∧
  (∀ c' cls dx, c.Le c' → c'.ρ = [] → ExR c' e cls dx → E cls dx c'.H)
structure FnG (P : Program) (w : World) (K : PySem.W.Frag) (mg : Str → Option Value) (base : Heap) (x : Str) (k n : Nat) (F : List D → Option Ex) : Prop where
  ex : ∃ (f : Addr) (fd : FuncData) (ps : List Str), mg x = some (.ref f) ∧ PySem.W.keepIn K (.ref f) = true ∧ Binds K fd ps [] ∧ ps.length = n ∧ GFn P w K mg base k f fd ps (SpGX K mg n F)
section
variable {P : Program} {w : World} {K : PySem.W.Frag} {mg : Str → Option Value} {base : Heap}
theorem gss_false {X : Cx} {rest : List Stmt} : GSs X rest (fun _ _ _ _ => False) := ⟨fun _ _ _ _ _ _ _ _ _ _ _ _ _ _ _ _ _ _ _ _ _ h => h.elim⟩
theorem bodyG_of {N : List Str} {m : MS} {vs : List V} {H : Hp} {cont : List V → Hp → Prop} {E : XK} {n : Nat} {D0 : Ends} (h : SpGX K mg n (genX N.length m) vs H cont E) : tS K mg (fun cls d _ H' => E cls d H') m D0 (L2.start N vs) H := by
  obtain ⟨c, ds, e, hK, hm, rfl, hρ, bt, rv, hn, er, gx⟩ := h
  have sr := SR.nil hρ bt
  unfold genX at er
  cases q : m (startE N.length ds) [] with
  | none => rw [q] at er; cases er
  | some z =>
    obtain ⟨rs, h'⟩ := z
    rw [q] at er
    cases rs with
    | ex x ε' =>
      dsimp only at er
      by_cases hc : noRef.gf x.fs = true
      · rw [if_pos hc] at er
        cases er
        have back : ∀ c', c.Le c' → c.Le (c'.bare c.B) := fun c' l => ⟨l.K, l.mg, fun _ h => h, fun _ h => .inl h, l.dom, fun n a e => by rw [hρ] at e; simp at e, fun a o e t n => ⟨(l.keep a o e t n).1, List.not_mem_nil⟩, l.tup, l.frz⟩
        refine ⟨c, startE N.length ds, [], .ex e ε', h', hK, hm, rfl, sr, start_envR rv, q, ?_⟩
        refine fun c' σ' cls dx l s en xr => gx (c'.bare c.B) cls dx (back c' l) rfl ?_
        obtain ⟨Ca, d, us, h1, h2, h3, h4, h5, h6⟩ := xr
        exact ⟨Ca, d, us, h1, h2, h3, h4, ⟨fun z => h5.1 (l.B _ z), List.not_mem_nil⟩, h6.bare (fun a z => .inl (l.B a z)) hc⟩
      · rw [if_neg hc] at er; cases er
    | _ => cases er
theorem fnG {x qual : Str} {params : Arguments} {st : Stmt} {rest : List Stmt} {scope : Scope} {f : Addr} {fd : FuncData} {N ps : List Str} {k : Nat} {m : MS} {dvs : List V} {kws : List (Str × V)} (F : FunD K x qual params (st :: rest) scope dvs kws f fd) (S : GScope N ps scope)
    (hb : ∀ (cdv : Value) (A : Around) (outer : List Env) (s : Shared) (H : Hp) (E : XK) (pn : List (Addr × Obj)), Room k (A.deeper (envOfC qual scope s.heap.objs.size f cdv)) → RSt (gcxOf P w K mg base N qual scope f cdv A outer s H E pn) (fun cls d _ H' => E cls d H') st m) :
    GFn P w K mg base (k + 1) f fd ps (SpGX K mg ps.length (genX N.length m)) := by
  obtain ⟨oc, od, dV, kV, doc, pm, an, cdv, ct, osl, rfl, lk, hcd, hD, hK⟩ := F.ex
  refine gfn_of lk hcd S (fun vs H Q E h => ?_) fun A outer s H vs Q E pn hr h => ⟨_, gss_cons (gs_ps (hb cdv A outer s H E pn hr)) gss_false, ?_⟩
  · obtain ⟨c, ds, e, _, _, _, _, _, rv, hn, _⟩ := h
    rw [← rv.length, hn]
  · exact bodyG_of h
end
section
variable {X : Cx} {W : WX}
theorem listGX_of {K : PySem.W.Frag} {mg : Str → Option Value} {n : Nat} {C : Str} {F : List D → Option Ex} {a : M (List D)} {σ : L2.St} {H : Hp} {Q : VK} (fl : Flat W) (ns : ∀ Ca, mg C = some (.ref Ca) → PySem.W.subIn K (.ref Ca) (.type "StopIteration") = some false) (hn : ArN n a) (h : tE K mg W (mListGX C F a) σ H Q) :
    tListG (tCallG (SpGX K mg n F) [] (fun cls d H' => EW W cls d H' ∧ PySem.W.subIn K cls (.type "StopIteration") = some false) (tA K mg W a)) σ H Q := by
  obtain ⟨c, ε, h, r, h', hK, hm, rfl, sr, er, e, px, go⟩ := h
  unfold tListG tCallG
  cases q : a ε h with
  | none => rw [mListGX, q] at e; cases e
  | some z =>
    obtain ⟨ra, h1⟩ := z
    rw [mListGX, q] at e
    cases ra with
    | ex x =>
      cases e
      exact ⟨c, ε, h, .ex x, _, hK, hm, rfl, sr, er, q, fun y ey => px y (by cases ey; rfl), fun a' ea => nomatch ea⟩
    | ok ds =>
      refine ⟨c, ε, h, .ok ds, h1, hK, hm, rfl, sr, er, q, Px.ok, fun ds' eds c1 vs l1 s1 r1 => ?_⟩
      cases eds
      have e' : (if noRef.go ds = true then (match F ds with
        | some e => if e.cls = C then some (R.ex e, h1) else none
        | none => none) else none) = some (r, h') := e
      by_cases hc : noRef.go ds = true
      · rw [if_pos hc] at e'
        cases q2 : F ds with
        | none => rw [q2] at e'; cases e'
        | some x =>
          rw [q2] at e'
          dsimp only at e'
          by_cases ec : x.cls = C
          · rw [if_pos ec] at e'
            cases e'
            rw [List.append_nil]
            have hK1 := l1.K.trans hK
            have hm1 := l1.mg.trans hm
            have r1' : Reps (c1.bare fun a => c1.B a ∨ a ∈ c1.ρ) ds vs := r1.bare (fun _ z => z) hc
            have back : ∀ c', (c1.bare fun a => c1.B a ∨ a ∈ c1.ρ).Le c' → c1.Le { c' with ρ := c1.ρ, B := c1.B } ∧ SR { c' with ρ := c1.ρ, B := c1.B } h' := fun c' l => by
              have l2 : c1.Le { c' with ρ := c1.ρ, B := c1.B } := ⟨l.K, l.mg, fun _ h => h, fun _ h => .inl h, l.dom, fun _ _ h => h, fun a o e t n => ⟨(l.keep a o e t List.not_mem_nil).1, n⟩, l.tup, l.frz⟩
              refine ⟨l2, s1.len, s1.nd, fun n a k e1 e2 => ?_, s1.nb, fun a hb => ?_⟩
              · have cr := s1.cells n a k e1 e2
                obtain ⟨o, eo⟩ := cr.ex
                refine cr.le l2 ?_
                have nt : ∀ ps, o ≠ .tbl ps := fun ps z => by
                  subst z
                  exact cr.noTab.1 ps eo
                exact (l.keep a o eo nt List.not_mem_nil).1.trans eo.symm
              · obtain ⟨o, eo⟩ := s1.bt a hb
                exact l.dom a o eo
            refine ⟨c1.bare fun a => c1.B a ∨ a ∈ c1.ρ, ds, x, hK1, hm1, rfl, rfl, fun a z => ?_, r1', hn _ _ _ _ q, q2, fun c' cls dx l hρ xr => ?_⟩
            · rcases z with z | z
              · exact s1.bt a z
              · exact s1.ex z
            · obtain ⟨l2, s2⟩ := back c' l
              obtain ⟨Ca, d, us, h1, h2, h3, h4, h5, h6⟩ := xr
              refine ⟨fl _ _ _ _ _ (px x rfl { c' with ρ := c1.ρ, B := c1.B } cls dx (l1.trans l2) s2 ?_), ?_⟩
              · exact ⟨Ca, d, us, h1, h2, h3, h4, ⟨fun z => h5.1 (l.B _ (.inl z)), fun z => h5.1 (l.B _ (.inr z))⟩, RepF.unbare (fun a ha => l.B a (.inr ha)) (fun a ha => l.B a (.inl ha)) hρ h6⟩
              · subst h1
                refine ns Ca ?_
                have hm2 : c'.mg = mg := (l2.mg.trans hm1).mge
                rw [← hm2, ← ec]
                exact h2
          · rw [if_neg ec] at e'; cases e'
      · rw [if_neg hc] at e'; cases e'
theorem re_listGX {x C : Str} {p p1 pos pos1 : Pos} {e : Expr} {es : List Expr} {k j n : Nat} {F : List D → Option Ex} {ma : M (List D)} (G : FnG X.prog X.w X.K X.mg X.base x k n F) (hr : Room j X.A) (tk : Takes X W) (fl : Flat W) (ha : RA X W (e :: es) ma)
    (hml : X.mg "list" = none) (ns : ∀ Ca, X.mg C = some (.ref Ca) → PySem.W.subIn X.K (.ref Ca) (.type "StopIteration") = some false) (hk : k + 3 ≤ j := by decide)
    (hn : ArN n ma := by repeat (first | exact ar_nil | refine ar_cons ?_)) (hg : Gl X x := by rfl) (hgl : Gl X "list" := by rfl)
    (hdb : (x == ("__debug__" : Str)) = false := by decide) (he : starEach (e :: es) X.env = (false, eval e X.env) :: starEach es X.env := by rfl) (hpl : (backTo pos1 (starEach es X.env)).any (·.1) = false := by rfl)
    (he2 : starEach [.Call (.Name x p1) (e :: es) [] pos1] X.env = (false, eval (.Call (.Name x p1) (e :: es) [] pos1) X.env) :: starEach [] X.env := by rfl) :
    RE X W (.Call (.Name "list" p) [.Call (.Name x p1) (e :: es) [] pos1] [] pos) (mListGX C F ma) := by
  obtain ⟨f, fd, ps, hm, hkp, hb, hl, Fo⟩ := G.ex
  have psx : Passes (L2.CX X.prog X.w) X (fun cls d H' => EW W cls d H' ∧ PySem.W.subIn X.K cls (.type "StopIteration") = some false) := fun pins σ H s u s' I c => by
    obtain ⟨a, B, H', cls, d, h1, h2, h3, h4, h5, h6, h7, h8⟩ := c
    exact passE tk fl pins σ H s u s' I ⟨a, B, H', cls, d, h1, h2, h3, h4, h5, h6, h7, h8.1⟩
  exact pe_imp (pe_listG (pgen_call Fo (hr.mono (Nat.le_trans (Nat.le_add_right _ _) hk)) hg hm hkp hb .nil ha hdb he hpl) psx (fun cls d H h => h.2) (hr.mono hk) hgl hml (by decide +kernel) (by decide) (by decide) he2) fun σ H Q h => listGX_of fl ns hn h
end
end PD
namespace PD
open PySem PySem.Spec PyProof.Rows L2
/-- the run lemmas of the layer ask for a LamTab; any will do -/
instance (priority := low) lamTab0 : LamTab := ⟨fun _ => ⟨"", ⟨[], [], none, [], [], none, []⟩, .Constant .none 0 ⟨0, 0, 0, 0⟩, { kind := .function, names := [], isGenerator := false, isCoroutine := false }, [], false⟩, []⟩
def sq (x : Option (RS × EH)) (b : MS) : Option (RS × EH) := match x with
  | some (.nx ε1, h1) => b ε1 h1
  | some (r, h1) => some (r, h1)
  | none => none
section
variable {α : Type} {ε ε1 : Ev} {h h1 : EH}
theorem seq_ap (a b : MS) : msSeq a b ε h = sq (a ε h) b := (rfl)
theorem sq_nx (b : MS) : sq (some (.nx ε, h)) b = b ε h := (rfl)
theorem sq_rt (d : D) (b : MS) : sq (some (.rt d, h)) b = some (.rt d, h) := (rfl)
theorem sq_bk (b : MS) : sq (some (.bk ε, h)) b = some (.bk ε, h) := (rfl)
theorem sq_ct (b : MS) : sq (some (.ct ε, h)) b = some (.ct ε, h) := (rfl)
theorem sq_ex (e : Ex) (b : MS) : sq (some (.ex e ε, h)) b = some (.ex e ε, h) := (rfl)
theorem bS_ok (a : α) (f : α → EH → Option (RS × EH)) : bS (some (.ok a, h)) ε f = f a h := (rfl)
theorem bS_ex (e : Ex) (f : α → EH → Option (RS × EH)) : bS (some (.ex e, h)) ε f = some (.ex e ε, h) := (rfl)
theorem var_ap (i : Nat) : mVar i ε h = rt (ε.getD i none) h := (rfl)
theorem c_ap (d : D) : mC d ε h = some (.ok d, h) := (rfl)
def binK2 (f : EH → D → D → Option D) (x y : D) (h2 : EH) : O D := rt (f h2 x y) h2
def binK1 (f : EH → D → D → Option D) (b : M D) (ε : Ev) (x : D) (h1 : EH) : O D := bR (b ε h1) (binK2 f x)
theorem bin_ap (f : EH → D → D → Option D) (a b : M D) : mBin f a b ε h = bR (a ε h) (binK1 f b ε) := (rfl)
theorem binK1_ap (f : EH → D → D → Option D) (b : M D) (x : D) : binK1 f b ε x h = bR (b ε h) (binK2 f x) := (rfl)
theorem binK2_ap (f : EH → D → D → Option D) (x y : D) : binK2 f x y h = rt (f h x y) h := (rfl)
def tstK (x : D) (h1 : EH) : O Bool := rt (asB x) h1
theorem tst_ap (m : M D) : mTst m ε h = bR (m ε h) tstK := (rfl)
theorem tstK_b (b : Bool) : tstK (.bl b) h = some (.ok b, h) := (rfl)
def notK (b : Bool) (h1 : EH) : O Bool := some (.ok (!b), h1)
theorem not_ap (a : M Bool) : mNot a ε h = bR (a ε h) notK := (rfl)
theorem notK_ap (b : Bool) : notK b h = some (.ok (!b), h) := (rfl)
def andK (b : M Bool) (ε : Ev) (x : Bool) (h1 : EH) : O Bool := if x = true then b ε h1 else some (.ok false, h1)
def orK (b : M Bool) (ε : Ev) (x : Bool) (h1 : EH) : O Bool := if x = true then some (.ok true, h1) else b ε h1
def ifK (a b : M α) (ε : Ev) (x : Bool) (h1 : EH) : O α := if x = true then a ε h1 else b ε h1
theorem and_ap (a b : M Bool) : mAnd a b ε h = bR (a ε h) (andK b ε) := (rfl)
theorem or_ap (a b : M Bool) : mOr a b ε h = bR (a ε h) (orK b ε) := (rfl)
theorem if_ap (t : M Bool) (a b : M α) : mIf t a b ε h = bR (t ε h) (ifK a b ε) := (rfl)
theorem andK_t (b : M Bool) : andK b ε true h = b ε h := (rfl)
theorem andK_f (b : M Bool) : andK b ε false h = some (.ok false, h) := (rfl)
theorem orK_t (b : M Bool) : orK b ε true h = some (.ok true, h) := (rfl)
theorem orK_f (b : M Bool) : orK b ε false h = b ε h := (rfl)
theorem ifK_t (a b : M α) : ifK a b ε true h = a ε h := (rfl)
theorem ifK_f (a b : M α) : ifK a b ε false h = b ε h := (rfl)
def andV (b : M D) (ε : Ev) (x : D) (h : EH) : O D := match x with
  | .bl true => b ε h
  | .bl false => some (.ok (.bl false), h)
  | _ => none
def orV (b : M D) (ε : Ev) (x : D) (h : EH) : O D := match x with
  | .bl true => some (.ok (.bl true), h)
  | .bl false => b ε h
  | _ => none
theorem andv_ap (a b : M D) : mAndV a b ε h = bR (a ε h) (andV b ε) := (rfl)
theorem orv_ap (a b : M D) : mOrV a b ε h = bR (a ε h) (orV b ε) := (rfl)
theorem andV_t (b : M D) : andV b ε (.bl true) h = b ε h := (rfl)
theorem andV_f (b : M D) : andV b ε (.bl false) h = some (.ok (.bl false), h) := (rfl)
theorem orV_t (b : M D) : orV b ε (.bl true) h = some (.ok (.bl true), h) := (rfl)
theorem orV_f (b : M D) : orV b ε (.bl false) h = b ε h := (rfl)
def notV (x : D) (h : EH) : O D := match x with
  | .bl b => some (.ok (.bl (!b)), h)
  | _ => none
theorem notv_ap (a : M D) : mNotV a ε h = bR (a ε h) notV := (rfl)
theorem notV_c (c : Bool) : notV (.bl c) h = some (.ok (.bl (!c)), h) := (rfl)
theorem nil_ap : mNil ε h = some (.ok [], h) := (rfl)
def consK2 (x : D) (xs : List D) (h2 : EH) : O (List D) := some (.ok (x :: xs), h2)
def consK1 (b : M (List D)) (ε : Ev) (x : D) (h1 : EH) : O (List D) := bR (b ε h1) (consK2 x)
theorem cons_ap (a : M D) (b : M (List D)) : mCons a b ε h = bR (a ε h) (consK1 b ε) := (rfl)
theorem consK1_ap (b : M (List D)) (x : D) : consK1 b ε x h = bR (b ε h) (consK2 x) := (rfl)
theorem consK2_ap (x : D) (xs : List D) : consK2 x xs h = some (.ok (x :: xs), h) := (rfl)
def tupK (ds : List D) (h1 : EH) : O D := rt (szL ds (.tup ds)) h1
def lstK (ds : List D) (h1 : EH) : O D := rt (szL ds (.lst ds)) h1
theorem tup_ap (m : M (List D)) : mTup m ε h = bR (m ε h) tupK := (rfl)
theorem lst_ap (m : M (List D)) : mLst m ε h = bR (m ε h) lstK := (rfl)
theorem tupK_ok {ds : List D} (e : ds.length ≤ 16777216) : tupK ds h = some (.ok (.tup ds), h) := by
  show rt (szL ds (.tup ds)) h = _
  rw [show szL ds (.tup ds) = some (.tup ds) from if_pos e]; rfl
theorem lstK_ok {ds : List D} (e : ds.length ≤ 16777216) : lstK ds h = some (.ok (.lst ds), h) := by
  show rt (szL ds (.lst ds)) h = _
  rw [show szL ds (.lst ds) = some (.lst ds) from if_pos e]; rfl
def callK (f : EH → List D → Option D) (xs : List D) (h1 : EH) : O D := rt (f h1 xs) h1
theorem call_ap (f : EH → List D → Option D) (a : M (List D)) : mCall f a ε h = bR (a ε h) (callK f) := (rfl)
theorem callK_ap (f : EH → List D → Option D) (xs : List D) : callK f xs h = rt (f h xs) h := (rfl)
def callPK (F : PF) (ds : List D) (h1 : EH) : O D := if noRef.go ds = true then (F ds).map fun r => (r, h1) else none
theorem callP_ap (F : PF) (a : M (List D)) : mCallP F a ε h = bR (a ε h) (callPK F) := (rfl)
theorem callPK_ok {F : PF} {ds : List D} {r : R D} (e2 : F ds = some r) (e : noRef.go ds = true) : callPK F ds h = some (r, h) := by
  unfold callPK
  rw [if_pos e, e2]; rfl
theorem callI_ap (F : IF) (a : M (List D)) : mCallI F a ε h = bR (a ε h) F := (rfl)
def permK (p : List Nat) (ds : List D) (h1 : EH) : O (List D) := some (.ok (permL p ds), h1)
theorem perm_ap (p : List Nat) (a : M (List D)) : mPerm p a ε h = bR (a ε h) (permK p) := (rfl)
theorem permK_ap (p : List Nat) (ds : List D) : permK p ds h = some (.ok (permL p ds), h) := (rfl)
theorem nop_ap : mNoP ε h = some (.ok none, h) := (rfl)
def smP (x : D) (h1 : EH) : O (Option Int) := match x with
  | .int i => some (.ok (some i), h1)
  | _ => none
theorem smp_ap (m : M D) : mSmP m ε h = bR (m ε h) smP := (rfl)
theorem smP_int (i : Int) : smP (.int i) h = some (.ok (some i), h) := (rfl)
def slK3 (x : D) (l u : Option Int) (h3 : EH) : O D := rt (dSl h3 x l u) h3
def slK2 (hi : M (Option Int)) (ε : Ev) (x : D) (l : Option Int) (h2 : EH) : O D := bR (hi ε h2) (slK3 x l)
def slK1 (lo hi : M (Option Int)) (ε : Ev) (x : D) (h1 : EH) : O D := bR (lo ε h1) (slK2 hi ε x)
theorem sl_ap (a : M D) (lo hi : M (Option Int)) : mSl a lo hi ε h = bR (a ε h) (slK1 lo hi ε) := (rfl)
theorem slK1_ap (lo hi : M (Option Int)) (x : D) : slK1 lo hi ε x h = bR (lo ε h) (slK2 hi ε x) := (rfl)
theorem slK2_ap (hi : M (Option Int)) (x : D) (l : Option Int) : slK2 hi ε x l h = bR (hi ε h) (slK3 x l) := (rfl)
theorem slK3_ap (x : D) (l u : Option Int) : slK3 x l u h = rt (dSl h x l u) h := (rfl)
theorem sl_lst (ds : List D) (l u : Option Int) : dSl h (.lst ds) l u = some (.lst (cutD ds l u)) := (rfl)
theorem sl_scr (ds : List D) (l u : Option Int) : dSl h (.scr ds) l u = some (.lst (cutD ds l u)) := (rfl)
theorem sl_tup (ds : List D) (l u : Option Int) : dSl h (.tup ds) l u = some (.tup (cutD ds l u)) := (rfl)
theorem sl_str {z : List Nat} (l u : Option Int) (e : z.length ≤ 16777216) : dSl h (.str z) l u = some (.str (cutD z l u)) := if_pos e
def chK4 (g : EH → D → D → Option D) (y z : D) (h4 : EH) : O D := rt (g h4 y z) h4
def chK3 (g : EH → D → D → Option D) (c : M D) (ε : Ev) (y : D) (k : Bool) (h3 : EH) : O D := if k = true then bR (c ε h3) (chK4 g y) else some (.ok (.bl false), h3)
def chK2 (f g : EH → D → D → Option D) (c : M D) (ε : Ev) (x y : D) (h2 : EH) : O D := bR (rt ((f h2 x y).bind asB) h2) (chK3 g c ε y)
def chK1 (f g : EH → D → D → Option D) (b c : M D) (ε : Ev) (x : D) (h1 : EH) : O D := bR (b ε h1) (chK2 f g c ε x)
theorem chain_ap (f g : EH → D → D → Option D) (a b c : M D) : mChain f g a b c ε h = bR (a ε h) (chK1 f g b c ε) := (rfl)
theorem chK1_ap (f g : EH → D → D → Option D) (b c : M D) (x : D) : chK1 f g b c ε x h = bR (b ε h) (chK2 f g c ε x) := (rfl)
theorem chK2_ap (f g : EH → D → D → Option D) (c : M D) (x y : D) : chK2 f g c ε x y h = bR (rt ((f h x y).bind asB) h) (chK3 g c ε y) := (rfl)
theorem chK3_t (g : EH → D → D → Option D) (c : M D) (y : D) : chK3 g c ε y true h = bR (c ε h) (chK4 g y) := (rfl)
theorem chK3_f (g : EH → D → D → Option D) (c : M D) (y : D) : chK3 g c ε y false h = some (.ok (.bl false), h) := (rfl)
theorem chK4_ap (g : EH → D → D → Option D) (y z : D) : chK4 g y z h = rt (g h y z) h := (rfl)
def isiK (ts : List Ty) (d : D) (h1 : EH) : O D := match tyD h1 d with
  | some t => some (.ok (.bl (ts.any (isa t))), h1)
  | none => none
theorem isi_ap (ts : List Ty) (a : M D) : mIsi ts a ε h = bR (a ε h) (isiK ts) := (rfl)
theorem isiK_int (ts : List Ty) (i : Int) : isiK ts (.int i) h = some (.ok (.bl (ts.any (isa .int))), h) := (rfl)
theorem isiK_str (ts : List Ty) (i : List Nat) : isiK ts (.str i) h = some (.ok (.bl (ts.any (isa .str))), h) := (rfl)
theorem isiK_bl (ts : List Ty) (i : Bool) : isiK ts (.bl i) h = some (.ok (.bl (ts.any (isa .bool))), h) := (rfl)
theorem isiK_non (ts : List Ty) : isiK ts .non h = some (.ok (.bl (ts.any (isa .non))), h) := (rfl)
theorem isiK_tup (ts : List Ty) (i : List D) : isiK ts (.tup i) h = some (.ok (.bl (ts.any (isa .tup))), h) := (rfl)
theorem isiK_lst (ts : List Ty) (i : List D) : isiK ts (.lst i) h = some (.ok (.bl (ts.any (isa .lst))), h) := (rfl)
def lcK (vs : List Nat) (g : MG) (t : M Bool) (e : M D) (ε : Ev) (ds : List D) (h1 : EH) : O D := okL (lcL g t e ds (wipeE ε vs) h1)
theorem lc_ap (vs : List Nat) (it : M (List D)) (g : MG) (t : M Bool) (e : M D) : mLc vs it g t e ε h = bR (it ε h) (lcK vs g t e ε) := (rfl)
theorem lcK_ok {vs : List Nat} {g : MG} {t : M Bool} {e : M D} {ds ys : List D} {h' : EH} (q : lcL g t e ds (wipeE ε vs) h = some (ys, h')) (l : ys.length ≤ 16777216) : lcK vs g t e ε ds h = some (.ok (.lst ys), h') := by
  unfold lcK
  rw [q]
  exact if_pos l
def lstCK (ds : List D) (h1 : EH) : O D := if ds.length ≤ sizeLine then some (.ok (.ref h1.length), h1 ++ [.lst ds]) else none
theorem lstC_ap (m : M (List D)) : mLstC m ε h = bR (m ε h) lstCK := (rfl)
theorem lstCK_ok {ds : List D} (e : ds.length ≤ 16777216) : lstCK ds h = some (.ok (.ref h.length), h ++ [.lst ds]) := if_pos e
def mtsK2 (f : EH → List Nat → List D → Option D) (z : List Nat) (ds : List D) (h2 : EH) : O D := rt (f h2 z ds) h2
def mtsK (f : EH → List Nat → List D → Option D) (a : M (List D)) (ε : Ev) (x : D) (h1 : EH) : O D := match x with
  | .str z => bR (a ε h1) (mtsK2 f z)
  | _ => none
theorem mts_ap (f : EH → List Nat → List D → Option D) (o : M D) (a : M (List D)) : mMtS f o a ε h = bR (o ε h) (mtsK f a ε) := (rfl)
theorem mtsK_str (f : EH → List Nat → List D → Option D) (a : M (List D)) (z : List Nat) : mtsK f a ε (.str z) h = bR (a ε h) (mtsK2 f z) := (rfl)
theorem mtsK2_ap (f : EH → List Nat → List D → Option D) (z : List Nat) (ds : List D) : mtsK2 f z ds h = rt (f h z ds) h := (rfl)
theorem yes_ap : mYes ε h = some (.ok true, h) := (rfl)
def ilK (x : D) (h1 : EH) : O (List D) := match x with
  | .lst ds => some (.ok ds, h1)
  | .scr ds => some (.ok ds, h1)
  | _ => none
theorem il_ap (a : M D) : miL a ε h = bR (a ε h) ilK := (rfl)
theorem ilK_lst (ds : List D) : ilK (.lst ds) h = some (.ok ds, h) := (rfl)
theorem ilK_scr (ds : List D) : ilK (.scr ds) h = some (.ok ds, h) := (rfl)
def itK (x : D) (h1 : EH) : O (List D) := match x with
  | .tup ds => some (.ok ds, h1)
  | _ => none
theorem it_ap (a : M D) : miT a ε h = bR (a ε h) itK := (rfl)
theorem itK_tup (ds : List D) : itK (.tup ds) h = some (.ok ds, h) := (rfl)
def isK (x : D) (h1 : EH) : O (List D) := match x with
  | .str z => some (.ok (z.map fun c => .str [c]), h1)
  | _ => none
theorem is_ap (a : M D) : miS a ε h = bR (a ε h) isK := (rfl)
theorem isK_str (z : List Nat) : isK (.str z) h = some (.ok (z.map fun c => .str [c]), h) := (rfl)
def ir1K (xs : List D) (h1 : EH) : O (List D) := match xs with
  | [.int j] => if -(2 ^ 62) ≤ j ∧ j < 2 ^ 62 then some (.ok (rngD 0 j.toNat), h1) else none
  | _ => none
theorem ir1_ap (a : M (List D)) : miR1 a ε h = bR (a ε h) ir1K := (rfl)
theorem ir1K_ok {j : Int} (e : -(2 ^ 62) ≤ j ∧ j < 2 ^ 62) : ir1K [.int j] h = some (.ok (rngD 0 j.toNat), h) := if_pos e
def izK (xs : List D) (h1 : EH) : O (List D) := match xs with
  | [x, y] => (match x, y with
    | .lst as, .lst bs => some (.ok (zipD as bs), h1)
    | .tup as, .tup bs => some (.ok (zipD as bs), h1)
    | _, _ => none)
  | _ => none
theorem iz_ap (a : M (List D)) : miZip a ε h = bR (a ε h) izK := (rfl)
theorem izK_l (as bs : List D) : izK [.lst as, .lst bs] h = some (.ok (zipD as bs), h) := (rfl)
theorem izK_t (as bs : List D) : izK [.tup as, .tup bs] h = some (.ok (zipD as bs), h) := (rfl)
theorem snil_ap : msNil ε h = some (.nx ε, h) := (rfl)
def retK (d : D) (h1 : EH) : Option (RS × EH) := some (.rt d, h1)
theorem ret_ap (a : M D) : msRet a ε h = bS (a ε h) ε retK := (rfl)
theorem retK_ap (d : D) : retK d h = some (.rt d, h) := (rfl)
def sifK (a b : MS) (ε : Ev) (k : Bool) (h1 : EH) : Option (RS × EH) := if k = true then a ε h1 else b ε h1
theorem sif_ap (t : M Bool) (a b : MS) : msIf t a b ε h = bS (t ε h) ε (sifK a b ε) := (rfl)
theorem sifK_t (a b : MS) : sifK a b ε true h = a ε h := (rfl)
theorem sifK_f (a b : MS) : sifK a b ε false h = b ε h := (rfl)
def sexprK (ε : Ev) (_ : D) (h1 : EH) : Option (RS × EH) := some (.nx ε, h1)
theorem sexpr_ap (a : M D) : msExpr a ε h = bS (a ε h) ε (sexprK ε) := (rfl)
theorem sexprK_ap (d : D) : sexprK ε d h = some (.nx ε, h) := (rfl)
theorem bk_ap : msBk ε h = some (.bk ε, h) := (rfl)
theorem ct_ap : msCt ε h = some (.ct ε, h) := (rfl)
def asgK (g : MG) (ε : Ev) (d : D) (h1 : EH) : Option (RS × EH) := bG (g d ε h1)
theorem asg_ap (a : M D) (g : MG) : msAsg a g ε h = bS (a ε h) ε (asgK g ε) := (rfl)
theorem asgK_ap (g : MG) (d : D) : asgK g ε d h = bG (g d ε h) := (rfl)
theorem bG_ok : bG (some (ε, h)) = some (.nx ε, h) := (rfl)
def forK (g : MG) (b : MS) (ε : Ev) (ds : List D) (h1 : EH) : Option (RS × EH) := forL g b ds ε h1
theorem for_ap (it : M (List D)) (g : MG) (b : MS) : msFor it g b ε h = bS (it ε h) ε (forK g b ε) := (rfl)
theorem forK_ap (g : MG) (b : MS) (ds : List D) : forK g b ε ds h = forL g b ds ε h := (rfl)
def parK (i j : Nat) (ε : Ev) (ds : List D) (h1 : EH) : Option (RS × EH) := match ds with
  | [d, e] => some (.nx ((ε.set i (some d)).set j (some e)), h1)
  | _ => none
theorem par_ap (i j : Nat) (m : M (List D)) : msPar i j m ε h = bS (m ε h) ε (parK i j ε) := (rfl)
theorem parK_ok (i j : Nat) (d e : D) : parK i j ε [d, e] h = some (.nx ((ε.set i (some d)).set j (some e)), h) := (rfl)
theorem gname_ap (i : Nat) (d : D) : mgName i d ε h = some (ε.set i (some d), h) := (rfl)
theorem gnil_ap : mgNil [] ε h = some (ε, h) := (rfl)
def gK (x : Option (Ev × EH)) (b : MGs) (r : List D) : Option (Ev × EH) := match x with
  | some (ε1, h1) => b r ε1 h1
  | none => none
theorem gcons_ap (a : MG) (b : MGs) (d : D) (r : List D) : mgCons a b (d :: r) ε h = gK (a d ε h) b r := (rfl)
theorem gK_ok (b : MGs) (r : List D) : gK (some (ε, h)) b r = b r ε h := (rfl)
theorem gtup_ap (n : Nat) (ms : MGs) (ds : List D) : mgTup n ms (.tup ds) ε h = if ds.length = n then ms ds ε h else none := (rfl)
def subK2 (v x : D) (ε : Ev) (z : O D) : Option (Ev × EH) := match z with
  | some (.ok y, h2) => (putL h2 x y v).map fun h3 => (ε, h3)
  | _ => none
def subK1 (v : D) (i : M D) (ε : Ev) (z : O D) : Option (Ev × EH) := match z with
  | some (.ok x, h1) => subK2 v x ε (i ε h1)
  | _ => none
theorem gsub_ap (o i : M D) (v : D) : mgSub o i v ε h = subK1 v i ε (o ε h) := by
  unfold mgSub subK1 subK2
  cases o ε h with
  | none => rfl
  | some z =>
    obtain ⟨r, h1⟩ := z
    cases r <;> rfl
theorem subK1_ok (v x : D) (i : M D) : subK1 v i ε (some (.ok x, h)) = subK2 v x ε (i ε h) := (rfl)
theorem subK2_ok (v x y : D) : subK2 v x ε (some (.ok y, h)) = (putL h x y v).map fun h3 => (ε, h3) := (rfl)
theorem add_int (i j : Int) : dAdd h (.int i) (.int j) = some (.int (i + j)) := (rfl)
theorem add_lst {a b : List D} (e : a.length + b.length ≤ 16777216) : dAdd h (.lst a) (.lst b) = some (.lst (a ++ b)) := by
  unfold dAdd dCatS dCatT dCatL dI2
  simp [asO, show a.length + b.length ≤ sizeLine from e]
theorem add_tup {a b : List D} (e : a.length + b.length ≤ 16777216) : dAdd h (.tup a) (.tup b) = some (.tup (a ++ b)) := by
  unfold dAdd dCatS dCatT dCatL dI2
  simp [asO, show a.length + b.length ≤ sizeLine from e]
theorem sub_int (i j : Int) : dSub h (.int i) (.int j) = some (.int (i - j)) := (rfl)
theorem mul_int {i j : Int} (e : CMul i j) : dMul h (.int i) (.int j) = some (.int (i * j)) := if_pos e
theorem div_int {i j : Int} (e : CDiv i j) : dDiv h (.int i) (.int j) = some (.int (i / j)) := if_pos e
theorem mod_int {i j : Int} (e : 0 < j) : dMod h (.int i) (.int j) = some (.int (i % j)) := if_pos e
theorem pow_int {i j : Int} (e : CPow i j) : dPow h (.int i) (.int j) = some (.int (i ^ j.toNat)) := if_pos e
theorem lt_int (i j : Int) : dLt h (.int i) (.int j) = some (.bl (decide (i < j))) := (rfl)
theorem le_int (i j : Int) : dLe h (.int i) (.int j) = some (.bl (decide (i ≤ j))) := (rfl)
theorem gt_int (i j : Int) : dGt h (.int i) (.int j) = some (.bl (decide (j < i))) := (rfl)
theorem ge_int (i j : Int) : dGe h (.int i) (.int j) = some (.bl (decide (j ≤ i))) := (rfl)
theorem eq_int (i j : Int) : dEq h (.int i) (.int j) = some (.bl (decide (i = j))) := (rfl)
theorem eq_str (i j : List Nat) : dEq h (.str i) (.str j) = some (.bl (decide (i = j))) := (rfl)
theorem eq_bl (i j : Bool) : dEq h (.bl i) (.bl j) = some (.bl (decide (i = j))) := (rfl)
theorem eq_is (i : Int) (j : List Nat) : dEq h (.int i) (.str j) = some (.bl false) := (rfl)
theorem eq_si (i : Int) (j : List Nat) : dEq h (.str j) (.int i) = some (.bl false) := (rfl)
theorem eq_bs (i : Bool) (j : List Nat) : dEq h (.bl i) (.str j) = some (.bl false) := (rfl)
theorem eq_sb (i : Bool) (j : List Nat) : dEq h (.str j) (.bl i) = some (.bl false) := (rfl)
theorem eq_nn : dEq h .non .non = some (.bl true) := (rfl)
theorem ne_int (i j : Int) : dNe h (.int i) (.int j) = some (.bl (!decide (i = j))) := (rfl)
theorem ne_str (i j : List Nat) : dNe h (.str i) (.str j) = some (.bl (!decide (i = j))) := (rfl)
theorem ne_bl (i j : Bool) : dNe h (.bl i) (.bl j) = some (.bl (!decide (i = j))) := (rfl)
theorem isn_ap (neg : Bool) (x : D) : dIsN neg h x .non = some (.bl (neg != isNon x)) := (rfl)
theorem isN_int (i : Int) : isNon (.int i) = false := (rfl)
theorem isN_str (i : List Nat) : isNon (.str i) = false := (rfl)
theorem isN_bl (i : Bool) : isNon (.bl i) = false := (rfl)
theorem isN_tup (i : List D) : isNon (.tup i) = false := (rfl)
theorem isN_lst (i : List D) : isNon (.lst i) = false := (rfl)
theorem isN_non : isNon .non = true := (rfl)
theorem ix_lst (ds : List D) (i : Int) : dIx h (.lst ds) (.int i) = atI ds i := (rfl)
theorem ix_tup (ds : List D) (i : Int) : dIx h (.tup ds) (.int i) = atI ds i := (rfl)
theorem ix_scr (ds : List D) (i : Int) : dIx h (.scr ds) (.int i) = atI ds i := (rfl)
theorem len_str {z : List Nat} (e : z.length ≤ 16777216) : dLen h [.str z] = some (.int z.length) := if_pos e
theorem len_lst (ds : List D) : dLen h [.lst ds] = some (.int ds.length) := (rfl)
theorem len_tup (ds : List D) : dLen h [.tup ds] = some (.int ds.length) := (rfl)
theorem int_int (i : Int) : dInt h [.int i] = some (.int i) := (rfl)
theorem list_lst (ds : List D) : dList h [.lst ds] = some (.lst ds) := (rfl)
theorem list_tup (ds : List D) : dList h [.tup ds] = some (.lst ds) := (rfl)
theorem tuple_lst (ds : List D) : dTuple h [.lst ds] = some (.tup ds) := (rfl)
theorem tuple_tup (ds : List D) : dTuple h [.tup ds] = some (.tup ds) := (rfl)
theorem all_lst {ds : List D} {bs : List Bool} (e : asBs ds = some bs) : dAll h [.lst ds] = some (.bl (bs.all id)) := by
  show (asBs ds).map _ = _
  rw [e]; rfl
theorem asB_bl (b : Bool) : asB (.bl b) = some b := (rfl)
theorem getD0 {α : Type} (a : Option α) (r : List (Option α)) : (a :: r).getD 0 none = a := (rfl)
theorem getDS {α : Type} (a : Option α) (r : List (Option α)) (n : Nat) : (a :: r).getD (n + 1) none = r.getD n none := by
  simp
theorem set0 {α : Type} (a b : α) (r : List α) : (a :: r).set 0 b = b :: r := (rfl)
theorem setS {α : Type} (a b : α) (r : List α) (n : Nat) : (a :: r).set (n + 1) b = a :: r.set n b := (rfl)
theorem at0 {α : Type} (a : α) (r : List α) : (a :: r)[0]? = some a := (rfl)
theorem atS {α : Type} (a : α) (r : List α) (n : Nat) : (a :: r)[n + 1]? = r[n]? := (rfl)
theorem atI_nat {α : Type} (xs : List α) (n : Nat) (i : Int) (e : i = (n : Int)) : atI xs i = xs[n]? := by
  subst e
  unfold atI ixN
  by_cases hn : n < xs.length
  · rw [if_pos (by omega), if_pos (by omega)]
    rfl
  · rw [if_pos (by omega), if_neg (by omega), List.getElem?_eq_none (by omega)]
    rfl
theorem endI_rt {d d' : D} {n : Nat} (e : h.length = n) (f : frzI n h d = some d') : endI n (some (.rt d, h)) = some (.ok d', h) := by
  unfold endI trim
  simp only [f, e, if_true]
theorem endP_rt {d : D} (e : noRef d = true) (f : frz h d = some d) : endP (some (.rt d, h)) = some (.ok d) := by
  show (frz h d).map _ = _
  rw [f]; rfl
theorem map_some' {α β : Type} (f : α → β) (a : α) : (some a).map f = some (f a) := (rfl)
theorem bind_some' {α β : Type} (f : α → Option β) (a : α) : (some a).bind f = f a := (rfl)
end
theorem frz_id {h : EH} : ∀ {d : D}, noRef d = true → frz1 h d = some d
  | .non, _ => rfl
  | .bl _, _ => rfl
  | .int _, _ => rfl
  | .str _, _ => rfl
  | .dic _ _, e => if_pos e
  | .ref _, e => by cases e
  | .tup ds, e => if_pos e
  | .lst ds, e => if_pos e
  | .scr ds, e => if_pos e
  | .obj C fs, e => if_pos e
  | .fn _ _, e => if_pos e
  | .exc _ _, e => if_pos e
theorem frzL_id {h : EH} : ∀ {ds : List D}, noRef.go ds = true → frzL h ds = some ds
  | [], _ => rfl
  | d :: ds, e => by
    rw [noRef.go, Bool.and_eq_true] at e
    unfold frzL
    rw [frz_id e.1, frzL_id e.2]
theorem frzT {h : EH} : ∀ {d : D}, noRef d = true → frz h d = some d
  | .tup ds, e => by
    show (frzL h ds).map D.tup = _
    rw [frzL_id (by rw [noRef] at e; exact e)]; rfl
  | .lst ds, e => by
    show (frzL h ds).map D.lst = _
    rw [frzL_id (by rw [noRef] at e; exact e)]; rfl
  | .non, _ => rfl
  | .bl _, _ => rfl
  | .int _, _ => rfl
  | .str _, _ => rfl
  | .dic _ _, e => if_pos e
  | .ref _, e => by cases e
  | .scr ds, e => if_pos e
  | .obj C fs, e => if_pos e
  | .fn _ _, e => if_pos e
  | .exc _ _, e => if_pos e
theorem frzI_id1 {n : Nat} {h : EH} : ∀ {d : D}, noRef d = true → frz1I n h d = some d
  | .non, _ => rfl
  | .bl _, _ => rfl
  | .int _, _ => rfl
  | .str _, _ => rfl
  | .dic _ _, e => if_pos e
  | .ref _, e => by cases e
  | .tup ds, e => if_pos e
  | .lst ds, e => if_pos e
  | .scr ds, e => if_pos e
  | .obj C fs, e => if_pos e
  | .fn _ _, e => if_pos e
  | .exc _ _, e => if_pos e
theorem frzLI_id {n : Nat} {h : EH} : ∀ {ds : List D}, noRef.go ds = true → frzLI n h ds = some ds
  | [], _ => rfl
  | d :: ds, e => by
    rw [noRef.go, Bool.and_eq_true] at e
    unfold frzLI
    rw [frzI_id1 e.1, frzLI_id e.2]
theorem frzIT {n : Nat} {h : EH} : ∀ {d : D}, noRef d = true → frzI n h d = some d
  | .tup ds, e => by
    show (frzLI n h ds).map D.tup = _
    rw [frzLI_id (by rw [noRef] at e; exact e)]; rfl
  | .lst ds, e => by
    show (frzLI n h ds).map D.lst = _
    rw [frzLI_id (by rw [noRef] at e; exact e)]; rfl
  | .non, _ => rfl
  | .bl _, _ => rfl
  | .int _, _ => rfl
  | .str _, _ => rfl
  | .dic _ _, e => if_pos e
  | .ref _, e => by cases e
  | .scr ds, e => if_pos e
  | .obj C fs, e => if_pos e
  | .fn _ _, e => if_pos e
  | .exc _ _, e => if_pos e
section
variable {h h' : EH} {d : D} {n : Nat}
theorem endP_ok (e : noRef d = true) : endP (some (.rt d, h)) = some (.ok d) := endP_rt e (frzT e)
theorem endI_ok (l : h.length = n) (e : noRef d = true) : endI n (some (.rt d, h)) = some (.ok d, h) := endI_rt l (frzIT e)
end
end PD
namespace PD
open PySem PySem.Spec PyProof.Rows L2
def bagC (cs : List D) (i b s c : Int) : Cell := .lst [.lst cs, .int i, .int b, .int s, .int c]
/-- a bag between two pulls -/
structure BagI (k : Cell) : Prop where
  ex : ∃ (cs : List Int) (i b s c : Int), k = bagC (cs.map .int) i b s c ∧ cs.length ≤ 63 ∧ 0 ≤ i ∧ 0 ≤ b ∧ 0 ≤ s ∧ s < 2147483549
def mPull : MS :=
    (msSeq (msAsg (mBin dAdd (mBin dIx (mVar 0) (mC (.int 4))) (mC (.int 1))) (mgSub (mVar 0) (mC (.int 4))))
    (msSeq (msIf (mAnd (mTst (mBin dEq (mBin dIx (mVar 0) (mC (.int 2))) (mC (.int 0)))) (mTst (mBin dLt (mBin dIx (mVar 0) (mC (.int 1))) (mCall dLen (mCons (mBin dIx (mVar 0) (mC (.int 0))) mNil))))) (msSeq (msAsg (mTup (mCons (mBin dIx (mBin dIx (mVar 0) (mC (.int 0))) (mBin dIx (mVar 0) (mC (.int 1)))) (mCons (mBin dAdd (mBin dIx (mVar 0) (mC (.int 1))) (mC (.int 1))) mNil))) (mgTup 2 (mgCons (mgName 3) (mgCons (mgSub (mVar 0) (mC (.int 1))) mgNil))))
    (msSeq (msIf (mTst (mBin dGe (mVar 3) (mBin dPow (mC (.int 10)) (mC (.int 18))))) (msAsg (mVar 3) (mgSub (mVar 0) (mC (.int 2)))) msNil)
    (msAsg (mBin dMod (mCall dInt (mCons (mBin dAdd (mBin dAdd (mBin dMul (mBin dIx (mVar 0) (mC (.int 3))) (mC (.int 38377))) (mBin dMul (mBin dMod (mCall dInt (mCons (mVar 3) mNil)) (mC (.int 2147483489))) (mC (.int 41143)))) (mC (.int 61))) mNil)) (mC (.int 2147483549))) (mgSub (mVar 0) (mC (.int 3)))))) msNil)
    (msSeq (msIf (mTst (mBin dGt (mBin dIx (mVar 0) (mC (.int 2))) (mC (.int 0)))) (msSeq (msAsg (mTup (mCons (mBin dMod (mCall dInt (mCons (mBin dIx (mVar 0) (mC (.int 2))) mNil)) (mVar 1)) (mCons (mBin dDiv (mBin dIx (mVar 0) (mC (.int 2))) (mVar 1)) mNil))) (mgTup 2 (mgCons (mgName 4) (mgCons (mgSub (mVar 0) (mC (.int 2))) mgNil))))
    (msRet (mVar 4))) msNil)
    (msSeq (msAsg (mBin dIx (mVar 0) (mC (.int 3))) (mgName 2))
    (msSeq (msAsg (mBin dMod (mCall dInt (mCons (mBin dAdd (mBin dAdd (mBin dAdd (mBin dPow (mVar 2) (mC (.int 3))) (mBin dMul (mVar 2) (mC (.int 37813)))) (mBin dMul (mBin dIx (mVar 0) (mC (.int 4))) (mC (.int 1299689)))) (mC (.int 65437))) mNil)) (mC (.int 2147483549))) (mgSub (mVar 0) (mC (.int 3))))
    (msRet (mBin dMod (mCall dInt (mCons (mBin dAdd (mBin dDiv (mBin dIx (mVar 0) (mC (.int 3))) (mC (.int 89))) (mBin dMul (mBin dMod (mCall dInt (mCons (mBin dIx (mVar 0) (mC (.int 3))) mNil)) (mC (.int 7919))) (mC (.int 71)))) mNil)) (mVar 1))))))))
section
variable {cs : List D} {i b s c : Int} {t : EH}
theorem bag0 : dIx (bagC cs i b s c :: t) (.ref 0) (.int 0) = some (.lst cs) := rfl
theorem bag1 : dIx (bagC cs i b s c :: t) (.ref 0) (.int 1) = some (.int i) := rfl
theorem bag2 : dIx (bagC cs i b s c :: t) (.ref 0) (.int 2) = some (.int b) := rfl
theorem bag3 : dIx (bagC cs i b s c :: t) (.ref 0) (.int 3) = some (.int s) := rfl
theorem bag4 : dIx (bagC cs i b s c :: t) (.ref 0) (.int 4) = some (.int c) := rfl
theorem put1 (x : Int) : putL (bagC cs i b s c :: t) (.ref 0) (.int 1) (.int x) = some (bagC cs x b s c :: t) := rfl
theorem put2 (x : Int) : putL (bagC cs i b s c :: t) (.ref 0) (.int 2) (.int x) = some (bagC cs i x s c :: t) := rfl
theorem put3 (x : Int) : putL (bagC cs i b s c :: t) (.ref 0) (.int 3) (.int x) = some (bagC cs i b x c :: t) := rfl
theorem put4 (x : Int) : putL (bagC cs i b s c :: t) (.ref 0) (.int 4) (.int x) = some (bagC cs i b s x :: t) := rfl
end
theorem mul_rc {h : EH} {i j : Int} (e : -18446744073709551616 < j ∧ j < 18446744073709551616) : dMul h (.int i) (.int j) = some (.int (i * j)) := mul_int (.inr e)
theorem pow_c {h : EH} {i j : Int} (e : 0 ≤ j ∧ j ≤ 1000000) (e2 : i.natAbs < 18446744073709551616) : dPow h (.int i) (.int j) = some (.int (i ^ j.toNat)) := pow_int ⟨e.1, e.2, e2⟩
theorem p10_18 {h : EH} : dPow h (.int 10) (.int 18) = some (.int 1000000000000000000) := pow_int ⟨by decide, by decide, by decide⟩
theorem div_c {h : EH} {i j : Int} (e : 0 < j ∧ j < 1073741824) : dDiv h (.int i) (.int j) = some (.int (i / j)) := div_int e
theorem pull_ok {k : Cell} (hk : BagI k) {n : Int} (hn : 0 < n) (hn2 : n < 1073741824) (t : EH) : ∃ d k', runI 5 mPull [.ref 0, .int n] (k :: t) = some (.ok (.int d), k' :: t) ∧ 0 ≤ d ∧ d < n ∧ BagI k' := by
  obtain ⟨cs, i, b, s, c, rfl, hcs, hi, hb, hs, hs2⟩ := hk.ex
  have fin : ∀ {d : Int} {k' : Cell} {ε : Ev}, mPull (startE 5 [.ref 0, .int n]) (bagC (cs.map .int) i b s c :: t) = some (.rt (.int d), k' :: t) → runI 5 mPull [.ref 0, .int n] (bagC (cs.map .int) i b s c :: t) = some (.ok (.int d), k' :: t) := fun e => by
    unfold runI
    rw [e]
    exact endI_ok rfl rfl
  have e0 : startE 5 [.ref 0, .int n] = [some (.ref 0), some (.int n), none, none, none] := rfl
  rw [e0] at fin
  have hs3 : s.natAbs < 18446744073709551616 := by omega
  by_cases q1 : b = 0
  · subst q1
    have M : ∀ z : Int, 0 ≤ z % 2147483549 ∧ z % 2147483549 < 2147483549 := fun z => ⟨Int.emod_nonneg _ (by decide), Int.emod_lt_of_pos _ (by decide)⟩
    by_cases q2 : i < (cs.length : Int)
    · obtain ⟨j, rfl⟩ : ∃ j : Nat, i = (j : Int) := ⟨i.toNat, by omega⟩
      have hj : j < cs.length := by omega
      have eX : atI (cs.map D.int) (j : Int) = some (.int cs[j]) := by
        rw [atI_nat _ j _ rfl, List.getElem?_map, List.getElem?_eq_getElem hj]; rfl
      by_cases q3 : (1000000000000000000 : Int) ≤ cs[j]
      · have q4 : 0 < cs[j] := by omega
        refine ⟨cs[j] % n, bagC (cs.map .int) (j + 1) (cs[j] / n) ((s * 38377 + cs[j] % 2147483489 * 41143 + 61) % 2147483549) (c + 1), ?_, Int.emod_nonneg _ (by omega), Int.emod_lt_of_pos _ hn, ⟨_, _, _, _, _, rfl, hcs, by omega, Int.ediv_nonneg (by omega) (by omega), (M _).1, (M _).2⟩⟩
        refine fin (ε := []) ?_
        simp only [mPull, ↓seq_ap, ↓var_ap, ↓c_ap, ↓bin_ap, ↓tst_ap, ↓not_ap, ↓and_ap, ↓or_ap, ↓if_ap, ↓andv_ap, ↓orv_ap, ↓notv_ap, ↓nil_ap, ↓cons_ap, ↓tup_ap, ↓lst_ap, ↓call_ap, ↓callP_ap, ↓callI_ap, ↓perm_ap, ↓nop_ap, ↓smp_ap, ↓sl_ap, ↓chain_ap, ↓isi_ap, ↓lc_ap, ↓lstC_ap, ↓mts_ap, ↓yes_ap, ↓il_ap, ↓it_ap, ↓is_ap, ↓ir1_ap, ↓iz_ap, ↓snil_ap, ↓ret_ap, ↓sif_ap, ↓sexpr_ap, ↓bk_ap, ↓ct_ap, ↓asg_ap, ↓for_ap, ↓par_ap, ↓gname_ap, ↓gnil_ap, ↓gcons_ap, ↓gtup_ap, ↓gsub_ap, bR_ok, bR_ex, rt_some, sq_nx, sq_rt, sq_bk, sq_ct, sq_ex, bS_ok, bS_ex, binK1_ap, binK2_ap, tstK_b, notK_ap, andK_t, andK_f, orK_t, orK_f, ifK_t, ifK_f, andV_t, andV_f, orV_t, orV_f, notV_c, consK1_ap, consK2_ap, tupK_ok, lstK_ok, callK_ap, permK_ap, smP_int, slK1_ap, slK2_ap, slK3_ap, sl_lst, sl_scr, sl_tup, chK1_ap, chK2_ap, chK3_t, chK3_f, chK4_ap, isiK_int, isiK_str, isiK_bl, isiK_non, isiK_tup, isiK_lst, mtsK_str, mtsK2_ap, ilK_lst, ilK_scr, itK_tup, isK_str, izK_l, izK_t, retK_ap, sifK_t, sifK_f, sexprK_ap, asgK_ap, bG_ok, forK_ap, parK_ok, gK_ok, subK1_ok, subK2_ok, add_int, sub_int, mod_int, lt_int, le_int, gt_int, ge_int, eq_int, eq_str, eq_bl, eq_is, eq_si, eq_bs, eq_sb, eq_nn, ne_int, ne_str, ne_bl, isn_ap, isN_int, isN_str, isN_bl, isN_tup, isN_lst, isN_non, ix_lst, ix_tup, ix_scr, len_lst, len_tup, int_int, list_lst, list_tup, tuple_lst, tuple_tup, asB_bl, getD0, getDS, set0, setS, at0, atS, map_some', bind_some', List.length_cons, List.length_nil, List.any_cons, List.any_nil, bag0, bag1, bag2, bag3, bag4, put1, put2, put3, put4, hn, hn2, q2, q3, q4, eX, decide_true, decide_false, and_self, div_c, mul_rc, p10_18, pow_c, Nat.reduceLeDiff, Nat.reduceAdd, if_true, List.length_map, Int.reduceLT, Int.reduceNeg, Int.reducePow, Int.reduceToNat, Int.reduceLE, Nat.reduceLT]
      · have hs4 := M (s * 38377 + cs[j] % 2147483489 * 41143 + 61)
        generalize hs' : (s * 38377 + cs[j] % 2147483489 * 41143 + 61) % 2147483549 = s' at hs4
        have hs5 : s'.natAbs < 18446744073709551616 := by omega
        generalize hz : (s' ^ 3 + s' * 37813 + (c + 1) * 1299689 + 65437) % 2147483549 = z
        refine ⟨(z / 89 + z % 7919 * 71) % n, bagC (cs.map .int) (j + 1) 0 z (c + 1), ?_, Int.emod_nonneg _ (by omega), Int.emod_lt_of_pos _ hn, ⟨_, _, _, _, _, rfl, hcs, by omega, by omega, by rw [← hz]; exact (M _).1, by rw [← hz]; exact (M _).2⟩⟩
        refine fin (ε := []) ?_
        simp only [mPull, ↓seq_ap, ↓var_ap, ↓c_ap, ↓bin_ap, ↓tst_ap, ↓not_ap, ↓and_ap, ↓or_ap, ↓if_ap, ↓andv_ap, ↓orv_ap, ↓notv_ap, ↓nil_ap, ↓cons_ap, ↓tup_ap, ↓lst_ap, ↓call_ap, ↓callP_ap, ↓callI_ap, ↓perm_ap, ↓nop_ap, ↓smp_ap, ↓sl_ap, ↓chain_ap, ↓isi_ap, ↓lc_ap, ↓lstC_ap, ↓mts_ap, ↓yes_ap, ↓il_ap, ↓it_ap, ↓is_ap, ↓ir1_ap, ↓iz_ap, ↓snil_ap, ↓ret_ap, ↓sif_ap, ↓sexpr_ap, ↓bk_ap, ↓ct_ap, ↓asg_ap, ↓for_ap, ↓par_ap, ↓gname_ap, ↓gnil_ap, ↓gcons_ap, ↓gtup_ap, ↓gsub_ap, bR_ok, bR_ex, rt_some, sq_nx, sq_rt, sq_bk, sq_ct, sq_ex, bS_ok, bS_ex, binK1_ap, binK2_ap, tstK_b, notK_ap, andK_t, andK_f, orK_t, orK_f, ifK_t, ifK_f, andV_t, andV_f, orV_t, orV_f, notV_c, consK1_ap, consK2_ap, tupK_ok, lstK_ok, callK_ap, permK_ap, smP_int, slK1_ap, slK2_ap, slK3_ap, sl_lst, sl_scr, sl_tup, chK1_ap, chK2_ap, chK3_t, chK3_f, chK4_ap, isiK_int, isiK_str, isiK_bl, isiK_non, isiK_tup, isiK_lst, mtsK_str, mtsK2_ap, ilK_lst, ilK_scr, itK_tup, isK_str, izK_l, izK_t, retK_ap, sifK_t, sifK_f, sexprK_ap, asgK_ap, bG_ok, forK_ap, parK_ok, gK_ok, subK1_ok, subK2_ok, add_int, sub_int, mod_int, lt_int, le_int, gt_int, ge_int, eq_int, eq_str, eq_bl, eq_is, eq_si, eq_bs, eq_sb, eq_nn, ne_int, ne_str, ne_bl, isn_ap, isN_int, isN_str, isN_bl, isN_tup, isN_lst, isN_non, ix_lst, ix_tup, ix_scr, len_lst, len_tup, int_int, list_lst, list_tup, tuple_lst, tuple_tup, asB_bl, getD0, getDS, set0, setS, at0, atS, map_some', bind_some', List.length_cons, List.length_nil, List.any_cons, List.any_nil, bag0, bag1, bag2, bag3, bag4, put1, put2, put3, put4, hn, hn2, q2, q3, eX, decide_true, decide_false, and_self, div_c, mul_rc, p10_18, pow_c, Nat.reduceLeDiff, Nat.reduceAdd, if_true, List.length_map, Int.reduceLT, Int.reduceNeg, Int.reducePow, Int.reduceToNat, Int.reduceLE, Nat.reduceLT, hs', hs5, hz]
    · have hs5 : s.natAbs < 18446744073709551616 := by omega
      generalize hz : (s ^ 3 + s * 37813 + (c + 1) * 1299689 + 65437) % 2147483549 = z
      refine ⟨(z / 89 + z % 7919 * 71) % n, bagC (cs.map .int) i 0 z (c + 1), ?_, Int.emod_nonneg _ (by omega), Int.emod_lt_of_pos _ hn, ⟨_, _, _, _, _, rfl, hcs, by omega, by omega, by rw [← hz]; exact (M _).1, by rw [← hz]; exact (M _).2⟩⟩
      refine fin (ε := []) ?_
      simp only [mPull, ↓seq_ap, ↓var_ap, ↓c_ap, ↓bin_ap, ↓tst_ap, ↓not_ap, ↓and_ap, ↓or_ap, ↓if_ap, ↓andv_ap, ↓orv_ap, ↓notv_ap, ↓nil_ap, ↓cons_ap, ↓tup_ap, ↓lst_ap, ↓call_ap, ↓callP_ap, ↓callI_ap, ↓perm_ap, ↓nop_ap, ↓smp_ap, ↓sl_ap, ↓chain_ap, ↓isi_ap, ↓lc_ap, ↓lstC_ap, ↓mts_ap, ↓yes_ap, ↓il_ap, ↓it_ap, ↓is_ap, ↓ir1_ap, ↓iz_ap, ↓snil_ap, ↓ret_ap, ↓sif_ap, ↓sexpr_ap, ↓bk_ap, ↓ct_ap, ↓asg_ap, ↓for_ap, ↓par_ap, ↓gname_ap, ↓gnil_ap, ↓gcons_ap, ↓gtup_ap, ↓gsub_ap, bR_ok, bR_ex, rt_some, sq_nx, sq_rt, sq_bk, sq_ct, sq_ex, bS_ok, bS_ex, binK1_ap, binK2_ap, tstK_b, notK_ap, andK_t, andK_f, orK_t, orK_f, ifK_t, ifK_f, andV_t, andV_f, orV_t, orV_f, notV_c, consK1_ap, consK2_ap, tupK_ok, lstK_ok, callK_ap, permK_ap, smP_int, slK1_ap, slK2_ap, slK3_ap, sl_lst, sl_scr, sl_tup, chK1_ap, chK2_ap, chK3_t, chK3_f, chK4_ap, isiK_int, isiK_str, isiK_bl, isiK_non, isiK_tup, isiK_lst, mtsK_str, mtsK2_ap, ilK_lst, ilK_scr, itK_tup, isK_str, izK_l, izK_t, retK_ap, sifK_t, sifK_f, sexprK_ap, asgK_ap, bG_ok, forK_ap, parK_ok, gK_ok, subK1_ok, subK2_ok, add_int, sub_int, mod_int, lt_int, le_int, gt_int, ge_int, eq_int, eq_str, eq_bl, eq_is, eq_si, eq_bs, eq_sb, eq_nn, ne_int, ne_str, ne_bl, isn_ap, isN_int, isN_str, isN_bl, isN_tup, isN_lst, isN_non, ix_lst, ix_tup, ix_scr, len_lst, len_tup, int_int, list_lst, list_tup, tuple_lst, tuple_tup, asB_bl, getD0, getDS, set0, setS, at0, atS, map_some', bind_some', List.length_cons, List.length_nil, List.any_cons, List.any_nil, bag0, bag1, bag2, bag3, bag4, put1, put2, put3, put4, hn, hn2, q2, decide_true, decide_false, and_self, div_c, mul_rc, p10_18, pow_c, Nat.reduceLeDiff, Nat.reduceAdd, if_true, List.length_map, Int.reduceLT, Int.reduceNeg, Int.reducePow, Int.reduceToNat, Int.reduceLE, Nat.reduceLT, hs5, hz]
  · have q2 : 0 < b := by omega
    refine ⟨b % n, bagC (cs.map .int) i (b / n) s (c + 1), ?_, Int.emod_nonneg _ (by omega), Int.emod_lt_of_pos _ hn, ⟨_, _, _, _, _, rfl, hcs, hi, Int.ediv_nonneg hb (by omega), hs, hs2⟩⟩
    refine fin (ε := []) ?_
    simp only [mPull, ↓seq_ap, ↓var_ap, ↓c_ap, ↓bin_ap, ↓tst_ap, ↓not_ap, ↓and_ap, ↓or_ap, ↓if_ap, ↓andv_ap, ↓orv_ap, ↓notv_ap, ↓nil_ap, ↓cons_ap, ↓tup_ap, ↓lst_ap, ↓call_ap, ↓callP_ap, ↓callI_ap, ↓perm_ap, ↓nop_ap, ↓smp_ap, ↓sl_ap, ↓chain_ap, ↓isi_ap, ↓lc_ap, ↓lstC_ap, ↓mts_ap, ↓yes_ap, ↓il_ap, ↓it_ap, ↓is_ap, ↓ir1_ap, ↓iz_ap, ↓snil_ap, ↓ret_ap, ↓sif_ap, ↓sexpr_ap, ↓bk_ap, ↓ct_ap, ↓asg_ap, ↓for_ap, ↓par_ap, ↓gname_ap, ↓gnil_ap, ↓gcons_ap, ↓gtup_ap, ↓gsub_ap, bR_ok, bR_ex, rt_some, sq_nx, sq_rt, sq_bk, sq_ct, sq_ex, bS_ok, bS_ex, binK1_ap, binK2_ap, tstK_b, notK_ap, andK_t, andK_f, orK_t, orK_f, ifK_t, ifK_f, andV_t, andV_f, orV_t, orV_f, notV_c, consK1_ap, consK2_ap, tupK_ok, lstK_ok, callK_ap, permK_ap, smP_int, slK1_ap, slK2_ap, slK3_ap, sl_lst, sl_scr, sl_tup, chK1_ap, chK2_ap, chK3_t, chK3_f, chK4_ap, isiK_int, isiK_str, isiK_bl, isiK_non, isiK_tup, isiK_lst, mtsK_str, mtsK2_ap, ilK_lst, ilK_scr, itK_tup, isK_str, izK_l, izK_t, retK_ap, sifK_t, sifK_f, sexprK_ap, asgK_ap, bG_ok, forK_ap, parK_ok, gK_ok, subK1_ok, subK2_ok, add_int, sub_int, mod_int, lt_int, le_int, gt_int, ge_int, eq_int, eq_str, eq_bl, eq_is, eq_si, eq_bs, eq_sb, eq_nn, ne_int, ne_str, ne_bl, isn_ap, isN_int, isN_str, isN_bl, isN_tup, isN_lst, isN_non, ix_lst, ix_tup, ix_scr, len_lst, len_tup, int_int, list_lst, list_tup, tuple_lst, tuple_tup, asB_bl, getD0, getDS, set0, setS, at0, atS, map_some', bind_some', List.length_cons, List.length_nil, List.any_cons, List.any_nil, bag0, bag1, bag2, bag3, bag4, put1, put2, put3, put4, hn, hn2, q1, q2, decide_true, decide_false, and_self, div_c, Nat.reduceLeDiff, Nat.reduceAdd, if_true]
end PD
local macro_rules
  | `(tactic| simp? only [$xs,*] $[$l]?) => `(tactic| simp only [↓PD.seq_ap, ↓PD.var_ap, ↓PD.c_ap, ↓PD.bin_ap, ↓PD.tst_ap, ↓PD.not_ap, ↓PD.and_ap, ↓PD.or_ap, ↓PD.if_ap, ↓PD.andv_ap, ↓PD.orv_ap, ↓PD.notv_ap, ↓PD.nil_ap, ↓PD.cons_ap, ↓PD.tup_ap, ↓PD.lst_ap, ↓PD.call_ap, ↓PD.callP_ap, ↓PD.callI_ap, ↓PD.perm_ap, ↓PD.nop_ap, ↓PD.smp_ap, ↓PD.sl_ap, ↓PD.chain_ap, ↓PD.isi_ap, ↓PD.lc_ap, ↓PD.lstC_ap, ↓PD.mts_ap, ↓PD.yes_ap, ↓PD.il_ap, ↓PD.it_ap, ↓PD.is_ap, ↓PD.ir1_ap, ↓PD.iz_ap, ↓PD.snil_ap, ↓PD.ret_ap, ↓PD.sif_ap, ↓PD.sexpr_ap, ↓PD.bk_ap, ↓PD.ct_ap, ↓PD.asg_ap, ↓PD.for_ap, ↓PD.par_ap, ↓PD.gname_ap, ↓PD.gnil_ap, ↓PD.gcons_ap, ↓PD.gtup_ap, ↓PD.gsub_ap, PD.bR_ok, PD.bR_ex, PD.rt_some, PD.sq_nx, PD.sq_rt, PD.sq_bk, PD.sq_ct, PD.sq_ex, PD.bS_ok, PD.bS_ex, PD.binK1_ap, PD.binK2_ap, PD.tstK_b, PD.notK_ap, PD.andK_t, PD.andK_f, PD.orK_t, PD.orK_f, PD.ifK_t, PD.ifK_f, PD.andV_t, PD.andV_f, PD.orV_t, PD.orV_f, PD.notV_c, PD.consK1_ap, PD.consK2_ap, PD.tupK_ok, PD.lstK_ok, PD.callK_ap, PD.permK_ap, PD.smP_int, PD.slK1_ap, PD.slK2_ap, PD.slK3_ap, PD.sl_lst, PD.sl_scr, PD.sl_tup, PD.chK1_ap, PD.chK2_ap, PD.chK3_t, PD.chK3_f, PD.chK4_ap, PD.isiK_int, PD.isiK_str, PD.isiK_bl, PD.isiK_non, PD.isiK_tup, PD.isiK_lst, PD.mtsK_str, PD.mtsK2_ap, PD.ilK_lst, PD.ilK_scr, PD.itK_tup, PD.isK_str, PD.izK_l, PD.izK_t, PD.retK_ap, PD.sifK_t, PD.sifK_f, PD.sexprK_ap, PD.asgK_ap, PD.bG_ok, PD.forK_ap, PD.parK_ok, PD.gK_ok, PD.subK1_ok, PD.subK2_ok, PD.add_int, PD.sub_int, PD.mod_int, PD.lt_int, PD.le_int, PD.gt_int, PD.ge_int, PD.eq_int, PD.eq_str, PD.eq_bl, PD.eq_is, PD.eq_si, PD.eq_bs, PD.eq_sb, PD.eq_nn, PD.ne_int, PD.ne_str, PD.ne_bl, PD.isn_ap, PD.isN_int, PD.isN_str, PD.isN_bl, PD.isN_tup, PD.isN_lst, PD.isN_non, PD.ix_lst, PD.ix_tup, PD.ix_scr, PD.len_lst, PD.len_tup, PD.int_int, PD.list_lst, PD.list_tup, PD.tuple_lst, PD.tuple_tup, PD.asB_bl, PD.getD0, PD.getDS, PD.set0, PD.setS, PD.at0, PD.atS, PD.map_some', PD.bind_some', List.length_cons, List.length_nil, List.any_cons, List.any_nil, decide_true, decide_false, and_self, Nat.reduceLeDiff, Nat.reduceAdd, if_true, Int.reduceLT, Int.reduceNeg, Int.reducePow, Int.reduceToNat, Int.reduceLE, Nat.reduceLT, Int.reduceAdd, Int.reduceSub, Bool.not_true, Bool.not_false, Int.reduceEq, bne_self_eq_false, Bool.false_bne, Bool.true_bne, Int.reduceBNe, $xs,*] $[$l]?)
namespace PD
open PySem PySem.Spec PyProof.Rows L2
def F_pull : IF := runI 5 mPull
theorem lcL_map {g : MG} {t : M Bool} {e : M D} (f : D → D) {ε : Ev} {h : EH} : ∀ {ds : List D}, (∀ d ∈ ds, ∃ ε1, g d ε h = some (ε1, h) ∧ t ε1 h = some (.ok true, h) ∧ e ε1 h = some (.ok (f d), h)) → lcL g t e ds ε h = some (ds.map f, h)
  | [], _ => rfl
  | d :: ds, H => by
    obtain ⟨ε1, h1, h2, h3⟩ := H d List.mem_cons_self
    unfold lcL
    simp only [h1, h2, h3, lcL_map f fun x hx => H x (List.mem_cons_of_mem _ hx), List.map_cons]
theorem asBs_map {α : Type} (f : α → Bool) : ∀ ds : List α, asBs (ds.map fun d => .bl (f d)) = some (ds.map f)
  | [] => rfl
  | d :: ds => by
    rw [List.map_cons]
    unfold asBs
    rw [asBs_map f ds]; rfl
theorem atI_in {α : Type} {ds : List α} {i : Int} (h0 : 0 ≤ i) (h1 : i < (ds.length : Int)) : ∃ x ∈ ds, atI ds i = some x := by
  have hj : i.toNat < ds.length := by omega
  exact ⟨ds[i.toNat], List.getElem_mem hj, by rw [atI_nat ds i.toNat i (by omega), List.getElem?_eq_getElem hj]⟩
def mAny : MS :=
    (msRet (mBin dIx (mVar 1) (mCallI F_pull (mCons (mVar 0) (mCons (mCall dLen (mCons (mVar 1) mNil)) mNil)))))
def F_any : IF := runI 2 mAny
theorem any_lst {k : Cell} (hk : BagI k) {ds : List D} (h0 : 0 < ds.length) (h1 : ds.length < 1073741824) (hr : ∀ d ∈ ds, noRef d = true) (t : EH) : ∃ d k', F_any [.ref 0, .lst ds] (k :: t) = some (.ok d, k' :: t) ∧ d ∈ ds ∧ BagI k' := by
  obtain ⟨i, k', e, i0, i1, hk'⟩ := pull_ok hk (n := (ds.length : Int)) (by omega) (by omega) t
  obtain ⟨d, hd, ed⟩ := atI_in i0 i1
  refine ⟨d, k', ?_, hd, hk'⟩
  show endI _ (mAny [some (.ref 0), some (.lst ds)] (k :: t)) = _
  have e' : F_pull [.ref 0, .int ds.length] (k :: t) = some (.ok (.int i), k' :: t) := e
  simp only [mAny, ↓seq_ap, ↓var_ap, ↓c_ap, ↓bin_ap, ↓tst_ap, ↓not_ap, ↓and_ap, ↓or_ap, ↓if_ap, ↓andv_ap, ↓orv_ap, ↓notv_ap, ↓nil_ap, ↓cons_ap, ↓tup_ap, ↓lst_ap, ↓call_ap, ↓callP_ap, ↓callI_ap, ↓perm_ap, ↓nop_ap, ↓smp_ap, ↓sl_ap, ↓chain_ap, ↓isi_ap, ↓lc_ap, ↓lstC_ap, ↓mts_ap, ↓yes_ap, ↓il_ap, ↓it_ap, ↓is_ap, ↓ir1_ap, ↓iz_ap, ↓snil_ap, ↓ret_ap, ↓sif_ap, ↓sexpr_ap, ↓bk_ap, ↓ct_ap, ↓asg_ap, ↓for_ap, ↓par_ap, ↓gname_ap, ↓gnil_ap, ↓gcons_ap, ↓gtup_ap, ↓gsub_ap, bR_ok, bR_ex, rt_some, sq_nx, sq_rt, sq_bk, sq_ct, sq_ex, bS_ok, bS_ex, binK1_ap, binK2_ap, tstK_b, notK_ap, andK_t, andK_f, orK_t, orK_f, ifK_t, ifK_f, andV_t, andV_f, orV_t, orV_f, notV_c, consK1_ap, consK2_ap, tupK_ok, lstK_ok, callK_ap, permK_ap, smP_int, slK1_ap, slK2_ap, slK3_ap, sl_lst, sl_scr, sl_tup, chK1_ap, chK2_ap, chK3_t, chK3_f, chK4_ap, isiK_int, isiK_str, isiK_bl, isiK_non, isiK_tup, isiK_lst, mtsK_str, mtsK2_ap, ilK_lst, ilK_scr, itK_tup, isK_str, izK_l, izK_t, retK_ap, sifK_t, sifK_f, sexprK_ap, asgK_ap, bG_ok, forK_ap, parK_ok, gK_ok, subK1_ok, subK2_ok, add_int, sub_int, mod_int, lt_int, le_int, gt_int, ge_int, eq_int, eq_str, eq_bl, eq_is, eq_si, eq_bs, eq_sb, eq_nn, ne_int, ne_str, ne_bl, isn_ap, isN_int, isN_str, isN_bl, isN_tup, isN_lst, isN_non, ix_lst, ix_tup, ix_scr, len_lst, len_tup, int_int, list_lst, list_tup, tuple_lst, tuple_tup, asB_bl, getD0, getDS, set0, setS, at0, atS, map_some', bind_some', List.length_cons, List.length_nil, List.any_cons, List.any_nil, e', ed]
  exact endI_ok rfl (hr d hd)
def mDraws : MS :=
    (msSeq (msAsg (mC (.int 5648)) (mgName 1))
    (msSeq (msFor (miL (mSl (mVar 0) mNoP (mSmP (mC (.int 63))))) (mgName 2) (msAsg (mBin dMod (mCall dInt (mCons (mBin dAdd (mBin dAdd (mBin dMul (mVar 1) (mC (.int 44021))) (mBin dMod (mCall dInt (mCons (mVar 2) mNil)) (mC (.int 2147483489)))) (mC (.int 53))) mNil)) (mC (.int 2147483549))) (mgName 1)))
    (msRet (mLstC (mCons (mCall dList (mCons (mSl (mVar 0) mNoP (mSmP (mC (.int 63)))) mNil)) (mCons (mC (.int 0)) (mCons (mC (.int 0)) (mCons (mVar 1) (mCons (mC (.int 0)) mNil)))))))))
def F_draws : IF := runA 3 mDraws
theorem draws_loop {x : D} : ∀ (ns : List Int) (s : Int) (o : Option D), 0 ≤ s → s < 2147483549 → ∃ s' o', forL (mgName 2) (msAsg (mBin dMod (mCall dInt (mCons (mBin dAdd (mBin dAdd (mBin dMul (mVar 1) (mC (.int 44021))) (mBin dMod (mCall dInt (mCons (mVar 2) mNil)) (mC (.int 2147483489)))) (mC (.int 53))) mNil)) (mC (.int 2147483549))) (mgName 1)) (ns.map .int) [some x, some (.int s), o] [] = some (.nx [some x, some (.int s'), o'], []) ∧ 0 ≤ s' ∧ s' < 2147483549
  | [], s, o, h0, h1 => ⟨s, o, rfl, h0, h1⟩
  | n :: ns, s, o, h0, h1 => by
    obtain ⟨s', o', e, r⟩ := draws_loop ns ((s * 44021 + n % 2147483489 + 53) % 2147483549) (some (.int n)) (Int.emod_nonneg _ (by decide)) (Int.emod_lt_of_pos _ (by decide))
    refine ⟨s', o', ?_, r⟩
    rw [List.map_cons]
    unfold forL
    simp? only [mul_rc]
    exact e
theorem cut63 {α : Type} {ns : List α} (h : ns.length ≤ 63) : cutD ns none (some 63) = ns := by
  unfold cutD
  have e1 : HT.sIx ns.length 0 none = 0 := rfl
  have e2 : HT.sIx ns.length ns.length (some 63) = ns.length := by
    show (if (63 : Int) < 0 then ((63 : Int) + (ns.length : Int)).toNat else min (63 : Int).toNat ns.length) = _
    rw [if_neg (by decide)]
    show min 63 ns.length = _
    omega
  rw [e1, e2]
  simp
theorem draws_ok {ns : List Int} (h : ns.length ≤ 63) : ∃ k, F_draws [.scr (ns.map .int)] [] = some (.ok (.ref 0), [k]) ∧ BagI k := by
  obtain ⟨s', o', e, r0, r1⟩ := draws_loop (x := .scr (ns.map .int)) ns 5648 none (by decide) (by decide)
  refine ⟨bagC (ns.map .int) 0 0 s' 0, ?_, ⟨_, _, _, _, _, rfl, h, by decide, by decide, r0, r1⟩⟩
  show endA _ (mDraws [some (.scr (ns.map .int)), none, none] []) = _
  have l : (ns.map D.int).length ≤ 63 := by simpa using h
  simp? only [mDraws, cut63 l, e, lstCK_ok]
  rfl
def mLike (F : PF) : MS :=
    (msSeq (msIf (mTst (mIsi [.lst, .tup] (mVar 1))) (msSeq (msAsg (mAndV (mBin dEq (mIsi [.lst] (mVar 0)) (mIsi [.lst] (mVar 1))) (mBin dEq (mIsi [.tup] (mVar 0)) (mIsi [.tup] (mVar 1)))) (mgName 2))
    (msRet (mAndV (mVar 2) (mAndV (mBin dEq (mCall dLen (mCons (mVar 0) mNil)) (mCall dLen (mCons (mVar 1) mNil))) (mCall dAll (mCons (mLc [3, 4] (miZip (mCons (mVar 0) (mCons (mVar 1) mNil))) (mgTup 2 (mgCons (mgName 3) (mgCons (mgName 4) mgNil))) mYes (mCallP F (mCons (mVar 3) (mCons (mVar 4) mNil)))) mNil)))))) msNil)
    (msSeq (msIf (mOr (mTst (mBin (dIsN false) (mVar 0) (mC .non))) (mOr (mTst (mBin (dIsN false) (mVar 1) (mC .non))) (mTst (mBin dNe (mIsi [.bool] (mVar 0)) (mIsi [.bool] (mVar 1)))))) (msRet (mAndV (mBin (dIsN false) (mVar 0) (mC .non)) (mBin (dIsN false) (mVar 1) (mC .non)))) msNil)
    (msRet (mAndV (mBin dEq (mIsi [.int] (mVar 0)) (mIsi [.int] (mVar 1))) (mAndV (mBin dEq (mIsi [.str] (mVar 0)) (mIsi [.str] (mVar 1))) (mBin dEq (mVar 0) (mVar 1)))))))
def F_like_ : Nat → PF
  | 0 => fun _ => none
  | t + 1 => runP 5 (mLike (F_like_ t))
/-- data of a depth -/
def okD : Nat → D → Bool
  | 0, _ => false
  | _ + 1, .non => true
  | _ + 1, .bl _ => true
  | _ + 1, .int _ => true
  | _ + 1, .str _ => true
  | t + 1, .tup ds => decide (ds.length ≤ 16777216) && ds.all (okD t)
  | t + 1, .lst ds => decide (ds.length ≤ 16777216) && ds.all (okD t)
  | _ + 1, _ => false
theorem noRef_all : ∀ {ds : List D}, (∀ d ∈ ds, noRef d = true) → noRef.go ds = true
  | [], _ => rfl
  | d :: ds, h => by
    rw [noRef.go, h d List.mem_cons_self, noRef_all fun x hx => h x (List.mem_cons_of_mem _ hx)]; rfl
theorem okD_noRef : ∀ {t : Nat} {d : D}, okD t d = true → noRef d = true
  | 0, _, e => by cases e
  | t + 1, .non, _ => rfl
  | t + 1, .bl _, _ => rfl
  | t + 1, .int _, _ => rfl
  | t + 1, .str _, _ => rfl
  | t + 1, .tup ds, e => by
    rw [noRef]
    exact noRef_all fun d hd => okD_noRef (t := t) (List.all_eq_true.mp (Bool.and_eq_true_iff.mp (show (decide (ds.length ≤ 16777216) && ds.all (okD t)) = true from e)).2 d hd)
  | t + 1, .lst ds, e => by
    rw [noRef]
    exact noRef_all fun d hd => okD_noRef (t := t) (List.all_eq_true.mp (Bool.and_eq_true_iff.mp (show (decide (ds.length ≤ 16777216) && ds.all (okD t)) = true from e)).2 d hd)
  | t + 1, .scr _, e => by cases e
  | t + 1, .dic _ _, e => by cases e
  | t + 1, .obj _ _, e => by cases e
  | t + 1, .ref _, e => by cases e
theorem okD_up : ∀ {t : Nat} {d : D}, okD t d = true → okD (t + 1) d = true
  | 0, _, e => by cases e
  | t + 1, .non, _ => rfl
  | t + 1, .bl _, _ => rfl
  | t + 1, .int _, _ => rfl
  | t + 1, .str _, _ => rfl
  | t + 1, .tup ds, e => by
    have e' := Bool.and_eq_true_iff.mp (show (decide (ds.length ≤ 16777216) && ds.all (okD t)) = true from e)
    exact Bool.and_eq_true_iff.mpr ⟨e'.1, List.all_eq_true.mpr fun d hd => okD_up (List.all_eq_true.mp e'.2 d hd)⟩
  | t + 1, .lst ds, e => by
    have e' := Bool.and_eq_true_iff.mp (show (decide (ds.length ≤ 16777216) && ds.all (okD t)) = true from e)
    exact Bool.and_eq_true_iff.mpr ⟨e'.1, List.all_eq_true.mpr fun d hd => okD_up (List.all_eq_true.mp e'.2 d hd)⟩
  | t + 1, .scr _, e => by cases e
  | t + 1, .dic _ _, e => by cases e
  | t + 1, .obj _ _, e => by cases e
  | t + 1, .ref _, e => by cases e
theorem okD_le {t u : Nat} {d : D} (h : okD t d = true) (l : t ≤ u) : okD u d = true := by
  induction l with
  | refl => exact h
  | step _ ih => exact okD_up ih
theorem zip_self : ∀ ds : List D, zipD ds ds = ds.map fun d => .tup [d, d]
  | [] => rfl
  | d :: ds => by
    have := zip_self ds
    unfold zipD at this ⊢
    rw [List.zip_cons_cons, List.map_cons, this, List.map_cons]
theorem like_lc {t : Nat} {ds : List D} {a b c : Option D} (hl : ds.length ≤ 16777216) (hd : ∀ d ∈ ds, noRef d = true) (ih : ∀ d ∈ ds, F_like_ t [d, d] = some (.ok (.bl true))) :
    lcL (mgTup 2 (mgCons (mgName 3) (mgCons (mgName 4) mgNil))) mYes (mCallP (F_like_ t) (mCons (mVar 3) (mCons (mVar 4) mNil))) (zipD ds ds) [a, b, c, none, none] [] = some (ds.map fun _ => .bl true, []) := by
  have := lcL_map (g := mgTup 2 (mgCons (mgName 3) (mgCons (mgName 4) mgNil))) (t := mYes) (e := mCallP (F_like_ t) (mCons (mVar 3) (mCons (mVar 4) mNil))) (fun _ => .bl true) (ε := [a, b, c, none, none]) (h := []) (ds := zipD ds ds) fun x hx => by
    rw [zip_self] at hx
    obtain ⟨d, hd1, rfl⟩ := List.mem_map.mp hx
    refine ⟨[a, b, c, some d, some d], rfl, rfl, ?_⟩
    have e2 : noRef.go [d, d] = true := by rw [noRef.go, noRef.go, hd d hd1]; rfl
    simp only [↓seq_ap, ↓var_ap, ↓c_ap, ↓bin_ap, ↓tst_ap, ↓not_ap, ↓and_ap, ↓or_ap, ↓if_ap, ↓andv_ap, ↓orv_ap, ↓notv_ap, ↓nil_ap, ↓cons_ap, ↓tup_ap, ↓lst_ap, ↓call_ap, ↓callP_ap, ↓callI_ap, ↓perm_ap, ↓nop_ap, ↓smp_ap, ↓sl_ap, ↓chain_ap, ↓isi_ap, ↓lc_ap, ↓lstC_ap, ↓mts_ap, ↓yes_ap, ↓il_ap, ↓it_ap, ↓is_ap, ↓ir1_ap, ↓iz_ap, ↓snil_ap, ↓ret_ap, ↓sif_ap, ↓sexpr_ap, ↓bk_ap, ↓ct_ap, ↓asg_ap, ↓for_ap, ↓par_ap, ↓gname_ap, ↓gnil_ap, ↓gcons_ap, ↓gtup_ap, ↓gsub_ap, bR_ok, bR_ex, rt_some, sq_nx, sq_rt, sq_bk, sq_ct, sq_ex, bS_ok, bS_ex, binK1_ap, binK2_ap, tstK_b, notK_ap, andK_t, andK_f, orK_t, orK_f, ifK_t, ifK_f, andV_t, andV_f, orV_t, orV_f, notV_c, consK1_ap, consK2_ap, tupK_ok, lstK_ok, callK_ap, permK_ap, smP_int, slK1_ap, slK2_ap, slK3_ap, sl_lst, sl_scr, sl_tup, chK1_ap, chK2_ap, chK3_t, chK3_f, chK4_ap, isiK_int, isiK_str, isiK_bl, isiK_non, isiK_tup, isiK_lst, mtsK_str, mtsK2_ap, ilK_lst, ilK_scr, itK_tup, isK_str, izK_l, izK_t, retK_ap, sifK_t, sifK_f, sexprK_ap, asgK_ap, bG_ok, forK_ap, parK_ok, gK_ok, subK1_ok, subK2_ok, add_int, sub_int, mod_int, lt_int, le_int, gt_int, ge_int, eq_int, eq_str, eq_bl, eq_is, eq_si, eq_bs, eq_sb, eq_nn, ne_int, ne_str, ne_bl, isn_ap, isN_int, isN_str, isN_bl, isN_tup, isN_lst, isN_non, ix_lst, ix_tup, ix_scr, len_lst, len_tup, int_int, list_lst, list_tup, tuple_lst, tuple_tup, asB_bl, getD0, getDS, set0, setS, at0, atS, map_some', bind_some', List.length_cons, List.length_nil, List.any_cons, List.any_nil, callPK_ok (ih d hd1) e2]
  rw [this, zip_self, List.map_map]
  rfl
theorem like_refl : ∀ {t : Nat} {d : D}, okD t d = true → F_like_ t [d, d] = some (.ok (.bl true))
  | 0, _, e => by cases e
  | t + 1, .non, _ => by
    show endP (mLike (F_like_ t) [some .non, some .non, none, none, none] []) = _
    simp? only [mLike, isa, Bool.or_false, Bool.or_true, Bool.and_true, Bool.and_false, Bool.or_self]
    exact endP_ok rfl
  | t + 1, .bl b, _ => by
    show endP (mLike (F_like_ t) [some (.bl b), some (.bl b), none, none, none] []) = _
    simp? only [mLike, isa, Bool.or_false, Bool.or_true, Bool.and_true, Bool.and_false, Bool.or_self]
    exact endP_ok rfl
  | t + 1, .int i, _ => by
    show endP (mLike (F_like_ t) [some (.int i), some (.int i), none, none, none] []) = _
    simp? only [mLike, isa, Bool.or_false, Bool.or_true, Bool.and_true, Bool.and_false, Bool.or_self]
    exact endP_ok rfl
  | t + 1, .str z, _ => by
    show endP (mLike (F_like_ t) [some (.str z), some (.str z), none, none, none] []) = _
    simp? only [mLike, isa, Bool.or_false, Bool.or_true, Bool.and_true, Bool.and_false, Bool.or_self]
    exact endP_ok rfl
  | t + 1, .tup ds, e => by
    obtain ⟨e1, e2⟩ := Bool.and_eq_true_iff.mp (show (decide (ds.length ≤ 16777216) && ds.all (okD t)) = true from e)
    have hl : ds.length ≤ 16777216 := of_decide_eq_true e1
    have hA := List.all_eq_true.mp e2
    have lc := like_lc (t := t) (a := some (.tup ds)) (b := some (.tup ds)) (c := some (.bl true)) hl (fun d hd => okD_noRef (hA d hd)) fun d hd => like_refl (hA d hd)
    have lk := lcK_ok (vs := [3, 4]) (ε := [some (.tup ds), some (.tup ds), some (.bl true), none, none]) (h := []) lc (by simpa using hl)
    show endP (mLike (F_like_ t) [some (.tup ds), some (.tup ds), none, none, none] []) = _
    simp? only [mLike, isa, Bool.or_false, Bool.or_true, Bool.and_true, Bool.and_false, Bool.or_self, lk, all_lst (asBs_map (fun _ => true) ds)]
    rw [show (ds.map fun _ => true).all id = true by simp]
    exact endP_ok rfl
  | t + 1, .lst ds, e => by
    obtain ⟨e1, e2⟩ := Bool.and_eq_true_iff.mp (show (decide (ds.length ≤ 16777216) && ds.all (okD t)) = true from e)
    have hl : ds.length ≤ 16777216 := of_decide_eq_true e1
    have hA := List.all_eq_true.mp e2
    have lc := like_lc (t := t) (a := some (.lst ds)) (b := some (.lst ds)) (c := some (.bl true)) hl (fun d hd => okD_noRef (hA d hd)) fun d hd => like_refl (hA d hd)
    have lk := lcK_ok (vs := [3, 4]) (ε := [some (.lst ds), some (.lst ds), some (.bl true), none, none]) (h := []) lc (by simpa using hl)
    show endP (mLike (F_like_ t) [some (.lst ds), some (.lst ds), none, none, none] []) = _
    simp? only [mLike, isa, Bool.or_false, Bool.or_true, Bool.and_true, Bool.and_false, Bool.or_self, lk, all_lst (asBs_map (fun _ => true) ds)]
    rw [show (ds.map fun _ => true).all id = true by simp]
    exact endP_ok rfl
  | t + 1, .scr _, e => by cases e
  | t + 1, .dic _ _, e => by cases e
  | t + 1, .obj _ _, e => by cases e
  | t + 1, .ref _, e => by cases e
end PD
namespace PD
open PySem PySem.Spec PyProof.Rows L2
def abc : List Nat := [97, 98, 99, 100, 101, 102, 103, 104, 105, 106, 107, 108, 109, 110, 111, 112, 113, 114, 115, 116, 117, 118, 119, 120, 121, 122]
def resv : List (List Nat) := [[97, 110, 100], [102, 111, 117, 110, 100], [107, 101, 121], [110, 101, 120, 116], [110, 111, 116], [111, 114], [111, 119, 110], [115, 101, 116], [116, 114, 117, 101], [119, 104, 101, 114, 101]]
def isNm (z : List Nat) : Bool := decide (1 ≤ z.length) && (decide (z.length ≤ 6) && (!decide (z ∈ resv) && z.all fun c => decide (c ∈ abc)))
def isCol (z : List Nat) : Bool := decide (z = [107, 101, 121]) || isNm z
def dGreat : D := (.int 1000000000000000000000000000000)
def dAbc : D := (.str abc)
def dResv : D := (.tup [(.str [97, 110, 100]), (.str [102, 111, 117, 110, 100]), (.str [107, 101, 121]), (.str [110, 101, 120, 116]), (.str [110, 111, 116]), (.str [111, 114]), (.str [111, 119, 110]), (.str [115, 101, 116]), (.str [116, 114, 117, 101]), (.str [119, 104, 101, 114, 101])])
theorem in_strs {h : EH} {z : List Nat} (ws : List (List Nat)) : dInA h (.str z) (.tup (ws.map .str)) = some (.bl (decide (z ∈ ws))) := by
  show (dInS false h (.str z) (.tup (ws.map .str))).or (dIn false h (.str z) (.tup (ws.map .str))) = _
  have e1 : dInS false h (.str z) (.tup (ws.map .str)) = none := rfl
  have e2 : (ws.map D.str).all flatD = true := by
    rw [List.all_eq_true]
    intro d hd
    obtain ⟨w, _, rfl⟩ := List.mem_map.mp hd
    rfl
  have e3 : dIn false h (.str z) (.tup (ws.map .str)) = some (.bl (false != (ws.map D.str).any fun y => eqF y (.str z))) := if_pos ⟨rfl, e2⟩
  rw [e1, e3]
  show some (D.bl (false != (ws.map D.str).any fun y => eqF y (.str z))) = _
  congr 2
  rw [Bool.eq_iff_iff]
  simp only [Bool.false_bne, List.any_eq_true, List.mem_map, decide_eq_true_eq]
  constructor
  · rintro ⟨d, ⟨w, hw, rfl⟩, e⟩
    have : w = z := by simpa [eqF] using e
    exact this ▸ hw
  · intro hz
    exact ⟨.str z, ⟨z, hz, rfl⟩, by simp [eqF]⟩
theorem in_resv {h : EH} {z : List Nat} : dInA h (.str z) dResv = some (.bl (decide (z ∈ resv))) := in_strs resv
theorem in_sign {h : EH} {c : Nat} {z : List Nat} : dInA h (.str [c]) (.str z) = some (.bl (decide (c ∈ z))) := by
  show (some (D.bl (false != decide (c ∈ z)))).or _ = _
  rw [Bool.false_bne]; rfl
def mIsName : MS :=
    (msSeq (msIf (mOr (mNot (mTst (mIsi [.str] (mVar 0)))) (mOr (mNot (mTst (mChain dLe dLe (mC (.int 1)) (mCall dLen (mCons (mVar 0) mNil)) (mC (.int 6))))) (mTst (mBin dInA (mVar 0) (mC dResv))))) (msRet (mC (.bl false))) msNil)
    (msRet (mCall dAll (mCons (mLc [1] (miS (mVar 0)) (mgName 1) mYes (mBin dInA (mVar 1) (mC dAbc))) mNil))))
def F_isName : PF := runP 2 mIsName
theorem isName_str {z : List Nat} (hz : z.length ≤ 16777216) : F_isName [.str z] = some (.ok (.bl (isNm z))) := by
  show endP (mIsName [some (.str z), none] []) = _
  by_cases q1 : 1 ≤ z.length
  · by_cases q2 : z.length ≤ 6
    · by_cases q3 : z ∈ resv
      · have e1 : (1 : Int) ≤ z.length := by omega
        have e2 : (z.length : Int) ≤ 6 := by omega
        simp? only [mIsName, isa, Bool.or_false, len_str hz, e1, e2, in_resv, q3, isNm, q1, q2, Bool.true_and, Bool.false_and]
        rfl
      · have e1 : (1 : Int) ≤ z.length := by omega
        have e2 : (z.length : Int) ≤ 6 := by omega
        have lc := lcL_map (g := mgName 1) (t := mYes) (e := mBin dInA (mVar 1) (mC dAbc)) (ε := [some (.str z), none]) (h := []) (ds := z.map fun c => D.str [c]) (fun d => match d with
          | .str [c] => .bl (decide (c ∈ abc))
          | _ => .non) fun d hd => by
            obtain ⟨c, _, rfl⟩ := List.mem_map.mp hd
            refine ⟨[some (.str z), some (.str [c])], rfl, rfl, ?_⟩
            simp only [↓seq_ap, ↓var_ap, ↓c_ap, ↓bin_ap, ↓tst_ap, ↓not_ap, ↓and_ap, ↓or_ap, ↓if_ap, ↓andv_ap, ↓orv_ap, ↓notv_ap, ↓nil_ap, ↓cons_ap, ↓tup_ap, ↓lst_ap, ↓call_ap, ↓callP_ap, ↓callI_ap, ↓perm_ap, ↓nop_ap, ↓smp_ap, ↓sl_ap, ↓chain_ap, ↓isi_ap, ↓lc_ap, ↓lstC_ap, ↓mts_ap, ↓yes_ap, ↓il_ap, ↓it_ap, ↓is_ap, ↓ir1_ap, ↓iz_ap, ↓snil_ap, ↓ret_ap, ↓sif_ap, ↓sexpr_ap, ↓bk_ap, ↓ct_ap, ↓asg_ap, ↓for_ap, ↓par_ap, ↓gname_ap, ↓gnil_ap, ↓gcons_ap, ↓gtup_ap, ↓gsub_ap, bR_ok, bR_ex, rt_some, sq_nx, sq_rt, sq_bk, sq_ct, sq_ex, bS_ok, bS_ex, binK1_ap, binK2_ap, tstK_b, notK_ap, andK_t, andK_f, orK_t, orK_f, ifK_t, ifK_f, andV_t, andV_f, orV_t, orV_f, notV_c, consK1_ap, consK2_ap, tupK_ok, lstK_ok, callK_ap, permK_ap, smP_int, slK1_ap, slK2_ap, slK3_ap, sl_lst, sl_scr, sl_tup, chK1_ap, chK2_ap, chK3_t, chK3_f, chK4_ap, isiK_int, isiK_str, isiK_bl, isiK_non, isiK_tup, isiK_lst, mtsK_str, mtsK2_ap, ilK_lst, ilK_scr, itK_tup, isK_str, izK_l, izK_t, retK_ap, sifK_t, sifK_f, sexprK_ap, asgK_ap, bG_ok, forK_ap, parK_ok, gK_ok, subK1_ok, subK2_ok, add_int, sub_int, mod_int, lt_int, le_int, gt_int, ge_int, eq_int, eq_str, eq_bl, eq_is, eq_si, eq_bs, eq_sb, eq_nn, ne_int, ne_str, ne_bl, isn_ap, isN_int, isN_str, isN_bl, isN_tup, isN_lst, isN_non, ix_lst, ix_tup, ix_scr, len_lst, len_tup, int_int, list_lst, list_tup, tuple_lst, tuple_tup, asB_bl, getD0, getDS, set0, setS, at0, atS, map_some', bind_some', List.length_cons, List.length_nil, List.any_cons, List.any_nil, dAbc, in_sign]
        rw [List.map_map] at lc
        have lk := lcK_ok (vs := [1]) (ε := [some (.str z), none]) (h := []) lc (by simpa using hz)
        have ab : asBs (z.map fun c => D.bl (decide (c ∈ abc))) = some (z.map fun c => decide (c ∈ abc)) := asBs_map _ z
        have lk' : lcK [1] (mgName 1) mYes (mBin dInA (mVar 1) (mC dAbc)) [some (D.str z), none] (z.map fun c => D.str [c]) [] = some (.ok (.lst (z.map fun c => D.bl (decide (c ∈ abc)))), []) := lk
        simp? only [mIsName, isa, Bool.or_false, len_str hz, e1, e2, in_resv, q3, isNm, q1, q2, Bool.true_and, Bool.false_and, lk', all_lst ab]
        rw [endP_ok rfl, List.all_map]
        rfl
    · have e1 : (1 : Int) ≤ z.length := by omega
      have e2 : ¬ (z.length : Int) ≤ 6 := by omega
      simp? only [mIsName, isa, Bool.or_false, len_str hz, e1, e2, isNm, q1, q2, Bool.true_and, Bool.false_and]
      rfl
  · have e1 : ¬ (1 : Int) ≤ z.length := by omega
    simp? only [mIsName, isa, Bool.or_false, len_str hz, e1, isNm, q1, Bool.true_and, Bool.false_and]
    rfl
theorem isNm_len {z : List Nat} (h : isNm z = true) : 1 ≤ z.length ∧ z.length ≤ 6 := by
  unfold isNm at h
  simp only [Bool.and_eq_true, decide_eq_true_eq] at h
  exact ⟨h.1, h.2.1⟩
theorem isName_nm {z : List Nat} (h : isNm z = true) : F_isName [.str z] = some (.ok (.bl true)) := by
  rw [isName_str (by have := isNm_len h; omega), h]
def mIsCol : MS :=
    (msRet (mAndV (mIsi [.str] (mVar 0)) (mOrV (mBin dEq (mVar 0) (mC (.str [107, 101, 121]))) (mCallP F_isName (mCons (mVar 0) mNil)))))
def F_isCol : PF := runP 1 mIsCol
theorem isCol_str {z : List Nat} (hz : z.length ≤ 16777216) : F_isCol [.str z] = some (.ok (.bl (isCol z))) := by
  show endP (mIsCol [some (.str z)] []) = _
  by_cases q : z = [107, 101, 121]
  · simp? only [mIsCol, isa, Bool.or_false, q, isCol, Bool.true_or]
    rfl
  · simp? only [mIsCol, isa, Bool.or_false, q, isCol, Bool.false_or, callPK_ok (isName_str hz) rfl]
    rfl
theorem isCol_len {z : List Nat} (h : isCol z = true) : 1 ≤ z.length ∧ z.length ≤ 6 := by
  unfold isCol at h
  rw [Bool.or_eq_true] at h
  rcases h with h | h
  · rw [of_decide_eq_true h]; decide
  · exact isNm_len h
theorem isCol_c {z : List Nat} (h : isCol z = true) : F_isCol [.str z] = some (.ok (.bl true)) := by
  rw [isCol_str (by have := isCol_len h; omega), h]
def mIsInt : MS :=
    (msRet (mAndV (mIsi [.int] (mVar 0)) (mNotV (mIsi [.bool] (mVar 0)))))
def F_isInt : PF := runP 1 mIsInt
theorem isInt_int (i : Int) : F_isInt [.int i] = some (.ok (.bl true)) := by
  show endP (mIsInt [some (.int i)] []) = _
  simp? only [mIsInt, isa, Bool.or_false]
  rfl
def mIsCon : MS :=
    (msRet (mAndV (mCallP F_isInt (mCons (mVar 0) mNil)) (mChain dLe dLe (mBin dSub (mC (.int 0)) (mC dGreat)) (mVar 0) (mC dGreat))))
def F_isCon : PF := runP 1 mIsCon
def isCon (i : Int) : Bool := decide (0 - 1000000000000000000000000000000 ≤ i) && decide (i ≤ 1000000000000000000000000000000)
theorem isCon_int (i : Int) : F_isCon [.int i] = some (.ok (.bl (isCon i))) := by
  show endP (mIsCon [some (.int i)] []) = _
  by_cases q : 0 - 1000000000000000000000000000000 ≤ i
  · simp only [mIsCon, ↓seq_ap, ↓var_ap, ↓c_ap, ↓bin_ap, ↓tst_ap, ↓not_ap, ↓and_ap, ↓or_ap, ↓if_ap, ↓andv_ap, ↓orv_ap, ↓notv_ap, ↓nil_ap, ↓cons_ap, ↓tup_ap, ↓lst_ap, ↓call_ap, ↓callP_ap, ↓callI_ap, ↓perm_ap, ↓nop_ap, ↓smp_ap, ↓sl_ap, ↓chain_ap, ↓isi_ap, ↓lc_ap, ↓lstC_ap, ↓mts_ap, ↓yes_ap, ↓il_ap, ↓it_ap, ↓is_ap, ↓ir1_ap, ↓iz_ap, ↓snil_ap, ↓ret_ap, ↓sif_ap, ↓sexpr_ap, ↓bk_ap, ↓ct_ap, ↓asg_ap, ↓for_ap, ↓par_ap, ↓gname_ap, ↓gnil_ap, ↓gcons_ap, ↓gtup_ap, ↓gsub_ap, bR_ok, bR_ex, rt_some, sq_nx, sq_rt, sq_bk, sq_ct, sq_ex, bS_ok, bS_ex, binK1_ap, binK2_ap, tstK_b, notK_ap, andK_t, andK_f, orK_t, orK_f, ifK_t, ifK_f, andV_t, andV_f, orV_t, orV_f, notV_c, consK1_ap, consK2_ap, tupK_ok, lstK_ok, callK_ap, permK_ap, smP_int, slK1_ap, slK2_ap, slK3_ap, sl_lst, sl_scr, sl_tup, chK1_ap, chK2_ap, chK3_t, chK3_f, chK4_ap, isiK_int, isiK_str, isiK_bl, isiK_non, isiK_tup, isiK_lst, mtsK_str, mtsK2_ap, ilK_lst, ilK_scr, itK_tup, isK_str, izK_l, izK_t, retK_ap, sifK_t, sifK_f, sexprK_ap, asgK_ap, bG_ok, forK_ap, parK_ok, gK_ok, subK1_ok, subK2_ok, add_int, sub_int, mod_int, lt_int, le_int, gt_int, ge_int, eq_int, eq_str, eq_bl, eq_is, eq_si, eq_bs, eq_sb, eq_nn, ne_int, ne_str, ne_bl, isn_ap, isN_int, isN_str, isN_bl, isN_tup, isN_lst, isN_non, ix_lst, ix_tup, ix_scr, len_lst, len_tup, int_int, list_lst, list_tup, tuple_lst, tuple_tup, asB_bl, getD0, getDS, set0, setS, at0, atS, map_some', bind_some', List.length_cons, List.length_nil, List.any_cons, List.any_nil, dGreat, callPK_ok (isInt_int i) rfl, q, decide_true, isCon, Bool.true_and]
    rfl
  · simp only [mIsCon, ↓seq_ap, ↓var_ap, ↓c_ap, ↓bin_ap, ↓tst_ap, ↓not_ap, ↓and_ap, ↓or_ap, ↓if_ap, ↓andv_ap, ↓orv_ap, ↓notv_ap, ↓nil_ap, ↓cons_ap, ↓tup_ap, ↓lst_ap, ↓call_ap, ↓callP_ap, ↓callI_ap, ↓perm_ap, ↓nop_ap, ↓smp_ap, ↓sl_ap, ↓chain_ap, ↓isi_ap, ↓lc_ap, ↓lstC_ap, ↓mts_ap, ↓yes_ap, ↓il_ap, ↓it_ap, ↓is_ap, ↓ir1_ap, ↓iz_ap, ↓snil_ap, ↓ret_ap, ↓sif_ap, ↓sexpr_ap, ↓bk_ap, ↓ct_ap, ↓asg_ap, ↓for_ap, ↓par_ap, ↓gname_ap, ↓gnil_ap, ↓gcons_ap, ↓gtup_ap, ↓gsub_ap, bR_ok, bR_ex, rt_some, sq_nx, sq_rt, sq_bk, sq_ct, sq_ex, bS_ok, bS_ex, binK1_ap, binK2_ap, tstK_b, notK_ap, andK_t, andK_f, orK_t, orK_f, ifK_t, ifK_f, andV_t, andV_f, orV_t, orV_f, notV_c, consK1_ap, consK2_ap, tupK_ok, lstK_ok, callK_ap, permK_ap, smP_int, slK1_ap, slK2_ap, slK3_ap, sl_lst, sl_scr, sl_tup, chK1_ap, chK2_ap, chK3_t, chK3_f, chK4_ap, isiK_int, isiK_str, isiK_bl, isiK_non, isiK_tup, isiK_lst, mtsK_str, mtsK2_ap, ilK_lst, ilK_scr, itK_tup, isK_str, izK_l, izK_t, retK_ap, sifK_t, sifK_f, sexprK_ap, asgK_ap, bG_ok, forK_ap, parK_ok, gK_ok, subK1_ok, subK2_ok, add_int, sub_int, mod_int, lt_int, le_int, gt_int, ge_int, eq_int, eq_str, eq_bl, eq_is, eq_si, eq_bs, eq_sb, eq_nn, ne_int, ne_str, ne_bl, isn_ap, isN_int, isN_str, isN_bl, isN_tup, isN_lst, isN_non, ix_lst, ix_tup, ix_scr, len_lst, len_tup, int_int, list_lst, list_tup, tuple_lst, tuple_tup, asB_bl, getD0, getDS, set0, setS, at0, atS, map_some', bind_some', List.length_cons, List.length_nil, List.any_cons, List.any_nil, dGreat, callPK_ok (isInt_int i) rfl, q, decide_false, isCon, Bool.false_and]
    rfl
def sField : List Nat := [102, 105, 101, 108, 100]
def sNumber : List Nat := [110, 117, 109, 98, 101, 114]
def sName : List Nat := [110, 97, 109, 101]
def sOwn : List Nat := [111, 119, 110]
def sNext : List Nat := [110, 101, 120, 116]
def sPlus : List Nat := [112, 108, 117, 115]
inductive Pl where
  | num (n : Int) | name (z : List Nat) | field (z y : List Nat) | own (y : List Nat) | next (y : List Nat)
  deriving DecidableEq
def Pl.d : Pl → D
  | .num n => .tup [.str sNumber, .int n]
  | .name z => .tup [.str sName, .str z]
  | .field z y => .tup [.str sField, .str z, .str y]
  | .own y => .tup [.str sOwn, .str y]
  | .next y => .tup [.str sNext, .str y]
def Pl.ok : Pl → Bool
  | .num n => isCon n
  | .name z => isNm z
  | .field z y => isNm z && isCol y
  | .own y => isCol y
  | .next y => isCol y
inductive Vl where
  | pl (p : Pl) | plus (p : Pl) (m : Int)
  deriving DecidableEq
def Vl.d : Vl → D
  | .pl p => p.d
  | .plus p m => .tup [.str sPlus, p.d, .int m]
def Vl.ok : Vl → Bool
  | .pl p => p.ok
  | .plus p m => p.ok && isCon m
def mIsPlain : MS :=
    (msSeq (msIf (mOr (mNot (mTst (mIsi [.tup] (mVar 0)))) (mOr (mTst (mBin dLt (mCall dLen (mCons (mVar 0) mNil)) (mC (.int 2)))) (mNot (mTst (mIsi [.str] (mBin dIx (mVar 0) (mC (.int 0)))))))) (msRet (mC (.bl false))) msNil)
    (msSeq (msIf (mTst (mBin dEq (mBin dIx (mVar 0) (mC (.int 0))) (mC (.str [102, 105, 101, 108, 100])))) (msRet (mAndV (mBin dEq (mCall dLen (mCons (mVar 0) mNil)) (mC (.int 3))) (mAndV (mCallP F_isName (mCons (mBin dIx (mVar 0) (mC (.int 1))) mNil)) (mCallP F_isCol (mCons (mBin dIx (mVar 0) (mC (.int 2))) mNil))))) msNil)
    (msSeq (msIf (mTst (mBin dNe (mCall dLen (mCons (mVar 0) mNil)) (mC (.int 2)))) (msRet (mC (.bl false))) msNil)
    (msSeq (msIf (mTst (mBin dEq (mBin dIx (mVar 0) (mC (.int 0))) (mC (.str [110, 117, 109, 98, 101, 114])))) (msRet (mCallP F_isCon (mCons (mBin dIx (mVar 0) (mC (.int 1))) mNil))) msNil)
    (msSeq (msIf (mTst (mBin dEq (mBin dIx (mVar 0) (mC (.int 0))) (mC (.str [110, 97, 109, 101])))) (msRet (mCallP F_isName (mCons (mBin dIx (mVar 0) (mC (.int 1))) mNil))) msNil)
    (msRet (mAndV (mBin dInA (mBin dIx (mVar 0) (mC (.int 0))) (mTup (mCons (mC (.str [111, 119, 110])) (mCons (mC (.str [110, 101, 120, 116])) mNil)))) (mCallP F_isCol (mCons (mBin dIx (mVar 0) (mC (.int 1))) mNil)))))))))
def F_isPlain : PF := runP 1 mIsPlain
theorem atl0 {a : D} {r : List D} : atI (a :: r) 0 = some a := by
  rw [atI_nat _ 0 0 rfl]; rfl
theorem atl1 {a b : D} {r : List D} : atI (a :: b :: r) 1 = some b := by
  rw [atI_nat _ 1 1 rfl]; rfl
theorem atl2 {a b c : D} {r : List D} : atI (a :: b :: c :: r) 2 = some c := by
  rw [atI_nat _ 2 2 rfl]; rfl
theorem len0 : ((0 : Nat) : Int) = 0 := rfl
theorem len1 : ((1 : Nat) : Int) = 1 := rfl
theorem len2 : ((2 : Nat) : Int) = 2 := rfl
theorem len3 : ((3 : Nat) : Int) = 3 := rfl
theorem in_on {h : EH} {z : List Nat} : dInA h (.str z) (.tup [.str [111, 119, 110], .str [110, 101, 120, 116]]) = some (.bl (decide (z ∈ [[111, 119, 110], [110, 101, 120, 116]]))) := in_strs [[111, 119, 110], [110, 101, 120, 116]]
theorem isPlain_ok : ∀ {p : Pl}, p.ok = true → F_isPlain [p.d] = some (.ok (.bl true))
  | .num n, h => by
    show endP (mIsPlain [some (Pl.num n).d] []) = _
    have e := isCon_int n
    rw [show isCon n = true from h] at e
    simp? only [mIsPlain, Pl.d, isa, Bool.or_false, atl0, atl1, len0, len1, len2, len3, sNumber, show ¬ ([110, 117, 109, 98, 101, 114] = [102, 105, 101, 108, 100]) by decide, callPK_ok e rfl]
    rfl
  | .name z, h => by
    show endP (mIsPlain [some (Pl.name z).d] []) = _
    simp? only [mIsPlain, Pl.d, isa, Bool.or_false, atl0, atl1, len0, len1, len2, len3, sName, show ¬ ([110, 97, 109, 101] = [102, 105, 101, 108, 100]) by decide, show ¬ ([110, 97, 109, 101] = [110, 117, 109, 98, 101, 114]) by decide, callPK_ok (isName_nm h) rfl]
    rfl
  | .field z y, h => by
    show endP (mIsPlain [some (Pl.field z y).d] []) = _
    have h' := Bool.and_eq_true_iff.mp (show (isNm z && isCol y) = true from h)
    simp? only [mIsPlain, Pl.d, isa, Bool.or_false, atl0, atl1, atl2, len0, len1, len2, len3, sField, callPK_ok (isName_nm h'.1) rfl, callPK_ok (isCol_c h'.2) rfl]
    rfl
  | .own y, h => by
    show endP (mIsPlain [some (Pl.own y).d] []) = _
    simp? only [mIsPlain, Pl.d, isa, Bool.or_false, atl0, atl1, atl2, len0, len1, len2, len3, sOwn, show ¬ ([111, 119, 110] = [102, 105, 101, 108, 100]) by decide, show ¬ ([111, 119, 110] = [110, 117, 109, 98, 101, 114]) by decide, show ¬ ([111, 119, 110] = [110, 97, 109, 101]) by decide, in_on, show [111, 119, 110] ∈ [[111, 119, 110], [110, 101, 120, 116]] by decide, callPK_ok (isCol_c h) rfl]
    rfl
  | .next y, h => by
    show endP (mIsPlain [some (Pl.next y).d] []) = _
    simp? only [mIsPlain, Pl.d, isa, Bool.or_false, atl0, atl1, atl2, len0, len1, len2, len3, sNext, show ¬ ([110, 101, 120, 116] = [102, 105, 101, 108, 100]) by decide, show ¬ ([110, 101, 120, 116] = [110, 117, 109, 98, 101, 114]) by decide, show ¬ ([110, 101, 120, 116] = [110, 97, 109, 101]) by decide, in_on, show [110, 101, 120, 116] ∈ [[111, 119, 110], [110, 101, 120, 116]] by decide, callPK_ok (isCol_c h) rfl]
    rfl
theorem Pl.noRef : ∀ p : Pl, PD.noRef p.d = true
  | .num _ => rfl
  | .name _ => rfl
  | .field _ _ => rfl
  | .own _ => rfl
  | .next _ => rfl
theorem Vl.noRef : ∀ v : Vl, PD.noRef v.d = true
  | .pl p => p.noRef
  | .plus p m => by
    show (true && (PD.noRef p.d && (true && true))) = true
    rw [p.noRef]; rfl
def mIsValue : MS :=
    (msSeq (msIf (mAnd (mTst (mIsi [.tup] (mVar 0))) (mAnd (mTst (mBin dEq (mCall dLen (mCons (mVar 0) mNil)) (mC (.int 3)))) (mAnd (mTst (mIsi [.str] (mBin dIx (mVar 0) (mC (.int 0))))) (mTst (mBin dEq (mBin dIx (mVar 0) (mC (.int 0))) (mC (.str [112, 108, 117, 115]))))))) (msRet (mAndV (mCallP F_isPlain (mCons (mBin dIx (mVar 0) (mC (.int 1))) mNil)) (mCallP F_isCon (mCons (mBin dIx (mVar 0) (mC (.int 2))) mNil)))) msNil)
    (msRet (mCallP F_isPlain (mCons (mVar 0) mNil))))
def F_isValue : PF := runP 1 mIsValue
theorem go1 {d : D} (h : noRef d = true) : noRef.go [d] = true := by rw [noRef.go, h]; rfl
theorem isValue_ok : ∀ {v : Vl}, v.ok = true → F_isValue [v.d] = some (.ok (.bl true))
  | .plus p m, h => by
    have h' := Bool.and_eq_true_iff.mp (show (p.ok && isCon m) = true from h)
    have e := isCon_int m
    rw [h'.2] at e
    show endP (mIsValue [some (.tup [.str sPlus, p.d, .int m])] []) = _
    simp? only [mIsValue, isa, Bool.or_false, atl0, atl1, atl2, len0, len1, len2, len3, sPlus, callPK_ok (isPlain_ok h'.1) (go1 p.noRef), callPK_ok e rfl]
    rfl
  | .pl p, h => by
    have e := isPlain_ok (p := p) h
    show endP (mIsValue [some p.d] []) = _
    cases p with
    | num n =>
      have e' : F_isPlain [.tup [.str [110, 117, 109, 98, 101, 114], .int n]] = some (.ok (.bl true)) := e
      simp? only [mIsValue, Pl.d, isa, Bool.or_false, atl0, atl1, atl2, len0, len1, len2, len3, sNumber, callPK_ok e' rfl]
      rfl
    | name z =>
      have e' : F_isPlain [.tup [.str [110, 97, 109, 101], .str z]] = some (.ok (.bl true)) := e
      simp? only [mIsValue, Pl.d, isa, Bool.or_false, atl0, atl1, atl2, len0, len1, len2, len3, sName, callPK_ok e' rfl]
      rfl
    | field z y =>
      have e' : F_isPlain [.tup [.str [102, 105, 101, 108, 100], .str z, .str y]] = some (.ok (.bl true)) := e
      simp? only [mIsValue, Pl.d, isa, Bool.or_false, atl0, atl1, atl2, len0, len1, len2, len3, sField, show ¬ ([102, 105, 101, 108, 100] = [112, 108, 117, 115]) by decide, callPK_ok e' rfl]
      rfl
    | own y =>
      have e' : F_isPlain [.tup [.str [111, 119, 110], .str y]] = some (.ok (.bl true)) := e
      simp? only [mIsValue, Pl.d, isa, Bool.or_false, atl0, atl1, atl2, len0, len1, len2, len3, sOwn, callPK_ok e' rfl]
      rfl
    | next y =>
      have e' : F_isPlain [.tup [.str [110, 101, 120, 116], .str y]] = some (.ok (.bl true)) := e
      simp? only [mIsValue, Pl.d, isa, Bool.or_false, atl0, atl1, atl2, len0, len1, len2, len3, sNext, callPK_ok e' rfl]
      rfl
end PD
namespace PD
open PySem PySem.Spec PyProof.Rows L2
theorem cut_lo {α : Type} {xs : List α} {a : Nat} (h : a ≤ xs.length) : cutD xs none (some (a : Int)) = xs.take a := by
  unfold cutD
  have e1 : HT.sIx xs.length 0 none = 0 := rfl
  have e2 : HT.sIx xs.length xs.length (some (a : Int)) = a := by
    show (if ((a : Int)) < 0 then ((a : Int) + (xs.length : Int)).toNat else min (a : Int).toNat xs.length) = _
    rw [if_neg (by omega)]
    show min a xs.length = _
    omega
  rw [e1, e2]
  simp
theorem cut_hi {α : Type} {xs : List α} {a : Nat} (h : a ≤ xs.length) : cutD xs (some (a : Int)) none = xs.drop a := by
  unfold cutD
  have e1 : HT.sIx xs.length xs.length none = xs.length := rfl
  have e2 : HT.sIx xs.length 0 (some (a : Int)) = a := by
    show (if ((a : Int)) < 0 then ((a : Int) + (xs.length : Int)).toNat else min (a : Int).toNat xs.length) = _
    rw [if_neg (by omega)]
    show min a xs.length = _
    omega
  rw [e1, e2]
  rw [List.take_of_length_le (by rw [List.length_drop]; omega)]
def abcAt (n : Nat) : Nat := abc.getD (n % 26) 0
def row (stem : List Nat) (a f k : Nat) : List Nat := stem.take a ++ [abcAt (f + k)] ++ stem.drop a
end PD
namespace PD
open PySem PySem.Spec PyProof.Rows L2
theorem nm_mem {z : List Nat} (h : isNm z = true) {c : Nat} (hc : c ∈ z) : c ∈ abc := by
  unfold isNm at h
  simp only [Bool.and_eq_true, List.all_eq_true, decide_eq_true_eq] at h
  exact h.2.2.2 c hc
theorem abc_rng {c : Nat} (h : c ∈ abc) : 97 ≤ c ∧ c ≤ 122 := by
  have key : ∀ c ∈ abc, 97 ≤ c ∧ c ≤ 122 := by decide
  exact key c h
end PD
namespace PD
open PySem PySem.Spec PyProof.Rows L2
section
variable {ε : Ev} {h : EH}
def fldK (Cs : List Str) (f : Str) (x : D) (h1 : EH) : O D := rt (dFld Cs f h1 x) h1
theorem fld_ap (Cs : List Str) (f : Str) (a : M D) : mFld Cs f a ε h = bR (a ε h) (fldK Cs f) := (rfl)
theorem fldK_ap (Cs : List Str) (f : Str) (x : D) : fldK Cs f x h = rt (dFld Cs f h x) h := (rfl)
def meiK2 (F : IF) (x : D) (ds : List D) (h2 : EH) : O D := F (x :: ds) h2
def meiK (C m : Str) (F : IF) (a : M (List D)) (ε : Ev) (x : D) (h1 : EH) : O D := match insD h1 x with
  | some (C', fs) => if C' = C ∧ fs.lookup m = none then bR (a ε h1) (meiK2 F x) else none
  | none => none
theorem mei_ap (C m : Str) (F : IF) (o : M D) (a : M (List D)) : mMeI C m F o a ε h = bR (o ε h) (meiK C m F a ε) := (rfl)
theorem meiK2_ap (F : IF) (x : D) (ds : List D) : meiK2 F x ds h = F (x :: ds) h := (rfl)
def faugK2 (Cs : List Str) (f : Str) (x z : D) (h1 : EH) (ε : Ev) (y : D) (h2 : EH) : Option (RS × EH) := match addI z y with
    | some w => if (insD h1 x).map (·.1) = (insD h2 x).map (·.1) then (putO Cs f h2 x w).map fun h3 => (.nx ε, h3) else none
    | none => none
def faugK (Cs : List Str) (f : Str) (v : M D) (ε : Ev) (x : D) (h1 : EH) : Option (RS × EH) := match dFld Cs f h1 x with
  | some z => bS (v ε h1) ε (faugK2 Cs f x z h1 ε)
  | none => none
theorem faug_ap (Cs : List Str) (f : Str) (o v : M D) : msFAug Cs f o v ε h = bS (o ε h) ε (faugK Cs f v ε) := (rfl)
def sfldK2 (Cs : List Str) (f : Str) (ε : Ev) (y x : D) (h2 : EH) : Option (RS × EH) := (putO Cs f h2 x y).map fun h3 => (.nx ε, h3)
def sfldK (Cs : List Str) (f : Str) (o : M D) (ε : Ev) (y : D) (h1 : EH) : Option (RS × EH) := bS (o ε h1) ε (sfldK2 Cs f ε y)
theorem sfld_ap (Cs : List Str) (f : Str) (o v : M D) : msFld Cs f o v ε h = bS (v ε h) ε (sfldK Cs f o ε) := (rfl)
theorem sfldK_ap (Cs : List Str) (f : Str) (o : M D) (y : D) : sfldK Cs f o ε y h = bS (o ε h) ε (sfldK2 Cs f ε y) := (rfl)
theorem sfldK2_ap (Cs : List Str) (f : Str) (y x : D) : sfldK2 Cs f ε y x h = (putO Cs f h x y).map fun h3 => (.nx ε, h3) := (rfl)
def c1K (f : D → Option D) (x : D) (h1 : EH) : O D := rt (f x) h1
theorem c1_ap (f : D → Option D) (a : M D) : mC1 f a ε h = bR (a ε h) (c1K f) := (rfl)
theorem c1K_ap (f : D → Option D) (x : D) : c1K f x h = rt (f x) h := (rfl)
def ir2K (xs : List D) (h1 : EH) : O (List D) := match xs with
  | [.int i, .int j] => if -(2 ^ 62) ≤ i ∧ i < 2 ^ 62 ∧ -(2 ^ 62) ≤ j ∧ j < 2 ^ 62 then some (.ok (rngD i (j - i).toNat), h1) else none
  | _ => none
theorem ir2_ap (a : M (List D)) : miR2 a ε h = bR (a ε h) ir2K := (rfl)
theorem ir2K_ok {i j : Int} (e : -(2 ^ 62) ≤ i ∧ i < 2 ^ 62 ∧ -(2 ^ 62) ≤ j ∧ j < 2 ^ 62) : ir2K [.int i, .int j] h = some (.ok (rngD i (j - i).toNat), h) := if_pos e
theorem forL_nil (g : MG) (b : MS) : forL g b [] ε h = some (.nx ε, h) := (rfl)
theorem forL_nx {g : MG} {b : MS} {d : D} {ds : List D} {ε1 ε2 : Ev} {h1 h2 : EH} (e1 : g d ε h = some (ε1, h1)) (e2 : b ε1 h1 = some (.nx ε2, h2)) : forL g b (d :: ds) ε h = forL g b ds ε2 h2 := by
  show (match g d ε h with
    | none => none
    | some (ε1, h1) => match b ε1 h1 with
      | some (.nx ε2, h2) => forL g b ds ε2 h2
      | some (.ct ε2, h2) => forL g b ds ε2 h2
      | some (.bk ε2, h2) => some (.nx ε2, h2)
      | some (.rt d, h2) => some (.rt d, h2)
      | some (.ex e ε2, h2) => some (.ex e ε2, h2)
      | none => none) = _
  rw [e1]
  dsimp only
  rw [e2]
theorem forL_rt {g : MG} {b : MS} {d d' : D} {ds : List D} {ε1 : Ev} {h1 h2 : EH} (e1 : g d ε h = some (ε1, h1)) (e2 : b ε1 h1 = some (.rt d', h2)) : forL g b (d :: ds) ε h = some (.rt d', h2) := by
  show (match g d ε h with
    | none => none
    | some (ε1, h1) => match b ε1 h1 with
      | some (.nx ε2, h2) => forL g b ds ε2 h2
      | some (.ct ε2, h2) => forL g b ds ε2 h2
      | some (.bk ε2, h2) => some (.nx ε2, h2)
      | some (.rt d, h2) => some (.rt d, h2)
      | some (.ex e ε2, h2) => some (.ex e ε2, h2)
      | none => none) = _
  rw [e1]
  dsimp only
  rw [e2]
end
end PD
namespace PD
open PySem PySem.Spec PyProof.Rows L2
end PD
namespace PD
open PySem PySem.Spec PyProof.Rows L2
/-- data without a bool, of a depth, with right signs -/
def okE : Nat → D → Bool
  | 0, _ => false
  | _ + 1, .non => true
  | _ + 1, .int _ => true
  | _ + 1, .str z => z.all fun c => decide (c < 1114112)
  | t + 1, .tup ds => ds.all (okE t)
  | t + 1, .lst ds => ds.all (okE t)
  | _ + 1, _ => false
theorem okE_up : ∀ {t : Nat} {d : D}, okE t d = true → okE (t + 1) d = true
  | 0, _, e => by cases e
  | t + 1, .non, _ => rfl
  | t + 1, .int _, _ => rfl
  | t + 1, .str _, e => e
  | t + 1, .tup ds, e => List.all_eq_true.mpr fun d hd => okE_up (List.all_eq_true.mp (show ds.all (okE t) = true from e) d hd)
  | t + 1, .lst ds, e => List.all_eq_true.mpr fun d hd => okE_up (List.all_eq_true.mp (show ds.all (okE t) = true from e) d hd)
  | t + 1, .bl _, e => by cases e
  | t + 1, .scr _, e => by cases e
  | t + 1, .dic _ _, e => by cases e
  | t + 1, .obj _ _, e => by cases e
  | t + 1, .ref _, e => by cases e
theorem okE_le {t u : Nat} {d : D} (h : okE t d = true) (l : t ≤ u) : okE u d = true := by
  induction l with
  | refl => exact h
  | step _ ih => exact okE_up ih
/-- of the same data -/
def pdOf : Nat → D → PyData
  | 0, _ => .none
  | _ + 1, .non => .none
  | _ + 1, .int i => .int i
  | _ + 1, .str z => .str (toS z)
  | t + 1, .tup ds => .tuple (ds.map (pdOf t))
  | t + 1, .lst ds => .list (ds.map (pdOf t))
  | _ + 1, _ => .none
theorem toPD_all {f : D → PyData} : ∀ {ds : List D}, (∀ d ∈ ds, toPD d = some (f d)) → toPD.go ds = some (ds.map f)
  | [], _ => rfl
  | d :: ds, h => by
    rw [toPD.go, h d List.mem_cons_self, toPD_all fun x hx => h x (List.mem_cons_of_mem _ hx)]
    rfl
theorem lay_all {ds : List PyData} (h : ∀ d ∈ ds, d.canLay0 = true) : PyData.canLayAll0 ds = true := by
  induction ds with
  | nil => rfl
  | cons d ds ih =>
    rw [PyData.canLayAll0, h d List.mem_cons_self, ih fun x hx => h x (List.mem_cons_of_mem _ hx)]; rfl
theorem dep_all {n : Nat} {ds : List PyData} (h : ∀ d ∈ ds, d.depth ≤ n) : PyData.depthAll ds ≤ n := by
  induction ds with
  | nil => exact Nat.zero_le _
  | cons d ds ih =>
    rw [PyData.depthAll]
    exact Nat.max_le.mpr ⟨h d List.mem_cons_self, ih fun x hx => h x (List.mem_cons_of_mem _ hx)⟩
theorem pd_ok : ∀ {t : Nat} {d : D}, okE t d = true → toPD d = some (pdOf t d) ∧ (pdOf t d).canLay0 = true ∧ (pdOf t d).depth ≤ t
  | 0, _, e => by cases e
  | t + 1, .non, _ => ⟨rfl, rfl, Nat.zero_le _⟩
  | t + 1, .int _, _ => ⟨rfl, rfl, Nat.zero_le _⟩
  | t + 1, .str z, e => by
    refine ⟨rfl, ?_, Nat.zero_le _⟩
    show (z.toArray).all (fun c => decide (c < 0x110000)) = true
    have e' : z.all (fun c => decide (c < 1114112)) = true := e
    simpa using e'
  | t + 1, .tup ds, e => by
    have h := List.all_eq_true.mp (show ds.all (okE t) = true from e)
    refine ⟨?_, ?_, ?_⟩
    · rw [toPD, toPD_all fun d hd => (pd_ok (h d hd)).1]; rfl
    · show PyData.canLayAll0 (ds.map (pdOf t)) = true
      refine lay_all fun d hd => ?_
      obtain ⟨x, hx, rfl⟩ := List.mem_map.mp hd
      exact (pd_ok (h x hx)).2.1
    · show PyData.depthAll (ds.map (pdOf t)) + 1 ≤ t + 1
      refine Nat.succ_le_succ (dep_all fun d hd => ?_)
      obtain ⟨x, hx, rfl⟩ := List.mem_map.mp hd
      exact (pd_ok (h x hx)).2.2
  | t + 1, .lst ds, e => by
    have h := List.all_eq_true.mp (show ds.all (okE t) = true from e)
    refine ⟨?_, ?_, ?_⟩
    · rw [toPD, toPD_all fun d hd => (pd_ok (h d hd)).1]; rfl
    · show PyData.canLayAll0 (ds.map (pdOf t)) = true
      refine lay_all fun d hd => ?_
      obtain ⟨x, hx, rfl⟩ := List.mem_map.mp hd
      exact (pd_ok (h x hx)).2.1
    · show PyData.depthAll (ds.map (pdOf t)) + 1 ≤ t + 1
      refine Nat.succ_le_succ (dep_all fun d hd => ?_)
      obtain ⟨x, hx, rfl⟩ := List.mem_map.mp hd
      exact (pd_ok (h x hx)).2.2
  | t + 1, .bl _, e => by cases e
  | t + 1, .scr _, e => by cases e
  | t + 1, .dic _ _, e => by cases e
  | t + 1, .obj _ _, e => by cases e
  | t + 1, .ref _, e => by cases e
theorem eqvAll_iff {f g : D → PyData} : ∀ {xs ys : List D}, (∀ x ∈ xs, ∀ y ∈ ys, PyData.eqv (f x) (g y) = true ↔ x = y) → (PyData.eqvAll (xs.map f) (ys.map g) = true ↔ xs = ys)
  | [], [], _ => ⟨fun _ => rfl, fun _ => rfl⟩
  | [], _ :: _, _ => ⟨fun h => (by cases h), fun h => (by cases h)⟩
  | _ :: _, [], _ => ⟨fun h => (by cases h), fun h => (by cases h)⟩
  | x :: xs, y :: ys, h => by
    rw [List.map_cons, List.map_cons, PyData.eqvAll, Bool.and_eq_true, h x List.mem_cons_self y List.mem_cons_self, eqvAll_iff fun a ha b hb => h a (List.mem_cons_of_mem _ ha) b (List.mem_cons_of_mem _ hb)]
    simp
theorem toS_inj {a b : List Nat} (h : toS a = toS b) : a = b := by
  have : (toS a).cps.toList = (toS b).cps.toList := by rw [h]
  simpa [toS] using this
theorem eqv_iff : ∀ {t u : Nat} {x y : D}, okE t x = true → okE u y = true → (PyData.eqv (pdOf t x) (pdOf u y) = true ↔ x = y)
  | 0, _, _, _, e, _ => by cases e
  | _ + 1, 0, _, _, _, e => by cases e
  | t + 1, u + 1, x, y, ex, ey => by
    cases x with
    | non => cases y <;> first | (cases ey; done) | simp [pdOf, PyData.eqv]
    | int i => cases y <;> first | (cases ey; done) | simp [pdOf, PyData.eqv]
    | str z =>
      cases y <;> first
        | (cases ey; done)
        | (simp only [pdOf, PyData.eqv, beq_iff_eq, D.str.injEq]; exact ⟨toS_inj, fun h => by rw [h]⟩)
        | simp [pdOf, PyData.eqv]
    | tup xs =>
      have hx := List.all_eq_true.mp (show xs.all (okE t) = true from ex)
      cases y with
      | tup ys =>
        have hy := List.all_eq_true.mp (show ys.all (okE u) = true from ey)
        simp only [pdOf, PyData.eqv, D.tup.injEq]
        exact eqvAll_iff fun a ha b hb => eqv_iff (hx a ha) (hy b hb)
      | non => simp [pdOf, PyData.eqv]
      | int _ => simp [pdOf, PyData.eqv]
      | str _ => simp [pdOf, PyData.eqv]
      | lst _ => simp [pdOf, PyData.eqv]
      | _ => cases ey
    | lst xs =>
      have hx := List.all_eq_true.mp (show xs.all (okE t) = true from ex)
      cases y with
      | lst ys =>
        have hy := List.all_eq_true.mp (show ys.all (okE u) = true from ey)
        simp only [pdOf, PyData.eqv, D.lst.injEq]
        exact eqvAll_iff fun a ha b hb => eqv_iff (hx a ha) (hy b hb)
      | non => simp [pdOf, PyData.eqv]
      | int _ => simp [pdOf, PyData.eqv]
      | str _ => simp [pdOf, PyData.eqv]
      | tup _ => simp [pdOf, PyData.eqv]
      | _ => cases ey
    | _ => cases ex
theorem dEqv_iff {t u : Nat} {x y : D} (hx : okE t x = true) (hy : okE u y = true) (ht : t ≤ 64) (hu : u ≤ 64) : ∃ b, dEqv x y = some b ∧ (b = true ↔ x = y) := by
  obtain ⟨a1, a2, a3⟩ := pd_ok hx
  obtain ⟨b1, b2, b3⟩ := pd_ok hy
  refine ⟨PyData.eqv (pdOf t x) (pdOf u y), ?_, eqv_iff hx hy⟩
  unfold dEqv
  rw [a1, b1]
  refine if_pos ⟨?_, ?_⟩
  · exact Bool.and_eq_true_iff.mpr ⟨a2, decide_eq_true (Nat.le_trans a3 ht)⟩
  · exact Bool.and_eq_true_iff.mpr ⟨b2, decide_eq_true (Nat.le_trans b3 hu)⟩
theorem scalD_iff {t u : Nat} {x y : D} (hx : okE t x = true) (hy : okE u y = true) {b : Bool} (e : scalD x y = some b) : b = true ↔ x = y := by
  cases t with
  | zero => cases hx
  | succ t =>
    cases u with
    | zero => cases hy
    | succ u =>
      cases x <;> first
        | (cases hx; done)
        | (cases y <;> first
            | (cases hy; done)
            | (cases e; done)
            | (cases e; simp))
theorem eq_data {h : EH} {t u : Nat} {x y : D} (hx : okE t x = true) (hy : okE u y = true) (ht : t ≤ 64) (hu : u ≤ 64) : ∃ b, dEq h x y = some (.bl b) ∧ dNe h x y = some (.bl (!b)) ∧ (b = true ↔ x = y) := by
  obtain ⟨b, e, i⟩ := dEqv_iff hx hy ht hu
  unfold dEq dNe dEqD
  cases q : scalD x y with
  | some c => exact ⟨c, rfl, rfl, scalD_iff hx hy q⟩
  | none =>
    rw [e]
    refine ⟨b, ?_, ?_, i⟩
    · show some (D.bl (false != b)) = _
      rw [Bool.false_bne]
    · show some (D.bl (true != b)) = _
      rw [Bool.true_bne]
theorem dNe_t {h : EH} {t u : Nat} {x y : D} (hx : okE t x = true) (hy : okE u y = true) (ht : t ≤ 64) (hu : u ≤ 64) (n : x ≠ y) : dNe h x y = some (.bl true) := by
  obtain ⟨b, _, e, i⟩ := eq_data (h := h) hx hy ht hu
  cases b with
  | true => exact absurd (i.mp rfl) n
  | false => exact e
theorem forL_ct {g : MG} {b : MS} {d : D} {ds : List D} {ε ε1 ε2 : Ev} {h h1 h2 : EH} (e1 : g d ε h = some (ε1, h1)) (e2 : b ε1 h1 = some (.ct ε2, h2)) : forL g b (d :: ds) ε h = forL g b ds ε2 h2 := by
  show (match g d ε h with
    | none => none
    | some (ε1, h1) => match b ε1 h1 with
      | some (.nx ε2, h2) => forL g b ds ε2 h2
      | some (.ct ε2, h2) => forL g b ds ε2 h2
      | some (.bk ε2, h2) => some (.nx ε2, h2)
      | some (.rt d, h2) => some (.rt d, h2)
      | some (.ex e ε2, h2) => some (.ex e ε2, h2)
      | none => none) = _
  rw [e1]
  dsimp only
  rw [e2]
theorem forL_bag {g : MG} {b : MS} {n : Nat} {x : D} (body : ∀ (d : D) (k : Cell) (r : Ev), BagI k → r.length = n → ∃ (ε1 r' : Ev) (k' : Cell), g d (some x :: some (.ref 0) :: r) [k] = some (ε1, [k]) ∧
    (b ε1 [k] = some (.nx (some x :: some (.ref 0) :: r'), [k']) ∨ b ε1 [k] = some (.ct (some x :: some (.ref 0) :: r'), [k'])) ∧ r'.length = n ∧ BagI k') : ∀ (ds : List D) (k : Cell) (r : Ev), BagI k → r.length = n →
    ∃ (r' : Ev) (k' : Cell), forL g b ds (some x :: some (.ref 0) :: r) [k] = some (.nx (some x :: some (.ref 0) :: r'), [k']) ∧ r'.length = n ∧ BagI k'
  | [], k, r, hk, hr => ⟨r, k, rfl, hr, hk⟩
  | d :: ds, k, r, hk, hr => by
    obtain ⟨ε1, r1, k1, e1, e2, l1, hk1⟩ := body d k r hk hr
    obtain ⟨r2, k2, e3, l2, hk2⟩ := forL_bag body ds k1 r1 hk1 l1
    refine ⟨r2, k2, ?_, l2, hk2⟩
    rcases e2 with e2 | e2
    · rw [forL_nx e1 e2, e3]
    · rw [forL_ct e1 e2, e3]
end PD
namespace PD
open PySem PySem.Spec PyProof.Rows L2
section
variable {ε : Ev} {h : EH}
def iaK (x : D) (h1 : EH) : O (List D) := match x with
  | .lst ds => some (.ok ds, h1)
  | .scr ds => some (.ok ds, h1)
  | .tup ds => some (.ok ds, h1)
  | _ => none
theorem ia_ap (a : M D) : miA a ε h = bR (a ε h) iaK := by
  unfold miA miL miT
  cases a ε h with
  | none => rfl
  | some z =>
    obtain ⟨r, h1⟩ := z
    cases r with
    | ex e => rfl
    | ok x => cases x <;> rfl
theorem iaK_lst (ds : List D) : iaK (.lst ds) h = some (.ok ds, h) := (rfl)
theorem iaK_tup (ds : List D) : iaK (.tup ds) h = some (.ok ds, h) := (rfl)
def ienK (xs : List D) (h1 : EH) : O (List D) := match xs with
  | [x] => (match x with
    | .lst as => some (.ok (enumD as), h1)
    | .tup as => some (.ok (enumD as), h1)
    | _ => none)
  | _ => none
theorem ien_ap (a : M (List D)) : miEn a ε h = bR (a ε h) ienK := (rfl)
theorem ienK_lst (ds : List D) : ienK [.lst ds] h = some (.ok (enumD ds), h) := (rfl)
theorem ienK_tup (ds : List D) : ienK [.tup ds] h = some (.ok (enumD ds), h) := (rfl)
def sortK (x : D) (h1 : EH) : O D := rt ((txD h1 x).map fun zs => .lst ((srtU zs).map .str)) h1
def lenTK (x : D) (h1 : EH) : O D := rt ((txD h1 x).map fun zs => .int (srtU zs).length) h1
theorem sort_ap (a : M D) : mSortT a ε h = bR (a ε h) sortK := (rfl)
theorem lenT_ap (a : M D) : mLenT a ε h = bR (a ε h) lenTK := (rfl)
def cgetK2 (kvs : List (List Nat × D)) (k : List Nat) (z : D) (h2 : EH) : O D := some (.ok ((lkS k kvs).getD z), h2)
def cgetK (kvs : List (List Nat × D)) (b : M D) (ε : Ev) (y : D) (h1 : EH) : O D := match y with
  | .str k => bR (b ε h1) (cgetK2 kvs k)
  | _ => none
theorem cget_ap (kvs : List (List Nat × D)) (a b : M D) : mCGet kvs a b ε h = bR (a ε h) (cgetK kvs b ε) := (rfl)
theorem cgetK_str (kvs : List (List Nat × D)) (b : M D) (k : List Nat) : cgetK kvs b ε (.str k) h = bR (b ε h) (cgetK2 kvs k) := (rfl)
theorem cgetK2_ap (kvs : List (List Nat × D)) (k : List Nat) (z : D) : cgetK2 kvs k z h = some (.ok ((lkS k kvs).getD z), h) := (rfl)
def apK2 (x y : D) (h2 : EH) : O D := (apD h2 x y).map fun h3 => (.ok .non, h3)
def apK (e : M D) (ε : Ev) (x : D) (h1 : EH) : O D := if isLc h1 x = true then bR (e ε h1) (apK2 x) else none
theorem append_ap (o e : M D) : mAppend o e ε h = bR (o ε h) (apK e ε) := (rfl)
theorem apK2_ap (x y : D) : apK2 x y h = (apD h x y).map fun h3 => (.ok .non, h3) := (rfl)
def app2K2 (xs ys : List D) (h2 : EH) : O (List D) := some (.ok (xs ++ ys), h2)
def app2K (b : M (List D)) (ε : Ev) (xs : List D) (h1 : EH) : O (List D) := bR (b ε h1) (app2K2 xs)
theorem app2_ap (a b : M (List D)) : mApp2 a b ε h = bR (a ε h) (app2K b ε) := (rfl)
theorem app2K_ap (b : M (List D)) (xs : List D) : app2K b ε xs h = bR (b ε h) (app2K2 xs) := (rfl)
theorem app2K2_ap (xs ys : List D) : app2K2 xs ys h = some (.ok (xs ++ ys), h) := (rfl)
def par3K (i j l : Nat) (ε : Ev) (ds : List D) (h1 : EH) : Option (RS × EH) := match ds with
  | [d, e, f] => some (.nx (((ε.set i (some d)).set j (some e)).set l (some f)), h1)
  | _ => none
theorem par3_ap (i j l : Nat) (m : M (List D)) : msPar3 i j l m ε h = bS (m ε h) ε (par3K i j l ε) := (rfl)
theorem par3K_ok (i j l : Nat) (d e f : D) : par3K i j l ε [d, e, f] h = some (.nx (((ε.set i (some d)).set j (some e)).set l (some f)), h) := (rfl)
def lc2K (vs : List Nat) (g : MG) (t : M Bool) (mi1 : M (List D)) (g1 : MG) (t1 : M Bool) (e : M D) (vs1 : List Nat) (ε : Ev) (ds : List D) (h1 : EH) : O D := okL (lcL2 g t mi1 g1 t1 e vs1 ds (wipeE ε vs) h1)
theorem lc2_ap (vs : List Nat) (mi : M (List D)) (g : MG) (t : M Bool) (mi1 : M (List D)) (g1 : MG) (t1 : M Bool) (e : M D) (vs1 : List Nat) : mLc2 vs mi g t mi1 g1 t1 e vs1 ε h = bR (mi ε h) (lc2K vs g t mi1 g1 t1 e vs1 ε) := (rfl)
def prpK (C : Str) (F : PF) (x : D) (h1 : EH) : O D := match insD h1 x with
  | some (C', _) => if C' = C ∧ noRef.go [x] = true then (match F [x] with
    | some (.ok d) => some (.ok d, h1)
    | _ => none) else none
  | none => none
theorem prp_ap (C : Str) (F : PF) (o : M D) : mPrp C F o ε h = bR (o ε h) (prpK C F) := (rfl)
def mepK2 (F : PF) (x : D) (ds : List D) (h2 : EH) : O D := if noRef.go (x :: ds) = true then (F (x :: ds)).map fun r => (r, h2) else none
def mepK (C m : Str) (F : PF) (a : M (List D)) (ε : Ev) (x : D) (h1 : EH) : O D := match insD h1 x with
  | some (C', fs) => if C' = C ∧ fs.lookup m = none then bR (a ε h1) (mepK2 F x) else none
  | none => none
theorem mep_ap (C m : Str) (F : PF) (o : M D) (a : M (List D)) : mMeP C m F o a ε h = bR (o ε h) (mepK C m F a ε) := (rfl)
def mkpK (C : Str) (dd : List D) (F : IF) (ds : List D) (h1 : EH) : O D := match F (.ref h1.length :: (ds ++ dd)) (h1 ++ [.obj C []]) with
  | some (.ok .non, h2) => (match frzI h1.length h2 (.ref h1.length), trim h1.length h2 with
    | some d, some h3 => some (.ok d, h3)
    | _, _ => none)
  | some (.ex e, h2) => if noRef.gf e.fs = true then (trim h1.length h2).map fun h3 => (.ex e, h3) else none
  | _ => none
theorem mkp_ap (C : Str) (dd : List D) (F : IF) (a : M (List D)) : mMkP C dd F a ε h = bR (a ε h) (mkpK C dd F) := (rfl)
theorem max2_ap (i j : Int) : dMax2 h [.int i, .int j] = some (.int (if j > i then j else i)) := (rfl)
def augK (i : Nat) (x : D) (ε : Ev) (y : D) (h1 : EH) : Option (RS × EH) := (addI x y).map fun z => (.nx (ε.set i (some z)), h1)
theorem augK_int {i : Nat} {a b : Int} : augK i (.int a) ε (.int b) h = some (.nx (ε.set i (some (.int (a + b)))), h) := (rfl)
def negK (x : D) (h1 : EH) : O D := match x with
  | .int i => some (.ok (.int (-i)), h1)
  | _ => none
theorem neg_ap (a : M D) : mNeg a ε h = bR (a ε h) negK := (rfl)
theorem negK_int (i : Int) : negK (.int i) h = some (.ok (.int (-i)), h) := (rfl)
end
end PD
namespace PV
open PySem PySem.Spec PyProof.Rows L2 PD
def g_GREATEST : D := (.int 1000000000000000000000000000000)
def g_LETTERS : D := (.str [97, 98, 99, 100, 101, 102, 103, 104, 105, 106, 107, 108, 109, 110, 111, 112, 113, 114, 115, 116, 117, 118, 119, 120, 121, 122])
def g_RESERVED : D := (.tup [(.str [97, 110, 100]), (.str [102, 111, 117, 110, 100]), (.str [107, 101, 121]), (.str [110, 101, 120, 116]), (.str [110, 111, 116]), (.str [111, 114]), (.str [111, 119, 110]), (.str [115, 101, 116]), (.str [116, 114, 117, 101]), (.str [119, 104, 101, 114, 101])])
def g_MOST_DEPTH : D := (.int 6)
def kv_SIGNS : List (List Nat × D) := [([97, 116, 109, 111, 115, 116], (.str [60, 61])), ([98, 101, 108, 111, 119], (.str [60])), ([115, 97, 109, 101], (.str [61]))]
def N__law_draws : List Str := ["_law_script", "_law_seed", "_law_cell"]
def mb__law_draws_0 : MS :=
    (msAsg (mBin dMod (mCall dInt (mCons (mBin dAdd (mBin dAdd (mBin dMul (mVar 1) (mC (.int 44021))) (mBin dMod (mCall dInt (mCons (mVar 2) mNil)) (mC (.int 2147483489)))) (mC (.int 53))) mNil)) (mC (.int 2147483549))) (mgName 1))
def m__law_draws : MS :=
    (msSeq (msAsg (mC (.int 5648)) (mgName 1))
    (msSeq (msFor (miL (mSl (mVar 0) mNoP (mSmP (mC (.int 63))))) (mgName 2) mb__law_draws_0)
    (msRet (mLstC (mCons (mCall dList (mCons (mSl (mVar 0) mNoP (mSmP (mC (.int 63)))) mNil)) (mCons (mC (.int 0)) (mCons (mC (.int 0)) (mCons (mVar 1) (mCons (mC (.int 0)) mNil)))))))))
def F__law_draws : IF := runA N__law_draws.length m__law_draws
def N__law_like : List Str := ["_law_a", "_law_b", "_law_same", "_law_c", "_law_d"]
def m__law_like (F : PF) : MS :=
    (msSeq (msIf (mTst (mIsi [.lst, .tup] (mVar 1))) (msSeq (msAsg (mAndV (mBin dEq (mIsi [.lst] (mVar 0)) (mIsi [.lst] (mVar 1))) (mBin dEq (mIsi [.tup] (mVar 0)) (mIsi [.tup] (mVar 1)))) (mgName 2))
    (msRet (mAndV (mVar 2) (mAndV (mBin dEq (mCall dLen (mCons (mVar 0) mNil)) (mCall dLen (mCons (mVar 1) mNil))) (mCall dAll (mCons (mLc [3, 4] (miZip (mCons (mVar 0) (mCons (mVar 1) mNil))) (mgTup 2 (mgCons (mgName 3) (mgCons (mgName 4) mgNil))) mYes (mCallP F (mCons (mVar 3) (mCons (mVar 4) mNil)))) mNil)))))) msNil)
    (msSeq (msIf (mOr (mTst (mBin (dIsN false) (mVar 0) (mC .non))) (mOr (mTst (mBin (dIsN false) (mVar 1) (mC .non))) (mTst (mBin dNe (mIsi [.bool] (mVar 0)) (mIsi [.bool] (mVar 1)))))) (msRet (mAndV (mBin (dIsN false) (mVar 0) (mC .non)) (mBin (dIsN false) (mVar 1) (mC .non)))) msNil)
    (msRet (mAndV (mBin dEq (mIsi [.int] (mVar 0)) (mIsi [.int] (mVar 1))) (mAndV (mBin dEq (mIsi [.str] (mVar 0)) (mIsi [.str] (mVar 1))) (mBin dEq (mVar 0) (mVar 1)))))))
def F__law_like_ : Nat → PF
  | 0 => fun _ => none
  | t + 1 => runP N__law_like.length (m__law_like (F__law_like_ t))
def F__law_like : PF := F__law_like_ 30
def N__law_pull : List Str := ["_law_bag", "_law_sides", "_law_seed", "_law_cell", "_law_digit"]
def m__law_pull : MS :=
    (msSeq (msAsg (mBin dAdd (mBin dIx (mVar 0) (mC (.int 4))) (mC (.int 1))) (mgSub (mVar 0) (mC (.int 4))))
    (msSeq (msIf (mAnd (mTst (mBin dEq (mBin dIx (mVar 0) (mC (.int 2))) (mC (.int 0)))) (mTst (mBin dLt (mBin dIx (mVar 0) (mC (.int 1))) (mCall dLen (mCons (mBin dIx (mVar 0) (mC (.int 0))) mNil))))) (msSeq (msAsg (mTup (mCons (mBin dIx (mBin dIx (mVar 0) (mC (.int 0))) (mBin dIx (mVar 0) (mC (.int 1)))) (mCons (mBin dAdd (mBin dIx (mVar 0) (mC (.int 1))) (mC (.int 1))) mNil))) (mgTup 2 (mgCons (mgName 3) (mgCons (mgSub (mVar 0) (mC (.int 1))) mgNil))))
    (msSeq (msIf (mTst (mBin dGe (mVar 3) (mBin dPow (mC (.int 10)) (mC (.int 18))))) (msAsg (mVar 3) (mgSub (mVar 0) (mC (.int 2)))) msNil)
    (msAsg (mBin dMod (mCall dInt (mCons (mBin dAdd (mBin dAdd (mBin dMul (mBin dIx (mVar 0) (mC (.int 3))) (mC (.int 38377))) (mBin dMul (mBin dMod (mCall dInt (mCons (mVar 3) mNil)) (mC (.int 2147483489))) (mC (.int 41143)))) (mC (.int 61))) mNil)) (mC (.int 2147483549))) (mgSub (mVar 0) (mC (.int 3)))))) msNil)
    (msSeq (msIf (mTst (mBin dGt (mBin dIx (mVar 0) (mC (.int 2))) (mC (.int 0)))) (msSeq (msAsg (mTup (mCons (mBin dMod (mCall dInt (mCons (mBin dIx (mVar 0) (mC (.int 2))) mNil)) (mVar 1)) (mCons (mBin dDiv (mBin dIx (mVar 0) (mC (.int 2))) (mVar 1)) mNil))) (mgTup 2 (mgCons (mgName 4) (mgCons (mgSub (mVar 0) (mC (.int 2))) mgNil))))
    (msRet (mVar 4))) msNil)
    (msSeq (msAsg (mBin dIx (mVar 0) (mC (.int 3))) (mgName 2))
    (msSeq (msAsg (mBin dMod (mCall dInt (mCons (mBin dAdd (mBin dAdd (mBin dAdd (mBin dPow (mVar 2) (mC (.int 3))) (mBin dMul (mVar 2) (mC (.int 37813)))) (mBin dMul (mBin dIx (mVar 0) (mC (.int 4))) (mC (.int 1299689)))) (mC (.int 65437))) mNil)) (mC (.int 2147483549))) (mgSub (mVar 0) (mC (.int 3))))
    (msRet (mBin dMod (mCall dInt (mCons (mBin dAdd (mBin dDiv (mBin dIx (mVar 0) (mC (.int 3))) (mC (.int 89))) (mBin dMul (mBin dMod (mCall dInt (mCons (mBin dIx (mVar 0) (mC (.int 3))) mNil)) (mC (.int 7919))) (mC (.int 71)))) mNil)) (mVar 1))))))))
def F__law_pull : IF := runI N__law_pull.length m__law_pull
def N__law_any : List Str := ["_law_bag", "_law_rows"]
def m__law_any : MS :=
    (msRet (mBin dIx (mVar 1) (mCallI F__law_pull (mCons (mVar 0) (mCons (mCall dLen (mCons (mVar 1) mNil)) mNil)))))
def F__law_any : IF := runI N__law_any.length m__law_any
def N__law_reserved : List Str := []
def m__law_reserved : MS :=
    (msRet (mLst (mCons (mC (.str [97, 110, 100])) (mCons (mC (.str [102, 111, 117, 110, 100])) (mCons (mC (.str [107, 101, 121])) (mCons (mC (.str [110, 101, 120, 116])) (mCons (mC (.str [110, 111, 116])) (mCons (mC (.str [111, 114])) (mCons (mC (.str [111, 119, 110])) (mCons (mC (.str [115, 101, 116])) (mCons (mC (.str [116, 114, 117, 101])) (mCons (mC (.str [119, 104, 101, 114, 101])) mNil))))))))))))
def F__law_reserved : PF := runP N__law_reserved.length m__law_reserved
def N__law_new_names : List Str := ["_law_bag", "_law_many", "_law_abc", "_law_stem", "_law_rows", "_law_at", "_law_first", "_law_k", "_law_row"]
def me__law_new_names_0 : M D :=
    (mIf (mTst (mBin dInA (mVar 8) (mCallP F__law_reserved mNil))) (mBin dAdd (mVar 8) (mC (.str [113]))) (mVar 8))
def me__law_new_names_1 : M D :=
    (mBin dAdd (mBin dAdd (mSl (mVar 3) mNoP (mSmP (mVar 5))) (mBin dIx (mVar 2) (mBin dSub (mBin dAdd (mVar 6) (mVar 7)) (mC (.int 26))))) (mSl (mVar 3) (mSmP (mVar 5)) mNoP))
def m__law_new_names : MS :=
    (msSeq (msAsg (mC (.str [97, 98, 99, 100, 101, 102, 103, 104, 105, 106, 107, 108, 109, 110, 111, 112, 113, 114, 115, 116, 117, 118, 119, 120, 121, 122])) (mgName 2))
    (msSeq (msAsg (mMtS dJoin (mC (.str [])) (mCons (mLc [7] (miR1 (mCons (mCallI F__law_pull (mCons (mVar 0) (mCons (mC (.int 5)) mNil))) mNil)) (mgName 7) mYes (mCallI F__law_any (mCons (mVar 0) (mCons (mVar 2) mNil)))) mNil)) (mgName 3))
    (msSeq (msAsg (mTup (mCons (mCallI F__law_pull (mCons (mVar 0) (mCons (mBin dAdd (mCall dLen (mCons (mVar 3) mNil)) (mC (.int 1))) mNil))) (mCons (mCallI F__law_pull (mCons (mVar 0) (mCons (mC (.int 26)) mNil))) mNil))) (mgTup 2 (mgCons (mgName 5) (mgCons (mgName 6) mgNil))))
    (msSeq (msAsg (mLc [7] (miR1 (mCons (mVar 1) mNil)) (mgName 7) mYes me__law_new_names_1) (mgName 4))
    (msRet (mLc [8] (miL (mVar 4)) (mgName 8) mYes me__law_new_names_0))))))
def F__law_new_names : IF := runI N__law_new_names.length m__law_new_names
def N__law_near : List Str := ["_law_bag"]
def m__law_near : MS :=
    (msRet (mCallI F__law_any (mCons (mVar 0) (mCons (mLst (mCons (mC (.int 0)) (mCons (mC (.int 1)) (mCons (mC (.int 1)) (mCons (mC (.int 2)) (mCons (mC (.int 3)) (mCons (mBin dSub (mC (.int 0)) (mC (.int 1))) (mCons (mBin dSub (mC (.int 0)) (mC (.int 2))) mNil)))))))) mNil))))
def F__law_near : IF := runI N__law_near.length m__law_near
def N__law_some_value : List Str := ["_law_bag", "_law_pool", "_law_plain"]
def m__law_some_value : MS :=
    (msSeq (msAsg (mCallI F__law_any (mCons (mVar 0) (mCons (mBin dAdd (mVar 1) (mLst (mCons (mTup (mCons (mC (.str [110, 117, 109, 98, 101, 114])) (mCons (mCallI F__law_near (mCons (mVar 0) mNil)) mNil))) mNil))) mNil))) (mgName 2))
    (msRet (mIf (mTst (mBin dEq (mCallI F__law_pull (mCons (mVar 0) (mCons (mC (.int 3)) mNil))) (mC (.int 0)))) (mTup (mCons (mC (.str [112, 108, 117, 115])) (mCons (mVar 2) (mCons (mCallI F__law_near (mCons (mVar 0) mNil)) mNil)))) (mVar 2))))
def F__law_some_value : IF := runI N__law_some_value.length m__law_some_value
def N__law_some_compared : List Str := ["_law_bag", "_law_pool", "_law_one"]
def m__law_some_compared : MS :=
    (msSeq (msAsg (mIf (mTst (mBin dNe (mVar 1) (mLst mNil))) (mCallI F__law_any (mCons (mVar 0) (mCons (mVar 1) mNil))) (mTup (mCons (mC (.str [110, 117, 109, 98, 101, 114])) (mCons (mCallI F__law_near (mCons (mVar 0) mNil)) mNil)))) (mgName 2))
    (msSeq (msIf (mTst (mBin dEq (mCallI F__law_pull (mCons (mVar 0) (mCons (mC (.int 4)) mNil))) (mC (.int 0)))) (msAsg (mTup (mCons (mC (.str [112, 108, 117, 115])) (mCons (mVar 2) (mCons (mCallI F__law_near (mCons (mVar 0) mNil)) mNil)))) (mgName 2)) msNil)
    (msRet (mTup (mCons (mCallI F__law_any (mCons (mVar 0) (mCons (mLst (mCons (mC (.str [97, 116, 109, 111, 115, 116])) (mCons (mC (.str [98, 101, 108, 111, 119])) (mCons (mC (.str [98, 101, 108, 111, 119])) (mCons (mC (.str [115, 97, 109, 101])) mNil))))) mNil))) (mCons (mVar 2) (mCons (mCallI F__law_some_value (mCons (mVar 0) (mCons (mVar 1) mNil))) mNil)))))))
def F__law_some_compared : IF := runI N__law_some_compared.length m__law_some_compared
def N__law_some_condition : List Str := ["_law_bag", "_law_pool", "_law_deep", "_law_way", "_law_word"]
def m__law_some_condition (F : IF) : MS :=
    (msSeq (msAsg (mIf (mTst (mBin dGt (mVar 2) (mC (.int 0)))) (mCallI F__law_pull (mCons (mVar 0) (mCons (mC (.int 7)) mNil))) (mCallI F__law_pull (mCons (mVar 0) (mCons (mC (.int 3)) mNil)))) (mgName 3))
    (msSeq (msIf (mTst (mBin dLt (mVar 3) (mC (.int 1)))) (msRet (mTup (mCons (mC (.str [116, 114, 117, 101])) mNil))) msNil)
    (msSeq (msIf (mTst (mBin dLt (mVar 3) (mC (.int 4)))) (msRet (mCallI F__law_some_compared (mCons (mVar 0) (mCons (mVar 1) mNil)))) msNil)
    (msSeq (msIf (mTst (mBin dEq (mVar 3) (mC (.int 4)))) (msRet (mTup (mCons (mC (.str [110, 111, 116])) (mCons (mCallI F (mCons (mVar 0) (mCons (mVar 1) (mCons (mBin dSub (mVar 2) (mC (.int 1))) mNil)))) mNil)))) msNil)
    (msSeq (msAsg (mIf (mTst (mBin dEq (mVar 3) (mC (.int 5)))) (mC (.str [97, 110, 100])) (mC (.str [111, 114]))) (mgName 4))
    (msRet (mTup (mCons (mVar 4) (mCons (mCallI F (mCons (mVar 0) (mCons (mVar 1) (mCons (mBin dSub (mVar 2) (mC (.int 1))) mNil)))) (mCons (mCallI F (mCons (mVar 0) (mCons (mVar 1) (mCons (mBin dSub (mVar 2) (mC (.int 1))) mNil)))) mNil))))))))))
def F__law_some_condition_ : Nat → IF
  | 0 => fun _ _ => none
  | t + 1 => runI N__law_some_condition.length (m__law_some_condition (F__law_some_condition_ t))
def F__law_some_condition : IF := F__law_some_condition_ 8
def N_is_integer : List Str := ["value"]
def m_is_integer : MS :=
    (msRet (mAndV (mIsi [.int] (mVar 0)) (mNotV (mIsi [.bool] (mVar 0)))))
def F_is_integer : PF := runP N_is_integer.length m_is_integer
def N_is_constant : List Str := ["value"]
def m_is_constant : MS :=
    (msRet (mAndV (mCallP F_is_integer (mCons (mVar 0) mNil)) (mChain dLe dLe (mBin dSub (mC (.int 0)) (mC g_GREATEST)) (mVar 0) (mC g_GREATEST))))
def F_is_constant : PF := runP N_is_constant.length m_is_constant
def N_is_name : List Str := ["value", "letter"]
def m_is_name : MS :=
    (msSeq (msIf (mOr (mNot (mTst (mIsi [.str] (mVar 0)))) (mOr (mNot (mTst (mChain dLe dLe (mC (.int 1)) (mCall dLen (mCons (mVar 0) mNil)) (mC (.int 6))))) (mTst (mBin dInA (mVar 0) (mC g_RESERVED))))) (msRet (mC (.bl false))) msNil)
    (msRet (mCall dAll (mCons (mLc [1] (miS (mVar 0)) (mgName 1) mYes (mBin dInA (mVar 1) (mC g_LETTERS))) mNil))))
def F_is_name : PF := runP N_is_name.length m_is_name
def N_is_column : List Str := ["value"]
def m_is_column : MS :=
    (msRet (mAndV (mIsi [.str] (mVar 0)) (mOrV (mBin dEq (mVar 0) (mC (.str [107, 101, 121]))) (mCallP F_is_name (mCons (mVar 0) mNil)))))
def F_is_column : PF := runP N_is_column.length m_is_column
def N_is_plain : List Str := ["value"]
def m_is_plain : MS :=
    (msSeq (msIf (mOr (mNot (mTst (mIsi [.tup] (mVar 0)))) (mOr (mTst (mBin dLt (mCall dLen (mCons (mVar 0) mNil)) (mC (.int 2)))) (mNot (mTst (mIsi [.str] (mBin dIx (mVar 0) (mC (.int 0)))))))) (msRet (mC (.bl false))) msNil)
    (msSeq (msIf (mTst (mBin dEq (mBin dIx (mVar 0) (mC (.int 0))) (mC (.str [102, 105, 101, 108, 100])))) (msRet (mAndV (mBin dEq (mCall dLen (mCons (mVar 0) mNil)) (mC (.int 3))) (mAndV (mCallP F_is_name (mCons (mBin dIx (mVar 0) (mC (.int 1))) mNil)) (mCallP F_is_column (mCons (mBin dIx (mVar 0) (mC (.int 2))) mNil))))) msNil)
    (msSeq (msIf (mTst (mBin dNe (mCall dLen (mCons (mVar 0) mNil)) (mC (.int 2)))) (msRet (mC (.bl false))) msNil)
    (msSeq (msIf (mTst (mBin dEq (mBin dIx (mVar 0) (mC (.int 0))) (mC (.str [110, 117, 109, 98, 101, 114])))) (msRet (mCallP F_is_constant (mCons (mBin dIx (mVar 0) (mC (.int 1))) mNil))) msNil)
    (msSeq (msIf (mTst (mBin dEq (mBin dIx (mVar 0) (mC (.int 0))) (mC (.str [110, 97, 109, 101])))) (msRet (mCallP F_is_name (mCons (mBin dIx (mVar 0) (mC (.int 1))) mNil))) msNil)
    (msRet (mAndV (mBin dInA (mBin dIx (mVar 0) (mC (.int 0))) (mTup (mCons (mC (.str [111, 119, 110])) (mCons (mC (.str [110, 101, 120, 116])) mNil)))) (mCallP F_is_column (mCons (mBin dIx (mVar 0) (mC (.int 1))) mNil)))))))))
def F_is_plain : PF := runP N_is_plain.length m_is_plain
def N_is_value : List Str := ["value"]
def m_is_value : MS :=
    (msSeq (msIf (mAnd (mTst (mIsi [.tup] (mVar 0))) (mAnd (mTst (mBin dEq (mCall dLen (mCons (mVar 0) mNil)) (mC (.int 3)))) (mAnd (mTst (mIsi [.str] (mBin dIx (mVar 0) (mC (.int 0))))) (mTst (mBin dEq (mBin dIx (mVar 0) (mC (.int 0))) (mC (.str [112, 108, 117, 115]))))))) (msRet (mAndV (mCallP F_is_plain (mCons (mBin dIx (mVar 0) (mC (.int 1))) mNil)) (mCallP F_is_constant (mCons (mBin dIx (mVar 0) (mC (.int 2))) mNil)))) msNil)
    (msRet (mCallP F_is_plain (mCons (mVar 0) mNil))))
def F_is_value : PF := runP N_is_value.length m_is_value
def N_integer_text : List Str := ["sign", "number"]
def m_integer_text : MS :=
    (msRet (mIf (mTst (mBin dLt (mVar 1) (mC (.int 0)))) (jsL [(mC (.str [32, 45, 32])), (mFmt (mBin dSub (mC (.int 0)) (mVar 1)))] []) (jsL [(mC (.str [32])), (mFmt (mVar 0)), (mC (.str [32])), (mFmt (mVar 1))] [])))
def F_integer_text : PF := runP N_integer_text.length m_integer_text
def N_value_text : List Str := ["value"]
def m_value_text (F : PF) : MS :=
    (msSeq (msIf (mNot (mTst (mCallP F_is_value (mCons (mVar 0) mNil)))) (msRaise "InvalidValue" none [73, 110, 118, 97, 108, 105, 100, 86, 97, 108, 117, 101] mNil) msNil)
    (msSeq (msIf (mTst (mBin dEq (mBin dIx (mVar 0) (mC (.int 0))) (mC (.str [112, 108, 117, 115])))) (msRet (mBin dAdd (mCallP F (mCons (mBin dIx (mVar 0) (mC (.int 1))) mNil)) (mCallP F_integer_text (mCons (mC (.str [43])) (mCons (mBin dIx (mVar 0) (mC (.int 2))) mNil))))) msNil)
    (msSeq (msIf (mTst (mBin dEq (mBin dIx (mVar 0) (mC (.int 0))) (mC (.str [102, 105, 101, 108, 100])))) (msRet (jsL [(mFmt (mBin dIx (mVar 0) (mC (.int 1)))), (mC (.str [46])), (mFmt (mBin dIx (mVar 0) (mC (.int 2))))] [])) msNil)
    (msSeq (msIf (mTst (mBin dInA (mBin dIx (mVar 0) (mC (.int 0))) (mTup (mCons (mC (.str [111, 119, 110])) (mCons (mC (.str [110, 101, 120, 116])) mNil))))) (msRet (jsL [(mFmt (mBin dIx (mVar 0) (mC (.int 0)))), (mC (.str [46])), (mFmt (mBin dIx (mVar 0) (mC (.int 1))))] [])) msNil)
    (msRet (mCall dStr (mCons (mBin dIx (mVar 0) (mC (.int 1))) mNil)))))))
def F_value_text_ : Nat → PF
  | 0 => fun _ => none
  | t + 1 => runP N_value_text.length (m_value_text (F_value_text_ t))
def F_value_text : PF := F_value_text_ 3
def N_inner_parts : List Str := ["condition", "at"]
def me_inner_parts_0 : M D :=
    (mTup (mCons (mVar 1) (mCons (mBin dIx (mVar 0) (mVar 1)) mNil)))
def m_inner_parts : MS :=
    (msSeq (msIf (mTst (mBin dNinA (mBin dIx (mVar 0) (mC (.int 0))) (mTup (mCons (mC (.str [110, 111, 116])) (mCons (mC (.str [97, 110, 100])) (mCons (mC (.str [111, 114])) mNil)))))) (msRet (mLst mNil)) msNil)
    (msRet (mLc [1] (miR2 (mCons (mC (.int 1)) (mCons (mCall dLen (mCons (mVar 0) mNil)) mNil))) (mgName 1) mYes me_inner_parts_0)))
def F_inner_parts : PF := runP N_inner_parts.length m_inner_parts
def N_has_form : List Str := ["condition", "word"]
def m_has_form : MS :=
    (msSeq (msIf (mOr (mNot (mTst (mIsi [.tup] (mVar 0)))) (mOr (mTst (mBin dEq (mCall dLen (mCons (mVar 0) mNil)) (mC (.int 0)))) (mNot (mTst (mIsi [.str] (mBin dIx (mVar 0) (mC (.int 0)))))))) (msRet (mC (.bl false))) msNil)
    (msSeq (msAsg (mBin dIx (mVar 0) (mC (.int 0))) (mgName 1))
    (msSeq (msIf (mTst (mC1 (dCIn false kv_SIGNS) (mVar 1))) (msRet (mAndV (mBin dEq (mCall dLen (mCons (mVar 0) mNil)) (mC (.int 3))) (mAndV (mCallP F_is_value (mCons (mBin dIx (mVar 0) (mC (.int 1))) mNil)) (mCallP F_is_value (mCons (mBin dIx (mVar 0) (mC (.int 2))) mNil))))) msNil)
    (msSeq (msIf (mTst (mBin dEq (mVar 1) (mC (.str [102, 111, 117, 110, 100])))) (msRet (mAndV (mBin dEq (mCall dLen (mCons (mVar 0) mNil)) (mC (.int 2))) (mCallP F_is_name (mCons (mBin dIx (mVar 0) (mC (.int 1))) mNil)))) msNil)
    (msRet (mBin dEq (mCall dLen (mCons (mVar 0) mNil)) (mDGet2 (mDisp [((mC (.str [116, 114, 117, 101])), (mC (.int 1))), ((mC (.str [110, 111, 116])), (mC (.int 2))), ((mC (.str [97, 110, 100])), (mC (.int 3))), ((mC (.str [111, 114])), (mC (.int 3)))]) (mVar 1) (mC (.int 0)))))))))
def F_has_form : PF := runP N_has_form.length m_has_form
def N_wrong_path : List Str := ["condition", "path", "at", "inner", "found"]
def mb_wrong_path_0 (F : PF) : MS :=
    (msSeq (msAsg (mCallP F (mCons (mVar 3) (mCons (mTup (mStar (mVar 1) (mCons (mVar 2) mNil))) mNil))) (mgName 4))
    (msIf (mTst (mBin (dIsN true) (mVar 4) (mC .non))) (msRet (mVar 4)) msNil))
def m_wrong_path (F : PF) : MS :=
    (msSeq (msIf (mOr (mTst (mBin dGe (mCall dLen (mCons (mVar 1) mNil)) (mC g_MOST_DEPTH))) (mNot (mTst (mCallP F_has_form (mCons (mVar 0) mNil))))) (msRet (mVar 1)) msNil)
    (msSeq (msFor (miL (mCallP F_inner_parts (mCons (mVar 0) mNil))) (mgTup 2 (mgCons (mgName 2) (mgCons (mgName 3) mgNil))) (mb_wrong_path_0 F))
    (msRet (mC .non))))
def F_wrong_path_ : Nat → PF
  | 0 => fun _ => none
  | t + 1 => runP N_wrong_path.length (m_wrong_path (F_wrong_path_ t))
def F_wrong_path : PF := F_wrong_path_ 12
def N_is_condition : List Str := ["value"]
def m_is_condition : MS :=
    (msRet (mBin (dIsN false) (mCallP F_wrong_path (mCons (mVar 0) (mCons (mTup mNil) mNil))) (mC .non)))
def F_is_condition : PF := runP N_is_condition.length m_is_condition
def N_text_of : List Str := ["condition", "word"]
def m_text_of (F : PF) : MS :=
    (msSeq (msAsg (mBin dIx (mVar 0) (mC (.int 0))) (mgName 1))
    (msSeq (msIf (mTst (mC1 (dCIn false kv_SIGNS) (mVar 1))) (msRet (jsL [(mFmt (mCallP F_value_text (mCons (mBin dIx (mVar 0) (mC (.int 1))) mNil))), (mC (.str [32])), (mFmt (mC1 (dCIx kv_SIGNS) (mVar 1))), (mC (.str [32])), (mFmt (mCallP F_value_text (mCons (mBin dIx (mVar 0) (mC (.int 2))) mNil)))] [])) msNil)
    (msSeq (msIf (mTst (mBin dEq (mVar 1) (mC (.str [102, 111, 117, 110, 100])))) (msRet (jsL [(mC (.str [102, 111, 117, 110, 100, 32])), (mFmt (mBin dIx (mVar 0) (mC (.int 1))))] [])) msNil)
    (msSeq (msIf (mTst (mBin dEq (mVar 1) (mC (.str [110, 111, 116])))) (msRet (jsL [(mC (.str [110, 111, 116, 32])), (mFmt (mCallP F (mCons (mBin dIx (mVar 0) (mC (.int 1))) mNil)))] [])) msNil)
    (msRet (mIf (mTst (mBin dEq (mVar 1) (mC (.str [116, 114, 117, 101])))) (mC (.str [116, 114, 117, 101])) (jsL [(mC (.str [40])), (mFmt (mCallP F (mCons (mBin dIx (mVar 0) (mC (.int 1))) mNil))), (mC (.str [32])), (mFmt (mVar 1)), (mC (.str [32])), (mFmt (mCallP F (mCons (mBin dIx (mVar 0) (mC (.int 2))) mNil))), (mC (.str [41]))] [])))))))
def F_text_of_ : Nat → PF
  | 0 => fun _ => none
  | t + 1 => runP N_text_of.length (m_text_of (F_text_of_ t))
def F_text_of : PF := F_text_of_ 12
def N_check_condition : List Str := ["condition", "path"]
def m_check_condition : MS :=
    (msSeq (msAsg (mCallP F_wrong_path (mCons (mVar 0) (mCons (mTup mNil) mNil))) (mgName 1))
    (msIf (mTst (mBin (dIsN true) (mVar 1) (mC .non))) (msRaise "InvalidCondition" (some "path") [73, 110, 118, 97, 108, 105, 100, 67, 111, 110, 100, 105, 116, 105, 111, 110] (mCons (mVar 1) mNil)) msNil))
def F_check_condition : PF := runP N_check_condition.length m_check_condition
def N_condition_text : List Str := ["condition"]
def m_condition_text : MS :=
    (msSeq (msExpr (mCallP F_check_condition (mCons (mVar 0) mNil)))
    (msRet (mCallP F_text_of (mCons (mVar 0) mNil))))
def F_condition_text : PF := runP N_condition_text.length m_condition_text
end PV
namespace PV
open PySem PD
theorem e_pull : F__law_pull = F_pull := rfl
theorem e_any : F__law_any = F_any := rfl
theorem e_draws : F__law_draws = F_draws := rfl
theorem e_like : ∀ t, F__law_like_ t = F_like_ t
  | 0 => rfl
  | t + 1 => by
    unfold F__law_like_ F_like_
    rw [e_like t]; rfl
theorem con_of {i : Int} (h : -1000000000000000000000000000000 ≤ i ∧ i ≤ 1000000000000000000000000000000) : isCon i = true := by
  unfold isCon
  simp only [Bool.and_eq_true, decide_eq_true_eq]
  omega
end PV
local macro_rules
  | `(tactic| dsimp! only [$xs,*] $[$l]?) => `(tactic| simp only [↓PD.seq_ap, ↓PD.var_ap, ↓PD.c_ap, ↓PD.bin_ap, ↓PD.tst_ap, ↓PD.not_ap, ↓PD.and_ap, ↓PD.or_ap, ↓PD.if_ap, ↓PD.andv_ap, ↓PD.orv_ap, ↓PD.notv_ap, ↓PD.nil_ap, ↓PD.cons_ap, ↓PD.tup_ap, ↓PD.lst_ap, ↓PD.call_ap, ↓PD.callP_ap, ↓PD.callI_ap, ↓PD.perm_ap, ↓PD.nop_ap, ↓PD.smp_ap, ↓PD.sl_ap, ↓PD.chain_ap, ↓PD.isi_ap, ↓PD.lc_ap, ↓PD.lstC_ap, ↓PD.mts_ap, ↓PD.yes_ap, ↓PD.il_ap, ↓PD.it_ap, ↓PD.is_ap, ↓PD.ir1_ap, ↓PD.iz_ap, ↓PD.snil_ap, ↓PD.ret_ap, ↓PD.sif_ap, ↓PD.sexpr_ap, ↓PD.bk_ap, ↓PD.ct_ap, ↓PD.asg_ap, ↓PD.for_ap, ↓PD.par_ap, ↓PD.gname_ap, ↓PD.gnil_ap, ↓PD.gcons_ap, ↓PD.gtup_ap, ↓PD.gsub_ap, PD.bR_ok, PD.bR_ex, PD.rt_some, PD.sq_nx, PD.sq_rt, PD.sq_bk, PD.sq_ct, PD.sq_ex, PD.bS_ok, PD.bS_ex, PD.binK1_ap, PD.binK2_ap, PD.tstK_b, PD.notK_ap, PD.andK_t, PD.andK_f, PD.orK_t, PD.orK_f, PD.ifK_t, PD.ifK_f, PD.andV_t, PD.andV_f, PD.orV_t, PD.orV_f, PD.notV_c, PD.consK1_ap, PD.consK2_ap, PD.tupK_ok, PD.lstK_ok, PD.callK_ap, PD.permK_ap, PD.smP_int, PD.slK1_ap, PD.slK2_ap, PD.slK3_ap, PD.sl_lst, PD.sl_scr, PD.sl_tup, PD.chK1_ap, PD.chK2_ap, PD.chK3_t, PD.chK3_f, PD.chK4_ap, PD.isiK_int, PD.isiK_str, PD.isiK_bl, PD.isiK_non, PD.isiK_tup, PD.isiK_lst, PD.mtsK_str, PD.mtsK2_ap, PD.ilK_lst, PD.ilK_scr, PD.itK_tup, PD.isK_str, PD.izK_l, PD.izK_t, PD.retK_ap, PD.sifK_t, PD.sifK_f, PD.sexprK_ap, PD.asgK_ap, PD.bG_ok, PD.forK_ap, PD.parK_ok, PD.gK_ok, PD.subK1_ok, PD.subK2_ok, PD.add_int, PD.sub_int, PD.mod_int, PD.lt_int, PD.le_int, PD.gt_int, PD.ge_int, PD.eq_int, PD.eq_str, PD.eq_bl, PD.eq_is, PD.eq_si, PD.eq_bs, PD.eq_sb, PD.eq_nn, PD.ne_int, PD.ne_str, PD.ne_bl, PD.isn_ap, PD.isN_int, PD.isN_str, PD.isN_bl, PD.isN_tup, PD.isN_lst, PD.isN_non, PD.ix_lst, PD.ix_tup, PD.ix_scr, PD.len_lst, PD.len_tup, PD.int_int, PD.list_lst, PD.list_tup, PD.tuple_lst, PD.tuple_tup, PD.asB_bl, PD.getD0, PD.getDS, PD.set0, PD.setS, PD.at0, PD.atS, PD.map_some', PD.bind_some', List.length_cons, List.length_nil, List.any_cons, List.any_nil, ↓PD.fld_ap, ↓PD.mei_ap, ↓PD.faug_ap, ↓PD.c1_ap, ↓PD.ir2_ap, ↓PD.sfld_ap, PD.fldK_ap, PD.meiK2_ap, PD.c1K_ap, PD.sfldK_ap, PD.sfldK2_ap, decide_true, decide_false, and_self, Nat.reduceLeDiff, Nat.reduceAdd, if_true, Int.reduceLT, Int.reduceNeg, Int.reducePow, Int.reduceToNat, Int.reduceLE, Nat.reduceLT, Int.reduceAdd, Int.reduceSub, Bool.not_true, Bool.not_false, Int.reduceEq, bne_self_eq_false, Bool.false_bne, Bool.true_bne, Int.reduceBNe, $xs,*] $[$l]?)
namespace PV
open PySem PD
def rdF (s : List Nat) (k : Nat) : List (Str × D) := [("source", .str s), ("spot", .int k)]
def rd (s : List Nat) (k : Nat) : Cell := .obj "ConditionReader" (rdF s k)
def stops : List Nat := [32, 40, 41]
end PV
namespace PD
theorem star_ap {ε : Ev} {h : EH} {a : M D} {b : M (List D)} {x : D} {xs : List D} {h1 : EH} (e : a ε h = some (.ok x, h1)) (e2 : asS h1 x = some xs) : mStar a b ε h = bR (b ε h1) fun ys h2 => some (.ok (xs ++ ys), h2) := by
  unfold mStar
  rw [e, bR_ok, e2]
end PD
namespace PV
open PySem PD
inductive Cw where
  | am | be | sa
  deriving DecidableEq
def Cw.w : Cw → List Nat
  | .am => [97, 116, 109, 111, 115, 116]
  | .be => [98, 101, 108, 111, 119]
  | .sa => [115, 97, 109, 101]
def jw (j : Bool) : List Nat := if j = true then [97, 110, 100] else [111, 114]
inductive Cd where
  | cmp (o : Cw) (a b : Vl) | tru | fnd (z : List Nat) | nt (c : Cd) | bin (j : Bool) (c d : Cd)
def Cd.d : Cd → D
  | .cmp o a b => .tup [.str o.w, a.d, b.d]
  | .tru => .tup [.str [116, 114, 117, 101]]
  | .fnd z => .tup [.str [102, 111, 117, 110, 100], .str z]
  | .nt c => .tup [.str [110, 111, 116], c.d]
  | .bin j c d => .tup [.str (jw j), c.d, d.d]
def Cd.ok : Cd → Bool
  | .cmp _ a b => a.ok && b.ok
  | .tru => true
  | .fnd z => isNm z
  | .nt c => c.ok
  | .bin _ c d => c.ok && d.ok
def Cd.dep : Cd → Nat
  | .nt c => c.dep + 1
  | .bin _ c d => max c.dep d.dep + 1
  | _ => 1
theorem Cd.noRef : ∀ c : Cd, PD.noRef c.d = true
  | .cmp o a b => by
    show (true && (PD.noRef a.d && (PD.noRef b.d && true))) = true
    rw [a.noRef, b.noRef]; rfl
  | .tru => rfl
  | .fnd _ => rfl
  | .nt c => by
    show (true && (PD.noRef c.d && true)) = true
    rw [Cd.noRef c]; rfl
  | .bin j c d => by
    show (true && (PD.noRef c.d && (PD.noRef d.d && true))) = true
    rw [Cd.noRef c, Cd.noRef d]; rfl
theorem Cd.dep_pos : ∀ c : Cd, 1 ≤ c.dep
  | .cmp _ _ _ => Nat.le_refl _
  | .tru => Nat.le_refl _
  | .fnd _ => Nat.le_refl _
  | .nt c => by show 1 ≤ c.dep + 1; omega
  | .bin _ c d => by show 1 ≤ max c.dep d.dep + 1; omega
theorem cin_cw (o : Cw) : dCIn false kv_SIGNS (.str o.w) = some (.bl true) := by cases o <;> rfl
theorem cin_tru : dCIn false kv_SIGNS (.str [116, 114, 117, 101]) = some (.bl false) := rfl
theorem cin_fnd : dCIn false kv_SIGNS (.str [102, 111, 117, 110, 100]) = some (.bl false) := rfl
theorem cin_nt : dCIn false kv_SIGNS (.str [110, 111, 116]) = some (.bl false) := rfl
theorem cin_jw (j : Bool) : dCIn false kv_SIGNS (.str (jw j)) = some (.bl false) := by cases j <;> rfl
theorem jw_fnd (j : Bool) : ¬ jw j = [102, 111, 117, 110, 100] := by cases j <;> decide
def hfD : M D := mDGet2 (mDisp [((mC (.str [116, 114, 117, 101])), (mC (.int 1))), ((mC (.str [110, 111, 116])), (mC (.int 2))), ((mC (.str [97, 110, 100])), (mC (.int 3))), ((mC (.str [111, 114])), (mC (.int 3)))]) (mVar 1) (mC (.int 0))
theorem hf_tru (x : Option D) : hfD [x, some (.str [116, 114, 117, 101])] [] = some (.ok (.int 1), []) := by kernel_rfl
theorem hf_nt (x : Option D) : hfD [x, some (.str [110, 111, 116])] [] = some (.ok (.int 2), []) := by kernel_rfl
theorem hf_jw (x : Option D) (j : Bool) : hfD [x, some (.str (jw j))] [] = some (.ok (.int 3), []) := by cases j <;> kernel_rfl
theorem hf_fold : mDGet2 (mDisp [((mC (.str [116, 114, 117, 101])), (mC (.int 1))), ((mC (.str [110, 111, 116])), (mC (.int 2))), ((mC (.str [97, 110, 100])), (mC (.int 3))), ((mC (.str [111, 114])), (mC (.int 3)))]) (mVar 1) (mC (.int 0)) = hfD := rfl
theorem v_ok {v : Vl} (h : v.ok = true) (t : EH) : callPK F_is_value [v.d] t = some (.ok (.bl true), t) := callPK_ok (isValue_ok h) (go1 v.noRef)
theorem form_ok : ∀ {c : Cd}, c.ok = true → F_has_form [c.d] = some (.ok (.bl true))
  | .cmp o a b, h => by
    have h' := Bool.and_eq_true_iff.mp (show (a.ok && b.ok) = true from h)
    show endP (m_has_form [some (Cd.cmp o a b).d, none] []) = _
    dsimp! only [m_has_form, hf_fold, Cd.d, isa, Bool.or_false, Bool.or_true, Bool.false_or, atl0, atl1, atl2, len0, len1, len2, len3, cin_cw, v_ok h'.1, v_ok h'.2]
    rfl
  | .tru, _ => by
    show endP (m_has_form [some Cd.tru.d, none] []) = _
    dsimp! only [m_has_form, hf_fold, Cd.d, isa, Bool.or_false, Bool.or_true, Bool.false_or, atl0, atl1, atl2, len0, len1, len2, len3, cin_tru, List.cons.injEq, Nat.reduceEqDiff, false_and, and_false, hf_tru]
    rfl
  | .fnd z, h => by
    have e := callPK_ok (F := F_is_name) (h := []) (isName_nm (show isNm z = true from h)) rfl
    show endP (m_has_form [some (Cd.fnd z).d, none] []) = _
    dsimp! only [m_has_form, hf_fold, Cd.d, isa, Bool.or_false, Bool.or_true, Bool.false_or, atl0, atl1, atl2, len0, len1, len2, len3, cin_fnd, e]
    rfl
  | .nt c, h => by
    show endP (m_has_form [some (Cd.nt c).d, none] []) = _
    dsimp! only [m_has_form, hf_fold, Cd.d, isa, Bool.or_false, Bool.or_true, Bool.false_or, atl0, atl1, atl2, len0, len1, len2, len3, cin_nt, List.cons.injEq, Nat.reduceEqDiff, false_and, and_false, hf_nt]
    rfl
  | .bin j c d, h => by
    show endP (m_has_form [some (Cd.bin j c d).d, none] []) = _
    dsimp! only [m_has_form, hf_fold, Cd.d, isa, Bool.or_false, Bool.or_true, Bool.false_or, atl0, atl1, atl2, len0, len1, len2, len3, cin_jw, jw_fnd, hf_jw]
    rfl
theorem nin3 {h : EH} {z : List Nat} : dNinA h (.str z) (.tup [.str [110, 111, 116], .str [97, 110, 100], .str [111, 114]]) = some (.bl (!decide (z ∈ [[110, 111, 116], [97, 110, 100], [111, 114]]))) := by
  show (dInS true h (.str z) (.tup ([[110, 111, 116], [97, 110, 100], [111, 114]].map .str))).or (dIn true h (.str z) (.tup ([[110, 111, 116], [97, 110, 100], [111, 114]].map .str))) = _
  have e := in_strs (h := h) (z := z) [[110, 111, 116], [97, 110, 100], [111, 114]]
  have e1 : dInS true h (.str z) (.tup ([[110, 111, 116], [97, 110, 100], [111, 114]].map .str)) = none := rfl
  have e2 : dInS false h (.str z) (.tup ([[110, 111, 116], [97, 110, 100], [111, 114]].map .str)) = none := rfl
  have e3 : dInA h (.str z) (.tup ([[110, 111, 116], [97, 110, 100], [111, 114]].map .str)) = dIn false h (.str z) (.tup ([[110, 111, 116], [97, 110, 100], [111, 114]].map .str)) := by
    show (dInS false h (.str z) (.tup ([[110, 111, 116], [97, 110, 100], [111, 114]].map .str))).or _ = _
    rw [e2]; rfl
  rw [e3] at e
  rw [e1]
  show dIn true h (.str z) (.tup ([[110, 111, 116], [97, 110, 100], [111, 114]].map .str)) = _
  unfold dIn at e ⊢
  simp only [asS] at e ⊢
  split at e
  · rename_i q
    have e4 := Option.some.inj e
    have e5 := D.bl.inj e4
    rw [if_pos q, ← e5]
    simp only [Bool.false_bne, Bool.true_bne]
  · cases e
def Cd.inn : Cd → List D
  | .nt c => [.tup [.int 1, c.d]]
  | .bin _ c d => [.tup [.int 1, c.d], .tup [.int 2, d.d]]
  | _ => []
theorem cw_nin (o : Cw) : ¬ (o.w ∈ [[110, 111, 116], [97, 110, 100], [111, 114]]) := by cases o <;> decide
theorem jw_in (j : Bool) : jw j ∈ [[110, 111, 116], [97, 110, 100], [111, 114]] := by cases j <;> decide
theorem inner_ok : ∀ (c : Cd), F_inner_parts [c.d] = some (.ok (.lst c.inn))
  | .cmp o a b => by
    show endP (m_inner_parts [some (Cd.cmp o a b).d, none] []) = _
    dsimp! only [m_inner_parts, Cd.d, atl0, nin3, cw_nin]
    rfl
  | .tru => by
    show endP (m_inner_parts [some Cd.tru.d, none] []) = _
    dsimp! only [m_inner_parts, Cd.d, atl0, nin3, show ¬ ([116, 114, 117, 101] ∈ [[110, 111, 116], [97, 110, 100], [111, 114]]) by decide]
    rfl
  | .fnd z => by
    show endP (m_inner_parts [some (Cd.fnd z).d, none] []) = _
    dsimp! only [m_inner_parts, Cd.d, atl0, nin3, show ¬ ([102, 111, 117, 110, 100] ∈ [[110, 111, 116], [97, 110, 100], [111, 114]]) by decide]
    rfl
  | .nt c => by
    have lc : lcL (mgName 1) mYes me_inner_parts_0 (rngD 1 1) [some (Cd.nt c).d, none] [] = some ([.tup [.int 1, c.d]], []) := by
      refine lcL_map (fun _ => .tup [.int 1, c.d]) (ds := rngD 1 1) fun d hd => ?_
      have : d = .int 1 := by simpa [rngD] using hd
      subst this
      refine ⟨_, rfl, rfl, ?_⟩
      dsimp! only [me_inner_parts_0, Cd.d, atl1]
    have lk := lcK_ok (vs := [1]) (ε := [some (Cd.nt c).d, none]) lc (by simp)
    simp only [Cd.d] at lk
    show endP (m_inner_parts [some (Cd.nt c).d, none] []) = _
    dsimp! only [m_inner_parts, Cd.d, atl0, nin3, len2, show ([110, 111, 116] ∈ [[110, 111, 116], [97, 110, 100], [111, 114]]) by decide, ir2K_ok (i := 1) (j := 2) (by decide), lk]
    refine endP_ok ?_
    show (((true && (PD.noRef c.d && true)) && true)) = true
    rw [c.noRef]; rfl
  | .bin j c d => by
    have lc : lcL (mgName 1) mYes me_inner_parts_0 (rngD 1 2) [some (Cd.bin j c d).d, none] [] = some ([.tup [.int 1, c.d], .tup [.int 2, d.d]], []) := by
      refine lcL_map (fun x => match x with | .int 1 => .tup [.int 1, c.d] | _ => .tup [.int 2, d.d]) (ds := rngD 1 2) fun x hx => ?_
      have : x = .int 1 ∨ x = .int 2 := by
        have e : rngD 1 2 = [.int 1, .int 2] := rfl
        rw [e] at hx
        simpa using hx
      rcases this with rfl | rfl
      · refine ⟨_, rfl, rfl, ?_⟩
        dsimp! only [me_inner_parts_0, Cd.d, atl1]
      · refine ⟨_, rfl, rfl, ?_⟩
        dsimp! only [me_inner_parts_0, Cd.d, atl2]
    have lk := lcK_ok (vs := [1]) (ε := [some (Cd.bin j c d).d, none]) lc (by simp)
    simp only [Cd.d] at lk
    show endP (m_inner_parts [some (Cd.bin j c d).d, none] []) = _
    dsimp! only [m_inner_parts, Cd.d, atl0, nin3, len3, jw_in, ir2K_ok (i := 1) (j := 3) (by decide), lk]
    refine endP_ok ?_
    show (((true && (PD.noRef c.d && true)) && ((true && (PD.noRef d.d && true)) && true))) = true
    rw [c.noRef, d.noRef]; rfl
theorem ints_go : ∀ ps : List Int, PD.noRef.go (ps.map D.int) = true
  | [] => rfl
  | p :: ps => by
    show (true && PD.noRef.go (ps.map D.int)) = true
    rw [ints_go ps]; rfl
theorem wp_go {c : Cd} (ps : List Int) : PD.noRef.go [c.d, .tup (ps.map .int)] = true := by
  show (PD.noRef c.d && (PD.noRef.go (ps.map D.int) && true)) = true
  rw [c.noRef, ints_go]; rfl
theorem wrong_none : ∀ (c : Cd) (f : Nat) (ps : List Int), c.ok = true → ps.length + c.dep ≤ 6 → c.dep ≤ f → F_wrong_path_ f [c.d, .tup (ps.map .int)] = some (.ok .non) := by
  have key : ∀ (c : Cd) (f : Nat) (ps : List Int), c.ok = true → ps.length + c.dep ≤ 6 →
      forL (mgTup 2 (mgCons (mgName 2) (mgCons (mgName 3) mgNil))) (mb_wrong_path_0 (F_wrong_path_ f)) c.inn [some c.d, some (.tup (ps.map .int)), none, none, none] [] = some (.nx [some c.d, some (.tup (ps.map .int)), none, none, none], []) ∨
        (∃ a b e, forL (mgTup 2 (mgCons (mgName 2) (mgCons (mgName 3) mgNil))) (mb_wrong_path_0 (F_wrong_path_ f)) c.inn [some c.d, some (.tup (ps.map .int)), none, none, none] [] = some (.nx [some c.d, some (.tup (ps.map .int)), a, b, e], [])) →
      F_wrong_path_ (f + 1) [c.d, .tup (ps.map .int)] = some (.ok .non) := by
    intro c f ps hc hd hl
    have hp := c.dep_pos
    have hn : ¬ (6 : Int) ≤ ((ps.map D.int).length : Int) := by rw [List.length_map]; omega
    have hf := callPK_ok (F := F_has_form) (h := []) (form_ok hc) (go1 c.noRef)
    have hi := callPK_ok (F := F_inner_parts) (h := []) (inner_ok c) (go1 c.noRef)
    have hl' : ∃ a b e, forL (mgTup 2 (mgCons (mgName 2) (mgCons (mgName 3) mgNil))) (mb_wrong_path_0 (F_wrong_path_ f)) c.inn [some c.d, some (.tup (ps.map .int)), none, none, none] [] = some (.nx [some c.d, some (.tup (ps.map .int)), a, b, e], []) := by
      rcases hl with h | h
      · exact ⟨_, _, _, h⟩
      · exact h
    obtain ⟨a, b, e, hl⟩ := hl'
    show endP (m_wrong_path (F_wrong_path_ f) [some c.d, some (.tup (ps.map .int)), none, none, none] []) = _
    dsimp! only [m_wrong_path, g_MOST_DEPTH, hn, hf, hi, hl]
    rfl
  have turn : ∀ (c : Cd) (f : Nat) (ps : List Int) (i : Int) (x : Option D) (a b e : Option D), F_wrong_path_ f [c.d, .tup ((ps ++ [i]).map .int)] = some (.ok .non) → ps.length ≤ 6 →
      mb_wrong_path_0 (F_wrong_path_ f) [x, some (.tup (ps.map .int)), some (.int i), some c.d, e] [] = some (.nx [x, some (.tup (ps.map .int)), some (.int i), some c.d, some .non], []) := by
    intro c f ps i x a b e hw hl
    have hk := callPK_ok (h := []) hw (wp_go (c := c) (ps ++ [i]))
    have hs : mStar (mVar 1) (mCons (mVar 2) mNil) [x, some (.tup (ps.map .int)), some (.int i), some c.d, e] [] = some (.ok (ps.map .int ++ [.int i]), []) := by
      rw [star_ap (x := .tup (ps.map .int)) (xs := ps.map .int) rfl rfl]
      rfl
    have ht : tupK (ps.map .int ++ [.int i]) [] = some (.ok (.tup ((ps ++ [i]).map .int)), []) := by
      rw [tupK_ok (by simp; omega)]
      simp
    dsimp! only [mb_wrong_path_0, hs, ht, hk]
  intro c
  induction c with
  | cmp o a b =>
    intro f ps hc hd hf
    obtain ⟨f, rfl⟩ : ∃ m, f = m + 1 := ⟨f - 1, by have : 1 ≤ f := hf; omega⟩
    exact key (.cmp o a b) f ps hc hd (.inl rfl)
  | tru =>
    intro f ps hc hd hf
    obtain ⟨f, rfl⟩ : ∃ m, f = m + 1 := ⟨f - 1, by have : 1 ≤ f := hf; omega⟩
    exact key .tru f ps hc hd (.inl rfl)
  | fnd z =>
    intro f ps hc hd hf
    obtain ⟨f, rfl⟩ : ∃ m, f = m + 1 := ⟨f - 1, by have : 1 ≤ f := hf; omega⟩
    exact key (.fnd z) f ps hc hd (.inl rfl)
  | nt c ih =>
    intro f ps hc hd hf
    have hd' : ps.length + (c.dep + 1) ≤ 6 := hd
    have hf' : c.dep + 1 ≤ f := hf
    obtain ⟨f, rfl⟩ : ∃ m, f = m + 1 := ⟨f - 1, by omega⟩
    have w := ih f (ps ++ [1]) hc (by simp; omega) (by omega)
    refine key (.nt c) f ps hc hd (.inr ⟨some (.int 1), some c.d, some .non, ?_⟩)
    rw [show (Cd.nt c).inn = [.tup [.int 1, c.d]] from rfl, forL_nx (ε1 := [some (Cd.nt c).d, some (.tup (ps.map .int)), some (.int 1), some c.d, none]) (h1 := []) rfl (turn c f ps 1 _ none none none w (by omega)), forL_nil]
  | bin j c d ihc ihd =>
    intro f ps hc hd hf
    have hc' := Bool.and_eq_true_iff.mp (show (c.ok && d.ok) = true from hc)
    have hd' : ps.length + (max c.dep d.dep + 1) ≤ 6 := hd
    have hf' : max c.dep d.dep + 1 ≤ f := hf
    obtain ⟨f, rfl⟩ : ∃ m, f = m + 1 := ⟨f - 1, by omega⟩
    have w1 := ihc f (ps ++ [1]) hc'.1 (by simp; omega) (by omega)
    have w2 := ihd f (ps ++ [2]) hc'.2 (by simp; omega) (by omega)
    refine key (.bin j c d) f ps hc hd (.inr ⟨some (.int 2), some d.d, some .non, ?_⟩)
    rw [show (Cd.bin j c d).inn = [.tup [.int 1, c.d], .tup [.int 2, d.d]] from rfl, forL_nx (ε1 := [some (Cd.bin j c d).d, some (.tup (ps.map .int)), some (.int 1), some c.d, none]) (h1 := []) rfl (turn c f ps 1 _ none none none w1 (by omega)),
      forL_nx (ε1 := [some (Cd.bin j c d).d, some (.tup (ps.map .int)), some (.int 2), some d.d, some .non]) (h1 := []) rfl (turn d f ps 2 _ none none _ w2 (by omega)), forL_nil]
end PV
namespace PV
open PySem PD
end PV
namespace PV
open PySem PD
end PV
namespace PV
open PySem PD
end PV
namespace PD
open PySem
end PD
namespace PV
open PySem PD
theorem con_small {i : Int} (h : -10 ≤ i ∧ i ≤ 10) : isCon i = true := con_of (by omega)
theorem near_ok {k : Cell} (hk : BagI k) (t : EH) : ∃ (i : Int) (k' : Cell), F__law_near [.ref 0] (k :: t) = some (.ok (.int i), k' :: t) ∧ (-2 ≤ i ∧ i ≤ 3) ∧ BagI k' := by
  obtain ⟨d, k3, e3, hd, hk3⟩ := any_lst hk (ds := [.int 0, .int 1, .int 1, .int 2, .int 3, .int (-1), .int (-2)]) (by simp) (by simp) (by simp [PD.noRef]) t
  have key : ∃ i : Int, d = .int i ∧ (-2 ≤ i ∧ i ≤ 3) := by
    simp only [List.mem_cons, List.not_mem_nil, or_false] at hd
    rcases hd with rfl | rfl | rfl | rfl | rfl | rfl | rfl <;> exact ⟨_, rfl, by omega⟩
  obtain ⟨i, rfl, hi⟩ := key
  refine ⟨i, k3, ?_, hi, hk3⟩
  have e3' : F__law_any [.ref 0, .lst [.int 0, .int 1, .int 1, .int 2, .int 3, .int (-1), .int (-2)]] (k :: t) = some (.ok (.int i), k3 :: t) := e3
  show endI _ (m__law_near [some (.ref 0)] (k :: t)) = _
  dsimp! only [m__law_near, e3']
  exact endI_ok rfl rfl
/-- a pool of values without a plus -/
structure PoolOk (ds : List D) : Prop where
  at_ : ∀ d ∈ ds, ∃ p : Pl, d = p.d ∧ p.ok = true
  len : ds.length ≤ 1000
theorem PoolOk.noRef {ds : List D} (h : PoolOk ds) : ∀ d ∈ ds, PD.noRef d = true := fun d hd => by
  obtain ⟨p, rfl, _⟩ := h.at_ d hd
  exact p.noRef
theorem some_value_ok {k : Cell} (hk : BagI k) {ds : List D} (hp : PoolOk ds) (t : EH) : ∃ (v : Vl) (k' : Cell), F__law_some_value [.ref 0, .lst ds] (k :: t) = some (.ok v.d, k' :: t) ∧ v.ok = true ∧ BagI k' := by
  obtain ⟨i, k1, e1, hi, hk1⟩ := near_ok hk t
  have hl : (ds ++ [(Pl.num i).d]).length = ds.length + 1 := by simp
  have hp' : ∀ d ∈ ds ++ [(Pl.num i).d], ∃ p : Pl, d = p.d ∧ p.ok = true := fun d hd => by
    rcases List.mem_append.mp hd with h | h
    · exact hp.at_ d h
    · exact ⟨.num i, List.mem_singleton.mp h, con_small (by omega)⟩
  have hlen := hp.len
  obtain ⟨d, k2, e2, hd, hk2⟩ := any_lst hk1 (ds := ds ++ [(Pl.num i).d]) (by omega) (by omega) (fun d hd => by obtain ⟨p, rfl, _⟩ := hp' d hd; exact p.noRef) t
  obtain ⟨p, rfl, hpo⟩ := hp' d hd
  obtain ⟨n, k3, e3, n0, n1, hk3⟩ := pull_ok hk2 (n := 3) (by decide) (by decide) t
  have e2' : F__law_any [.ref 0, .lst (ds ++ [.tup [.str [110, 117, 109, 98, 101, 114], .int i]])] (k1 :: t) = some (.ok p.d, k2 :: t) := e2
  have e3' : F__law_pull [.ref 0, .int 3] (k2 :: t) = some (.ok (.int n), k3 :: t) := e3
  have ad : ∀ h : EH, dAdd h (.lst ds) (.lst [.tup [.str [110, 117, 109, 98, 101, 114], .int i]]) = some (.lst (ds ++ [.tup [.str [110, 117, 109, 98, 101, 114], .int i]])) := fun h => add_lst (by simp; omega)
  by_cases q : n = 0
  · obtain ⟨j, k4, e4, hj, hk4⟩ := near_ok hk3 t
    refine ⟨.plus p j, k4, ?_, by show (p.ok && isCon j) = true; rw [hpo, con_small (by omega)]; rfl, hk4⟩
    show endI _ (m__law_some_value [some (.ref 0), some (.lst ds), none] (k :: t)) = _
    dsimp! only [m__law_some_value, e1, ad, e2', e3', q, e4]
    exact endI_ok rfl (Vl.plus p j).noRef
  · refine ⟨.pl p, k3, ?_, hpo, hk3⟩
    show endI _ (m__law_some_value [some (.ref 0), some (.lst ds), none] (k :: t)) = _
    dsimp! only [m__law_some_value, e1, ad, e2', e3', q]
    exact endI_ok rfl p.noRef
theorem okE_abc {z : List Nat} (h : isNm z = true) : (z.all fun c => decide (c < 1114112)) = true := by
  rw [List.all_eq_true]
  intro c hc
  have := abc_rng (nm_mem h hc)
  exact decide_eq_true (by omega)
theorem okE_col {z : List Nat} (h : isCol z = true) : (z.all fun c => decide (c < 1114112)) = true := by
  unfold isCol at h
  rw [Bool.or_eq_true] at h
  rcases h with h | h
  · rw [of_decide_eq_true h]; rfl
  · exact okE_abc h
theorem okE_pl {p : Pl} (h : p.ok = true) : okE 2 p.d = true := by
  cases p with
  | num n => rfl
  | name z => show (true && ((z.all fun c => decide (c < 1114112)) && true)) = true; rw [okE_abc h]; rfl
  | field z y =>
    have h' := Bool.and_eq_true_iff.mp (show (isNm z && isCol y) = true from h)
    show (true && ((z.all fun c => decide (c < 1114112)) && ((y.all fun c => decide (c < 1114112)) && true))) = true
    rw [okE_abc h'.1, okE_col h'.2]; rfl
  | own y => show (true && ((y.all fun c => decide (c < 1114112)) && true)) = true; rw [okE_col h]; rfl
  | next y => show (true && ((y.all fun c => decide (c < 1114112)) && true)) = true; rw [okE_col h]; rfl
theorem PoolOk.okE {ds : List D} (h : PoolOk ds) : okE 3 (.lst ds) = true := List.all_eq_true.mpr fun d hd => by
  obtain ⟨p, rfl, hp⟩ := h.at_ d hd
  exact okE_pl hp
theorem pool_ne {h : EH} {ds : List D} (hp : PoolOk ds) (hn : ds ≠ []) : dNe h (.lst ds) (.lst []) = some (.bl true) := dNe_t (t := 3) (u := 1) hp.okE rfl (by decide) (by decide) fun e => hn (D.lst.inj e)
theorem cw_any : ∀ d ∈ [D.str Cw.am.w, D.str Cw.be.w, D.str Cw.be.w, D.str Cw.sa.w], ∃ o : Cw, d = .str o.w := by
  intro d hd
  simp only [List.mem_cons, List.not_mem_nil, or_false] at hd
  rcases hd with rfl | rfl | rfl | rfl <;> exact ⟨_, rfl⟩
theorem some_compared_ok {k : Cell} (hk : BagI k) {ds : List D} (hp : PoolOk ds) (hn : ds ≠ []) (t : EH) : ∃ (o : Cw) (a b : Vl) (k' : Cell), F__law_some_compared [.ref 0, .lst ds] (k :: t) = some (.ok (Cd.cmp o a b).d, k' :: t) ∧ a.ok = true ∧ b.ok = true ∧ BagI k' := by
  have hlen := hp.len
  have h0 : 0 < ds.length := by cases ds with | nil => exact absurd rfl hn | cons _ _ => simp
  obtain ⟨d, k1, e1, hd, hk1⟩ := any_lst hk (ds := ds) h0 (by omega) hp.noRef t
  obtain ⟨p, rfl, hpo⟩ := hp.at_ d hd
  obtain ⟨n, k2, e2, n0, n1, hk2⟩ := pull_ok hk1 (n := 4) (by decide) (by decide) t
  have e1' : F__law_any [.ref 0, .lst ds] (k :: t) = some (.ok p.d, k1 :: t) := e1
  have e2' : F__law_pull [.ref 0, .int 4] (k1 :: t) = some (.ok (.int n), k2 :: t) := e2
  have fin : ∀ (a : Vl) (k3 : Cell), a.ok = true → BagI k3 → ∃ (o : Cw) (b : Vl) (k5 : Cell), b.ok = true ∧ BagI k5 ∧ msRet (mTup (mCons (mCallI F__law_any (mCons (mVar 0) (mCons (mLst (mCons (mC (.str [97, 116, 109, 111, 115, 116])) (mCons (mC (.str [98, 101, 108, 111, 119])) (mCons (mC (.str [98, 101, 108, 111, 119])) (mCons (mC (.str [115, 97, 109, 101])) mNil))))) mNil))) (mCons (mVar 2) (mCons (mCallI F__law_some_value (mCons (mVar 0) (mCons (mVar 1) mNil))) mNil))))
      [some (.ref 0), some (.lst ds), some a.d] (k3 :: t) = some (.rt (Cd.cmp o a b).d, k5 :: t) := by
    intro a k3 ha hk3
    obtain ⟨d, k4, e4, hd, hk4⟩ := any_lst hk3 (ds := [.str Cw.am.w, .str Cw.be.w, .str Cw.be.w, .str Cw.sa.w]) (by decide) (by decide) (by decide) t
    obtain ⟨o, rfl⟩ := cw_any d hd
    obtain ⟨b, k5, e5, hb, hk5⟩ := some_value_ok hk4 hp t
    have e4' : F__law_any [.ref 0, .lst [.str [97, 116, 109, 111, 115, 116], .str [98, 101, 108, 111, 119], .str [98, 101, 108, 111, 119], .str [115, 97, 109, 101]]] (k3 :: t) = some (.ok (.str o.w), k4 :: t) := e4
    refine ⟨o, b, k5, hb, hk5, ?_⟩
    dsimp! only [e4', e5, Cd.d]
  by_cases q : n = 0
  · obtain ⟨j, k3, e3, hj, hk3⟩ := near_ok hk2 t
    obtain ⟨o, b, k5, hb, hk5, ef⟩ := fin (.plus p j) k3 (by show (p.ok && isCon j) = true; rw [hpo, con_small (by omega)]; rfl) hk3
    refine ⟨o, .plus p j, b, k5, ?_, by show (p.ok && isCon j) = true; rw [hpo, con_small (by omega)]; rfl, hb, hk5⟩
    have ef' := ef
    simp only [Vl.d, sPlus] at ef'
    show endI _ (m__law_some_compared [some (.ref 0), some (.lst ds), none] (k :: t)) = _
    dsimp! only [m__law_some_compared, pool_ne hp hn, e1', e2', q, e3]
    dsimp! only [] at ef'
    rw [ef']
    exact endI_ok rfl (Cd.cmp o (.plus p j) b).noRef
  · obtain ⟨o, b, k5, hb, hk5, ef⟩ := fin (.pl p) k2 hpo hk2
    refine ⟨o, .pl p, b, k5, ?_, hpo, hb, hk5⟩
    have ef' := ef
    simp only [Vl.d] at ef'
    show endI _ (m__law_some_compared [some (.ref 0), some (.lst ds), none] (k :: t)) = _
    dsimp! only [m__law_some_compared, pool_ne hp hn, e1', e2', q]
    dsimp! only [] at ef'
    rw [ef']
    exact endI_ok rfl (Cd.cmp o (.pl p) b).noRef
theorem some_cond_ok {ds : List D} (hp : PoolOk ds) (hn : ds ≠ []) (t : EH) : ∀ (f : Nat) (dp : Nat) (k : Cell), BagI k → dp < f → ∃ (c : Cd) (k' : Cell), F__law_some_condition_ f [.ref 0, .lst ds, .int dp] (k :: t) = some (.ok c.d, k' :: t) ∧ c.ok = true ∧ c.dep ≤ dp + 1 ∧ BagI k'
  | 0, dp, k, hk, hf => absurd hf (Nat.not_lt_zero _)
  | f + 1, dp, k, hk, hf => by
    have way : ∃ (n : Int) (k1 : Cell), mIf (mTst (mBin dGt (mVar 2) (mC (.int 0)))) (mCallI F__law_pull (mCons (mVar 0) (mCons (mC (.int 7)) mNil))) (mCallI F__law_pull (mCons (mVar 0) (mCons (mC (.int 3)) mNil))) [some (.ref 0), some (.lst ds), some (.int dp), none, none] (k :: t) = some (.ok (.int n), k1 :: t) ∧ 0 ≤ n ∧ n < 7 ∧ (4 ≤ n → 0 < dp) ∧ BagI k1 := by
      by_cases q : 0 < dp
      · obtain ⟨n, k1, e, n0, n1, hk1⟩ := pull_ok hk (n := 7) (by decide) (by decide) t
        have e' : F__law_pull [.ref 0, .int 7] (k :: t) = some (.ok (.int n), k1 :: t) := e
        have q' : (0 : Int) < (dp : Int) := by omega
        exact ⟨n, k1, by dsimp! only [q', e'], n0, n1, fun _ => q, hk1⟩
      · obtain ⟨n, k1, e, n0, n1, hk1⟩ := pull_ok hk (n := 3) (by decide) (by decide) t
        have e' : F__law_pull [.ref 0, .int 3] (k :: t) = some (.ok (.int n), k1 :: t) := e
        have q' : ¬ (0 : Int) < (dp : Int) := by omega
        exact ⟨n, k1, by dsimp! only [q', e'], n0, by omega, fun h => by omega, hk1⟩
    obtain ⟨n, k1, e1, n0, n1, n4, hk1⟩ := way
    dsimp! only [] at e1
    by_cases q1 : n < 1
    · refine ⟨.tru, k1, ?_, rfl, by show 1 ≤ dp + 1; omega, hk1⟩
      show endI _ (m__law_some_condition (F__law_some_condition_ f) [some (.ref 0), some (.lst ds), some (.int dp), none, none] (k :: t)) = _
      dsimp! only [m__law_some_condition, e1, q1]
      exact endI_ok rfl rfl
    · by_cases q2 : n < 4
      · obtain ⟨o, a, b, k2, e2, ha, hb, hk2⟩ := some_compared_ok hk1 hp hn t
        refine ⟨.cmp o a b, k2, ?_, by show (a.ok && b.ok) = true; rw [ha, hb]; rfl, by show 1 ≤ dp + 1; omega, hk2⟩
        show endI _ (m__law_some_condition (F__law_some_condition_ f) [some (.ref 0), some (.lst ds), some (.int dp), none, none] (k :: t)) = _
        dsimp! only [m__law_some_condition, e1, q1, q2, e2]
        exact endI_ok rfl (Cd.cmp o a b).noRef
      · obtain ⟨e, rfl⟩ : ∃ e, dp = e + 1 := ⟨dp - 1, by have := n4 (by omega); omega⟩
        obtain ⟨c, k2, e2, hc, hcd, hk2⟩ := some_cond_ok hp hn t f e k1 hk1 (by omega)
        have em : ((e + 1 : Nat) : Int) - 1 = (e : Int) := by omega
        by_cases q3 : n = 4
        · refine ⟨.nt c, k2, ?_, hc, by show c.dep + 1 ≤ e + 1 + 1; omega, hk2⟩
          show endI _ (m__law_some_condition (F__law_some_condition_ f) [some (.ref 0), some (.lst ds), some (.int ((e + 1 : Nat) : Int)), none, none] (k :: t)) = _
          dsimp! only [m__law_some_condition, e1, q1, q2, q3, em, e2]
          exact endI_ok rfl (Cd.nt c).noRef
        · obtain ⟨d, k3, e3, hd, hdd, hk3⟩ := some_cond_ok hp hn t f e k2 hk2 (by omega)
          refine ⟨.bin (decide (n = 5)) c d, k3, ?_, by show (c.ok && d.ok) = true; rw [hc, hd]; rfl, by show max c.dep d.dep + 1 ≤ e + 1 + 1; omega, hk3⟩
          show endI _ (m__law_some_condition (F__law_some_condition_ f) [some (.ref 0), some (.lst ds), some (.int ((e + 1 : Nat) : Int)), none, none] (k :: t)) = _
          by_cases q5 : n = 5
          · dsimp! only [m__law_some_condition, e1, q1, q2, q3, q5, em, e2, e3]
            exact endI_ok rfl (Cd.bin true c d).noRef
          · dsimp! only [m__law_some_condition, e1, q1, q2, q3, q5, em, e2, e3]
            exact endI_ok rfl (Cd.bin false c d).noRef
end PV
namespace PQ
open PySem PySem.Spec PyProof.Rows L2 PD PV
def g_FAILS : D := (.tup [(.str [102, 97, 105, 108]), (.str [105, 110, 115, 101, 114, 116]), (.str [109, 111, 118, 101]), (.str [100, 101, 108, 101, 116, 101]), (.str [115, 101, 116]), (.str [115, 116, 101, 112])])
def g_CHANGES : D := (.tup [(.str [105, 110, 115, 101, 114, 116]), (.str [100, 101, 108, 101, 116, 101]), (.str [115, 101, 116]), (.str [99, 108, 101, 97, 114]), (.str [99, 104, 97, 110, 103, 101]), (.str [109, 111, 118, 101])])
def g_MOST_VALUES : D := (.int 4)
def g_MOST_NESTED : D := (.int 3)
def g_MOST_ALL : D := (.int 24)
def g_MOST_OWN : D := (.int 12)
def g_MOST_ARGUMENTS : D := (.int 3)
def kv_WAYS : List (List Nat × D) := [([102, 105, 110, 100], (.tup [(.str [102, 105, 114, 115, 116]), (.str [108, 97, 115, 116])])), ([115, 116, 101, 112], (.tup [(.str [110, 101, 120, 116]), (.str [112, 114, 105, 111, 114])]))]
def kv_SIZES : List (List Nat × D) := [([102, 105, 110, 100], (.int 5)), ([115, 116, 101, 112], (.int 4)), ([105, 110, 115, 101, 114, 116], (.int 3)), ([100, 101, 108, 101, 116, 101], (.int 2)), ([115, 101, 116], (.int 4)), ([99, 108, 101, 97, 114], (.int 3)), ([99, 104, 97, 110, 103, 101], (.int 5)), ([109, 111, 118, 101], (.int 3)), ([105, 102], (.int 4)), ([102, 97, 105, 108], (.int 2)), ([114, 101, 116, 117, 114, 110], (.int 2))]
def kv_LOOKS : List (List Nat × D) := [([102, 105, 110, 100], (.int 1)), ([115, 116, 101, 112], (.int 1)), ([105, 110, 115, 101, 114, 116], (.int 1)), ([109, 111, 118, 101], (.int 2))]
def N__law_some_columns : List Str := ["_law_bag"]
def m__law_some_columns : MS :=
    (msRet (mBin dAdd (mTup (mCons (mC (.str [107, 101, 121])) mNil)) (mCall dTuple (mCons (mCallI F__law_new_names (mCons (mVar 0) (mCons (mCallI F__law_any (mCons (mVar 0) (mCons (mLst (mCons (mC (.int 0)) (mCons (mC (.int 1)) (mCons (mC (.int 1)) (mCons (mC (.int 2)) (mCons (mC (.int 3)) mNil)))))) mNil))) mNil))) mNil))))
def F__law_some_columns : IF := runI N__law_some_columns.length m__law_some_columns
def N__law_pool : List Str := ["_law_columns", "_law_arguments", "_law_founds_here", "_law_own", "_law_found", "_law_a", "_law_r", "_law_c"]
def me__law_pool_0 : M D :=
    (mTup (mCons (mC (.str [111, 119, 110])) (mCons (mVar 7) mNil)))
def me__law_pool_1 : M D :=
    (mTup (mCons (mC (.str [102, 105, 101, 108, 100])) (mCons (mVar 6) (mCons (mBin dIx (mVar 0) (mBin dSub (mCall dLen (mCons (mVar 0) mNil)) (mC (.int 1)))) mNil))))
def me__law_pool_2 : M D :=
    (mTup (mCons (mC (.str [110, 97, 109, 101])) (mCons (mVar 5) mNil)))
def me__law_pool_3 : M D :=
    (mTup (mCons (mC (.str [102, 105, 101, 108, 100])) (mCons (mVar 6) (mCons (mBin dIx (mVar 0) (mC (.int 0))) mNil))))
def m__law_pool : MS :=
    (msSeq (msAsg (mBin dAdd (mLc [5] (miT (mVar 1)) (mgName 5) mYes me__law_pool_2) (mLc [6] (miL (mVar 2)) (mgName 6) mYes me__law_pool_3)) (mgName 4))
    (msSeq (msAsg (mBin dAdd (mVar 4) (mLc [6] (miL (mVar 2)) (mgName 6) mYes me__law_pool_1)) (mgName 4))
    (msRet (mBin dAdd (mVar 4) (mIf (mTst (mVar 3)) (mLc [7] (miT (mVar 0)) (mgName 7) mYes me__law_pool_0) (mLst mNil))))))
def F__law_pool : PF := runP N__law_pool.length m__law_pool
def N__law_some_test : List Str := ["_law_bag", "_law_columns", "_law_arguments", "_law_founds_here", "_law_pool_here", "_law_name", "_law_c"]
def m__law_some_test : MS :=
    (msSeq (msAsg (mCallP F__law_pool (mCons (mVar 1) (mCons (mVar 2) (mCons (mVar 3) (mCons (mC (.bl false)) mNil))))) (mgName 4))
    (msSeq (msAsg (mCallI F__law_any (mCons (mVar 0) (mCons (mBin dAdd (mVar 3) (mLst (mCons (mC (.str [114])) mNil))) mNil))) (mgName 5))
    (msSeq (msAsg (mCallI F__law_any (mCons (mVar 0) (mCons (mLst (mCons (mTup (mCons (mC (.str [102, 111, 117, 110, 100])) (mCons (mVar 5) mNil))) (mCons (mCallI F__law_some_condition (mCons (mVar 0) (mCons (mVar 4) (mCons (mC (.int 1)) mNil)))) (mCons (mTup (mCons (mC (.str [110, 111, 116])) (mCons (mTup (mCons (mC (.str [102, 111, 117, 110, 100])) (mCons (mVar 5) mNil))) mNil))) mNil)))) mNil))) (mgName 6))
    (msRet (mIf (mTst (mBin dEq (mCallI F__law_pull (mCons (mVar 0) (mCons (mC (.int 4)) mNil))) (mC (.int 0)))) (mTup (mCons (mC (.str [97, 110, 100])) (mCons (mTup (mCons (mC (.str [102, 111, 117, 110, 100])) (mCons (mVar 5) mNil))) (mCons (mCallI F__law_some_condition (mCons (mVar 0) (mCons (mVar 4) (mCons (mC (.int 1)) mNil)))) mNil)))) (mVar 6))))))
def F__law_some_test : IF := runI N__law_some_test.length m__law_some_test
def N__law_founds : List Str := ["_law_statement", "_law_founds_here", "_law_new"]
def m__law_founds : MS :=
    (msSeq (msAsg (mIf (mTst (mBin dInA (mBin dIx (mVar 0) (mC (.int 0))) (mTup (mCons (mC (.str [102, 105, 110, 100])) (mCons (mC (.str [115, 116, 101, 112])) (mCons (mC (.str [105, 110, 115, 101, 114, 116])) mNil)))))) (mLst (mCons (mBin dIx (mVar 0) (mC (.int 1))) mNil)) (mLst mNil)) (mgName 2))
    (msRet (mSortT (mBin dAdd (mVar 1) (mVar 2)))))
def F__law_founds : PF := runP N__law_founds.length m__law_founds
def N__law_some_range : List Str := ["_law_bag", "_law_pool_here", "_law_k"]
def me__law_some_range_0 : M D :=
    (mCallI F__law_any (mCons (mVar 0) (mCons (mLst (mCons (mC .non) (mCons (mCallI F__law_some_value (mCons (mVar 0) (mCons (mVar 1) mNil))) mNil))) mNil)))
def m__law_some_range : MS :=
    (msRet (mCall dTuple (mCons (mLc [2] (miR1 (mCons (mC (.int 2)) mNil)) (mgName 2) mYes me__law_some_range_0) mNil)))
def F__law_some_range : IF := runI N__law_some_range.length m__law_some_range
def N__law_some_rows : List Str := ["_law_bag", "_law_s", "_law_columns", "_law_arguments", "_law_founds_here", "_law_pool_here", "_law_own", "_law_bounds", "_law_c"]
def m__law_some_rows : MS :=
    (msSeq (msAsg (mCallP F__law_pool (mCons (mVar 2) (mCons (mVar 3) (mCons (mVar 4) (mCons (mC (.bl false)) mNil))))) (mgName 5))
    (msSeq (msAsg (mCallP F__law_pool (mCons (mVar 2) (mCons (mVar 3) (mCons (mVar 4) (mCons (mC (.bl true)) mNil))))) (mgName 6))
    (msSeq (msPar 7 8 (mCons (mCallI F__law_some_range (mCons (mVar 0) (mCons (mVar 5) mNil))) (mCons (mCallI F__law_some_condition (mCons (mVar 0) (mCons (mVar 6) (mCons (mC (.int 1)) mNil)))) mNil)))
    (msSeq (msIf (mTst (mBin dEq (mVar 1) (mC (.str [102, 105, 110, 100])))) (msRet (mTup (mCons (mC (.str [102, 105, 110, 100])) (mCons (mCallI F__law_any (mCons (mVar 0) (mCons (mLst (mCons (mC (.str [114])) (mCons (mC (.str [115])) (mCons (mC (.str [116])) mNil)))) mNil))) (mCons (mCallI F__law_any (mCons (mVar 0) (mCons (mLst (mCons (mC (.str [102, 105, 114, 115, 116])) (mCons (mC (.str [108, 97, 115, 116])) mNil))) mNil))) (mCons (mVar 7) (mCons (mVar 8) mNil))))))) msNil)
    (msSeq (msIf (mAnd (mTst (mBin dEq (mVar 1) (mC (.str [99, 104, 97, 110, 103, 101])))) (mTst (mBin dGt (mCall dLen (mCons (mVar 2) mNil)) (mC (.int 1))))) (msRet (mTup (mCons (mC (.str [99, 104, 97, 110, 103, 101])) (mCons (mVar 7) (mCons (mVar 8) (mCons (mCallI F__law_any (mCons (mVar 0) (mCons (mCall dList (mCons (mSl (mVar 2) (mSmP (mC (.int 1))) mNoP) mNil)) mNil))) (mCons (mCallI F__law_some_value (mCons (mVar 0) (mCons (mVar 6) mNil))) mNil))))))) msNil)
    (msRet (mTup (mCons (mC (.str [99, 108, 101, 97, 114])) (mCons (mVar 7) (mCons (mVar 8) mNil))))))))))
def F__law_some_rows : IF := runI N__law_some_rows.length m__law_some_rows
def N__law_some_statement : List Str := ["_law_bag", "_law_word", "_law_columns", "_law_arguments", "_law_founds_here", "_law_pool_here", "_law_names", "_law_k", "_law_c"]
def me__law_some_statement_0 : M D :=
    (mCallI F__law_some_value (mCons (mVar 0) (mCons (mVar 5) mNil)))
def me__law_some_statement_1 : M D :=
    (mCallI F__law_some_value (mCons (mVar 0) (mCons (mVar 5) mNil)))
def m__law_some_statement : MS :=
    (msSeq (msAsg (mCallP F__law_pool (mCons (mVar 2) (mCons (mVar 3) (mCons (mVar 4) (mCons (mC (.bl false)) mNil))))) (mgName 5))
    (msSeq (msAsg (mBin dAdd (mVar 4) (mLst (mCons (mCallI F__law_any (mCons (mVar 0) (mCons (mLst (mCons (mC (.str [114])) (mCons (mC (.str [115])) (mCons (mC (.str [116])) mNil)))) mNil))) mNil))) (mgName 6))
    (msSeq (msIf (mTst (mBin dInA (mVar 1) (mTup (mCons (mC (.str [102, 105, 110, 100])) (mCons (mC (.str [99, 108, 101, 97, 114])) (mCons (mC (.str [99, 104, 97, 110, 103, 101])) mNil)))))) (msRet (mCallI F__law_some_rows (mCons (mVar 0) (mCons (mVar 1) (mCons (mVar 2) (mCons (mVar 3) (mCons (mVar 4) mNil))))))) msNil)
    (msSeq (msIf (mTst (mBin dEq (mVar 1) (mC (.str [115, 116, 101, 112])))) (msRet (mTup (mCons (mC (.str [115, 116, 101, 112])) (mCons (mCallI F__law_any (mCons (mVar 0) (mCons (mLst (mCons (mC (.str [114])) (mCons (mC (.str [115])) (mCons (mC (.str [116])) mNil)))) mNil))) (mCons (mCallI F__law_any (mCons (mVar 0) (mCons (mLst (mCons (mC (.str [110, 101, 120, 116])) (mCons (mC (.str [112, 114, 105, 111, 114])) mNil))) mNil))) (mCons (mCallI F__law_any (mCons (mVar 0) (mCons (mVar 6) mNil))) mNil)))))) msNil)
    (msSeq (msIf (mTst (mBin dEq (mVar 1) (mC (.str [105, 110, 115, 101, 114, 116])))) (msRet (mTup (mCons (mC (.str [105, 110, 115, 101, 114, 116])) (mCons (mCallI F__law_any (mCons (mVar 0) (mCons (mLst (mCons (mC (.str [114])) (mCons (mC (.str [115])) (mCons (mC (.str [116])) mNil)))) mNil))) (mCons (mCall dTuple (mCons (mLc [8] (miT (mVar 2)) (mgName 8) mYes me__law_some_statement_1) mNil)) mNil))))) msNil)
    (msSeq (msIf (mOr (mTst (mBin dEq (mVar 1) (mC (.str [100, 101, 108, 101, 116, 101])))) (mAnd (mTst (mBin dEq (mVar 1) (mC (.str [115, 101, 116])))) (mTst (mBin dEq (mCall dLen (mCons (mVar 2) mNil)) (mC (.int 1)))))) (msRet (mTup (mCons (mC (.str [100, 101, 108, 101, 116, 101])) (mCons (mCallI F__law_any (mCons (mVar 0) (mCons (mVar 6) mNil))) mNil)))) msNil)
    (msSeq (msIf (mTst (mBin dEq (mVar 1) (mC (.str [115, 101, 116])))) (msRet (mTup (mCons (mC (.str [115, 101, 116])) (mCons (mCallI F__law_any (mCons (mVar 0) (mCons (mVar 6) mNil))) (mCons (mCallI F__law_any (mCons (mVar 0) (mCons (mCall dList (mCons (mSl (mVar 2) (mSmP (mC (.int 1))) mNoP) mNil)) mNil))) (mCons (mCallI F__law_some_value (mCons (mVar 0) (mCons (mVar 5) mNil))) mNil)))))) msNil)
    (msSeq (msIf (mTst (mBin dEq (mVar 1) (mC (.str [109, 111, 118, 101])))) (msRet (mTup (mCons (mC (.str [109, 111, 118, 101])) (mCons (mCallI F__law_some_value (mCons (mVar 0) (mCons (mVar 5) mNil))) (mCons (mCallI F__law_any (mCons (mVar 0) (mCons (mLst (mCons (mC (.int 1)) (mCons (mC (.int 2)) (mCons (mBin dSub (mC (.int 0)) (mC (.int 1))) (mCons (mBin dSub (mC (.int 0)) (mC (.int 2))) (mCons (mC (.int 0)) (mCons (mC (.int 5)) mNil))))))) mNil))) mNil))))) msNil)
    (msSeq (msIf (mTst (mBin dEq (mVar 1) (mC (.str [102, 97, 105, 108])))) (msRet (mTup (mCons (mC (.str [102, 97, 105, 108])) (mCons (mCallI F__law_any (mCons (mVar 0) (mCons (mLst (mCons (mC (.str [108, 97, 116, 101])) (mCons (mC (.str [103, 111, 110, 101])) (mCons (mC (.str [110, 111])) mNil)))) mNil))) mNil)))) msNil)
    (msRet (mTup (mCons (mC (.str [114, 101, 116, 117, 114, 110])) (mCons (mCall dTuple (mCons (mLc [7] (miR1 (mCons (mCallI F__law_pull (mCons (mVar 0) (mCons (mC (.int 3)) mNil))) mNil)) (mgName 7) mYes me__law_some_statement_0) mNil)) mNil)))))))))))))
def F__law_some_statement : IF := runI N__law_some_statement.length m__law_some_statement
def N__law_words : List Str := []
def m__law_words : MS :=
    (msRet (mLst (mCons (mC (.str [102, 105, 110, 100])) (mCons (mC (.str [102, 105, 110, 100])) (mCons (mC (.str [102, 105, 110, 100])) (mCons (mC (.str [115, 116, 101, 112])) (mCons (mC (.str [105, 110, 115, 101, 114, 116])) (mCons (mC (.str [100, 101, 108, 101, 116, 101])) (mCons (mC (.str [115, 101, 116])) (mCons (mC (.str [99, 108, 101, 97, 114])) (mCons (mC (.str [99, 104, 97, 110, 103, 101])) (mCons (mC (.str [109, 111, 118, 101])) (mCons (mC (.str [102, 97, 105, 108])) (mCons (mC (.str [114, 101, 116, 117, 114, 110])) mNil))))))))))))))
def F__law_words : PF := runP N__law_words.length m__law_words
def N__law_some_statements : List Str := ["_law_bag", "_law_columns", "_law_arguments", "_law_founds_here", "_law_many", "_law_deep", "_law_k", "_law_rows", "_law_known", "_law_test", "_law_one", "_law_other", "_law_word"]
def mb__law_some_statements_0 (F : IF) : MS :=
    (msIf (mAnd (mTst (mBin dGt (mVar 5) (mC (.int 0)))) (mTst (mBin dEq (mCallI F__law_pull (mCons (mVar 0) (mCons (mC (.int 5)) mNil))) (mC (.int 0))))) (msSeq (msAsg (mCallI F__law_some_test (mCons (mVar 0) (mCons (mVar 1) (mCons (mVar 2) (mCons (mVar 8) mNil))))) (mgName 9))
    (msSeq (msAsg (mCallI F (mCons (mVar 0) (mCons (mVar 1) (mCons (mVar 2) (mCons (mVar 8) (mCons (mC (.int 2)) (mCons (mBin dSub (mVar 5) (mC (.int 1))) mNil))))))) (mgName 10))
    (msSeq (msAsg (mCallI F (mCons (mVar 0) (mCons (mVar 1) (mCons (mVar 2) (mCons (mVar 8) (mCons (mC (.int 2)) (mCons (mBin dSub (mVar 5) (mC (.int 1))) mNil))))))) (mgName 11))
    (msExpr (mAppend (mVar 7) (mTup (mCons (mC (.str [105, 102])) (mCons (mVar 9) (mCons (mCall dTuple (mCons (mVar 10) mNil)) (mCons (mCall dTuple (mCons (mVar 11) mNil)) mNil)))))))))) (msSeq (msAsg (mCallI F__law_any (mCons (mVar 0) (mCons (mIf (mTst (mBin dGt (mCallI F__law_pull (mCons (mVar 0) (mCons (mC (.int 4)) mNil))) (mC (.int 0)))) (mSl (mCallP F__law_words mNil) mNoP (mSmP (mC (.int 10)))) (mCallP F__law_words mNil)) mNil))) (mgName 12))
    (msSeq (msExpr (mAppend (mVar 7) (mCallI F__law_some_statement (mCons (mVar 0) (mCons (mVar 12) (mCons (mVar 1) (mCons (mVar 2) (mCons (mVar 8) mNil))))))))
    (msAsg (mCallP F__law_founds (mCons (mBin dIx (mVar 7) (mBin dSub (mCall dLen (mCons (mVar 7) mNil)) (mC (.int 1)))) (mCons (mVar 8) mNil))) (mgName 8)))))
def m__law_some_statements (F : IF) : MS :=
    (msSeq (msPar 7 8 (mCons (mLstC mNil) (mCons (mVar 3) mNil)))
    (msSeq (msFor (miR1 (mCons (mCallI F__law_pull (mCons (mVar 0) (mCons (mBin dAdd (mVar 4) (mC (.int 1))) mNil))) mNil)) (mgName 6) (mb__law_some_statements_0 F))
    (msRet (mVar 7))))
def F__law_some_statements_ : Nat → IF
  | 0 => fun _ _ => none
  | t + 1 => runI N__law_some_statements.length (m__law_some_statements (F__law_some_statements_ t))
def F__law_some_statements : IF := F__law_some_statements_ 12
def N__law_some_plan : List Str := ["_law_bag", "_law_columns", "_law_many", "_law_arguments"]
def m__law_some_plan : MS :=
    (msSeq (msAsg (mCall dTuple (mCons (mCallI F__law_new_names (mCons (mVar 0) (mCons (mCallI F__law_pull (mCons (mVar 0) (mCons (mC (.int 4)) mNil))) mNil))) mNil)) (mgName 3))
    (msRet (mTup (mCons (mVar 3) (mCons (mCallI F__law_some_statements (mCons (mVar 0) (mCons (mVar 1) (mCons (mVar 3) (mCons (mLst mNil) (mCons (mVar 2) (mCons (mIf (mTst (mBin dEq (mVar 2) (mC (.int 1)))) (mC (.int 2)) (mC (.int 1))) mNil))))))) mNil)))))
def F__law_some_plan : IF := runI N__law_some_plan.length m__law_some_plan
def N_all_parts : List Str := ["condition", "path", "found", "at", "inner"]
def mb_all_parts_0 (F : PF) : MS :=
    (msAsg (mBin dAdd (mVar 2) (mCallP F (mCons (mVar 4) (mCons (mTup (mStar (mVar 1) (mCons (mVar 3) mNil))) mNil)))) (mgName 2))
def m_all_parts (F : PF) : MS :=
    (msSeq (msAsg (mLst (mCons (mTup (mCons (mVar 1) (mCons (mVar 0) mNil))) mNil)) (mgName 2))
    (msSeq (msFor (miL (mCallP F_inner_parts (mCons (mVar 0) mNil))) (mgTup 2 (mgCons (mgName 3) (mgCons (mgName 4) mgNil))) (mb_all_parts_0 F))
    (msRet (mVar 2))))
def F_all_parts_ : Nat → PF
  | 0 => fun _ => none
  | t + 1 => runP N_all_parts.length (m_all_parts (F_all_parts_ t))
def F_all_parts : PF := F_all_parts_ 12
def N_values_in : List Str := ["condition", "value", "path", "part"]
def mt_values_in_0 : M Bool :=
    (mTst (mC1 (dCIn false kv_SIGNS) (mBin dIx (mVar 3) (mC (.int 0)))))
def m_values_in : MS :=
    (msSeq (msExpr (mCallP F_check_condition (mCons (mVar 0) mNil)))
    (msRet (mLc2 [2, 3, 1] (miL (mCallP F_all_parts (mCons (mVar 0) (mCons (mTup mNil) mNil)))) (mgTup 2 (mgCons (mgName 2) (mgCons (mgName 3) mgNil))) mt_values_in_0 (miT (mSl (mVar 3) (mSmP (mC (.int 1))) mNoP)) (mgName 1) mYes (mVar 1) [1])))
def F_values_in : PF := runP N_values_in.length m_values_in
def N_condition_values : List Str := ["condition"]
def m_condition_values : MS :=
    (msRet (mCallP F_values_in (mCons (mVar 0) mNil)))
def F_condition_values : PF := runP N_condition_values.length m_condition_values
def N_plain_values : List Str := ["statement", "word", "spot", "bounds", "bound"]
def m_plain_values : MS :=
    (msSeq (msAsg (mBin dIx (mVar 0) (mC (.int 0))) (mgName 1))
    (msSeq (msIf (mTst (mBin dInA (mVar 1) (mTup (mCons (mC (.str [105, 110, 115, 101, 114, 116])) (mCons (mC (.str [114, 101, 116, 117, 114, 110])) mNil))))) (msRet (mCall dList (mCons (mBin dIx (mVar 0) (mNeg (mC (.int 1)))) mNil))) msNil)
    (msSeq (msIf (mTst (mBin dEq (mVar 1) (mC (.str [105, 102])))) (msRet (mCallP F_condition_values (mCons (mBin dIx (mVar 0) (mC (.int 1))) mNil))) msNil)
    (msSeq (msIf (mTst (mBin dEq (mVar 1) (mC (.str [115, 101, 116])))) (msRet (mLst (mCons (mBin dIx (mVar 0) (mC (.int 3))) mNil))) msNil)
    (msSeq (msIf (mTst (mBin dEq (mVar 1) (mC (.str [109, 111, 118, 101])))) (msRet (mLst (mCons (mBin dIx (mVar 0) (mC (.int 1))) mNil))) msNil)
    (msSeq (msIf (mTst (mBin dNinA (mVar 1) (mTup (mCons (mC (.str [102, 105, 110, 100])) (mCons (mC (.str [99, 108, 101, 97, 114])) (mCons (mC (.str [99, 104, 97, 110, 103, 101])) mNil)))))) (msRet (mLst mNil)) msNil)
    (msSeq (msAsg (mIf (mTst (mBin dEq (mVar 1) (mC (.str [102, 105, 110, 100])))) (mC (.int 3)) (mC (.int 1))) (mgName 2))
    (msSeq (msAsg (mLc [4] (miT (mBin dIx (mVar 0) (mVar 2))) (mgName 4) (mTst (mBin (dIsN true) (mVar 4) (mC .non))) (mVar 4)) (mgName 3))
    (msRet (mBin dAdd (mBin dAdd (mVar 3) (mCallP F_condition_values (mCons (mBin dIx (mVar 0) (mBin dAdd (mVar 2) (mC (.int 1)))) mNil))) (mIf (mTst (mBin dEq (mVar 1) (mC (.str [99, 104, 97, 110, 103, 101])))) (mLst (mCons (mBin dIx (mVar 0) (mC (.int 4))) mNil)) (mLst mNil))))))))))))
def F_plain_values : PF := runP N_plain_values.length m_plain_values
def N_value_inside : List Str := ["value"]
def m_value_inside : MS :=
    (msRet (mIf (mTst (mBin dEq (mBin dIx (mVar 0) (mC (.int 0))) (mC (.str [112, 108, 117, 115])))) (mTup (mCons (mBin dIx (mVar 0) (mC (.int 1))) (mCons (mBin dIx (mVar 0) (mC (.int 2))) mNil))) (mTup (mCons (mVar 0) (mCons (mC (.int 0)) mNil)))))
def F_value_inside : PF := runP N_value_inside.length m_value_inside
def N_may_fail : List Str := ["statement", "value", "rows", "one"]
def me_may_fail_0 (F : PF) : M D :=
    (mBin dEq (mBin dIx (mBin dIx (mCallP F_value_inside (mCons (mVar 1) mNil)) (mC (.int 0))) (mC (.int 0))) (mC (.str [102, 105, 101, 108, 100])))
def m_may_fail (F : PF) : MS :=
    (msSeq (msIf (mTst (mBin dInA (mBin dIx (mVar 0) (mC (.int 0))) (mC g_FAILS))) (msRet (mC (.bl true))) msNil)
    (msSeq (msIf (mTst (mCall dAny (mCons (mLc [1] (miL (mCallP F_plain_values (mCons (mVar 0) mNil))) (mgName 1) mYes (me_may_fail_0 F)) mNil))) (msRet (mC (.bl true))) msNil)
    (msRet (mAndV (mBin dEq (mBin dIx (mVar 0) (mC (.int 0))) (mC (.str [105, 102]))) (mCall dAny (mCons (mLc2 [2, 3] (miT (mSl (mVar 0) (mSmP (mC (.int 2))) mNoP)) (mgName 2) mYes (miT (mVar 2)) (mgName 3) mYes (mCallP F (mCons (mVar 3) mNil)) [3]) mNil))))))
def F_may_fail_ : Nat → PF
  | 0 => fun _ => none
  | t + 1 => runP N_may_fail.length (m_may_fail (F_may_fail_ t))
def F_may_fail : PF := F_may_fail_ 12
def N_changes : List Str := ["statement", "rows", "one"]
def m_changes (F : PF) : MS :=
    (msSeq (msIf (mTst (mBin dEq (mBin dIx (mVar 0) (mC (.int 0))) (mC (.str [105, 102])))) (msRet (mCall dAny (mCons (mLc2 [1, 2] (miT (mSl (mVar 0) (mSmP (mC (.int 2))) mNoP)) (mgName 1) mYes (miT (mVar 1)) (mgName 2) mYes (mCallP F (mCons (mVar 2) mNil)) [2]) mNil))) msNil)
    (msRet (mBin dInA (mBin dIx (mVar 0) (mC (.int 0))) (mC g_CHANGES))))
def F_changes_ : Nat → PF
  | 0 => fun _ => none
  | t + 1 => runP N_changes.length (m_changes (F_changes_ t))
def F_changes : PF := F_changes_ 12
def N_fails_late : List Str := ["statement", "changed", "rows", "late", "one", "value"]
def mb_fails_late_0 (F : PF) : MS :=
    (msSeq (msIf (mTst (mCallP F (mCons (mVar 4) (mCons (mVar 3) mNil)))) (msRet (mC (.bl true))) msNil)
    (msAsg (mOrV (mVar 3) (mCallP F_changes (mCons (mVar 4) mNil))) (mgName 3)))
def mb_fails_late_1 (F : PF) : MS :=
    (msSeq (msAsg (mVar 1) (mgName 3))
    (msFor (miT (mVar 2)) (mgName 4) (mb_fails_late_0 F)))
def me_fails_late_2 (F : PF) : M D :=
    (mBin dEq (mBin dIx (mBin dIx (mCallP F_value_inside (mCons (mVar 5) mNil)) (mC (.int 0))) (mC (.int 0))) (mC (.str [102, 105, 101, 108, 100])))
def m_fails_late (F : PF) : MS :=
    (msSeq (msIf (mTst (mBin dNe (mBin dIx (mVar 0) (mC (.int 0))) (mC (.str [105, 102])))) (msRet (mAndV (mVar 1) (mCallP F_may_fail (mCons (mVar 0) mNil)))) msNil)
    (msSeq (msIf (mAnd (mTst (mVar 1)) (mTst (mCall dAny (mCons (mLc [5] (miL (mCallP F_plain_values (mCons (mVar 0) mNil))) (mgName 5) mYes (me_fails_late_2 F)) mNil)))) (msRet (mC (.bl true))) msNil)
    (msSeq (msFor (miT (mSl (mVar 0) (mSmP (mC (.int 2))) mNoP)) (mgName 2) (mb_fails_late_1 F))
    (msRet (mC (.bl false))))))
def F_fails_late_ : Nat → PF
  | 0 => fun _ => none
  | t + 1 => runP N_fails_late.length (m_fails_late (F_fails_late_ t))
def F_fails_late : PF := F_fails_late_ 12
def N_Procedure_late : List Str := ["self", "changed", "at", "statement"]
def mb_Procedure_late_0 : MS :=
    (msSeq (msIf (mTst (mCallP F_fails_late (mCons (mVar 3) (mCons (mVar 1) mNil)))) (msRet (mVar 2)) msNil)
    (msAsg (mOrV (mVar 1) (mCallP F_changes (mCons (mVar 3) mNil))) (mgName 1)))
def m_Procedure_late : MS :=
    (msSeq (msAsg (mC (.bl false)) (mgName 1))
    (msSeq (msFor (miEn (mCons (mFld ["Procedure"] "own_statements" (mVar 0)) mNil)) (mgTup 2 (mgCons (mgName 2) (mgCons (mgName 3) mgNil))) mb_Procedure_late_0)
    (msRet (mC .non))))
def F_Procedure_late : PF := runP N_Procedure_late.length m_Procedure_late
def N_is_listed : List Str := ["value"]
def m_is_listed : MS :=
    (msRet (mIsi [.lst, .tup] (mVar 0)))
def F_is_listed : PF := runP N_is_listed.length m_is_listed
def N_fits : List Str := ["value", "columns", "arguments", "own", "plain"]
def m_fits : MS :=
    (msSeq (msIf (mNot (mTst (mCallP F_is_value (mCons (mVar 0) mNil)))) (msRet (mC (.bl false))) msNil)
    (msSeq (msAsg (mBin dIx (mCallP F_value_inside (mCons (mVar 0) mNil)) (mC (.int 0))) (mgName 4))
    (msSeq (msIf (mTst (mBin dEq (mBin dIx (mVar 4) (mC (.int 0))) (mC (.str [110, 97, 109, 101])))) (msRet (mBin dInA (mBin dIx (mVar 4) (mC (.int 1))) (mVar 2))) msNil)
    (msSeq (msIf (mTst (mBin dEq (mBin dIx (mVar 4) (mC (.int 0))) (mC (.str [102, 105, 101, 108, 100])))) (msRet (mBin dInA (mBin dIx (mVar 4) (mC (.int 2))) (mVar 1))) msNil)
    (msRet (mOrV (mBin dEq (mBin dIx (mVar 4) (mC (.int 0))) (mC (.str [110, 117, 109, 98, 101, 114]))) (mAndV (mBin dEq (mBin dIx (mVar 4) (mC (.int 0))) (mC (.str [111, 119, 110]))) (mAndV (mVar 3) (mBin dInA (mBin dIx (mVar 4) (mC (.int 1))) (mVar 1))))))))))
def F_fits : PF := runP N_fits.length m_fits
def N_all_fit : List Str := ["values", "columns", "arguments", "value"]
def me_all_fit_0 : M D :=
    (mCallP (fun ds => F_fits (ds ++ [(.bl false)])) (mCons (mVar 3) (mCons (mVar 1) (mCons (mVar 2) mNil))))
def m_all_fit : MS :=
    (msRet (mCall dAll (mCons (mLc [3] (miA (mVar 0)) (mgName 3) mYes me_all_fit_0) mNil)))
def F_all_fit : PF := runP N_all_fit.length m_all_fit
def N_is_range : List Str := ["value", "columns", "arguments", "bound"]
def me_is_range_0 : M D :=
    (mOrV (mBin (dIsN false) (mVar 3) (mC .non)) (mCallP (fun ds => F_fits (ds ++ [(.bl false)])) (mCons (mVar 3) (mCons (mVar 1) (mCons (mVar 2) mNil)))))
def m_is_range : MS :=
    (msSeq (msIf (mOr (mNot (mTst (mIsi [.tup] (mVar 0)))) (mTst (mBin dNe (mCall dLen (mCons (mVar 0) mNil)) (mC (.int 2))))) (msRet (mC (.bl false))) msNil)
    (msRet (mCall dAll (mCons (mLc [3] (miT (mVar 0)) (mgName 3) mYes me_is_range_0) mNil))))
def F_is_range : PF := runP N_is_range.length m_is_range
def N_fits_condition : List Str := ["condition", "columns", "arguments", "own", "value"]
def me_fits_condition_0 : M D :=
    (mCallP F_fits (mApp2 (mCons (mVar 4) (mCons (mVar 1) (mCons (mVar 2) mNil))) (mCons (mVar 3) mNil)))
def m_fits_condition : MS :=
    (msSeq (msIf (mNot (mTst (mCallP F_is_condition (mCons (mVar 0) mNil)))) (msRet (mC (.bl false))) msNil)
    (msRet (mCall dAll (mCons (mLc [4] (miL (mCallP F_values_in (mCons (mVar 0) mNil))) (mgName 4) mYes me_fits_condition_0) mNil))))
def F_fits_condition : PF := runP N_fits_condition.length m_fits_condition
def N_has_rows : List Str := ["statement", "columns", "arguments", "spot"]
def m_has_rows : MS :=
    (msSeq (msAsg (mIf (mTst (mBin dEq (mBin dIx (mVar 0) (mC (.int 0))) (mC (.str [102, 105, 110, 100])))) (mC (.int 3)) (mC (.int 1))) (mgName 3))
    (msRet (mAndV (mCallP F_is_range (mCons (mBin dIx (mVar 0) (mVar 3)) (mCons (mVar 1) (mCons (mVar 2) mNil)))) (mCallP F_fits_condition (mApp2 (mCons (mBin dIx (mVar 0) (mBin dAdd (mVar 3) (mC (.int 1)))) (mCons (mVar 1) (mCons (mVar 2) mNil))) (mCons (mC (.bl true)) mNil))))))
def F_has_rows : PF := runP N_has_rows.length m_has_rows
def N_is_right : List Str := ["statement", "columns", "arguments", "word", "values", "many", "inner", "column", "value"]
def m_is_right : MS :=
    (msSeq (msIf (mOr (mNot (mTst (mIsi [.tup] (mVar 0)))) (mOr (mTst (mBin dLt (mCall dLen (mCons (mVar 0) mNil)) (mC (.int 2)))) (mNot (mTst (mIsi [.str] (mBin dIx (mVar 0) (mC (.int 0)))))))) (msRet (mC (.bl false))) msNil)
    (msSeq (msAsg (mBin dIx (mVar 0) (mC (.int 0))) (mgName 3))
    (msSeq (msIf (mTst (mBin dNe (mCGet kv_SIZES (mVar 3) (mC (.int 0))) (mCall dLen (mCons (mVar 0) mNil)))) (msRet (mC (.bl false))) msNil)
    (msSeq (msIf (mAnd (mTst (mBin dInA (mVar 3) (mTup (mCons (mC (.str [102, 105, 110, 100])) (mCons (mC (.str [115, 116, 101, 112])) (mCons (mC (.str [105, 110, 115, 101, 114, 116])) (mCons (mC (.str [100, 101, 108, 101, 116, 101])) (mCons (mC (.str [115, 101, 116])) (mCons (mC (.str [102, 97, 105, 108])) mNil))))))))) (mNot (mTst (mCallP F_is_name (mCons (mBin dIx (mVar 0) (mC (.int 1))) mNil))))) (msRet (mC (.bl false))) msNil)
    (msSeq (msIf (mAnd (mTst (mC1 (dCIn false kv_WAYS) (mVar 3))) (mTst (mBin dNinA (mBin dIx (mVar 0) (mC (.int 2))) (mCall dList (mCons (mC1 (dCIx kv_WAYS) (mVar 3)) mNil))))) (msRet (mC (.bl false))) msNil)
    (msSeq (msIf (mTst (mBin dInA (mVar 3) (mTup (mCons (mC (.str [105, 110, 115, 101, 114, 116])) (mCons (mC (.str [114, 101, 116, 117, 114, 110])) mNil))))) (msSeq (msAsg (mBin dIx (mVar 0) (mNeg (mC (.int 1)))) (mgName 4))
    (msSeq (msAsg (mIf (mTst (mBin dEq (mVar 3) (mC (.str [105, 110, 115, 101, 114, 116])))) (mCall dLen (mCons (mVar 1) mNil)) (mC .non)) (mgName 5))
    (msRet (mAndV (mCallP F_is_listed (mCons (mVar 4) mNil)) (mAndV (mCallP F_all_fit (mCons (mVar 4) (mCons (mVar 1) (mCons (mVar 2) mNil)))) (mIf (mTst (mBin (dIsN true) (mVar 5) (mC .non))) (mBin dEq (mCall dLen (mCons (mVar 4) mNil)) (mVar 5)) (mBin dLe (mCall dLen (mCons (mVar 4) mNil)) (mC g_MOST_VALUES)))))))) msNil)
    (msSeq (msIf (mAnd (mTst (mBin dInA (mVar 3) (mTup (mCons (mC (.str [102, 105, 110, 100])) (mCons (mC (.str [99, 108, 101, 97, 114])) (mCons (mC (.str [99, 104, 97, 110, 103, 101])) mNil)))))) (mNot (mTst (mCallP F_has_rows (mCons (mVar 0) (mCons (mVar 1) (mCons (mVar 2) mNil))))))) (msRet (mC (.bl false))) msNil)
    (msSeq (msIf (mTst (mBin dInA (mVar 3) (mTup (mCons (mC (.str [115, 101, 116])) (mCons (mC (.str [99, 104, 97, 110, 103, 101])) mNil))))) (msSeq (msAsg (mSl (mVar 0) (mSmP (mNeg (mC (.int 2)))) mNoP) (mgTup 2 (mgCons (mgName 7) (mgCons (mgName 8) mgNil))))
    (msRet (mAndV (mBin dInA (mVar 7) (mCall dList (mCons (mSl (mVar 1) (mSmP (mC (.int 1))) mNoP) mNil))) (mCallP F_fits (mApp2 (mCons (mVar 8) (mCons (mVar 1) (mCons (mVar 2) mNil))) (mCons (mBin dEq (mVar 3) (mC (.str [99, 104, 97, 110, 103, 101]))) mNil)))))) msNil)
    (msSeq (msIf (mTst (mBin dEq (mVar 3) (mC (.str [109, 111, 118, 101])))) (msRet (mAndV (mCallP (fun ds => F_fits (ds ++ [(.bl false)])) (mCons (mBin dIx (mVar 0) (mC (.int 1))) (mCons (mVar 1) (mCons (mVar 2) mNil)))) (mCallP F_is_constant (mCons (mBin dIx (mVar 0) (mC (.int 2))) mNil)))) msNil)
    (msSeq (msIf (mTst (mBin dEq (mVar 3) (mC (.str [105, 102])))) (msSeq (msAsg (mAndV (mCallP F_is_listed (mCons (mBin dIx (mVar 0) (mC (.int 2))) mNil)) (mCallP F_is_listed (mCons (mBin dIx (mVar 0) (mC (.int 3))) mNil))) (mgName 6))
    (msRet (mAndV (mVar 6) (mCallP (fun ds => F_fits_condition (ds ++ [(.bl false)])) (mCons (mBin dIx (mVar 0) (mC (.int 1))) (mCons (mVar 1) (mCons (mVar 2) mNil))))))) msNil)
    (msRet (mOrV (mBin dNe (mVar 3) (mC (.str [115, 116, 101, 112]))) (mCallP F_is_name (mCons (mBin dIx (mVar 0) (mC (.int 3))) mNil))))))))))))))
def F_is_right : PF := runP N_is_right.length m_is_right
def N_Checker_look : List Str := ["self", "statements", "path", "depth", "at", "statement", "here"]
def mb_Checker_look_0 (F : IF) : MS :=
    (msSeq (msAsg (mTup (mStar (mVar 2) (mCons (mVar 4) mNil))) (mgName 6))
    (msSeq (msFAug ["Checker"] "count" (mVar 0) (mC (.int 1)))
    (msSeq (msIf (mOr (mAnd (mTst (mBin dEq (mVar 3) (mC (.int 1)))) (mTst (mBin dGe (mVar 4) (mC g_MOST_OWN)))) (mOr (mTst (mBin dGt (mFld ["Checker"] "count" (mVar 0)) (mC g_MOST_ALL))) (mTst (mBin dGt (mVar 3) (mC g_MOST_NESTED))))) (msRaise "InvalidStatement" (some "path") [73, 110, 118, 97, 108, 105, 100, 83, 116, 97, 116, 101, 109, 101, 110, 116] (mCons (mVar 6) mNil)) msNil)
    (msSeq (msIf (mNot (mTst (mCallP F_is_right (mCons (mVar 5) (mCons (mFld ["Checker"] "columns_now" (mVar 0)) (mCons (mFld ["Checker"] "arguments_now" (mVar 0)) mNil)))))) (msRaise "InvalidStatement" (some "path") [73, 110, 118, 97, 108, 105, 100, 83, 116, 97, 116, 101, 109, 101, 110, 116] (mCons (mVar 6) mNil)) msNil)
    (msIf (mTst (mBin dEq (mBin dIx (mVar 5) (mC (.int 0))) (mC (.str [105, 102])))) (msSeq (msExpr (mMeI "Checker" "look" F (mVar 0) (mCons (mBin dIx (mVar 5) (mC (.int 2))) (mCons (mTup (mStar (mVar 6) (mCons (mC (.int 2)) mNil))) (mCons (mBin dAdd (mVar 3) (mC (.int 1))) mNil)))))
    (msExpr (mMeI "Checker" "look" F (mVar 0) (mCons (mBin dIx (mVar 5) (mC (.int 3))) (mCons (mTup (mStar (mVar 6) (mCons (mC (.int 3)) mNil))) (mCons (mBin dAdd (mVar 3) (mC (.int 1))) mNil)))))) msNil)))))
def m_Checker_look (F : IF) : MS :=
    (msFor (miEn (mCons (mVar 1) mNil)) (mgTup 2 (mgCons (mgName 4) (mgCons (mgName 5) mgNil))) (mb_Checker_look_0 F))
def F_Checker_look_ : Nat → IF
  | 0 => fun _ _ => none
  | t + 1 => runI N_Checker_look.length (m_Checker_look (F_Checker_look_ t))
def F_Checker_look : IF := F_Checker_look_ 12
def N_all_columns : List Str := ["names", "name"]
def m_all_columns : MS :=
    (msSeq (msIf (mOr (mNot (mTst (mCallP F_is_listed (mCons (mVar 0) mNil)))) (mOr (mTst (mBin dGt (mCall dLen (mCons (mVar 0) mNil)) (mC (.int 3)))) (mNot (mTst (mCall dAll (mCons (mLc [1] (miA (mVar 0)) (mgName 1) mYes (mCallP F_is_name (mCons (mVar 1) mNil))) mNil)))))) (msRaise "InvalidColumns" none [73, 110, 118, 97, 108, 105, 100, 67, 111, 108, 117, 109, 110, 115] mNil) msNil)
    (msSeq (msIf (mTst (mBin dLt (mLenT (mVar 0)) (mCall dLen (mCons (mVar 0) mNil)))) (msRaise "InvalidColumns" none [73, 110, 118, 97, 108, 105, 100, 67, 111, 108, 117, 109, 110, 115] mNil) msNil)
    (msRet (mTup (mCons (mC (.str [107, 101, 121])) (mStar (mVar 0) mNil))))))
def F_all_columns : PF := runP N_all_columns.length m_all_columns
def N_checked_arguments : List Str := ["arguments", "name"]
def m_checked_arguments : MS :=
    (msSeq (msIf (mOr (mNot (mTst (mCallP F_is_listed (mCons (mVar 0) mNil)))) (mOr (mTst (mBin dGt (mCall dLen (mCons (mVar 0) mNil)) (mC g_MOST_ARGUMENTS))) (mNot (mTst (mCall dAll (mCons (mLc [1] (miA (mVar 0)) (mgName 1) mYes (mCallP F_is_name (mCons (mVar 1) mNil))) mNil)))))) (msRaise "InvalidArguments" none [73, 110, 118, 97, 108, 105, 100, 65, 114, 103, 117, 109, 101, 110, 116, 115] mNil) msNil)
    (msSeq (msIf (mTst (mBin dLt (mLenT (mVar 0)) (mCall dLen (mCons (mVar 0) mNil)))) (msRaise "InvalidArguments" none [73, 110, 118, 97, 108, 105, 100, 65, 114, 103, 117, 109, 101, 110, 116, 115] mNil) msNil)
    (msRet (mCall dTuple (mCons (mVar 0) mNil)))))
def F_checked_arguments : PF := runP N_checked_arguments.length m_checked_arguments
def N_looks_of : List Str := ["statements", "total", "statement"]
def mb_looks_of_0 (F : PF) : MS :=
    (msIf (mTst (mBin dEq (mBin dIx (mVar 2) (mC (.int 0))) (mC (.str [105, 102])))) (msAug 1 (mCall dMax2 (mCons (mCallP F (mCons (mBin dIx (mVar 2) (mC (.int 2))) mNil)) (mCons (mCallP F (mCons (mBin dIx (mVar 2) (mC (.int 3))) mNil)) mNil)))) (msAug 1 (mCGet kv_LOOKS (mBin dIx (mVar 2) (mC (.int 0))) (mC (.int 0)))))
def m_looks_of (F : PF) : MS :=
    (msSeq (msAsg (mC (.int 0)) (mgName 1))
    (msSeq (msFor (miA (mVar 0)) (mgName 2) (mb_looks_of_0 F))
    (msRet (mVar 1))))
def F_looks_of_ : Nat → PF
  | 0 => fun _ => none
  | t + 1 => runP N_looks_of.length (m_looks_of (F_looks_of_ t))
def F_looks_of : PF := F_looks_of_ 12
def N_Checker_init : List Str := ["self", "columns", "arguments"]
def m_Checker_init : MS :=
    (msSeq (msFld ["Checker"] "columns_now" (mVar 0) (mVar 1))
    (msSeq (msFld ["Checker"] "arguments_now" (mVar 0) (mVar 2))
    (msFld ["Checker"] "count" (mVar 0) (mC (.int 0)))))
def F_Checker_init : IF := runI N_Checker_init.length m_Checker_init
def N_frozen : List Str := ["statement", "inner", "rows", "one"]
def me_frozen_0 (F : PF) : M D :=
    (mCall dTuple (mCons (mLc [3] (miA (mVar 2)) (mgName 3) mYes (mCallP F (mCons (mVar 3) mNil))) mNil))
def m_frozen (F : PF) : MS :=
    (msSeq (msIf (mTst (mBin dEq (mBin dIx (mVar 0) (mC (.int 0))) (mC (.str [105, 102])))) (msSeq (msAsg (mLc [2] (miT (mSl (mVar 0) (mSmP (mC (.int 2))) mNoP)) (mgName 2) mYes (me_frozen_0 F)) (mgName 1))
    (msRet (mTup (mCons (mC (.str [105, 102])) (mCons (mBin dIx (mVar 0) (mC (.int 1))) (mStar (mVar 1) mNil)))))) msNil)
    (msSeq (msIf (mTst (mBin dInA (mBin dIx (mVar 0) (mC (.int 0))) (mTup (mCons (mC (.str [105, 110, 115, 101, 114, 116])) (mCons (mC (.str [114, 101, 116, 117, 114, 110])) mNil))))) (msRet (mTup (mStar (mSl (mVar 0) mNoP (mSmP (mNeg (mC (.int 1))))) (mCons (mCall dTuple (mCons (mBin dIx (mVar 0) (mNeg (mC (.int 1)))) mNil)) mNil)))) msNil)
    (msRet (mVar 0))))
def F_frozen_ : Nat → PF
  | 0 => fun _ => none
  | t + 1 => runP N_frozen.length (m_frozen (F_frozen_ t))
def F_frozen : PF := F_frozen_ 12
def N_Procedure_init : List Str := ["self", "columns", "arguments", "statements", "statement"]
def m_Procedure_init : MS :=
    (msSeq (msFld ["Procedure"] "all_names" (mVar 0) (mCallP F_all_columns (mCons (mVar 1) mNil)))
    (msSeq (msFld ["Procedure"] "own_arguments" (mVar 0) (mCallP F_checked_arguments (mCons (mVar 2) mNil)))
    (msSeq (msIf (mNot (mTst (mCallP F_is_listed (mCons (mVar 3) mNil)))) (msRaise "InvalidStatement" (some "path") [73, 110, 118, 97, 108, 105, 100, 83, 116, 97, 116, 101, 109, 101, 110, 116] (mCons (mTup mNil) mNil)) msNil)
    (msSeq (msExpr (mMeI "Checker" "look" F_Checker_look (mMk "Checker" [] F_Checker_init (mCons (mFld ["Procedure"] "all_names" (mVar 0)) (mCons (mFld ["Procedure"] "own_arguments" (mVar 0)) mNil))) (mCons (mVar 3) (mCons (mTup mNil) (mCons (mC (.int 1)) mNil)))))
    (msSeq (msFld ["Procedure"] "own_statements" (mVar 0) (mLc [4] (miA (mVar 3)) (mgName 4) mYes (mCallP F_frozen (mCons (mVar 4) mNil))))
    (msFld ["Procedure"] "own_looks" (mVar 0) (mCallP F_looks_of (mCons (mFld ["Procedure"] "own_statements" (mVar 0)) mNil))))))))
def F_Procedure_init : IF := runI N_Procedure_init.length m_Procedure_init
def N__law_ready : List Str := ["_law_columns", "_law_plan"]
def m__law_ready : MS :=
    (msRet (mMkP "Procedure" [] F_Procedure_init (mCons (mSl (mVar 0) (mSmP (mC (.int 1))) mNoP) (mCons (mBin dIx (mVar 1) (mC (.int 0))) (mCons (mBin dIx (mVar 1) (mC (.int 1))) mNil)))))
def F__law_ready : PF := runP N__law_ready.length m__law_ready
def N__law_values : List Str := ["_law_c"]
def m__law_values (F : PF) : MS :=
    (msSeq (msIf (mTst (mBin dInA (mBin dIx (mVar 0) (mC (.int 0))) (mTup (mCons (mC (.str [97, 116, 109, 111, 115, 116])) (mCons (mC (.str [98, 101, 108, 111, 119])) (mCons (mC (.str [115, 97, 109, 101])) mNil)))))) (msRet (mLst (mCons (mBin dIx (mVar 0) (mC (.int 1))) (mCons (mBin dIx (mVar 0) (mC (.int 2))) mNil)))) msNil)
    (msSeq (msIf (mTst (mBin dInA (mBin dIx (mVar 0) (mC (.int 0))) (mTup (mCons (mC (.str [116, 114, 117, 101])) (mCons (mC (.str [102, 111, 117, 110, 100])) mNil))))) (msRet (mLst mNil)) msNil)
    (msRet (mBin dAdd (mCallP F (mCons (mBin dIx (mVar 0) (mC (.int 1))) mNil)) (mIf (mTst (mBin dEq (mCall dLen (mCons (mVar 0) mNil)) (mC (.int 3)))) (mCallP F (mCons (mBin dIx (mVar 0) (mC (.int 2))) mNil)) (mLst mNil))))))
def F__law_values_ : Nat → PF
  | 0 => fun _ => none
  | t + 1 => runP N__law_values.length (m__law_values (F__law_values_ t))
def F__law_values : PF := F__law_values_ 12
def N__law_read_values : List Str := ["_law_s", "_law_found", "_law_at", "_law_bound"]
def m__law_read_values : MS :=
    (msSeq (msIf (mTst (mBin dInA (mBin dIx (mVar 0) (mC (.int 0))) (mTup (mCons (mC (.str [105, 110, 115, 101, 114, 116])) (mCons (mC (.str [114, 101, 116, 117, 114, 110])) mNil))))) (msRet (mCall dList (mCons (mBin dIx (mVar 0) (mBin dSub (mCall dLen (mCons (mVar 0) mNil)) (mC (.int 1)))) mNil))) msNil)
    (msSeq (msIf (mTst (mBin dInA (mBin dIx (mVar 0) (mC (.int 0))) (mTup (mCons (mC (.str [109, 111, 118, 101])) (mCons (mC (.str [105, 102])) mNil))))) (msRet (mIf (mTst (mBin dEq (mBin dIx (mVar 0) (mC (.int 0))) (mC (.str [109, 111, 118, 101])))) (mLst (mCons (mBin dIx (mVar 0) (mC (.int 1))) mNil)) (mCallP F__law_values (mCons (mBin dIx (mVar 0) (mC (.int 1))) mNil)))) msNil)
    (msSeq (msPar 1 2 (mCons (mLst mNil) (mCons (mDGet2 (mDisp [((mC (.str [102, 105, 110, 100])), (mC (.int 3))), ((mC (.str [99, 108, 101, 97, 114])), (mC (.int 1))), ((mC (.str [99, 104, 97, 110, 103, 101])), (mC (.int 1)))]) (mBin dIx (mVar 0) (mC (.int 0))) (mC (.int 0))) mNil)))
    (msSeq (msIf (mTst (mBin dGt (mVar 2) (mC (.int 0)))) (msAsg (mBin dAdd (mLc [3] (miT (mBin dIx (mVar 0) (mVar 2))) (mgName 3) (mTst (mBin (dIsN true) (mVar 3) (mC .non))) (mVar 3)) (mCallP F__law_values (mCons (mBin dIx (mVar 0) (mBin dAdd (mVar 2) (mC (.int 1)))) mNil))) (mgName 1)) msNil)
    (msRet (mBin dAdd (mVar 1) (mIf (mTst (mBin dInA (mBin dIx (mVar 0) (mC (.int 0))) (mTup (mCons (mC (.str [115, 101, 116])) (mCons (mC (.str [99, 104, 97, 110, 103, 101])) mNil))))) (mLst (mCons (mBin dIx (mVar 0) (mBin dSub (mCall dLen (mCons (mVar 0) mNil)) (mC (.int 1)))) mNil)) (mLst mNil))))))))
def F__law_read_values : PF := runP N__law_read_values.length m__law_read_values
def N__law_inside : List Str := ["_law_value"]
def m__law_inside : MS :=
    (msRet (mIf (mTst (mBin dEq (mBin dIx (mVar 0) (mC (.int 0))) (mC (.str [112, 108, 117, 115])))) (mBin dIx (mVar 0) (mC (.int 1))) (mVar 0)))
def F__law_inside : PF := runP N__law_inside.length m__law_inside
def N__law_has_field : List Str := ["_law_s", "_law_value"]
def me__law_has_field_0 : M D :=
    (mBin dEq (mBin dIx (mCallP F__law_inside (mCons (mVar 1) mNil)) (mC (.int 0))) (mC (.str [102, 105, 101, 108, 100])))
def m__law_has_field : MS :=
    (msRet (mCall dAny (mCons (mLc [1] (miL (mCallP F__law_read_values (mCons (mVar 0) mNil))) (mgName 1) mYes me__law_has_field_0) mNil)))
def F__law_has_field : PF := runP N__law_has_field.length m__law_has_field
def N__law_changes : List Str := ["_law_s", "_law_one"]
def m__law_changes (F : PF) : MS :=
    (msSeq (msIf (mTst (mBin dEq (mBin dIx (mVar 0) (mC (.int 0))) (mC (.str [105, 102])))) (msRet (mCall dAny (mCons (mLc [1] (miT (mBin dAdd (mBin dIx (mVar 0) (mC (.int 2))) (mBin dIx (mVar 0) (mC (.int 3))))) (mgName 1) mYes (mCallP F (mCons (mVar 1) mNil))) mNil))) msNil)
    (msRet (mBin dInA (mBin dIx (mVar 0) (mC (.int 0))) (mTup (mCons (mC (.str [105, 110, 115, 101, 114, 116])) (mCons (mC (.str [100, 101, 108, 101, 116, 101])) (mCons (mC (.str [115, 101, 116])) (mCons (mC (.str [99, 108, 101, 97, 114])) (mCons (mC (.str [99, 104, 97, 110, 103, 101])) (mCons (mC (.str [109, 111, 118, 101])) mNil))))))))))
def F__law_changes_ : Nat → PF
  | 0 => fun _ => none
  | t + 1 => runP N__law_changes.length (m__law_changes (F__law_changes_ t))
def F__law_changes : PF := F__law_changes_ 12
def N__law_late : List Str := ["_law_s", "_law_turned", "_law_rows", "_law_now", "_law_one"]
def mb__law_late_0 (F : PF) : MS :=
    (msSeq (msIf (mTst (mCallP F (mCons (mVar 4) (mCons (mVar 3) mNil)))) (msRet (mC (.bl true))) msNil)
    (msAsg (mOrV (mVar 3) (mCallP F__law_changes (mCons (mVar 4) mNil))) (mgName 3)))
def mb__law_late_1 (F : PF) : MS :=
    (msSeq (msAsg (mVar 1) (mgName 3))
    (msFor (miT (mVar 2)) (mgName 4) (mb__law_late_0 F)))
def m__law_late (F : PF) : MS :=
    (msSeq (msIf (mTst (mBin dNe (mBin dIx (mVar 0) (mC (.int 0))) (mC (.str [105, 102])))) (msRet (mAndV (mVar 1) (mOrV (mBin dInA (mBin dIx (mVar 0) (mC (.int 0))) (mTup (mCons (mC (.str [102, 97, 105, 108])) (mCons (mC (.str [105, 110, 115, 101, 114, 116])) (mCons (mC (.str [109, 111, 118, 101])) (mCons (mC (.str [100, 101, 108, 101, 116, 101])) (mCons (mC (.str [115, 101, 116])) (mCons (mC (.str [115, 116, 101, 112])) mNil)))))))) (mCallP F__law_has_field (mCons (mVar 0) mNil))))) msNil)
    (msSeq (msIf (mAnd (mTst (mVar 1)) (mTst (mCallP F__law_has_field (mCons (mVar 0) mNil)))) (msRet (mC (.bl true))) msNil)
    (msSeq (msFor (miT (mSl (mVar 0) (mSmP (mC (.int 2))) mNoP)) (mgName 2) (mb__law_late_1 F))
    (msRet (mC (.bl false))))))
def F__law_late_ : Nat → PF
  | 0 => fun _ => none
  | t + 1 => runP N__law_late.length (m__law_late (F__law_late_ t))
def F__law_late : PF := F__law_late_ 12
def N_Procedure_looks : List Str := ["self"]
def m_Procedure_looks : MS :=
    (msRet (mFld ["Procedure"] "own_looks" (mVar 0)))
def F_Procedure_looks : PF := runP N_Procedure_looks.length m_Procedure_looks
def N_Procedure_fails_early : List Str := ["self"]
def m_Procedure_fails_early : MS :=
    (msRet (mBin (dIsN false) (mMeP "Procedure" "late" F_Procedure_late (mVar 0) mNil) (mC .non)))
def F_Procedure_fails_early : PF := runP N_Procedure_fails_early.length m_Procedure_fails_early
def N__law_looks : List Str := ["_law_statements", "_law_total", "_law_s"]
def mb__law_looks_0 (F : PF) : MS :=
    (msSeq (msIf (mTst (mBin dEq (mBin dIx (mVar 2) (mC (.int 0))) (mC (.str [105, 102])))) (msAsg (mBin dAdd (mVar 1) (mCall dMax2 (mCons (mCallP F (mCons (mBin dIx (mVar 2) (mC (.int 2))) mNil)) (mCons (mCallP F (mCons (mBin dIx (mVar 2) (mC (.int 3))) mNil)) mNil)))) (mgName 1)) msNil)
    (msAsg (mBin dAdd (mVar 1) (mDGet2 (mDisp [((mC (.str [102, 105, 110, 100])), (mC (.int 1))), ((mC (.str [115, 116, 101, 112])), (mC (.int 1))), ((mC (.str [105, 110, 115, 101, 114, 116])), (mC (.int 1))), ((mC (.str [109, 111, 118, 101])), (mC (.int 2)))]) (mBin dIx (mVar 2) (mC (.int 0))) (mC (.int 0)))) (mgName 1)))
def m__law_looks (F : PF) : MS :=
    (msSeq (msAsg (mC (.int 0)) (mgName 1))
    (msSeq (msFor (miA (mVar 0)) (mgName 2) (mb__law_looks_0 F))
    (msRet (mVar 1))))
def F__law_looks_ : Nat → PF
  | 0 => fun _ => none
  | t + 1 => runP N__law_looks.length (m__law_looks (F__law_looks_ t))
def F__law_looks : PF := F__law_looks_ 12
def N_law : List Str := ["_law_script", "_law_bag", "_law_turn", "_law_some", "_law_columns", "_law_plan", "_law_change", "_law_fail", "_law_procedure", "_law_due", "_law_turned", "_law_at", "_law_s", "_law_rows"]
def me_law_0 : M D :=
    (mMeP "Procedure" "late" F_Procedure_late (mMkP "Procedure" [] F_Procedure_init (mCons (mLst mNil) (mCons (mLst mNil) (mCons (mVar 13) mNil)))) mNil)
def mb_law_1 : MS :=
    (msSeq (msIf (mAnd (mTst (mBin (dIsN false) (mVar 9) (mC .non))) (mTst (mCallP F__law_late (mCons (mVar 12) (mCons (mVar 10) mNil))))) (msAsg (mVar 11) (mgName 9)) msNil)
    (msAsg (mOrV (mVar 10) (mCallP F__law_changes (mCons (mVar 12) mNil))) (mgName 10)))
def mb_law_2 : MS :=
    (msSeq (msAsg (mCallI F__law_some_columns (mCons (mVar 1) mNil)) (mgName 4))
    (msSeq (msAsg (mCallI F__law_some_plan (mCons (mVar 1) (mCons (mVar 4) (mCons (mCallI F__law_any (mCons (mVar 1) (mCons (mLst (mCons (mC (.int 4)) (mCons (mC (.int 3)) (mCons (mC (.int 1)) mNil)))) mNil))) mNil)))) (mgName 5))
    (msSeq (msPar3 8 9 10 (mCons (mCallP F__law_ready (mCons (mVar 4) (mCons (mVar 5) mNil))) (mCons (mC .non) (mCons (mC (.bl false)) mNil))))
    (msSeq (msFor (miEn (mCons (mBin dIx (mVar 5) (mC (.int 1))) mNil)) (mgTup 2 (mgCons (mgName 11) (mgCons (mgName 12) mgNil))) mb_law_1)
    (msIf (mNot (mTst (mCallP F__law_like (mCons (mLst (mCons (mPrp "Procedure" F_Procedure_looks (mVar 8)) (mCons (mMeP "Procedure" "late" F_Procedure_late (mVar 8) mNil) (mCons (mPrp "Procedure" F_Procedure_fails_early (mVar 8)) mNil)))) (mCons (mLst (mCons (mCallP F__law_looks (mCons (mBin dIx (mVar 5) (mC (.int 1))) mNil)) (mCons (mVar 9) (mCons (mBin (dIsN false) (mVar 9) (mC .non)) mNil)))) mNil))))) (msRet (mC (.bl false))) msNil)))))
def m_law : MS :=
    (msSeq (msAsg (mCallI F__law_draws (mCons (mVar 0) mNil)) (mgName 1))
    (msSeq (msFor (miR1 (mCons (mC (.int 8)) mNil)) (mgName 2) mb_law_2)
    (msSeq (msAsg (mTup (mCons (mTup (mCons (mC (.str [99, 108, 101, 97, 114])) (mCons (mTup (mCons (mC .non) (mCons (mC .non) mNil))) (mCons (mTup (mCons (mC (.str [116, 114, 117, 101])) mNil)) mNil)))) (mCons (mTup (mCons (mC (.str [102, 97, 105, 108])) (mCons (mC (.str [97])) mNil))) mNil))) (mgTup 2 (mgCons (mgName 6) (mgCons (mgName 7) mgNil))))
    (msSeq (msAsg (mLst (mCons (mLst (mCons (mVar 6) (mCons (mVar 7) mNil))) (mCons (mLst (mCons (mVar 7) (mCons (mVar 6) mNil))) (mCons (mLst (mCons (mTup (mCons (mC (.str [105, 102])) (mCons (mTup (mCons (mC (.str [116, 114, 117, 101])) mNil)) (mCons (mTup (mCons (mVar 6) mNil)) (mCons (mTup (mCons (mVar 7) mNil)) mNil))))) (mCons (mVar 6) mNil))) (mCons (mLst (mCons (mTup (mCons (mC (.str [105, 102])) (mCons (mTup (mCons (mC (.str [116, 114, 117, 101])) mNil)) (mCons (mTup (mCons (mVar 6) (mCons (mVar 7) mNil))) (mCons (mTup mNil) mNil))))) mNil)) (mCons (mLst (mCons (mTup (mCons (mC (.str [105, 102])) (mCons (mTup (mCons (mC (.str [116, 114, 117, 101])) mNil)) (mCons (mTup (mCons (mVar 6) mNil)) (mCons (mTup mNil) mNil))))) (mCons (mTup (mCons (mC (.str [115, 116, 101, 112])) (mCons (mC (.str [114])) (mCons (mC (.str [110, 101, 120, 116])) (mCons (mC (.str [115])) mNil))))) mNil))) (mCons (mLst (mCons (mVar 6) (mCons (mTup (mCons (mC (.str [105, 102])) (mCons (mTup (mCons (mC (.str [115, 97, 109, 101])) (mCons (mTup (mCons (mC (.str [102, 105, 101, 108, 100])) (mCons (mC (.str [114])) (mCons (mC (.str [107, 101, 121])) mNil)))) (mCons (mTup (mCons (mC (.str [110, 117, 109, 98, 101, 114])) (mCons (mC (.int 0)) mNil))) mNil)))) (mCons (mTup mNil) (mCons (mTup mNil) mNil))))) mNil))) (mCons (mLst (mCons (mVar 6) (mCons (mTup (mCons (mC (.str [114, 101, 116, 117, 114, 110])) (mCons (mTup (mCons (mTup (mCons (mC (.str [110, 117, 109, 98, 101, 114])) (mCons (mC (.int 1)) mNil))) mNil)) mNil))) (mCons (mVar 6) mNil)))) mNil)))))))) (mgName 3))
    (msRet (mCallP F__law_like (mCons (mLc [13] (miL (mVar 3)) (mgName 13) mYes me_law_0) (mCons (mLst (mCons (mC (.int 1)) (mCons (mC .non) (mCons (mC .non) (mCons (mC (.int 0)) (mCons (mC (.int 1)) (mCons (mC (.int 1)) (mCons (mC .non) mNil)))))))) mNil))))))))
def F_law : IF := runI N_law.length m_law
end PQ
local macro_rules
  | `(tactic| simp! only [$xs,*] $[$l]?) => `(tactic| simp only [↓PD.seq_ap, ↓PD.var_ap, ↓PD.c_ap, ↓PD.bin_ap, ↓PD.tst_ap, ↓PD.not_ap, ↓PD.and_ap, ↓PD.or_ap, ↓PD.if_ap, ↓PD.andv_ap, ↓PD.orv_ap, ↓PD.notv_ap, ↓PD.nil_ap, ↓PD.cons_ap, ↓PD.tup_ap, ↓PD.lst_ap, ↓PD.call_ap, ↓PD.callP_ap, ↓PD.callI_ap, ↓PD.perm_ap, ↓PD.nop_ap, ↓PD.smp_ap, ↓PD.sl_ap, ↓PD.chain_ap, ↓PD.isi_ap, ↓PD.lc_ap, ↓PD.lstC_ap, ↓PD.mts_ap, ↓PD.yes_ap, ↓PD.il_ap, ↓PD.it_ap, ↓PD.is_ap, ↓PD.ir1_ap, ↓PD.iz_ap, ↓PD.snil_ap, ↓PD.ret_ap, ↓PD.sif_ap, ↓PD.sexpr_ap, ↓PD.bk_ap, ↓PD.ct_ap, ↓PD.asg_ap, ↓PD.for_ap, ↓PD.par_ap, ↓PD.gname_ap, ↓PD.gnil_ap, ↓PD.gcons_ap, ↓PD.gtup_ap, ↓PD.gsub_ap, PD.bR_ok, PD.bR_ex, PD.rt_some, PD.sq_nx, PD.sq_rt, PD.sq_bk, PD.sq_ct, PD.sq_ex, PD.bS_ok, PD.bS_ex, PD.binK1_ap, PD.binK2_ap, PD.tstK_b, PD.notK_ap, PD.andK_t, PD.andK_f, PD.orK_t, PD.orK_f, PD.ifK_t, PD.ifK_f, PD.andV_t, PD.andV_f, PD.orV_t, PD.orV_f, PD.notV_c, PD.consK1_ap, PD.consK2_ap, PD.tupK_ok, PD.lstK_ok, PD.callK_ap, PD.permK_ap, PD.smP_int, PD.slK1_ap, PD.slK2_ap, PD.slK3_ap, PD.sl_lst, PD.sl_scr, PD.sl_tup, PD.chK1_ap, PD.chK2_ap, PD.chK3_t, PD.chK3_f, PD.chK4_ap, PD.isiK_int, PD.isiK_str, PD.isiK_bl, PD.isiK_non, PD.isiK_tup, PD.isiK_lst, PD.mtsK_str, PD.mtsK2_ap, PD.ilK_lst, PD.ilK_scr, PD.itK_tup, PD.isK_str, PD.izK_l, PD.izK_t, PD.retK_ap, PD.sifK_t, PD.sifK_f, PD.sexprK_ap, PD.asgK_ap, PD.bG_ok, PD.forK_ap, PD.parK_ok, PD.gK_ok, PD.subK1_ok, PD.subK2_ok, PD.add_int, PD.sub_int, PD.mod_int, PD.lt_int, PD.le_int, PD.gt_int, PD.ge_int, PD.eq_int, PD.eq_str, PD.eq_bl, PD.eq_is, PD.eq_si, PD.eq_bs, PD.eq_sb, PD.eq_nn, PD.ne_int, PD.ne_str, PD.ne_bl, PD.isn_ap, PD.isN_int, PD.isN_str, PD.isN_bl, PD.isN_tup, PD.isN_lst, PD.isN_non, PD.ix_lst, PD.ix_tup, PD.ix_scr, PD.len_lst, PD.len_tup, PD.int_int, PD.list_lst, PD.list_tup, PD.tuple_lst, PD.tuple_tup, PD.asB_bl, PD.getD0, PD.getDS, PD.set0, PD.setS, PD.at0, PD.atS, PD.map_some', PD.bind_some', List.length_cons, List.length_nil, List.any_cons, List.any_nil, ↓PD.fld_ap, ↓PD.mei_ap, ↓PD.faug_ap, ↓PD.c1_ap, ↓PD.ir2_ap, ↓PD.sfld_ap, PD.fldK_ap, PD.meiK2_ap, PD.c1K_ap, PD.sfldK_ap, PD.sfldK2_ap, ↓PD.ia_ap, ↓PD.ien_ap, ↓PD.sort_ap, ↓PD.lenT_ap, ↓PD.cget_ap, ↓PD.append_ap, ↓PD.app2_ap, ↓PD.par3_ap, ↓PD.lc2_ap, ↓PD.prp_ap, ↓PD.mep_ap, ↓PD.mkp_ap, ↓PD.neg_ap, PD.iaK_lst, PD.iaK_tup, PD.ienK_lst, PD.ienK_tup, PD.cgetK_str, PD.cgetK2_ap, PD.apK2_ap, PD.app2K_ap, PD.app2K2_ap, PD.par3K_ok, PD.max2_ap, PD.augK_int, PD.negK_int, decide_true, decide_false, and_self, Nat.reduceLeDiff, Nat.reduceAdd, if_true, Int.reduceLT, Int.reduceNeg, Int.reducePow, Int.reduceToNat, Int.reduceLE, Nat.reduceLT, Int.reduceAdd, Int.reduceSub, Bool.not_true, Bool.not_false, Int.reduceEq, bne_self_eq_false, Bool.false_bne, Bool.true_bne, Int.reduceBNe, $xs,*] $[$l]?)
namespace PQ
open PySem PD PV
def pn : Vl → Pl
  | .pl p => p
  | .plus p _ => p
def vals : Cd → List Vl
  | .cmp _ a b => [a, b]
  | .nt c => vals c
  | .bin _ c d => vals c ++ vals d
  | _ => []
end PQ
namespace PQ
open PySem PD PV
theorem vs_noRef (vs : List Vl) : PD.noRef.go (vs.map Vl.d) = true := noRef_all fun d hd => by
  obtain ⟨v, _, rfl⟩ := List.mem_map.mp hd
  exact v.noRef
inductive Bs where
  | find (r : List Nat) (l : Bool) (a b : Option Vl) (c : Cd)
  | step (r : List Nat) (p : Bool) (s : List Nat)
  | insert (r : List Nat) (vs : List Vl)
  | delete (r : List Nat)
  | set (r y : List Nat) (v : Vl)
  | clear (a b : Option Vl) (c : Cd)
  | change (a b : Option Vl) (c : Cd) (y : List Nat) (v : Vl)
  | move (v : Vl) (n : Int)
  | fail (w : List Nat)
  | ret (vs : List Vl)
def od : Option Vl → D
  | none => .non
  | some v => v.d
def ov (a b : Option Vl) : List Vl := a.toList ++ b.toList
def lw (l : Bool) : List Nat := if l = true then [108, 97, 115, 116] else [102, 105, 114, 115, 116]
def nw (p : Bool) : List Nat := if p = true then [112, 114, 105, 111, 114] else [110, 101, 120, 116]
def Bs.d : Bs → D
  | .find r l a b c => .tup [.str [102, 105, 110, 100], .str r, .str (lw l), .tup [od a, od b], c.d]
  | .step r p s => .tup [.str [115, 116, 101, 112], .str r, .str (nw p), .str s]
  | .insert r vs => .tup [.str [105, 110, 115, 101, 114, 116], .str r, .tup (vs.map Vl.d)]
  | .delete r => .tup [.str [100, 101, 108, 101, 116, 101], .str r]
  | .set r y v => .tup [.str [115, 101, 116], .str r, .str y, v.d]
  | .clear a b c => .tup [.str [99, 108, 101, 97, 114], .tup [od a, od b], c.d]
  | .change a b c y v => .tup [.str [99, 104, 97, 110, 103, 101], .tup [od a, od b], c.d, .str y, v.d]
  | .move v n => .tup [.str [109, 111, 118, 101], v.d, .int n]
  | .fail w => .tup [.str [102, 97, 105, 108], .str w]
  | .ret vs => .tup [.str [114, 101, 116, 117, 114, 110], .tup (vs.map Vl.d)]
def Bs.fl : Bs → Bool
  | .fail _ => true
  | .insert _ _ => true
  | .move _ _ => true
  | .delete _ => true
  | .set _ _ _ => true
  | .step _ _ _ => true
  | _ => false
def Bs.lk : Bs → Int
  | .find _ _ _ _ _ => 1
  | .step _ _ _ => 1
  | .insert _ _ => 1
  | .move _ _ => 2
  | _ => 0
/-- what the conditions, values of it are -/
def Bs.okc : Bs → Bool
  | .find _ _ _ _ c => c.ok && decide (c.dep ≤ 6)
  | .clear _ _ c => c.ok && decide (c.dep ≤ 6)
  | .change _ _ c _ _ => c.ok && decide (c.dep ≤ 6)
  | .insert _ vs => decide (vs.length ≤ 100)
  | .ret vs => decide (vs.length ≤ 100)
  | _ => true
theorem od_noRef (a : Option Vl) : PD.noRef (od a) = true := by
  cases a with
  | none => rfl
  | some v => exact v.noRef
theorem Bs.noRef : ∀ s : Bs, PD.noRef s.d = true
  | .find r l a b c => by
    show (true && (true && (true && ((PD.noRef (od a) && (PD.noRef (od b) && true)) && (PD.noRef c.d && true))))) = true
    rw [od_noRef, od_noRef, c.noRef]; rfl
  | .step _ _ _ => rfl
  | .insert r vs => by
    show (true && (true && (PD.noRef.go (vs.map Vl.d) && true))) = true
    rw [vs_noRef]; rfl
  | .delete _ => rfl
  | .set r y v => by
    show (true && (true && (true && (PD.noRef v.d && true)))) = true
    rw [v.noRef]; rfl
  | .clear a b c => by
    show (true && ((PD.noRef (od a) && (PD.noRef (od b) && true)) && (PD.noRef c.d && true))) = true
    rw [od_noRef, od_noRef, c.noRef]; rfl
  | .change a b c y v => by
    show (true && ((PD.noRef (od a) && (PD.noRef (od b) && true)) && (PD.noRef c.d && (true && (PD.noRef v.d && true))))) = true
    rw [od_noRef, od_noRef, c.noRef, v.noRef]; rfl
  | .move v n => by
    show (true && (PD.noRef v.d && (true && true))) = true
    rw [v.noRef]; rfl
  | .fail _ => rfl
  | .ret vs => by
    show (true && (PD.noRef.go (vs.map Vl.d) && true)) = true
    rw [vs_noRef]; rfl
inductive St where
  | b (s : Bs) | ifs (c : Cd) (xs ys : List St)
mutual
def St.d : St → D
  | .b s => s.d
  | .ifs c xs ys => .tup [.str [105, 102], c.d, .tup (St.ds xs), .tup (St.ds ys)]
def St.ds : List St → List D
  | [] => []
  | x :: xs => x.d :: St.ds xs
end
mutual
theorem St.noRef : ∀ s : St, PD.noRef s.d = true
  | .b s => s.noRef
  | .ifs c xs ys => by
    show (true && (PD.noRef c.d && (PD.noRef.go (St.ds xs) && (PD.noRef.go (St.ds ys) && true)))) = true
    rw [c.noRef, St.dsNo xs, St.dsNo ys]; rfl
theorem St.dsNo : ∀ xs : List St, PD.noRef.go (St.ds xs) = true
  | [] => rfl
  | x :: xs => by
    show (PD.noRef x.d && PD.noRef.go (St.ds xs)) = true
    rw [St.noRef x, St.dsNo xs]; rfl
end
end PQ
local macro_rules
  | `(tactic| dsimp? only [$xs,*] $[$l]?) => `(tactic| simp only [↓PD.seq_ap, ↓PD.var_ap, ↓PD.c_ap, ↓PD.bin_ap, ↓PD.tst_ap, ↓PD.not_ap, ↓PD.and_ap, ↓PD.or_ap, ↓PD.if_ap, ↓PD.andv_ap, ↓PD.orv_ap, ↓PD.notv_ap, ↓PD.nil_ap, ↓PD.cons_ap, ↓PD.tup_ap, ↓PD.lst_ap, ↓PD.call_ap, ↓PD.callP_ap, ↓PD.callI_ap, ↓PD.perm_ap, ↓PD.nop_ap, ↓PD.smp_ap, ↓PD.sl_ap, ↓PD.chain_ap, ↓PD.isi_ap, ↓PD.lc_ap, ↓PD.lstC_ap, ↓PD.mts_ap, ↓PD.yes_ap, ↓PD.il_ap, ↓PD.it_ap, ↓PD.is_ap, ↓PD.ir1_ap, ↓PD.iz_ap, ↓PD.snil_ap, ↓PD.ret_ap, ↓PD.sif_ap, ↓PD.sexpr_ap, ↓PD.bk_ap, ↓PD.ct_ap, ↓PD.asg_ap, ↓PD.for_ap, ↓PD.par_ap, ↓PD.gname_ap, ↓PD.gnil_ap, ↓PD.gcons_ap, ↓PD.gtup_ap, ↓PD.gsub_ap, PD.bR_ok, PD.bR_ex, PD.rt_some, PD.sq_nx, PD.sq_rt, PD.sq_bk, PD.sq_ct, PD.sq_ex, PD.bS_ok, PD.bS_ex, PD.binK1_ap, PD.binK2_ap, PD.tstK_b, PD.notK_ap, PD.andK_t, PD.andK_f, PD.orK_t, PD.orK_f, PD.ifK_t, PD.ifK_f, PD.andV_t, PD.andV_f, PD.orV_t, PD.orV_f, PD.notV_c, PD.consK1_ap, PD.consK2_ap, PD.tupK_ok, PD.lstK_ok, PD.callK_ap, PD.permK_ap, PD.smP_int, PD.slK1_ap, PD.slK2_ap, PD.slK3_ap, PD.sl_lst, PD.sl_scr, PD.sl_tup, PD.chK1_ap, PD.chK2_ap, PD.chK3_t, PD.chK3_f, PD.chK4_ap, PD.isiK_int, PD.isiK_str, PD.isiK_bl, PD.isiK_non, PD.isiK_tup, PD.isiK_lst, PD.mtsK_str, PD.mtsK2_ap, PD.ilK_lst, PD.ilK_scr, PD.itK_tup, PD.isK_str, PD.izK_l, PD.izK_t, PD.retK_ap, PD.sifK_t, PD.sifK_f, PD.sexprK_ap, PD.asgK_ap, PD.bG_ok, PD.forK_ap, PD.parK_ok, PD.gK_ok, PD.subK1_ok, PD.subK2_ok, PD.add_int, PD.sub_int, PD.mod_int, PD.lt_int, PD.le_int, PD.gt_int, PD.ge_int, PD.eq_int, PD.eq_str, PD.eq_bl, PD.eq_is, PD.eq_si, PD.eq_bs, PD.eq_sb, PD.eq_nn, PD.ne_int, PD.ne_str, PD.ne_bl, PD.isn_ap, PD.isN_int, PD.isN_str, PD.isN_bl, PD.isN_tup, PD.isN_lst, PD.isN_non, PD.ix_lst, PD.ix_tup, PD.ix_scr, PD.len_lst, PD.len_tup, PD.int_int, PD.list_lst, PD.list_tup, PD.tuple_lst, PD.tuple_tup, PD.asB_bl, PD.getD0, PD.getDS, PD.set0, PD.setS, PD.at0, PD.atS, PD.map_some', PD.bind_some', List.length_cons, List.length_nil, List.any_cons, List.any_nil, ↓PD.fld_ap, ↓PD.mei_ap, ↓PD.faug_ap, ↓PD.c1_ap, ↓PD.ir2_ap, ↓PD.sfld_ap, PD.fldK_ap, PD.meiK2_ap, PD.c1K_ap, PD.sfldK_ap, PD.sfldK2_ap, ↓PD.ia_ap, ↓PD.ien_ap, ↓PD.sort_ap, ↓PD.lenT_ap, ↓PD.cget_ap, ↓PD.append_ap, ↓PD.app2_ap, ↓PD.par3_ap, ↓PD.lc2_ap, ↓PD.prp_ap, ↓PD.mep_ap, ↓PD.mkp_ap, ↓PD.neg_ap, PD.iaK_lst, PD.iaK_tup, PD.ienK_lst, PD.ienK_tup, PD.cgetK_str, PD.cgetK2_ap, PD.apK2_ap, PD.app2K_ap, PD.app2K2_ap, PD.par3K_ok, PD.max2_ap, PD.augK_int, PD.negK_int, $xs,*] $[$l]?)
namespace PD
end PD
namespace PQ
open PySem PD PV
def nn : D → Bool
  | .non => false
  | _ => true
theorem okc_find {c : Cd} (h : (c.ok && decide (c.dep ≤ 6)) = true) : c.ok = true ∧ c.dep ≤ 6 := by
  obtain ⟨h1, h2⟩ := Bool.and_eq_true_iff.mp h
  exact ⟨h1, of_decide_eq_true h2⟩
end PQ
namespace PD
theorem lcL_mapf {α : Type} {g : MG} {t : M Bool} {e : M D} (q f : α → D) {ε : Ev} {h : EH} : ∀ {xs : List α}, (∀ x ∈ xs, ∃ ε1, g (q x) ε h = some (ε1, h) ∧ t ε1 h = some (.ok true, h) ∧ e ε1 h = some (.ok (f x), h)) → lcL g t e (xs.map q) ε h = some (xs.map f, h)
  | [], _ => rfl
  | x :: xs, H => by
    obtain ⟨ε1, h1, h2, h3⟩ := H x List.mem_cons_self
    have ih := lcL_mapf (xs := xs) q f fun x hx => H x (List.mem_cons_of_mem _ hx)
    rw [List.map_cons]
    unfold lcL
    simp only [h1, h2, h3, ih, List.map_cons]
end PD
namespace PQ
open PySem PD PV
end PQ
namespace PQ
open PySem PD PV
mutual
def St.dep : St → Nat
  | .b _ => 1
  | .ifs _ xs ys => max (St.deps xs) (St.deps ys) + 1
def St.deps : List St → Nat
  | [] => 0
  | x :: xs => max x.dep (St.deps xs)
end
mutual
def St.okc : St → Bool
  | .b s => s.okc
  | .ifs c xs ys => (c.ok && decide (c.dep ≤ 6)) && (St.okcs xs && (St.okcs ys && (decide (xs.length ≤ 100) && decide (ys.length ≤ 100))))
def St.okcs : List St → Bool
  | [] => true
  | x :: xs => x.okc && St.okcs xs
end
mutual
def St.lk : St → Int
  | .b s => s.lk
  | .ifs _ xs ys => if St.lks ys > St.lks xs then St.lks ys else St.lks xs
def St.lks : List St → Int
  | [] => 0
  | x :: xs => x.lk + St.lks xs
end
end PQ
namespace PQ
open PySem PD PV
end PQ
namespace PQ
open PySem PD PV
end PQ
namespace PQ
open PySem PD PV
abbrev ts (zs : List (List Nat)) : D := .tup (zs.map .str)
def fitP (cols args : List (List Nat)) (own : Bool) : Pl → Bool
  | .num _ => true
  | .name z => decide (z ∈ args)
  | .field _ y => decide (y ∈ cols)
  | .own y => own && decide (y ∈ cols)
  | .next _ => false
def fitV (cols args : List (List Nat)) (own : Bool) (v : Vl) : Bool := v.ok && fitP cols args own (pn v)
section
variable {cols args : List (List Nat)}
def fitO (cols args : List (List Nat)) : Option Vl → Bool
  | none => true
  | some v => fitV cols args false v
end
end PQ
namespace PQ
open PySem PD PV
def fitVs (cols args : List (List Nat)) (own : Bool) (vs : List Vl) : Bool := vs.all (fitV cols args own)
theorem fitVs_mem {cols args : List (List Nat)} {own : Bool} {vs : List Vl} (h : fitVs cols args own vs = true) : ∀ v ∈ vs, fitV cols args own v = true := List.all_eq_true.mp h
def condB (cols args : List (List Nat)) (own : Bool) (c : Cd) : Bool := (c.ok && decide (c.dep ≤ 6)) && fitVs cols args own (vals c)
def rgB (cols args : List (List Nat)) (a b : Option Vl) : Bool := fitO cols args a && fitO cols args b
def Bs.right (cols args : List (List Nat)) : Bs → Bool
  | .find r _ a b c => isNm r && (rgB cols args a b && condB cols args true c)
  | .step r _ s => isNm r && isNm s
  | .insert r vs => isNm r && (fitVs cols args false vs && (decide (vs.length = cols.length) && decide (vs.length ≤ 100)))
  | .delete r => isNm r
  | .set r y v => isNm r && (decide (y ∈ cols.drop 1) && fitV cols args false v)
  | .clear a b c => rgB cols args a b && condB cols args true c
  | .change a b c y v => rgB cols args a b && (condB cols args true c && (decide (y ∈ cols.drop 1) && fitV cols args true v))
  | .move v n => fitV cols args false v && isCon n
  | .fail w => isNm w
  | .ret vs => fitVs cols args false vs && decide (vs.length ≤ 4)
section
variable {cols args : List (List Nat)}
theorem cond_get {own : Bool} {c : Cd} (h : condB cols args own c = true) : c.ok = true ∧ c.dep ≤ 6 ∧ ∀ v ∈ vals c, fitV cols args own v = true := by
  obtain ⟨h1, h2⟩ := Bool.and_eq_true_iff.mp h
  obtain ⟨h3, h4⟩ := okc_find h1
  exact ⟨h3, h4, fitVs_mem h2⟩
end
end PQ
namespace PQ
open PySem PD PV
mutual
def St.cnt : St → Nat
  | .b _ => 1
  | .ifs _ xs ys => 1 + (St.cnts xs + St.cnts ys)
def St.cnts : List St → Nat
  | [] => 0
  | x :: xs => x.cnt + St.cnts xs
end
mutual
def St.right (cols args : List (List Nat)) : St → Bool
  | .b s => s.right cols args
  | .ifs c xs ys => condB cols args false c && (St.rights cols args xs && St.rights cols args ys)
def St.rights (cols args : List (List Nat)) : List St → Bool
  | [] => true
  | x :: xs => x.right cols args && St.rights cols args xs
end
def ckF (cols args : List (List Nat)) (n : Nat) : List (Str × D) := [("columns_now", ts cols), ("arguments_now", ts args), ("count", .int n)]
def ck (cols args : List (List Nat)) (n : Nat) : Cell := .obj "Checker" (ckF cols args n)
end PQ
namespace PQ
open PySem PD PV
theorem rights_two {cols args : List (List Nat)} {x : St} {xs : List St} (h : St.rights cols args (x :: xs) = true) : x.right cols args = true ∧ St.rights cols args xs = true := Bool.and_eq_true_iff.mp h
theorem right_ifs {cols args : List (List Nat)} {c : Cd} {xs ys : List St} (h : (St.ifs c xs ys).right cols args = true) : condB cols args false c = true ∧ St.rights cols args xs = true ∧ St.rights cols args ys = true := by
  obtain ⟨h1, h2⟩ := Bool.and_eq_true_iff.mp (show (condB cols args false c && (St.rights cols args xs && St.rights cols args ys)) = true from h)
  obtain ⟨h3, h4⟩ := Bool.and_eq_true_iff.mp h2
  exact ⟨h1, h3, h4⟩
end PQ
namespace PQ
open PySem PD PV
end PQ
namespace PD
open PySem
end PD
namespace PQ
open PySem PD PV
def pF (cols args : List (List Nat)) (xs : List St) : List (Str × D) := [("all_names", ts cols), ("own_arguments", ts args), ("own_statements", .lst (St.ds xs)), ("own_looks", .int (St.lks xs))]
section
variable {t : EH} {cols args : List (List Nat)} {xs : List St}
/-- what a plan must be -/
structure PlanOk (b1 b2 : Bool) (cs args : List (List Nat)) (xs : List St) : Prop where
  cn : ∀ z ∈ cs, isNm z = true
  cl : cs.length ≤ 3
  cd : cs.Nodup
  an : ∀ z ∈ args, isNm z = true
  al : args.length ≤ 3
  ad : args.Nodup
  rt : St.rights ([107, 101, 121] :: cs) args xs = true
  ok : St.okcs xs = true
  ct : St.cnts xs ≤ 24
  dp : St.deps xs ≤ 3
  len : xs.length ≤ 12
end
end PQ
namespace PQ
open PySem PD PV
abbrev po (cols args : List (List Nat)) (xs : List St) : D := .obj "Procedure" (pF cols args xs)
end PQ
namespace PQ
open PySem PD PV
structure PoolP (cols args : List (List Nat)) (own : Bool) (ds : List D) : Prop where
  at_ : ∀ d ∈ ds, ∃ p : Pl, d = p.d ∧ p.ok = true ∧ fitP cols args own p = true
  len : ds.length ≤ 1000
theorem PoolP.ok {cols args : List (List Nat)} {own : Bool} {ds : List D} (h : PoolP cols args own ds) : PoolOk ds := ⟨fun d hd => by
  obtain ⟨p, e, q, _⟩ := h.at_ d hd
  exact ⟨p, e, q⟩, h.len⟩
theorem fitV_ok {cols args : List (List Nat)} {own : Bool} {v : Vl} (h : fitV cols args own v = true) : v.ok = true := (Bool.and_eq_true_iff.mp h).1
end PQ
namespace PQ
open PySem PD PV
end PQ
namespace PD
end PD
namespace PQ
open PySem PD PV
end PQ
namespace PQ
open PySem PD PV
end PQ
namespace PQ
open PySem PD PV
end PQ
namespace PQ
open PySem PD PV
end PQ
namespace PD
end PD
namespace PQ
open PySem PD PV
section
variable {cols args fs : List (List Nat)}
/-- the row that a statement finds -/
def Bs.new : Bs → List (List Nat)
  | .find r _ _ _ _ => [r]
  | .step r _ _ => [r]
  | .insert r _ => [r]
  | _ => []
theorem condB_okc {own : Bool} {c : Cd} (h : condB cols args own c = true) : (c.ok && decide (c.dep ≤ 6)) = true := (Bool.and_eq_true_iff.mp h).1
theorem right_okc {s : Bs} (h : s.right cols args = true) : s.okc = true := by
  cases s
  case find r l a b c =>
    have h1 := (Bool.and_eq_true_iff.mp (show (isNm r && (rgB cols args a b && condB cols args true c)) = true from h)).2
    exact condB_okc (Bool.and_eq_true_iff.mp h1).2
  case clear a b c => exact condB_okc (Bool.and_eq_true_iff.mp (show (rgB cols args a b && condB cols args true c) = true from h)).2
  case change a b c y v =>
    have h1 := (Bool.and_eq_true_iff.mp (show (rgB cols args a b && (condB cols args true c && (decide (y ∈ cols.drop 1) && fitV cols args true v))) = true from h)).2
    exact condB_okc (Bool.and_eq_true_iff.mp h1).1
  case insert r vs =>
    have h1 := (Bool.and_eq_true_iff.mp (show (isNm r && (fitVs cols args false vs && (decide (vs.length = cols.length) && decide (vs.length ≤ 100)))) = true from h)).2
    exact (Bool.and_eq_true_iff.mp (Bool.and_eq_true_iff.mp h1).2).2
  case ret vs =>
    have h1 := (Bool.and_eq_true_iff.mp (show (fitVs cols args false vs && decide (vs.length ≤ 4)) = true from h)).2
    have := of_decide_eq_true h1
    exact decide_eq_true (by omega)
  all_goals rfl
theorem rights_app : ∀ (xs : List St) (y : St), St.rights cols args (xs ++ [y]) = (St.rights cols args xs && y.right cols args)
  | [], y => by show (y.right cols args && true) = (true && _); rw [Bool.and_true, Bool.true_and]
  | x :: xs, y => by
    show (x.right cols args && St.rights cols args (xs ++ [y])) = ((x.right cols args && St.rights cols args xs) && _)
    rw [rights_app xs y, Bool.and_assoc]
theorem okcs_app : ∀ (xs : List St) (y : St), St.okcs (xs ++ [y]) = (St.okcs xs && y.okc)
  | [], y => by show (y.okc && true) = (true && _); rw [Bool.and_true, Bool.true_and]
  | x :: xs, y => by
    show (x.okc && St.okcs (xs ++ [y])) = ((x.okc && St.okcs xs) && _)
    rw [okcs_app xs y, Bool.and_assoc]
theorem deps_app : ∀ (xs : List St) (y : St), St.deps (xs ++ [y]) = max (St.deps xs) y.dep
  | [], y => by show max y.dep 0 = max 0 _; omega
  | x :: xs, y => by
    show max x.dep (St.deps (xs ++ [y])) = max (max x.dep (St.deps xs)) _
    rw [deps_app xs y]; omega
theorem cnts_app : ∀ (xs : List St) (y : St), St.cnts (xs ++ [y]) = St.cnts xs + y.cnt
  | [], y => by show y.cnt + 0 = 0 + _; omega
  | x :: xs, y => by
    show x.cnt + St.cnts (xs ++ [y]) = (x.cnt + St.cnts xs) + _
    rw [cnts_app xs y]; omega
/-- how many statements one of depth d holds -/
def cn : Nat → Nat
  | 0 => 1
  | d + 1 => 1 + 4 * cn d
structure Drawn (cols args : List (List Nat)) (deep : Nat) (xs : List St) : Prop where
  rt : St.rights cols args xs = true
  ok : St.okcs xs = true
  dp : St.deps xs ≤ deep + 1
  ct : St.cnts xs ≤ xs.length * cn deep
theorem Drawn.nil {deep : Nat} : Drawn cols args deep [] := ⟨rfl, rfl, Nat.zero_le _, Nat.zero_le _⟩
theorem Drawn.snoc {deep : Nat} {xs : List St} {y : St} (D : Drawn cols args deep xs) (h1 : y.right cols args = true) (h2 : y.okc = true) (h3 : y.dep ≤ deep + 1) (h4 : y.cnt ≤ cn deep) : Drawn cols args deep (xs ++ [y]) :=
  ⟨by rw [rights_app, D.rt, h1]; rfl, by rw [okcs_app, D.ok, h2]; rfl, by rw [deps_app]; have := D.dp; omega, by
    rw [cnts_app, List.length_append, List.length_singleton, Nat.add_mul, Nat.one_mul]
    have := D.ct
    omega⟩
theorem cn_pos : ∀ d : Nat, 1 ≤ cn d
  | 0 => Nat.le_refl _
  | d + 1 => by show 1 ≤ 1 + 4 * cn d; omega
theorem Drawn.b {deep : Nat} {xs : List St} {s : Bs} (D : Drawn cols args deep xs) (h : s.right cols args = true) : Drawn cols args deep (xs ++ [.b s]) :=
  D.snoc h (right_okc h) (by show 1 ≤ deep + 1; omega) (by show 1 ≤ cn deep; exact cn_pos _)
theorem Drawn.ifs {deep : Nat} {xs as bs : List St} {c : Cd} (D : Drawn cols args (deep + 1) xs) (hc : condB cols args false c = true) (A : Drawn cols args deep as) (B : Drawn cols args deep bs) (la : as.length ≤ 2) (lb : bs.length ≤ 2) : Drawn cols args (deep + 1) (xs ++ [.ifs c as bs]) := by
  refine D.snoc ?_ ?_ ?_ ?_
  · show (condB cols args false c && (St.rights cols args as && St.rights cols args bs)) = true
    rw [hc, A.rt, B.rt]; rfl
  · show ((c.ok && decide (c.dep ≤ 6)) && (St.okcs as && (St.okcs bs && (decide (as.length ≤ 100) && decide (bs.length ≤ 100))))) = true
    rw [condB_okc hc, A.ok, B.ok, decide_eq_true (by omega), decide_eq_true (by omega)]; rfl
  · show max (St.deps as) (St.deps bs) + 1 ≤ deep + 1 + 1
    have := A.dp
    have := B.dp
    omega
  · show 1 + (St.cnts as + St.cnts bs) ≤ 1 + 4 * cn deep
    have a := A.ct
    have b := B.ct
    have a2 : as.length * cn deep ≤ 2 * cn deep := Nat.mul_le_mul_right _ la
    have b2 : bs.length * cn deep ≤ 2 * cn deep := Nat.mul_le_mul_right _ lb
    omega
end
end PQ
namespace PD
end PD
namespace PQ
open PySem PD PV
end PQ
namespace PQ
open PySem PD PV
end PQ
namespace PQ
open PySem PD PV
end PQ
namespace PQ
open PySem PD PV
end PQ
namespace PQ
open PySem PD PV
end PQ
namespace PQ
open PySem PD PV
def fA : St := .b (.fail [97])
end PQ
namespace PQ
open PySem PD PV
end PQ
namespace PQ
open PySem PD PV
theorem rights_sub {cols args : List (List Nat)} {ys xs : List St} (h : List.Sublist ys xs) : St.rights cols args xs = true → St.rights cols args ys = true := by
  induction h with
  | slnil => exact fun e => e
  | cons a _ ih =>
    intro e
    rw [St.rights, Bool.and_eq_true] at e
    exact ih e.2
  | cons_cons a _ ih =>
    intro e
    rw [St.rights, Bool.and_eq_true] at e ⊢
    exact ⟨e.1, ih e.2⟩
theorem okcs_sub {ys xs : List St} (h : List.Sublist ys xs) : St.okcs xs = true → St.okcs ys = true := by
  induction h with
  | slnil => exact fun e => e
  | cons a _ ih =>
    intro e
    rw [St.okcs, Bool.and_eq_true] at e
    exact ih e.2
  | cons_cons a _ ih =>
    intro e
    rw [St.okcs, Bool.and_eq_true] at e ⊢
    exact ⟨e.1, ih e.2⟩
theorem cnts_sub {ys xs : List St} (h : List.Sublist ys xs) : St.cnts ys ≤ St.cnts xs := by
  induction h with
  | slnil => exact Nat.le_refl _
  | cons a _ ih =>
    rw [St.cnts]
    omega
  | cons_cons a _ ih =>
    rw [St.cnts, St.cnts]
    omega
theorem deps_sub {ys xs : List St} (h : List.Sublist ys xs) : St.deps ys ≤ St.deps xs := by
  induction h with
  | slnil => exact Nat.le_refl _
  | cons a _ ih =>
    rw [St.deps]
    omega
  | cons_cons a _ ih =>
    rw [St.deps, St.deps]
    omega
theorem PlanOk.sub {b1 b2 c1 c2 : Bool} {cs args : List (List Nat)} {ys xs : List St} (P : PlanOk b1 b2 cs args xs) (h : List.Sublist ys xs) : PlanOk c1 c2 cs args ys :=
  ⟨P.cn, P.cl, P.cd, P.an, P.al, P.ad, rights_sub h P.rt, okcs_sub h P.ok, Nat.le_trans (cnts_sub h) P.ct, Nat.le_trans (deps_sub h) P.dp, Nat.le_trans h.length_le P.len⟩
end PQ
namespace PQ
open PySem PD PV
end PQ
namespace PQ
open PySem PD PV
theorem noFn_all : ∀ {ds : List D}, (∀ d ∈ ds, noFn d = true) → noFn.go ds = true
  | [], _ => rfl
  | d :: ds, h => by
    rw [noFn.go, h d List.mem_cons_self, noFn_all fun x hx => h x (List.mem_cons_of_mem _ hx)]; rfl
theorem plain_all : ∀ {ds : List D}, (∀ d ∈ ds, plain d = true) → plain.go ds = true
  | [], _ => rfl
  | d :: ds, h => by
    rw [plain.go, h d List.mem_cons_self, plain_all fun x hx => h x (List.mem_cons_of_mem _ hx)]; rfl
theorem okD_tupL {t : Nat} {ds : List D} (l : ds.length ≤ 16777216) (h : ∀ d ∈ ds, okD t d = true) : okD (t + 1) (.tup ds) = true := by
  show (decide (ds.length ≤ 16777216) && ds.all (okD t)) = true
  rw [decide_eq_true l, List.all_eq_true.mpr h]; rfl
theorem okD_lstL {t : Nat} {ds : List D} (l : ds.length ≤ 16777216) (h : ∀ d ∈ ds, okD t d = true) : okD (t + 1) (.lst ds) = true := by
  show (decide (ds.length ≤ 16777216) && ds.all (okD t)) = true
  rw [decide_eq_true l, List.all_eq_true.mpr h]; rfl
theorem okD_unL {t : Nat} {ds : List D} (h : okD (t + 1) (.lst ds) = true) : ∀ d ∈ ds, okD t d = true :=
  List.all_eq_true.mp (Bool.and_eq_true_iff.mp (show (decide (ds.length ≤ 16777216) && ds.all (okD t)) = true from h)).2
theorem okD_noFn : ∀ {t : Nat} {d : D}, okD t d = true → noFn d = true
  | 0, _, e => by cases e
  | t + 1, .non, _ => rfl
  | t + 1, .bl _, _ => rfl
  | t + 1, .int _, _ => rfl
  | t + 1, .str _, _ => rfl
  | t + 1, .tup ds, e => noFn_all fun d hd => okD_noFn (t := t) (okD_unL (ds := ds) e d hd)
  | t + 1, .lst ds, e => noFn_all fun d hd => okD_noFn (t := t) (okD_unL e d hd)
  | t + 1, .scr _, e => by cases e
  | t + 1, .dic _ _, e => by cases e
  | t + 1, .obj _ _, e => by cases e
  | t + 1, .ref _, e => by cases e
  | t + 1, .fn _ _, e => by cases e
  | t + 1, .exc _ _, e => by cases e
theorem okD_plain : ∀ {t : Nat} {d : D}, okD t d = true → plain d = true
  | 0, _, e => by cases e
  | t + 1, .non, _ => rfl
  | t + 1, .bl _, _ => rfl
  | t + 1, .int _, _ => rfl
  | t + 1, .str _, _ => rfl
  | t + 1, .tup ds, e => plain_all fun d hd => okD_plain (t := t) (okD_unL (ds := ds) e d hd)
  | t + 1, .lst ds, e => plain_all fun d hd => okD_plain (t := t) (okD_unL e d hd)
  | t + 1, .scr _, e => by cases e
  | t + 1, .dic _ _, e => by cases e
  | t + 1, .obj _ _, e => by cases e
  | t + 1, .ref _, e => by cases e
  | t + 1, .fn _ _, e => by cases e
  | t + 1, .exc _ _, e => by cases e
theorem okD_v : ∀ v : Vl, okD 3 v.d = true
  | .pl (.num _) => rfl
  | .pl (.name _) => rfl
  | .pl (.field _ _) => rfl
  | .pl (.own _) => rfl
  | .pl (.next _) => rfl
  | .plus (.num _) _ => rfl
  | .plus (.name _) _ => rfl
  | .plus (.field _ _) _ => rfl
  | .plus (.own _) _ => rfl
  | .plus (.next _) _ => rfl
theorem okD_tup2 {t : Nat} {a b : D} (ha : okD t a = true) (hb : okD t b = true) : okD (t + 1) (.tup [a, b]) = true := by
  show (decide (2 ≤ 16777216) && (okD t a && (okD t b && true))) = true
  rw [ha, hb]; rfl
theorem okD_tup3 {t : Nat} {a b c : D} (ha : okD t a = true) (hb : okD t b = true) (hc : okD t c = true) : okD (t + 1) (.tup [a, b, c]) = true := by
  show (decide (3 ≤ 16777216) && (okD t a && (okD t b && (okD t c && true)))) = true
  rw [ha, hb, hc]; rfl
theorem okD_c : ∀ (c : Cd) (t : Nat), c.dep + 3 ≤ t → okD t c.d = true
  | .cmp o a b, t, h => by
    obtain ⟨t, rfl⟩ : ∃ m, t = m + 1 := ⟨t - 1, by have : 1 + 3 ≤ t := h; omega⟩
    have h' : 1 + 3 ≤ t + 1 := h
    obtain ⟨u, rfl⟩ : ∃ m, t = m + 1 := ⟨t - 1, by omega⟩
    exact okD_tup3 rfl (okD_le (okD_v a) (by omega)) (okD_le (okD_v b) (by omega))
  | .tru, t, h => by
    have h' : 1 + 3 ≤ t := h
    exact okD_le (t := 2) rfl (by omega)
  | .fnd z, t, h => by
    have h' : 1 + 3 ≤ t := h
    exact okD_le (t := 2) rfl (by omega)
  | .nt c, t, h => by
    have h' : c.dep + 1 + 3 ≤ t := h
    obtain ⟨t, rfl⟩ : ∃ m, t = m + 1 := ⟨t - 1, by omega⟩
    obtain ⟨u, rfl⟩ : ∃ m, t = m + 1 := ⟨t - 1, by omega⟩
    exact okD_tup2 rfl (okD_c c _ (by omega))
  | .bin j c d, t, h => by
    have h' : max c.dep d.dep + 1 + 3 ≤ t := h
    obtain ⟨t, rfl⟩ : ∃ m, t = m + 1 := ⟨t - 1, by omega⟩
    obtain ⟨u, rfl⟩ : ∃ m, t = m + 1 := ⟨t - 1, by omega⟩
    exact okD_tup3 rfl (okD_c c _ (by omega)) (okD_c d _ (by omega))
theorem okE_tupL {t : Nat} {ds : List D} (h : ∀ d ∈ ds, okE t d = true) : okE (t + 1) (.tup ds) = true := List.all_eq_true.mpr h
theorem okE_lstL {t : Nat} {ds : List D} (h : ∀ d ∈ ds, okE t d = true) : okE (t + 1) (.lst ds) = true := List.all_eq_true.mpr h
theorem okE_nm {z : List Nat} (t : Nat) (h : isNm z = true) : okE (t + 1) (.str z) = true := okE_abc h
theorem okE_cl {z : List Nat} (t : Nat) (h : isCol z = true) : okE (t + 1) (.str z) = true := okE_col h
theorem okE_v : ∀ {v : Vl}, v.ok = true → okE 3 v.d = true
  | .pl p, h => okE_up (okE_pl (p := p) h)
  | .plus p m, h => by
    have h' := Bool.and_eq_true_iff.mp (show (p.ok && isCon m) = true from h)
    refine okE_tupL ?_
    simp only [List.forall_mem_cons]
    exact ⟨rfl, okE_pl h'.1, rfl, (fun _ h => nomatch h)⟩
theorem okE_c : ∀ (c : Cd) (t : Nat), c.ok = true → c.dep + 3 ≤ t → okE t c.d = true
  | .cmp o a b, t, k, h => by
    obtain ⟨t, rfl⟩ : ∃ m, t = m + 1 := ⟨t - 1, by have : 1 + 3 ≤ t := h; omega⟩
    have h' : 1 + 3 ≤ t + 1 := h
    obtain ⟨u, rfl⟩ : ∃ m, t = m + 1 := ⟨t - 1, by omega⟩
    have k' := Bool.and_eq_true_iff.mp (show (a.ok && b.ok) = true from k)
    refine okE_tupL ?_
    simp only [List.forall_mem_cons]
    exact ⟨(by cases o <;> rfl), okE_le (okE_v k'.1) (by omega), okE_le (okE_v k'.2) (by omega), (fun _ h => nomatch h)⟩
  | .tru, t, k, h => by
    have h' : 1 + 3 ≤ t := h
    exact okE_le (t := 2) rfl (by omega)
  | .fnd z, t, k, h => by
    have h' : 1 + 3 ≤ t := h
    refine okE_le (t := 2) (okE_tupL ?_) (by omega)
    simp only [List.forall_mem_cons]
    exact ⟨rfl, okE_nm _ k, (fun _ h => nomatch h)⟩
  | .nt c, t, k, h => by
    have h' : c.dep + 1 + 3 ≤ t := h
    obtain ⟨t, rfl⟩ : ∃ m, t = m + 1 := ⟨t - 1, by omega⟩
    obtain ⟨u, rfl⟩ : ∃ m, t = m + 1 := ⟨t - 1, by omega⟩
    refine okE_tupL ?_
    simp only [List.forall_mem_cons]
    exact ⟨rfl, okE_c c _ k (by omega), (fun _ h => nomatch h)⟩
  | .bin j c d, t, k, h => by
    have h' : max c.dep d.dep + 1 + 3 ≤ t := h
    obtain ⟨t, rfl⟩ : ∃ m, t = m + 1 := ⟨t - 1, by omega⟩
    obtain ⟨u, rfl⟩ : ∃ m, t = m + 1 := ⟨t - 1, by omega⟩
    have k' := Bool.and_eq_true_iff.mp (show (c.ok && d.ok) = true from k)
    refine okE_tupL ?_
    simp only [List.forall_mem_cons]
    exact ⟨(by cases j <;> rfl), okE_c c _ k'.1 (by omega), okE_c d _ k'.2 (by omega), (fun _ h => nomatch h)⟩
section
variable {cols args : List (List Nat)}
theorem okE_od {a : Option Vl} (h : fitO cols args a = true) : okE 3 (od a) = true := by
  cases a with
  | none => rfl
  | some v => exact okE_v (fitV_ok (show fitV cols args false v = true from h))
theorem okE_rg {a b : Option Vl} (h : rgB cols args a b = true) : okE 9 (.tup [od a, od b]) = true := by
  have h' := Bool.and_eq_true_iff.mp (show (fitO cols args a && fitO cols args b) = true from h)
  refine okE_le (t := 4) (okE_tupL ?_) (by decide)
  simp only [List.forall_mem_cons]
  exact ⟨okE_od h'.1, okE_od h'.2, (fun _ h => nomatch h)⟩
theorem okE_fv {own : Bool} {v : Vl} (h : fitV cols args own v = true) : okE 9 v.d = true := okE_le (okE_v (fitV_ok h)) (by decide)
theorem okE_vs {own : Bool} {vs : List Vl} (h : fitVs cols args own vs = true) : okE 9 (.tup (vs.map Vl.d)) = true := okE_le (t := 4) (okE_tupL fun d hd => by
  obtain ⟨v, hv, rfl⟩ := List.mem_map.mp hd
  exact okE_v (fitV_ok (List.all_eq_true.mp h v hv))) (by decide)
theorem okE_cond {own : Bool} {c : Cd} (h : condB cols args own c = true) : okE 9 c.d = true := by
  obtain ⟨h1, h2, _⟩ := cond_get h
  exact okE_c c 9 h1 (by omega)
theorem okE_b (hc : ∀ z ∈ cols, isCol z = true) : ∀ {s : Bs}, s.right cols args = true → okE 10 s.d = true
  | .find r l a b c, h => by
    obtain ⟨h1, h2⟩ := Bool.and_eq_true_iff.mp (show (isNm r && (rgB cols args a b && condB cols args true c)) = true from h)
    obtain ⟨h2, h3⟩ := Bool.and_eq_true_iff.mp h2
    refine okE_tupL ?_
    simp only [List.forall_mem_cons]
    exact ⟨rfl, okE_nm _ h1, (by cases l <;> rfl), okE_rg h2, okE_cond h3, (fun _ h => nomatch h)⟩
  | .step r p s, h => by
    obtain ⟨h1, h2⟩ := Bool.and_eq_true_iff.mp (show (isNm r && isNm s) = true from h)
    refine okE_tupL ?_
    simp only [List.forall_mem_cons]
    exact ⟨rfl, okE_nm _ h1, (by cases p <;> rfl), okE_nm _ h2, (fun _ h => nomatch h)⟩
  | .insert r vs, h => by
    obtain ⟨h1, h2⟩ := Bool.and_eq_true_iff.mp (show (isNm r && (fitVs cols args false vs && (decide (vs.length = cols.length) && decide (vs.length ≤ 100)))) = true from h)
    obtain ⟨h2, h3⟩ := Bool.and_eq_true_iff.mp h2
    refine okE_tupL ?_
    simp only [List.forall_mem_cons]
    exact ⟨rfl, okE_nm _ h1, okE_vs h2, (fun _ h => nomatch h)⟩
  | .delete r, h => by
    refine okE_tupL ?_
    simp only [List.forall_mem_cons]
    exact ⟨rfl, okE_nm _ h, (fun _ h => nomatch h)⟩
  | .set r y v, h => by
    obtain ⟨h1, h2⟩ := Bool.and_eq_true_iff.mp (show (isNm r && (decide (y ∈ cols.drop 1) && fitV cols args false v)) = true from h)
    obtain ⟨h2, h3⟩ := Bool.and_eq_true_iff.mp h2
    refine okE_tupL ?_
    simp only [List.forall_mem_cons]
    exact ⟨rfl, okE_nm _ h1, okE_cl _ (hc y (List.mem_of_mem_drop (of_decide_eq_true h2))), okE_fv h3, (fun _ h => nomatch h)⟩
  | .clear a b c, h => by
    obtain ⟨h2, h3⟩ := Bool.and_eq_true_iff.mp (show (rgB cols args a b && condB cols args true c) = true from h)
    refine okE_tupL ?_
    simp only [List.forall_mem_cons]
    exact ⟨rfl, okE_rg h2, okE_cond h3, (fun _ h => nomatch h)⟩
  | .change a b c y v, h => by
    obtain ⟨h1, h2⟩ := Bool.and_eq_true_iff.mp (show (rgB cols args a b && (condB cols args true c && (decide (y ∈ cols.drop 1) && fitV cols args true v))) = true from h)
    obtain ⟨h2, h3⟩ := Bool.and_eq_true_iff.mp h2
    obtain ⟨h3, h4⟩ := Bool.and_eq_true_iff.mp h3
    refine okE_tupL ?_
    simp only [List.forall_mem_cons]
    exact ⟨rfl, okE_rg h1, okE_cond h2, okE_cl _ (hc y (List.mem_of_mem_drop (of_decide_eq_true h3))), okE_fv h4, (fun _ h => nomatch h)⟩
  | .move v n, h => by
    obtain ⟨h1, h2⟩ := Bool.and_eq_true_iff.mp (show (fitV cols args false v && isCon n) = true from h)
    refine okE_tupL ?_
    simp only [List.forall_mem_cons]
    exact ⟨rfl, okE_fv h1, rfl, (fun _ h => nomatch h)⟩
  | .fail w, h => by
    refine okE_tupL ?_
    simp only [List.forall_mem_cons]
    exact ⟨rfl, okE_nm _ h, (fun _ h => nomatch h)⟩
  | .ret vs, h => by
    obtain ⟨h1, h2⟩ := Bool.and_eq_true_iff.mp (show (fitVs cols args false vs && decide (vs.length ≤ 4)) = true from h)
    refine okE_tupL ?_
    simp only [List.forall_mem_cons]
    exact ⟨rfl, okE_vs h1, (fun _ h => nomatch h)⟩
mutual
theorem okE_st (hc : ∀ z ∈ cols, isCol z = true) : ∀ (s : St) (t : Nat), s.right cols args = true → 2 * s.dep + 8 ≤ t → okE t s.d = true
  | .b s, t, h, ht => by
    have ht' : 2 * 1 + 8 ≤ t := ht
    exact okE_le (okE_b hc (s := s) h) (by omega)
  | .ifs c xs ys, t, h, ht => by
    have ht' : 2 * (max (St.deps xs) (St.deps ys) + 1) + 8 ≤ t := ht
    obtain ⟨t, rfl⟩ : ∃ m, t = m + 1 := ⟨t - 1, by omega⟩
    obtain ⟨u, rfl⟩ : ∃ m, t = m + 1 := ⟨t - 1, by omega⟩
    obtain ⟨h1, h3, h4⟩ := right_ifs h
    refine okE_tupL ?_
    simp only [List.forall_mem_cons]
    exact ⟨rfl, okE_le (okE_cond h1) (by omega), okE_tupL (okE_sts hc xs u h3 (by omega)), okE_tupL (okE_sts hc ys u h4 (by omega)), (fun _ h => nomatch h)⟩
theorem okE_sts (hc : ∀ z ∈ cols, isCol z = true) : ∀ (xs : List St) (t : Nat), St.rights cols args xs = true → 2 * St.deps xs + 8 ≤ t → ∀ d ∈ St.ds xs, okE t d = true
  | [], _, _, _, d, hd => nomatch hd
  | x :: xs, t, h, ht, d, hd => by
    have ht' : 2 * (max x.dep (St.deps xs)) + 8 ≤ t := ht
    obtain ⟨h1, h2⟩ := rights_two h
    rcases List.mem_cons.mp (show d ∈ x.d :: St.ds xs from hd) with e | hd
    · rw [e]; exact okE_st hc x t h1 (by omega)
    · exact okE_sts hc xs t h2 (by omega) d hd
end
end
section
variable {b1 b2 : Bool} {cs args : List (List Nat)} {xs : List St}
theorem PlanOk.cols (P : PlanOk b1 b2 cs args xs) : ∀ z ∈ [107, 101, 121] :: cs, isCol z = true := fun z hz => by
  rcases List.mem_cons.mp hz with e | hz
  · rw [e]; rfl
  · show (_ || isNm z) = true
    rw [P.cn z hz, Bool.or_true]
theorem PlanOk.okE (P : PlanOk b1 b2 cs args xs) : PD.okE 15 (.lst (St.ds xs)) = true :=
  okE_lstL (okE_sts P.cols xs 14 P.rt (by have := P.dp; omega))
end
end PQ
namespace PD
open PySem
def raiseK (C : Str) (fl : Option Str) (code : List Nat) (ε : Ev) (ds : List D) (h1 : EH) : Option (RS × EH) := match excFs fl code ds with
  | some fs => some (.ex ⟨C, fs⟩ ε, h1)
  | none => none
section
variable {ε : Ev} {h : EH}
theorem raise_ap (C : Str) (fl : Option Str) (code : List Nat) (a : M (List D)) : msRaise C fl code a ε h = bS (a ε h) ε (raiseK C fl code ε) := (rfl)
theorem raiseK_1 (C f : Str) (code : List Nat) (d : D) : raiseK C (some f) code ε [d] h = some (.ex ⟨C, [(f, d), ("code", .str code)]⟩ ε, h) := (rfl)
theorem endP_ex {e : Ex} (k : noRef.gf e.fs = true) : endP (some (.ex e ε, h)) = some (.ex e) := by
  show (if noRef.gf e.fs = true then some (R.ex e) else none) = _
  rw [if_pos k]
theorem endL_ex {e : Ex} (k : noRef.gf e.fs = true) : endL (some (.ex e, h)) = some (.ex e) := by
  show (if noRef.gf e.fs = true then some (R.ex e) else none) = _
  rw [if_pos k]
def tryK (CL : List Str) (ch : List (List Nat × Str)) (i : Nat) (x : Option (RS × EH)) : Option (RS × EH) := match x with
  | some (.rt d, h1) => some (.rt d, h1)
  | some (.ex x ε1, h1) => tryEnd CL ch i x ε1 h1
  | _ => none
theorem try_ap (CL : List Str) (ch : List (List Nat × Str)) (i : Nat) (mb : MS) : msTryT CL ch i mb ε h = tryK CL ch i (mb ε h) := (rfl)
theorem tryK_ex (CL : List Str) (ch : List (List Nat × Str)) (i : Nat) (x : Ex) : tryK CL ch i (some (.ex x ε, h)) = tryEnd CL ch i x ε h := (rfl)
theorem draws_lst {ns : List Int} (hl : ns.length ≤ 63) : ∃ k, F_draws [.lst (ns.map .int)] [] = some (.ok (.ref 0), [k]) ∧ BagI k := by
  obtain ⟨s', o', e, r0, r1⟩ := draws_loop (x := .lst (ns.map .int)) ns 5648 none (by decide) (by decide)
  refine ⟨bagC (ns.map .int) 0 0 s' 0, ?_, ⟨_, _, _, _, _, rfl, hl, by decide, by decide, r0, r1⟩⟩
  show endA _ (mDraws [some (.lst (ns.map .int)), none, none] []) = _
  have l : (ns.map D.int).length ≤ 63 := by simpa using hl
  simp? only [mDraws, cut63 l, e, lstCK_ok]
  rfl
end
end PD
namespace PQ
open PySem PD PV
/-- not a number of statements -/
def bad (n : Nat) (strict : Bool) : D → Bool
  | .int i => decide (i < 0) || (if strict then decide ((n : Int) ≤ i) else decide ((n : Int) < i))
  | .non => true
  | .bl _ => true
  | .str _ => true
  | .tup _ => true
  | _ => false
end PQ
namespace PD
open PySem
theorem callF_ok {n i j : Nat} {LF : Nat → PF} {ε : Ev} {h : EH} {caps : List D} {r : R D} (e1 : ε.getD i none = some (.fn j caps)) (hj : j < n) (n1 : noRef.go caps = true) (n2 : noFn.go caps = true) (e2 : LF j caps = some r) : mCallF n LF i ε h = some (r, h) := by
  unfold mCallF
  rw [e1]
  dsimp only
  rw [decide_eq_true hj, n1, n2, e2]; rfl
theorem lamsG_ok {F : PF} {ps : List (Nat × List Nat)} {ε : Ev} {h : EH} {ds : List D} {d : D} (e1 : capsL ε ps = some ds) (n : noRef.go ds = true) (l : ds.length ≤ 1000) (e2 : F [.lst ds] = some (.ok d)) (p : plain d = true) : mLamsG F ps ε h = some (.ok d, h) := by
  unfold mLamsG
  rw [e1]
  dsimp only
  rw [n, decide_eq_true (show ds.length ≤ PySem.sizeLine by unfold PySem.sizeLine; omega), e2]
  show (if plain d = true then some (R.ok d, h) else none) = _
  rw [if_pos p]
theorem lams_ap {ix n : Nat} {m : MS} {ε : Ev} {h : EH} (l : ix < ε.length) (l2 : n ≤ 1000) : msLams ix n m ε h = m (ε.set ix none) h := by
  unfold msLams
  rw [decide_eq_true l, decide_eq_true (show n ≤ PySem.sizeLine by unfold PySem.sizeLine; omega)]; rfl
end PD
namespace PQ
open PySem PD PV
theorem like_ok {t : Nat} {d : D} {h : EH} (o : okD t d = true) (l : t ≤ 30) : callPK F__law_like [d, d] h = some (.ok (.bl true), h) := by
  refine callPK_ok (F := F__law_like) (like_refl (okD_le o l)) ?_
  rw [PD.noRef.go, PD.noRef.go, okD_noRef o]; rfl
end PQ
namespace PT
open PySem PD PV
abbrev dv (cs : List Nat) : Nat := NumText.digitsVal cs
def body : List Nat → List Nat
  | [] => []
  | c :: r => if c = 45 then r else c :: r
end PT
namespace PT
open PySem PD PV
end PT
namespace PT
open PySem PD PV
theorem inn : isNon .non = true := rfl
end PT
namespace PT
open PySem PD PV
def N__law_reserved : List Str := []
def m__law_reserved : MS :=
    (msRet (mLst (mCons (mC (.str [97, 110, 100])) (mCons (mC (.str [102, 111, 117, 110, 100])) (mCons (mC (.str [107, 101, 121])) (mCons (mC (.str [110, 101, 120, 116])) (mCons (mC (.str [110, 111, 116])) (mCons (mC (.str [111, 114])) (mCons (mC (.str [111, 119, 110])) (mCons (mC (.str [115, 101, 116])) (mCons (mC (.str [116, 114, 117, 101])) (mCons (mC (.str [119, 104, 101, 114, 101])) mNil))))))))))))
def F__law_reserved : PF := runP N__law_reserved.length m__law_reserved
end PT
namespace PT
open PySem PD PV
end PT
namespace PT
open PySem PD PV PQ
end PT
namespace PT
open PySem PD PV PQ
section
variable {t : EH} {s : List Nat}
/-- conditions of which a name may be wrong -/
def pre : Cd → Bool
  | .cmp _ a b => a.ok && b.ok
  | .tru => true
  | .fnd z => decide (z.length ≤ 2000)
  | .nt c => pre c
  | .bin _ c d => pre c && pre d
end
end PT
namespace PT
open PySem PD PV PQ
section
variable {t : EH} {s : List Nat}
/-- a condition that is not too deep at a depth -/
def CR (dp : Int) (d : D) : Prop := ∃ c : Cd, pre c = true ∧ (c.dep : Int) + dp ≤ 7 ∧ d = c.d
end
end PT
namespace PT
open PySem PD PV PQ
end PT
namespace PT
open PySem PD PV PQ
def dNt (x : D) : D := .tup [.str [110, 111, 116], x]
def dBin (j : Bool) (x y : D) : D := .tup [.str (jw j), x, y]
def tp (ps : List Int) : D := .tup (ps.map .int)
theorem no_nt {x : D} (n : noRef x = true) : noRef (dNt x) = true := by
  show (true && (noRef x && true)) = true
  rw [n]; rfl
theorem no_bin {j : Bool} {x y : D} (n : noRef x = true) (m : noRef y = true) : noRef (dBin j x y) = true := by
  show (true && (noRef x && (noRef y && true))) = true
  rw [n, m]; rfl
theorem form_nt (x : D) : F_has_form [dNt x] = some (.ok (.bl true)) := by
  show endP (m_has_form [some (.tup [.str [110, 111, 116], x]), none] []) = _
  dsimp! only [m_has_form, hf_fold, isa, Bool.or_false, Bool.or_true, Bool.false_or, atl0, atl1, atl2, len0, len1, len2, len3, cin_nt, List.cons.injEq, Nat.reduceEqDiff, false_and, and_false, hf_nt]
  rfl
theorem form_bin (j : Bool) (x y : D) : F_has_form [dBin j x y] = some (.ok (.bl true)) := by
  show endP (m_has_form [some (.tup [.str (jw j), x, y]), none] []) = _
  dsimp! only [m_has_form, hf_fold, isa, Bool.or_false, Bool.or_true, Bool.false_or, atl0, atl1, atl2, len0, len1, len2, len3, cin_jw, jw_fnd, hf_jw]
  rfl
theorem inner_nt {x : D} (n : noRef x = true) : F_inner_parts [dNt x] = some (.ok (.lst [.tup [.int 1, x]])) := by
  have lc : lcL (mgName 1) mYes me_inner_parts_0 (rngD 1 1) [some (.tup [.str [110, 111, 116], x]), none] [] = some ([.tup [.int 1, x]], []) := by
    refine lcL_map (fun _ => .tup [.int 1, x]) (ds := rngD 1 1) fun d hd => ?_
    have : d = .int 1 := by simpa [rngD] using hd
    subst this
    refine ⟨_, rfl, rfl, ?_⟩
    dsimp! only [me_inner_parts_0, atl1]
  have lk := lcK_ok (vs := [1]) (ε := [some (.tup [.str [110, 111, 116], x]), none]) lc (by simp)
  show endP (m_inner_parts [some (.tup [.str [110, 111, 116], x]), none] []) = _
  dsimp! only [m_inner_parts, atl0, nin3, len2, show ([110, 111, 116] ∈ [[110, 111, 116], [97, 110, 100], [111, 114]]) by decide, ir2K_ok (i := 1) (j := 2) (by decide), lk]
  refine endP_ok ?_
  show (((true && (PD.noRef x && true)) && true)) = true
  rw [n]; rfl
theorem inner_bin {j : Bool} {x y : D} (n : noRef x = true) (m : noRef y = true) : F_inner_parts [dBin j x y] = some (.ok (.lst [.tup [.int 1, x], .tup [.int 2, y]])) := by
  have lc : lcL (mgName 1) mYes me_inner_parts_0 (rngD 1 2) [some (.tup [.str (jw j), x, y]), none] [] = some ([.tup [.int 1, x], .tup [.int 2, y]], []) := by
    refine lcL_map (fun d => match d with | .int 1 => .tup [.int 1, x] | _ => .tup [.int 2, y]) (ds := rngD 1 2) fun d hd => ?_
    have : d = .int 1 ∨ d = .int 2 := by
      have e : rngD 1 2 = [.int 1, .int 2] := rfl
      rw [e] at hd
      simpa using hd
    rcases this with rfl | rfl
    · refine ⟨_, rfl, rfl, ?_⟩
      dsimp! only [me_inner_parts_0, atl1]
    · refine ⟨_, rfl, rfl, ?_⟩
      dsimp! only [me_inner_parts_0, atl2]
  have lk := lcK_ok (vs := [1]) (ε := [some (.tup [.str (jw j), x, y]), none]) lc (by simp)
  show endP (m_inner_parts [some (.tup [.str (jw j), x, y]), none] []) = _
  dsimp! only [m_inner_parts, atl0, nin3, len3, jw_in, ir2K_ok (i := 1) (j := 3) (by decide), lk]
  refine endP_ok ?_
  show (((true && (PD.noRef x && true)) && ((true && (PD.noRef y && true)) && true))) = true
  rw [n, m]; rfl
theorem wpgo {x : D} (n : noRef x = true) (ps : List Int) : PD.noRef.go [x, tp ps] = true := by
  show (PD.noRef x && (PD.noRef.go (ps.map D.int) && true)) = true
  rw [n, ints_go]; rfl
section
variable {x y : D} {f : Nat} {ps qs : List Int} {i : Int} {a e : Option D}
theorem wstar : mStar (mVar 1) (mCons (mVar 2) mNil) [a, some (tp ps), some (.int i), some x, e] [] = some (.ok (ps.map .int ++ [.int i]), []) := by
  rw [star_ap (x := .tup (ps.map .int)) (xs := ps.map .int) rfl rfl]
  rfl
theorem wtup (hl : ps.length ≤ 6) : tupK (ps.map .int ++ [.int i]) [] = some (.ok (tp (ps ++ [i])), []) := by
  rw [tupK_ok (by simp; omega)]
  simp [tp]
theorem wturnN (n : noRef x = true) (hw : F_wrong_path_ f [x, tp (ps ++ [i])] = some (.ok .non)) (hl : ps.length ≤ 6) :
    mb_wrong_path_0 (F_wrong_path_ f) [a, some (tp ps), some (.int i), some x, e] [] = some (.nx [a, some (tp ps), some (.int i), some x, some .non], []) := by
  have hk := callPK_ok (h := []) hw (wpgo n (ps ++ [i]))
  dsimp! only [mb_wrong_path_0, wstar, wtup hl, hk]
theorem wturnS (n : noRef x = true) (hw : F_wrong_path_ f [x, tp (ps ++ [i])] = some (.ok (tp qs))) (hl : ps.length ≤ 6) :
    mb_wrong_path_0 (F_wrong_path_ f) [a, some (tp ps), some (.int i), some x, e] [] = some (.rt (tp qs), []) := by
  have hk := callPK_ok (h := []) hw (wpgo n (ps ++ [i]))
  have nn : isNon (tp qs) = false := rfl
  dsimp! only [mb_wrong_path_0, wstar, wtup hl, hk, nn]
end
theorem wkeyS {d : D} {L : List D} {f : Nat} {ps qs : List Int} (n : noRef d = true) (nl : ps.length < 6) (fo : F_has_form [d] = some (.ok (.bl true))) (ip : F_inner_parts [d] = some (.ok (.lst L)))
    (lp : forL (mgTup 2 (mgCons (mgName 2) (mgCons (mgName 3) mgNil))) (mb_wrong_path_0 (F_wrong_path_ f)) L [some d, some (tp ps), none, none, none] [] = some (.rt (tp qs), [])) : F_wrong_path_ (f + 1) [d, tp ps] = some (.ok (tp qs)) := by
  have hn : ¬ (6 : Int) ≤ ((ps.map D.int).length : Int) := by rw [List.length_map]; omega
  have hf := callPK_ok (F := F_has_form) (h := []) fo (go1 n)
  have hi := callPK_ok (F := F_inner_parts) (h := []) ip (go1 n)
  show endP (m_wrong_path (F_wrong_path_ f) [some d, some (.tup (ps.map .int)), none, none, none] []) = _
  unfold tp at lp
  dsimp! only [m_wrong_path, g_MOST_DEPTH, hn, hf, hi, lp]
  exact endP_ok (ints_go qs)
theorem wkeyN {d : D} {L : List D} {f : Nat} {ps : List Int} {ε : Ev} (n : noRef d = true) (nl : ps.length < 6) (fo : F_has_form [d] = some (.ok (.bl true))) (ip : F_inner_parts [d] = some (.ok (.lst L)))
    (lp : forL (mgTup 2 (mgCons (mgName 2) (mgCons (mgName 3) mgNil))) (mb_wrong_path_0 (F_wrong_path_ f)) L [some d, some (tp ps), none, none, none] [] = some (.nx ε, [])) : F_wrong_path_ (f + 1) [d, tp ps] = some (.ok .non) := by
  have hn : ¬ (6 : Int) ≤ ((ps.map D.int).length : Int) := by rw [List.length_map]; omega
  have hf := callPK_ok (F := F_has_form) (h := []) fo (go1 n)
  have hi := callPK_ok (F := F_inner_parts) (h := []) ip (go1 n)
  show endP (m_wrong_path (F_wrong_path_ f) [some d, some (.tup (ps.map .int)), none, none, none] []) = _
  unfold tp at lp
  dsimp! only [m_wrong_path, g_MOST_DEPTH, hn, hf, hi, lp]
  exact endP_ok rfl
def optT (ps : List Int) : Option (List Int) → D
  | none => .non
  | some p => tp (ps ++ p)
/-- the first wrong part of d, that is m deep -/
structure WP (d : D) (m : Nat) (r : Option (List Int)) : Prop where
  no : noRef d = true
  pos : 1 ≤ m
  go : ∀ (f : Nat) (ps : List Int), ps.length + m ≤ 6 → m ≤ f → F_wrong_path_ f [d, tp ps] = some (.ok (optT ps r))
theorem WP.le {d : D} {m m' : Nat} {r : Option (List Int)} (w : WP d m r) (h : m ≤ m') : WP d m' r := ⟨w.no, Nat.le_trans w.pos h, fun f ps h1 h2 => w.go f ps (by omega) (by omega)⟩
theorem wp_cd {c : Cd} (h : c.ok = true) : WP c.d c.dep none := ⟨c.noRef, c.dep_pos, fun f ps h1 h2 => wrong_none c f ps h h1 h2⟩
theorem wp_bad {b : D} (n : noRef b = true) (fo : F_has_form [b] = some (.ok (.bl false))) : WP b 1 (some []) := by
  refine ⟨n, Nat.le_refl _, fun f ps h1 h2 => ?_⟩
  obtain ⟨f, rfl⟩ : ∃ m, f = m + 1 := ⟨f - 1, by omega⟩
  have hn : ¬ (6 : Int) ≤ ((ps.map D.int).length : Int) := by rw [List.length_map]; omega
  have hf := callPK_ok (F := F_has_form) (h := []) fo (go1 n)
  have e : optT ps (some []) = .tup (ps.map .int) := by
    show tp (ps ++ []) = _
    rw [List.append_nil]; rfl
  rw [e]
  show endP (m_wrong_path (F_wrong_path_ f) [some b, some (.tup (ps.map .int)), none, none, none] []) = _
  dsimp! only [m_wrong_path, g_MOST_DEPTH, hn, hf]
  exact endP_ok (ints_go ps)
theorem wp_nt {x : D} {m : Nat} {r : Option (List Int)} (w : WP x m r) : WP (dNt x) (m + 1) (r.map (1 :: ·)) := by
  refine ⟨no_nt w.no, by omega, fun f ps h1 h2 => ?_⟩
  obtain ⟨f, rfl⟩ : ∃ m, f = m + 1 := ⟨f - 1, by omega⟩
  have g := w.go f (ps ++ [1]) (by simp; omega) (by omega)
  have m1 := w.pos
  cases r with
  | none =>
    have t := wturnN (a := some (dNt x)) (e := none) w.no g (by omega)
    refine wkeyN (no_nt w.no) (by omega) (form_nt x) (inner_nt w.no) (ε := [some (dNt x), some (tp ps), some (.int 1), some x, some .non]) ?_
    rw [forL_nx (ε1 := [some (dNt x), some (tp ps), some (.int 1), some x, none]) (h1 := []) rfl t, forL_nil]
  | some p =>
    have g' : F_wrong_path_ f [x, tp (ps ++ [1])] = some (.ok (tp (ps ++ (1 :: p)))) := by rw [g]; show some (R.ok (tp (ps ++ [1] ++ p))) = _; rw [List.append_assoc]; rfl
    have t := wturnS (a := some (dNt x)) (e := none) w.no g' (by omega)
    refine wkeyS (qs := ps ++ (1 :: p)) (no_nt w.no) (by omega) (form_nt x) (inner_nt w.no) ?_
    exact forL_rt (ε1 := [some (dNt x), some (tp ps), some (.int 1), some x, none]) (h1 := []) rfl t
def binR (r r' : Option (List Int)) : Option (List Int) := match r with
  | some p => some (1 :: p)
  | none => r'.map (2 :: ·)
theorem wp_bin {j : Bool} {x y : D} {m : Nat} {r r' : Option (List Int)} (w : WP x m r) (w' : WP y m r') : WP (dBin j x y) (m + 1) (binR r r') := by
  refine ⟨no_bin w.no w'.no, by omega, fun f ps h1 h2 => ?_⟩
  obtain ⟨f, rfl⟩ : ∃ m, f = m + 1 := ⟨f - 1, by omega⟩
  have g := w.go f (ps ++ [1]) (by simp; omega) (by omega)
  have g2 := w'.go f (ps ++ [2]) (by simp; omega) (by omega)
  have m1 := w.pos
  cases r with
  | some p =>
    have g' : F_wrong_path_ f [x, tp (ps ++ [1])] = some (.ok (tp (ps ++ (1 :: p)))) := by rw [g]; show some (R.ok (tp (ps ++ [1] ++ p))) = _; rw [List.append_assoc]; rfl
    have t := wturnS (a := some (dBin j x y)) (e := none) w.no g' (by omega)
    refine wkeyS (qs := ps ++ (1 :: p)) (no_bin w.no w'.no) (by omega) (form_bin j x y) (inner_bin w.no w'.no) ?_
    exact forL_rt (ε1 := [some (dBin j x y), some (tp ps), some (.int 1), some x, none]) (h1 := []) rfl t
  | none =>
    have t := wturnN (a := some (dBin j x y)) (e := none) w.no g (by omega)
    cases r' with
    | none =>
      have t2 := wturnN (a := some (dBin j x y)) (e := some .non) w'.no g2 (by omega)
      refine wkeyN (no_bin w.no w'.no) (by omega) (form_bin j x y) (inner_bin w.no w'.no) (ε := [some (dBin j x y), some (tp ps), some (.int 2), some y, some .non]) ?_
      rw [forL_nx (ε1 := [some (dBin j x y), some (tp ps), some (.int 1), some x, none]) (h1 := []) rfl t, forL_nx (ε1 := [some (dBin j x y), some (tp ps), some (.int 2), some y, some .non]) (h1 := []) rfl t2, forL_nil]
    | some p =>
      have g' : F_wrong_path_ f [y, tp (ps ++ [2])] = some (.ok (tp (ps ++ (2 :: p)))) := by rw [g2]; show some (R.ok (tp (ps ++ [2] ++ p))) = _; rw [List.append_assoc]; rfl
      have t2 := wturnS (a := some (dBin j x y)) (e := some .non) w'.no g' (by omega)
      refine wkeyS (qs := ps ++ (2 :: p)) (no_bin w.no w'.no) (by omega) (form_bin j x y) (inner_bin w.no w'.no) ?_
      rw [forL_nx (ε1 := [some (dBin j x y), some (tp ps), some (.int 1), some x, none]) (h1 := []) rfl t]
      exact forL_rt (ε1 := [some (dBin j x y), some (tp ps), some (.int 2), some y, some .non]) (h1 := []) rfl t2
structure DW (d : D) (k : Nat) (p : List Int) : Prop where
  no : noRef d = true
  go : ∀ (f : Nat) (ps : List Int), ps.length + k = 6 → k < f → F_wrong_path_ f [d, tp ps] = some (.ok (tp (ps ++ p)))
theorem dw_0 {d : D} (n : noRef d = true) : DW d 0 [] := by
  refine ⟨n, fun f ps h1 h2 => ?_⟩
  obtain ⟨f, rfl⟩ : ∃ m, f = m + 1 := ⟨f - 1, by omega⟩
  have hn : (6 : Int) ≤ ((ps.map D.int).length : Int) := by rw [List.length_map]; omega
  rw [List.append_nil]
  show endP (m_wrong_path (F_wrong_path_ f) [some d, some (.tup (ps.map .int)), none, none, none] []) = _
  dsimp! only [m_wrong_path, g_MOST_DEPTH, hn]
  exact endP_ok (ints_go ps)
theorem dw_nt {x : D} {k : Nat} {p : List Int} (w : DW x k p) (hk : k ≤ 5) : DW (dNt x) (k + 1) (1 :: p) := by
  refine ⟨no_nt w.no, fun f ps h1 h2 => ?_⟩
  obtain ⟨f, rfl⟩ : ∃ m, f = m + 1 := ⟨f - 1, by omega⟩
  have g := w.go f (ps ++ [1]) (by simp; omega) (by omega)
  have g' : F_wrong_path_ f [x, tp (ps ++ [1])] = some (.ok (tp (ps ++ (1 :: p)))) := by rw [g, List.append_assoc]; rfl
  have t := wturnS (a := some (dNt x)) (e := none) w.no g' (by omega)
  refine wkeyS (qs := ps ++ (1 :: p)) (no_nt w.no) (by omega) (form_nt x) (inner_nt w.no) ?_
  exact forL_rt (ε1 := [some (dNt x), some (tp ps), some (.int 1), some x, none]) (h1 := []) rfl t
theorem dw_l {j : Bool} {x y : D} {k : Nat} {p : List Int} (w : DW x k p) (n : noRef y = true) (hk : k ≤ 5) : DW (dBin j x y) (k + 1) (1 :: p) := by
  refine ⟨no_bin w.no n, fun f ps h1 h2 => ?_⟩
  obtain ⟨f, rfl⟩ : ∃ m, f = m + 1 := ⟨f - 1, by omega⟩
  have g := w.go f (ps ++ [1]) (by simp; omega) (by omega)
  have g' : F_wrong_path_ f [x, tp (ps ++ [1])] = some (.ok (tp (ps ++ (1 :: p)))) := by rw [g, List.append_assoc]; rfl
  have t := wturnS (a := some (dBin j x y)) (e := none) w.no g' (by omega)
  refine wkeyS (qs := ps ++ (1 :: p)) (no_bin w.no n) (by omega) (form_bin j x y) (inner_bin w.no n) ?_
  exact forL_rt (ε1 := [some (dBin j x y), some (tp ps), some (.int 1), some x, none]) (h1 := []) rfl t
theorem dw_r {j : Bool} {x y : D} {k : Nat} {p : List Int} (w1 : WP x 1 none) (w : DW y (k + 1) p) (hk : k ≤ 4) : DW (dBin j x y) (k + 2) (2 :: p) := by
  refine ⟨no_bin w1.no w.no, fun f ps h1 h2 => ?_⟩
  obtain ⟨f, rfl⟩ : ∃ m, f = m + 1 := ⟨f - 1, by omega⟩
  have g0 := w1.go f (ps ++ [1]) (by simp; omega) (by omega)
  have t0 := wturnN (a := some (dBin j x y)) (e := none) w1.no g0 (by omega)
  have g := w.go f (ps ++ [2]) (by simp; omega) (by omega)
  have g' : F_wrong_path_ f [y, tp (ps ++ [2])] = some (.ok (tp (ps ++ (2 :: p)))) := by rw [g, List.append_assoc]; rfl
  have t := wturnS (a := some (dBin j x y)) (e := some .non) w.no g' (by omega)
  refine wkeyS (qs := ps ++ (2 :: p)) (no_bin w1.no w.no) (by omega) (form_bin j x y) (inner_bin w1.no w.no) ?_
  rw [forL_nx (ε1 := [some (dBin j x y), some (tp ps), some (.int 1), some x, none]) (h1 := []) rfl t0]
  exact forL_rt (ε1 := [some (dBin j x y), some (tp ps), some (.int 2), some y, some .non]) (h1 := []) rfl t
end PT
namespace PT
open PySem PD PV PQ
inductive Wd where
  | cd (c : Cd) | bad (b : D) | nt (w : Wd) | bin (j : Bool) (x y : Wd)
def toW : Cd → Wd
  | .nt c => .nt (toW c)
  | .bin j c d => .bin j (toW c) (toW d)
  | c => .cd c
namespace Wd
def d : Wd → D
  | .cd c => c.d
  | .bad b => b
  | .nt w => dNt w.d
  | .bin j x y => dBin j x.d y.d
def m : Wd → Nat
  | .cd c => c.dep
  | .bad _ => 1
  | .nt w => w.m + 1
  | .bin _ x y => max x.m y.m + 1
def wp : Wd → Option (List Int)
  | .cd _ => none
  | .bad _ => some []
  | .nt w => w.wp.map (1 :: ·)
  | .bin _ x y => binR x.wp y.wp
/-- what may stand in the place of a part -/
def Bad (b : D) : Prop := noRef b = true ∧ F_has_form [b] = some (.ok (.bl false)) ∧ noFn b = true
def good : Wd → Prop
  | .cd c => c.ok = true
  | .bad b => Bad b
  | .nt w => w.good
  | .bin _ x y => x.good ∧ y.good
/-- without exchanged parts -/
def whole : Wd → Prop
  | .cd _ => True
  | .bad _ => False
  | .nt w => w.whole
  | .bin _ x y => x.whole ∧ y.whole
def put : Wd → List Int → D → Wd
  | _, [], b => .bad b
  | .nt w, _ :: p, b => .nt (w.put p b)
  | .bin j x y, i :: p, b => if i = 1 then .bin j (x.put p b) y else .bin j x (y.put p b)
  | w, _ :: _, _ => w
def paths : Wd → List (List Int)
  | .nt w => [] :: w.paths.map (1 :: ·)
  | .bin _ x y => [] :: (x.paths.map (1 :: ·) ++ y.paths.map (2 :: ·))
  | _ => [[]]
end Wd
open Wd
theorem toW_d : ∀ c : Cd, (toW c).d = c.d
  | .cmp _ _ _ => rfl
  | .tru => rfl
  | .fnd _ => rfl
  | .nt c => by show dNt (toW c).d = _; rw [toW_d c]; rfl
  | .bin j c d => by show dBin j (toW c).d (toW d).d = _; rw [toW_d c, toW_d d]; rfl
theorem toW_m : ∀ c : Cd, (toW c).m = c.dep
  | .cmp _ _ _ => rfl
  | .tru => rfl
  | .fnd _ => rfl
  | .nt c => by show (toW c).m + 1 = c.dep + 1; rw [toW_m c]
  | .bin j c d => by show max (toW c).m (toW d).m + 1 = max c.dep d.dep + 1; rw [toW_m c, toW_m d]
theorem toW_good : ∀ c : Cd, c.ok = true → (toW c).good
  | .cmp _ _ _, h => h
  | .tru, h => h
  | .fnd _, h => h
  | .nt c, h => toW_good c h
  | .bin j c d, h => by
    have h' := Bool.and_eq_true_iff.mp (show (c.ok && d.ok) = true from h)
    exact ⟨toW_good c h'.1, toW_good d h'.2⟩
theorem toW_whole : ∀ c : Cd, (toW c).whole
  | .cmp _ _ _ => trivial
  | .tru => trivial
  | .fnd _ => trivial
  | .nt c => toW_whole c
  | .bin j c d => ⟨toW_whole c, toW_whole d⟩
theorem wd_wp : ∀ w : Wd, w.good → WP w.d w.m w.wp
  | .cd c, h => wp_cd h
  | .bad b, h => wp_bad h.1 h.2.1
  | .nt w, h => wp_nt (wd_wp w h)
  | .bin j x y, h => by
    have e := wp_bin (j := j) ((wd_wp x h.1).le (Nat.le_max_left x.m y.m)) ((wd_wp y h.2).le (Nat.le_max_right x.m y.m))
    exact e
theorem wd_no (w : Wd) (h : w.good) : noRef w.d = true := (wd_wp w h).no
theorem wd_noFn : ∀ w : Wd, w.good → noFn w.d = true
  | .cd c, h => okD_noFn (okD_c c (c.dep + 3) (Nat.le_refl _))
  | .bad b, h => h.2.2
  | .nt w, h => by
    show (true && (noFn w.d && true)) = true
    rw [wd_noFn w h]; rfl
  | .bin j x y, h => by
    show (true && (noFn x.d && (noFn y.d && true))) = true
    rw [wd_noFn x h.1, wd_noFn y h.2]; rfl
theorem whole_none : ∀ w : Wd, w.whole → w.wp = none
  | .cd _, _ => rfl
  | .bad _, h => h.elim
  | .nt w, h => by show w.wp.map _ = none; rw [whole_none w h]; rfl
  | .bin j x y, h => by
    show binR x.wp y.wp = none
    rw [whole_none x h.1, whole_none y h.2]; rfl
theorem put_good {b : D} (hb : Bad b) : ∀ (w : Wd) (p : List Int), w.good → (w.put p b).good
  | .cd c, [], _ => hb
  | .bad _, [], _ => hb
  | .nt _, [], _ => hb
  | .bin _ _ _, [], _ => hb
  | .cd c, _ :: _, h => h
  | .bad _, _ :: _, h => h
  | .nt w, _ :: p, h => put_good hb w p h
  | .bin j x y, i :: p, h => by
    show (if i = 1 then Wd.bin j (x.put p b) y else .bin j x (y.put p b)).good
    by_cases q : i = 1
    · rw [if_pos q]; exact ⟨put_good hb x p h.1, h.2⟩
    · rw [if_neg q]; exact ⟨h.1, put_good hb y p h.2⟩
theorem put_m {b : D} : ∀ (w : Wd) (p : List Int), 1 ≤ w.m → (∀ v : Wd, v.good → True) → (w.put p b).m ≤ max w.m 1
  | .cd c, [], h, _ => Nat.le_max_right _ _
  | .bad _, [], h, _ => Nat.le_max_right _ _
  | .nt _, [], h, _ => Nat.le_max_right _ _
  | .bin _ _ _, [], h, _ => Nat.le_max_right _ _
  | .cd c, _ :: _, h, _ => Nat.le_max_left _ _
  | .bad _, _ :: _, h, _ => Nat.le_max_left _ _
  | .nt w, _ :: p, h, k => by
    by_cases q : 1 ≤ w.m
    · have := put_m (b := b) w p q k
      show (w.put p b).m + 1 ≤ max (w.m + 1) 1
      omega
    · have z : w.m = 0 := by omega
      cases w with
      | cd c => have := c.dep_pos; exact absurd (show c.dep = 0 from z) (by omega)
      | bad _ => cases z
      | nt _ => cases z
      | bin _ _ _ => cases z
  | .bin j x y, i :: p, h, k => by
    have pos : ∀ v : Wd, 1 ≤ v.m := fun v => by
      cases v with
      | cd c => exact c.dep_pos
      | bad _ => exact Nat.le_refl _
      | nt _ => exact Nat.le_add_left _ _
      | bin _ _ _ => exact Nat.le_add_left _ _
    have h1 := put_m (b := b) x p (pos x) k
    have h2 := put_m (b := b) y p (pos y) k
    have p1 := pos x
    have p2 := pos y
    show (if i = 1 then Wd.bin j (x.put p b) y else .bin j x (y.put p b)).m ≤ max (max x.m y.m + 1) 1
    by_cases q : i = 1
    · rw [if_pos q]
      show max (x.put p b).m y.m + 1 ≤ _
      omega
    · rw [if_neg q]
      show max x.m (y.put p b).m + 1 ≤ _
      omega
def bef : List Int → List Int → Prop
  | [], _ => True
  | _ :: _, [] => False
  | a :: p, c :: q => a < c ∨ (a = c ∧ bef p q)
theorem bef_refl : ∀ p, bef p p
  | [] => trivial
  | _ :: p => .inr ⟨rfl, bef_refl p⟩
theorem paths_pw : ∀ w : Wd, (w.paths).Pairwise bef
  | .cd _ => List.pairwise_singleton _ _
  | .bad _ => List.pairwise_singleton _ _
  | .nt w => by
    refine List.pairwise_cons.mpr ⟨fun _ _ => trivial, List.pairwise_map.mpr ((paths_pw w).imp fun h => .inr ⟨rfl, h⟩)⟩
  | .bin _ x y => by
    refine List.pairwise_cons.mpr ⟨fun _ _ => trivial, List.pairwise_append.mpr ⟨List.pairwise_map.mpr ((paths_pw x).imp fun h => .inr ⟨rfl, h⟩), List.pairwise_map.mpr ((paths_pw y).imp fun h => .inr ⟨rfl, h⟩), fun a ha c hc => ?_⟩⟩
    obtain ⟨a', _, rfl⟩ := List.mem_map.mp ha
    obtain ⟨c', _, rfl⟩ := List.mem_map.mp hc
    exact .inl (by decide)
theorem paths_bef {w : Wd} {i j : Nat} {p q : List Int} (hi : w.paths[i]? = some p) (hj : w.paths[j]? = some q) (h : i ≤ j) : bef p q := by
  by_cases e : i = j
  · subst e
    rw [hi] at hj
    cases hj
    exact bef_refl p
  · obtain ⟨h1, e1⟩ := List.getElem?_eq_some_iff.mp hi
    obtain ⟨h2, e2⟩ := List.getElem?_eq_some_iff.mp hj
    rw [← e1, ← e2]
    exact List.pairwise_iff_getElem.mp (paths_pw w) i j h1 h2 (by omega)
theorem put_one {b : D} : ∀ (w : Wd) (p : List Int), w.whole → p ∈ w.paths → (w.put p b).wp = some p
  | .cd _, [], _, _ => rfl
  | .bad _, [], _, _ => rfl
  | .nt _, [], _, _ => rfl
  | .bin _ _ _, [], _, _ => rfl
  | .cd _, _ :: _, _, h => absurd h (by simp [paths])
  | .bad _, _ :: _, h, _ => h.elim
  | .nt w, i :: p, h, hp => by
    have hp' : i :: p ∈ w.paths.map (1 :: ·) := (List.mem_cons.mp hp).resolve_left (by simp)
    obtain ⟨p', h1, e⟩ := List.mem_map.mp hp'
    cases e
    show (w.put p b).wp.map _ = _
    rw [put_one w p h h1]; rfl
  | .bin j x y, i :: p, h, hp => by
    have hp' := (List.mem_cons.mp hp).resolve_left (by simp)
    rcases List.mem_append.mp hp' with hp' | hp'
    · obtain ⟨p', h1, e⟩ := List.mem_map.mp hp'
      cases e
      show (Wd.bin j (x.put p b) y).wp = _
      show binR (x.put p b).wp y.wp = _
      rw [put_one x p h.1 h1]; rfl
    · obtain ⟨p', h1, e⟩ := List.mem_map.mp hp'
      cases e
      show (Wd.bin j x (y.put p b)).wp = _
      show binR x.wp (y.put p b).wp = _
      rw [whole_none x h.1, put_one y p h.2 h1]; rfl
theorem put_two {b : D} : ∀ (w : Wd) (p q : List Int), w.whole → p ∈ w.paths → q ∈ w.paths → bef p q → ¬ q.take p.length = p → ((w.put q b).put p b).wp = some p ∧ p ∈ (w.put q b).paths
  | w, [], q, _, _, _, _, n => absurd rfl n
  | .cd _, _ :: _, _, _, h, _, _, _ => absurd h (by simp [paths])
  | .bad _, _ :: _, _, h, _, _, _, _ => h.elim
  | .nt w, i :: p, [], _, _, _, o, _ => o.elim
  | .bin _ _ _, i :: p, [], _, _, _, o, _ => o.elim
  | .nt w, i :: p, k :: q, h, hp, hq, o, n => by
    have hp' : i :: p ∈ w.paths.map (1 :: ·) := (List.mem_cons.mp hp).resolve_left (by simp)
    have hq' : k :: q ∈ w.paths.map (1 :: ·) := (List.mem_cons.mp hq).resolve_left (by simp)
    obtain ⟨_, h1, e⟩ := List.mem_map.mp hp'
    cases e
    obtain ⟨_, h2, e⟩ := List.mem_map.mp hq'
    cases e
    have o' : bef p q := by
      rcases o with o | ⟨_, o⟩
      · exact absurd o (by decide)
      · exact o
    obtain ⟨a1, a2⟩ := put_two w p q h h1 h2 o' fun e => n (by show 1 :: q.take p.length = 1 :: p; rw [e])
    refine ⟨?_, List.mem_cons_of_mem _ (List.mem_map.mpr ⟨p, a2, rfl⟩)⟩
    show ((w.put q b).put p b).wp.map _ = _
    rw [a1]; rfl
  | .bin j x y, i :: p, k :: q, h, hp, hq, o, n => by
    have hp' := (List.mem_cons.mp hp).resolve_left (by simp)
    have hq' := (List.mem_cons.mp hq).resolve_left (by simp)
    rcases List.mem_append.mp hp' with hp' | hp'
    · obtain ⟨_, h1, e⟩ := List.mem_map.mp hp'
      cases e
      rcases List.mem_append.mp hq' with hq' | hq'
      · obtain ⟨_, h2, e⟩ := List.mem_map.mp hq'
        cases e
        have o' : bef p q := by
          rcases o with o | ⟨_, o⟩
          · exact absurd o (by decide)
          · exact o
        obtain ⟨a1, a2⟩ := put_two x p q h.1 h1 h2 o' fun e => n (by show 1 :: q.take p.length = 1 :: p; rw [e])
        refine ⟨?_, List.mem_cons_of_mem _ (List.mem_append_left _ (List.mem_map.mpr ⟨p, a2, rfl⟩))⟩
        show binR ((x.put q b).put p b).wp y.wp = _
        rw [a1]; rfl
      · obtain ⟨_, h2, e⟩ := List.mem_map.mp hq'
        cases e
        refine ⟨?_, List.mem_cons_of_mem _ (List.mem_append_left _ (List.mem_map.mpr ⟨p, h1, rfl⟩))⟩
        show binR (x.put p b).wp (y.put q b).wp = _
        rw [put_one x p h.1 h1]; rfl
    · obtain ⟨_, h1, e⟩ := List.mem_map.mp hp'
      cases e
      rcases List.mem_append.mp hq' with hq' | hq'
      · obtain ⟨_, h2, e⟩ := List.mem_map.mp hq'
        cases e
        rcases o with o | ⟨o, _⟩
        · exact absurd o (by decide)
        · exact absurd o (by decide)
      · obtain ⟨_, h2, e⟩ := List.mem_map.mp hq'
        cases e
        have o' : bef p q := by
          rcases o with o | ⟨_, o⟩
          · exact absurd o (by decide)
          · exact o
        obtain ⟨a1, a2⟩ := put_two y p q h.2 h1 h2 o' fun e => n (by show 2 :: q.take p.length = 2 :: p; rw [e])
        refine ⟨?_, List.mem_cons_of_mem _ (List.mem_append_right _ (List.mem_map.mpr ⟨p, a2, rfl⟩))⟩
        show binR x.wp ((y.put q b).put p b).wp = _
        rw [whole_none x h.1, a1]; rfl
end PT
namespace PT
open PySem PD PV PQ Wd
def N__law_paths : List Str := ["_law_c", "_law_path", "_law_found", "_law_at"]
def mb__law_paths_0 (F : PF) : MS :=
    (msAsg (mBin dAdd (mVar 2) (mCallP F (mCons (mBin dIx (mVar 0) (mVar 3)) (mCons (mBin dAdd (mVar 1) (mTup (mCons (mVar 3) mNil))) mNil)))) (mgName 2))
def m__law_paths (F : PF) : MS :=
    (msSeq (msAsg (mLst (mCons (mVar 1) mNil)) (mgName 2))
    (msSeq (msIf (mTst (mBin dInA (mBin dIx (mVar 0) (mC (.int 0))) (mTup (mCons (mC (.str [110, 111, 116])) (mCons (mC (.str [97, 110, 100])) (mCons (mC (.str [111, 114])) mNil)))))) (msFor (miR2 (mCons (mC (.int 1)) (mCons (mCall dLen (mCons (mVar 0) mNil)) mNil))) (mgName 3) (mb__law_paths_0 F)) msNil)
    (msRet (mVar 2))))
def F__law_paths_ : Nat → PF
  | 0 => fun _ => none
  | t + 1 => runP N__law_paths.length (m__law_paths (F__law_paths_ t))
def F__law_paths : PF := F__law_paths_ 12
def N__law_put : List Str := ["_law_c", "_law_path", "_law_part"]
def m__law_put (F : PF) : MS :=
    (msSeq (msIf (mTst (mBin dEq (mVar 1) (mTup mNil))) (msRet (mVar 2)) msNil)
    (msRet (mBin dAdd (mBin dAdd (mSl (mVar 0) mNoP (mSmP (mBin dIx (mVar 1) (mC (.int 0))))) (mTup (mCons (mCallP F (mCons (mBin dIx (mVar 0) (mBin dIx (mVar 1) (mC (.int 0)))) (mCons (mSl (mVar 1) (mSmP (mC (.int 1))) mNoP) (mCons (mVar 2) mNil)))) mNil))) (mSl (mVar 0) (mSmP (mBin dAdd (mBin dIx (mVar 1) (mC (.int 0))) (mC (.int 1)))) mNoP))))
def F__law_put_ : Nat → PF
  | 0 => fun _ => none
  | t + 1 => runP N__law_put.length (m__law_put (F__law_put_ t))
def F__law_put : PF := F__law_put_ 12
theorem okE_tp (ps : List Int) : okE 2 (tp ps) = true := okE_tupL (t := 1) fun d hd => by
  obtain ⟨i, _, rfl⟩ := List.mem_map.mp hd
  rfl
theorem tp_eq {h : EH} (ps qs : List Int) : ∃ b, dEq h (tp ps) (tp qs) = some (.bl b) ∧ dNe h (tp ps) (tp qs) = some (.bl (!b)) ∧ (b = true ↔ ps = qs) := by
  obtain ⟨b, e1, e2, e3⟩ := eq_data (h := h) (okE_tp ps) (okE_tp qs) (by decide) (by decide)
  refine ⟨b, e1, e2, e3.trans ⟨fun e => ?_, fun e => by rw [e]⟩⟩
  have e' : ps.map D.int = qs.map D.int := D.tup.inj e
  have inj : ∀ {a b : List Int}, a.map D.int = b.map D.int → a = b := by
    intro a
    induction a with
    | nil => intro b e; cases b with
      | nil => rfl
      | cons _ _ => cases e
    | cons x a ih => intro b e; cases b with
      | nil => cases e
      | cons y b =>
        injection e with e1 e2
        rw [D.int.inj e1, ih e2]
  exact inj e'
theorem eq_nil {h : EH} : dEq h (.tup []) (.tup []) = some (.bl true) := by
  obtain ⟨b, e, _, i⟩ := tp_eq (h := h) [] []
  rw [i.mpr rfl] at e
  exact e
theorem eq_cons {h : EH} (i : Int) (p : List Int) : dEq h (.tup (.int i :: p.map .int)) (.tup []) = some (.bl false) := by
  obtain ⟨b, e, _, k⟩ := tp_eq (h := h) (i :: p) []
  cases b with
  | true => exact absurd (k.mp rfl) (by simp)
  | false => exact e
theorem cut1_hi {i : Int} {p : List Int} : cutD (D.int i :: p.map .int) (some 1) none = p.map .int := cut_hi (a := 1) (by simp)
theorem c2a {a x : D} : cutD [a, x] none (some 1) = [a] := rfl
theorem c2b {a x : D} : cutD [a, x] (some 2) none = [] := rfl
theorem c3a {a x y : D} : cutD [a, x, y] none (some 1) = [a] := rfl
theorem c3b {a x y : D} : cutD [a, x, y] (some 2) none = [y] := rfl
theorem c3c {a x y : D} : cutD [a, x, y] none (some 2) = [a, x] := rfl
theorem c3d {a x y : D} : cutD [a, x, y] (some 3) none = [] := rfl
theorem i11 : (1 : Int) + 1 = 2 := rfl
theorem i21 : (2 : Int) + 1 = 3 := rfl
theorem at11 {h : EH} {a b : D} : dAdd h (.tup [a]) (.tup [b]) = some (.tup [a, b]) := by rw [add_tup (by simp)]; rfl
theorem at20 {h : EH} {a b : D} : dAdd h (.tup [a, b]) (.tup []) = some (.tup [a, b]) := by rw [add_tup (by simp)]; rfl
theorem at21 {h : EH} {a b c : D} : dAdd h (.tup [a, b]) (.tup [c]) = some (.tup [a, b, c]) := by rw [add_tup (by simp)]; rfl
theorem at30 {h : EH} {a b c : D} : dAdd h (.tup [a, b, c]) (.tup []) = some (.tup [a, b, c]) := by rw [add_tup (by simp)]; rfl
theorem put_go {x b : D} (n : noRef x = true) (nb : noRef b = true) (p : List Int) : PD.noRef.go [x, .tup (p.map .int), b] = true := by
  show (PD.noRef x && (PD.noRef.go (p.map D.int) && (PD.noRef b && true))) = true
  rw [n, ints_go, nb]; rfl
theorem putD_ok {b : D} (hb : Bad b) : ∀ (w : Wd) (p : List Int) (f : Nat), w.good → p ∈ w.paths → p.length < f → F__law_put_ f [w.d, tp p, b] = some (.ok ((w.put p b).d))
  | w, [], f, hg, hp, hf => by
    obtain ⟨f, rfl⟩ : ∃ m, f = m + 1 := ⟨f - 1, by omega⟩
    have e : (w.put [] b).d = b := by cases w <;> rfl
    rw [e]
    show endP (m__law_put (F__law_put_ f) [some w.d, some (.tup []), some b] []) = _
    simp! only [m__law_put, eq_nil]
    exact endP_ok hb.1
  | .cd _, _ :: _, f, hg, hp, hf => absurd hp (by simp [paths])
  | .bad _, _ :: _, f, hg, hp, hf => absurd hp (by simp [paths])
  | .nt w, i :: p, f, hg, hp, hf => by
    obtain ⟨f, rfl⟩ : ∃ m, f = m + 1 := ⟨f - 1, by omega⟩
    have hp' : i :: p ∈ w.paths.map (1 :: ·) := (List.mem_cons.mp hp).resolve_left (by simp)
    obtain ⟨_, h1, e⟩ := List.mem_map.mp hp'
    cases e
    have nw := wd_no w hg
    have nn := wd_no _ (put_good hb w p hg)
    have ih := callPK_ok (F := F__law_put_ f) (h := []) (putD_ok hb w p f hg h1 (by simp only [List.length_cons] at hf; omega)) (put_go nw hb.1 p)
    unfold tp at ih
    have ec := eq_cons (h := []) 1 p
    show endP (m__law_put (F__law_put_ f) [some (.tup [.str [110, 111, 116], w.d]), some (.tup (.int 1 :: p.map .int)), some b] []) = _
    simp! only [m__law_put, ec, atl0, atl1, c2a, cut1_hi, ih, at11, i11, c2b, at20]
    exact endP_ok (no_nt nn)
  | .bin j x y, i :: p, f, hg, hp, hf => by
    obtain ⟨f, rfl⟩ : ∃ m, f = m + 1 := ⟨f - 1, by omega⟩
    have hp' := (List.mem_cons.mp hp).resolve_left (by simp)
    have nx := wd_no x hg.1
    have ny := wd_no y hg.2
    rcases List.mem_append.mp hp' with hp' | hp'
    · obtain ⟨_, h1, e⟩ := List.mem_map.mp hp'
      cases e
      have nn := wd_no _ (put_good hb x p hg.1)
      have ih := callPK_ok (F := F__law_put_ f) (h := []) (putD_ok hb x p f hg.1 h1 (by simp only [List.length_cons] at hf; omega)) (put_go nx hb.1 p)
      unfold tp at ih
      have ec := eq_cons (h := []) 1 p
      show endP (m__law_put (F__law_put_ f) [some (.tup [.str (jw j), x.d, y.d]), some (.tup (.int 1 :: p.map .int)), some b] []) = _
      simp! only [m__law_put, ec, atl0, atl1, c3a, cut1_hi, ih, at11, i11, c3b, at21]
      exact endP_ok (no_bin nn ny)
    · obtain ⟨_, h1, e⟩ := List.mem_map.mp hp'
      cases e
      have nn := wd_no _ (put_good hb y p hg.2)
      have ih := callPK_ok (F := F__law_put_ f) (h := []) (putD_ok hb y p f hg.2 h1 (by simp only [List.length_cons] at hf; omega)) (put_go ny hb.1 p)
      unfold tp at ih
      have ec := eq_cons (h := []) 2 p
      show endP (m__law_put (F__law_put_ f) [some (.tup [.str (jw j), x.d, y.d]), some (.tup (.int 2 :: p.map .int)), some b] []) = _
      simp! only [m__law_put, ec, atl0, atl2, c3c, cut1_hi, ih, at21, i21, c3d, at30]
      exact endP_ok (no_bin nx nn)
theorem in3 {h : EH} {z : List Nat} : dInA h (.str z) (.tup [.str [110, 111, 116], .str [97, 110, 100], .str [111, 114]]) = some (.bl (decide (z ∈ [[110, 111, 116], [97, 110, 100], [111, 114]]))) := in_strs [[110, 111, 116], [97, 110, 100], [111, 114]]
theorem tp_add {h : EH} (ps : List Int) (i : Int) (l : ps.length ≤ 100) : dAdd h (tp ps) (.tup [.int i]) = some (tp (ps ++ [i])) := by
  unfold tp
  rw [add_tup (by rw [List.length_map]; simp; omega), List.map_append]; rfl
theorem m_pos : ∀ v : Wd, 1 ≤ v.m
  | .cd c => c.dep_pos
  | .bad _ => Nat.le_refl _
  | .nt _ => Nat.le_add_left _ _
  | .bin _ _ _ => Nat.le_add_left _ _
theorem two_le {m : Nat} (h : 1 ≤ m) : 2 ≤ 2 ^ m := by
  have : 2 ^ 1 ≤ 2 ^ m := Nat.pow_le_pow_right (by decide) h
  omega
theorem paths_len : ∀ w : Wd, (w.paths).length + 1 ≤ 2 ^ w.m
  | .cd c => two_le c.dep_pos
  | .bad _ => Nat.le_refl _
  | .nt w => by
    have := paths_len w
    show (w.paths.map _).length + 1 + 1 ≤ 2 ^ (w.m + 1)
    rw [List.length_map, Nat.pow_succ]
    have : 1 ≤ 2 ^ w.m := Nat.one_le_two_pow
    omega
  | .bin j x y => by
    have h1 := paths_len x
    have h2 := paths_len y
    have p1 : 2 ^ x.m ≤ 2 ^ max x.m y.m := Nat.pow_le_pow_right (by decide) (Nat.le_max_left _ _)
    have p2 : 2 ^ y.m ≤ 2 ^ max x.m y.m := Nat.pow_le_pow_right (by decide) (Nat.le_max_right _ _)
    show (x.paths.map _ ++ y.paths.map _).length + 1 + 1 ≤ 2 ^ (max x.m y.m + 1)
    rw [List.length_append, List.length_map, List.length_map, Nat.pow_succ]
    omega
theorem path_lt : ∀ (w : Wd) (p : List Int), p ∈ w.paths → p.length < w.m
  | .cd c, p, h => by
    have : p = [] := by simpa [paths] using h
    subst this; exact c.dep_pos
  | .bad _, p, h => by
    have : p = [] := by simpa [paths] using h
    subst this; exact Nat.one_pos
  | .nt w, p, h => by
    rcases List.mem_cons.mp h with rfl | h
    · exact Nat.succ_pos _
    · obtain ⟨q, hq, rfl⟩ := List.mem_map.mp h
      have := path_lt w q hq
      show q.length + 1 < w.m + 1
      omega
  | .bin j x y, p, h => by
    rcases List.mem_cons.mp h with rfl | h
    · exact Nat.succ_pos _
    · rcases List.mem_append.mp h with h | h
      · obtain ⟨q, hq, rfl⟩ := List.mem_map.mp h
        have := path_lt x q hq
        show q.length + 1 < max x.m y.m + 1
        omega
      · obtain ⟨q, hq, rfl⟩ := List.mem_map.mp h
        have := path_lt y q hq
        show q.length + 1 < max x.m y.m + 1
        omega
def pd (ps : List Int) (w : Wd) : List D := w.paths.map fun p => tp (ps ++ p)
theorem pd_no (ps : List Int) (w : Wd) : noRef (.lst (pd ps w)) = true := noRef_all fun d hd => by
  obtain ⟨p, _, rfl⟩ := List.mem_map.mp hd
  exact ints_go _
theorem pd_nt (ps : List Int) (w : Wd) : pd ps (.nt w) = tp ps :: pd (ps ++ [1]) w := by
  show tp (ps ++ []) :: (w.paths.map (1 :: ·)).map (fun p => tp (ps ++ p)) = _
  rw [List.append_nil, List.map_map]
  refine congrArg _ (List.map_congr_left fun p _ => ?_)
  show tp (ps ++ (1 :: p)) = tp (ps ++ [1] ++ p)
  rw [List.append_assoc]; rfl
theorem pd_bin (ps : List Int) (j : Bool) (x y : Wd) : pd ps (.bin j x y) = tp ps :: (pd (ps ++ [1]) x ++ pd (ps ++ [2]) y) := by
  show tp (ps ++ []) :: ((x.paths.map (1 :: ·) ++ y.paths.map (2 :: ·))).map (fun p => tp (ps ++ p)) = _
  rw [List.append_nil, List.map_append, List.map_map, List.map_map]
  refine congrArg _ (congr (congrArg _ (List.map_congr_left fun p _ => ?_)) (List.map_congr_left fun p _ => ?_))
  · show tp (ps ++ (1 :: p)) = tp (ps ++ [1] ++ p)
    rw [List.append_assoc]; rfl
  · show tp (ps ++ (2 :: p)) = tp (ps ++ [2] ++ p)
    rw [List.append_assoc]; rfl
theorem pd_len (ps : List Int) (w : Wd) (h : w.m ≤ 10) : (pd ps w).length ≤ 1100 := by
  have := paths_len w
  have : 2 ^ w.m ≤ 2 ^ 10 := Nat.pow_le_pow_right (by decide) h
  show (w.paths.map _).length ≤ 1100
  rw [List.length_map]; omega
theorem paths_ok : ∀ (c : Cd) (f : Nat) (ps : List Int), c.dep ≤ f → c.dep ≤ 10 → ps.length + c.dep ≤ 50 → F__law_paths_ f [c.d, tp ps] = some (.ok (.lst (pd ps (toW c))))
  | .cmp o a b, f, ps, hf, hd, hl => by
    obtain ⟨f, rfl⟩ : ∃ m, f = m + 1 := ⟨f - 1, by have : 1 ≤ f := hf; omega⟩
    have e : pd ps (toW (.cmp o a b)) = [tp ps] := by show [tp (ps ++ [])] = _; rw [List.append_nil]
    rw [e]
    show endP (m__law_paths (F__law_paths_ f) [some (Cd.cmp o a b).d, some (tp ps), none, none] []) = _
    simp! only [m__law_paths, Cd.d, atl0, in3, cw_nin]
    refine endP_ok ?_
    show (PD.noRef.go (ps.map D.int) && true) = true
    rw [ints_go]; rfl
  | .tru, f, ps, hf, hd, hl => by
    obtain ⟨f, rfl⟩ : ∃ m, f = m + 1 := ⟨f - 1, by have : 1 ≤ f := hf; omega⟩
    have e : pd ps (toW .tru) = [tp ps] := by show [tp (ps ++ [])] = _; rw [List.append_nil]
    rw [e]
    show endP (m__law_paths (F__law_paths_ f) [some Cd.tru.d, some (tp ps), none, none] []) = _
    simp! only [m__law_paths, Cd.d, atl0, in3, show ¬ ([116, 114, 117, 101] ∈ [[110, 111, 116], [97, 110, 100], [111, 114]]) by decide]
    refine endP_ok ?_
    show (PD.noRef.go (ps.map D.int) && true) = true
    rw [ints_go]; rfl
  | .fnd z, f, ps, hf, hd, hl => by
    obtain ⟨f, rfl⟩ : ∃ m, f = m + 1 := ⟨f - 1, by have : 1 ≤ f := hf; omega⟩
    have e : pd ps (toW (.fnd z)) = [tp ps] := by show [tp (ps ++ [])] = _; rw [List.append_nil]
    rw [e]
    show endP (m__law_paths (F__law_paths_ f) [some (Cd.fnd z).d, some (tp ps), none, none] []) = _
    simp! only [m__law_paths, Cd.d, atl0, in3, show ¬ ([102, 111, 117, 110, 100] ∈ [[110, 111, 116], [97, 110, 100], [111, 114]]) by decide]
    refine endP_ok ?_
    show (PD.noRef.go (ps.map D.int) && true) = true
    rw [ints_go]; rfl
  | .nt c, f, ps, hf, hd, hl => by
    have hf' : c.dep + 1 ≤ f := hf
    have hd' : c.dep + 1 ≤ 10 := hd
    have hl' : ps.length + (c.dep + 1) ≤ 50 := hl
    obtain ⟨f, rfl⟩ : ∃ m, f = m + 1 := ⟨f - 1, by omega⟩
    have ih := callPK_ok (F := F__law_paths_ f) (h := []) (paths_ok c f (ps ++ [1]) (by omega) (by omega) (by simp; omega)) (wpgo c.noRef (ps ++ [1]))
    have ll := pd_len (ps ++ [1]) (toW c) (by rw [toW_m]; omega)
    have ta := fun h => tp_add (h := h) ps 1 (by omega)
    have ad : ∀ h : EH, dAdd h (.lst [tp ps]) (.lst (pd (ps ++ [1]) (toW c))) = some (.lst (tp ps :: pd (ps ++ [1]) (toW c))) := fun h => by rw [add_lst (by simp; omega)]; rfl
    have t1 : mb__law_paths_0 (F__law_paths_ f) [some (.tup [.str [110, 111, 116], c.d]), some (tp ps), some (.lst [tp ps]), some (.int 1)] [] = some (.nx [some (.tup [.str [110, 111, 116], c.d]), some (tp ps), some (.lst (tp ps :: pd (ps ++ [1]) (toW c))), some (.int 1)], []) := by
      simp! only [mb__law_paths_0, atl1, ta, ih, ad]
    have lp : forL (mgName 3) (mb__law_paths_0 (F__law_paths_ f)) (rngD 1 1) [some (.tup [.str [110, 111, 116], c.d]), some (tp ps), some (.lst [tp ps]), none] [] = some (.nx [some (.tup [.str [110, 111, 116], c.d]), some (tp ps), some (.lst (tp ps :: pd (ps ++ [1]) (toW c))), some (.int 1)], []) := by
      rw [show rngD 1 1 = [.int 1] from rfl, forL_nx (ε1 := [some (.tup [.str [110, 111, 116], c.d]), some (tp ps), some (.lst [tp ps]), some (.int 1)]) (h1 := []) rfl t1, forL_nil]
    have e : pd ps (toW (.nt c)) = tp ps :: pd (ps ++ [1]) (toW c) := pd_nt ps (toW c)
    have nr := pd_no ps (toW (.nt c))
    rw [e] at nr ⊢
    show endP (m__law_paths (F__law_paths_ f) [some (.tup [.str [110, 111, 116], c.d]), some (tp ps), none, none] []) = _
    simp! only [m__law_paths, atl0, in3, show ([110, 111, 116] ∈ [[110, 111, 116], [97, 110, 100], [111, 114]]) by decide, len2, ir2K_ok (i := 1) (j := 2) (by decide), lp]
    exact endP_ok nr
  | .bin j c d, f, ps, hf, hd, hl => by
    have hf' : max c.dep d.dep + 1 ≤ f := hf
    have hd' : max c.dep d.dep + 1 ≤ 10 := hd
    have hl' : ps.length + (max c.dep d.dep + 1) ≤ 50 := hl
    obtain ⟨f, rfl⟩ : ∃ m, f = m + 1 := ⟨f - 1, by omega⟩
    have ih1 := callPK_ok (F := F__law_paths_ f) (h := []) (paths_ok c f (ps ++ [1]) (by omega) (by omega) (by simp; omega)) (wpgo c.noRef (ps ++ [1]))
    have ih2 := callPK_ok (F := F__law_paths_ f) (h := []) (paths_ok d f (ps ++ [2]) (by omega) (by omega) (by simp; omega)) (wpgo d.noRef (ps ++ [2]))
    have l1 := pd_len (ps ++ [1]) (toW c) (by rw [toW_m]; omega)
    have l2 := pd_len (ps ++ [2]) (toW d) (by rw [toW_m]; omega)
    have ta1 := fun h => tp_add (h := h) ps 1 (by omega)
    have ta2 := fun h => tp_add (h := h) ps 2 (by omega)
    have ad1 : ∀ h : EH, dAdd h (.lst [tp ps]) (.lst (pd (ps ++ [1]) (toW c))) = some (.lst (tp ps :: pd (ps ++ [1]) (toW c))) := fun h => by rw [add_lst (by simp; omega)]; rfl
    have ad2 : ∀ h : EH, dAdd h (.lst (tp ps :: pd (ps ++ [1]) (toW c))) (.lst (pd (ps ++ [2]) (toW d))) = some (.lst (tp ps :: (pd (ps ++ [1]) (toW c) ++ pd (ps ++ [2]) (toW d)))) := fun h => by rw [add_lst (by simp; omega)]; rfl
    have t1 : mb__law_paths_0 (F__law_paths_ f) [some (.tup [.str (jw j), c.d, d.d]), some (tp ps), some (.lst [tp ps]), some (.int 1)] [] = some (.nx [some (.tup [.str (jw j), c.d, d.d]), some (tp ps), some (.lst (tp ps :: pd (ps ++ [1]) (toW c))), some (.int 1)], []) := by
      simp! only [mb__law_paths_0, atl1, ta1, ih1, ad1]
    have t2 : mb__law_paths_0 (F__law_paths_ f) [some (.tup [.str (jw j), c.d, d.d]), some (tp ps), some (.lst (tp ps :: pd (ps ++ [1]) (toW c))), some (.int 2)] [] = some (.nx [some (.tup [.str (jw j), c.d, d.d]), some (tp ps), some (.lst (tp ps :: (pd (ps ++ [1]) (toW c) ++ pd (ps ++ [2]) (toW d)))), some (.int 2)], []) := by
      simp! only [mb__law_paths_0, atl2, ta2, ih2, ad2]
    have lp : forL (mgName 3) (mb__law_paths_0 (F__law_paths_ f)) (rngD 1 2) [some (.tup [.str (jw j), c.d, d.d]), some (tp ps), some (.lst [tp ps]), none] [] = some (.nx [some (.tup [.str (jw j), c.d, d.d]), some (tp ps), some (.lst (tp ps :: (pd (ps ++ [1]) (toW c) ++ pd (ps ++ [2]) (toW d)))), some (.int 2)], []) := by
      rw [show rngD 1 2 = [.int 1, .int 2] from rfl, forL_nx (ε1 := [some (.tup [.str (jw j), c.d, d.d]), some (tp ps), some (.lst [tp ps]), some (.int 1)]) (h1 := []) rfl t1, forL_nx (ε1 := [some (.tup [.str (jw j), c.d, d.d]), some (tp ps), some (.lst (tp ps :: pd (ps ++ [1]) (toW c))), some (.int 2)]) (h1 := []) rfl t2, forL_nil]
    have e : pd ps (toW (.bin j c d)) = tp ps :: (pd (ps ++ [1]) (toW c) ++ pd (ps ++ [2]) (toW d)) := pd_bin ps j (toW c) (toW d)
    have nr := pd_no ps (toW (.bin j c d))
    rw [e] at nr ⊢
    show endP (m__law_paths (F__law_paths_ f) [some (.tup [.str (jw j), c.d, d.d]), some (tp ps), none, none] []) = _
    simp! only [m__law_paths, atl0, in3, jw_in, len3, ir2K_ok (i := 1) (j := 3) (by decide), lp]
    exact endP_ok nr
end PT
namespace K06
open PySem PySem.Spec PyProof.Rows L2 PD
variable [LamTab]
def lam_0 : LamD := ⟨"law.<locals>.<lambda>", lamArgs lamE0, lamBody lamE0, lamScope lamE0, ["_law_wrong"], false⟩
def lam_1 : LamD := ⟨"law.<locals>.<lambda>", lamArgs lamE1, lamBody lamE1, lamScope lamE1, ["_law_wrong"], true⟩
def lam_2 : LamD := ⟨"law.<locals>.<lambda>", lamArgs lamE2, lamBody lamE2, lamScope lamE2, ["_law_wrong"], true⟩
def lam_3 : LamD := ⟨"law.<locals>.<lambda>", lamArgs lamE3, lamBody lamE3, lamScope lamE3, ["_law_deep"], false⟩
def lams : Nat → LamD
  | 0 => lam_0
  | 1 => lam_1
  | 2 => lam_2
  | _ => lam_3
structure CtxT (P : Program) (K : PySem.W.Frag) (w : World) (mg : Str → Option Value) : Prop where
  d_inner_parts : ∃ f fd, FunD K "inner_parts" "inner_parts" (defArgs (top 22)) (defBody (top 22)) (defScope (top 22)) [] [] f fd ∧ mg "inner_parts" = some (.ref f)
  d_is_integer : ∃ f fd, FunD K "is_integer" "is_integer" (defArgs (top 11)) (defBody (top 11)) (defScope (top 11)) [] [] f fd ∧ mg "is_integer" = some (.ref f)
  d_is_constant : ∃ f fd, FunD K "is_constant" "is_constant" (defArgs (top 12)) (defBody (top 12)) (defScope (top 12)) [] [] f fd ∧ mg "is_constant" = some (.ref f)
  d_is_name : ∃ f fd, FunD K "is_name" "is_name" (defArgs (top 10)) (defBody (top 10)) (defScope (top 10)) [] [] f fd ∧ mg "is_name" = some (.ref f)
  d_is_column : ∃ f fd, FunD K "is_column" "is_column" (defArgs (top 13)) (defBody (top 13)) (defScope (top 13)) [] [] f fd ∧ mg "is_column" = some (.ref f)
  d_is_plain : ∃ f fd, FunD K "is_plain" "is_plain" (defArgs (top 14)) (defBody (top 14)) (defScope (top 14)) [] [] f fd ∧ mg "is_plain" = some (.ref f)
  d_is_value : ∃ f fd, FunD K "is_value" "is_value" (defArgs (top 15)) (defBody (top 15)) (defScope (top 15)) [] [] f fd ∧ mg "is_value" = some (.ref f)
  d_has_form : ∃ f fd, FunD K "has_form" "has_form" (defArgs (top 21)) (defBody (top 21)) (defScope (top 21)) [] [] f fd ∧ mg "has_form" = some (.ref f)
  d_wrong_path : ∃ f fd, FunD K "wrong_path" "wrong_path" (defArgs (top 23)) (defBody (top 23)) (defScope (top 23)) [] [] f fd ∧ mg "wrong_path" = some (.ref f)
  d_check_condition : ∃ f fd, FunD K "check_condition" "check_condition" (defArgs (top 24)) (defBody (top 24)) (defScope (top 24)) [] [] f fd ∧ mg "check_condition" = some (.ref f)
  d_integer_text : ∃ f fd, FunD K "integer_text" "integer_text" (defArgs (top 16)) (defBody (top 16)) (defScope (top 16)) [] [] f fd ∧ mg "integer_text" = some (.ref f)
  d_value_text : ∃ f fd, FunD K "value_text" "value_text" (defArgs (top 17)) (defBody (top 17)) (defScope (top 17)) [] [] f fd ∧ mg "value_text" = some (.ref f)
  d_text_of : ∃ f fd, FunD K "text_of" "text_of" (defArgs (top 25)) (defBody (top 25)) (defScope (top 25)) [] [] f fd ∧ mg "text_of" = some (.ref f)
  d_condition_text : ∃ f fd, FunD K "condition_text" "condition_text" (defArgs (top 26)) (defBody (top 26)) (defScope (top 26)) [] [] f fd ∧ mg "condition_text" = some (.ref f)
  d_all_parts : ∃ f fd, FunD K "all_parts" "all_parts" (defArgs (top 27)) (defBody (top 27)) (defScope (top 27)) [] [] f fd ∧ mg "all_parts" = some (.ref f)
  d_values_in : ∃ f fd, FunD K "values_in" "values_in" (defArgs (top 29)) (defBody (top 29)) (defScope (top 29)) [] [] f fd ∧ mg "values_in" = some (.ref f)
  d_parts : ∃ f fd, FunD K "parts" "parts" (defArgs (top 28)) (defBody (top 28)) (defScope (top 28)) [] [] f fd ∧ mg "parts" = some (.ref f)
  d__law_draws : ∃ f fd, FunD K "_law_draws" "_law_draws" (defArgs (top 32)) (defBody (top 32)) (defScope (top 32)) [] [] f fd ∧ mg "_law_draws" = some (.ref f)
  d__law_like : ∃ f fd, FunD K "_law_like" "_law_like" (defArgs (top 35)) (defBody (top 35)) (defScope (top 35)) [] [] f fd ∧ mg "_law_like" = some (.ref f)
  d__law_pull : ∃ f fd, FunD K "_law_pull" "_law_pull" (defArgs (top 33)) (defBody (top 33)) (defScope (top 33)) [] [] f fd ∧ mg "_law_pull" = some (.ref f)
  d__law_any : ∃ f fd, FunD K "_law_any" "_law_any" (defArgs (top 34)) (defBody (top 34)) (defScope (top 34)) [] [] f fd ∧ mg "_law_any" = some (.ref f)
  d__law_near : ∃ f fd, FunD K "_law_near" "_law_near" (defArgs (top 38)) (defBody (top 38)) (defScope (top 38)) [] [] f fd ∧ mg "_law_near" = some (.ref f)
  d__law_some_value : ∃ f fd, FunD K "_law_some_value" "_law_some_value" (defArgs (top 39)) (defBody (top 39)) (defScope (top 39)) [] [] f fd ∧ mg "_law_some_value" = some (.ref f)
  d__law_some_compared : ∃ f fd, FunD K "_law_some_compared" "_law_some_compared" (defArgs (top 40)) (defBody (top 40)) (defScope (top 40)) [] [] f fd ∧ mg "_law_some_compared" = some (.ref f)
  d__law_some_condition : ∃ f fd, FunD K "_law_some_condition" "_law_some_condition" (defArgs (top 41)) (defBody (top 41)) (defScope (top 41)) [] [] f fd ∧ mg "_law_some_condition" = some (.ref f)
  d__law_paths : ∃ f fd, FunD K "_law_paths" "_law_paths" (defArgs (top 43)) (defBody (top 43)) (defScope (top 43)) [] [] f fd ∧ mg "_law_paths" = some (.ref f)
  d__law_try : ∃ f fd, FunD K "_law_try" "_law_try" (defArgs (top 36)) (defBody (top 36)) (defScope (top 36)) [] [] f fd ∧ mg "_law_try" = some (.ref f)
  d__law_put : ∃ f fd, FunD K "_law_put" "_law_put" (defArgs (top 42)) (defBody (top 42)) (defScope (top 42)) [] [] f fd ∧ mg "_law_put" = some (.ref f)
  d__law_tries : ∃ f fd, FunD K "_law_tries" "_law_tries" (defArgs (top 37)) (defBody (top 37)) (defScope (top 37)) [] [] f fd ∧ mg "_law_tries" = some (.ref f)
  d_law : ∃ f fd, FunD K "law" "law" (defArgs (top 44)) (defBody (top 44)) (defScope (top 44)) [] [] f fd ∧ mg "law" = some (.ref f)
  d__law_field : ∃ f fd, FunD K "_law_field" "_law_field" (defArgs (top 31)) (defBody (top 31)) (defScope (top 31)) [] [] f fd ∧ mg "_law_field" = some (.ref f)
  n_len : mg "len" = none
  n_range : mg "range" = none
  n_isinstance : mg "isinstance" = none
  n_bool : mg "bool" = none
  n_int : mg "int" = none
  n_all : mg "all" = none
  n_str : mg "str" = none
  n_tuple : mg "tuple" = none
  n_list : mg "list" = none
  n_zip : mg "zip" = none
  n_max : mg "max" = none
  n_min : mg "min" = none
  c_GREATEST : GlobC K mg "GREATEST" g_GREATEST
  c_LETTERS : GlobC K mg "LETTERS" g_LETTERS
  c_RESERVED : GlobC K mg "RESERVED" g_RESERVED
  c_MOST_DEPTH : GlobC K mg "MOST_DEPTH" g_MOST_DEPTH
  e_SIGNS : DicC K w mg "SIGNS" kv_SIGNS
  g_law : mg "law" = some (.ref (He.ga K "law"))
  g_InvalidCondition : mg "InvalidCondition" = some (.ref (He.ga K "InvalidCondition"))
  g_TableError : mg "TableError" = some (.ref (He.ga K "TableError"))
  g_Missing : mg "Missing" = some (.ref (He.ga K "Missing"))
  g_NothingLeft : mg "NothingLeft" = some (.ref (He.ga K "NothingLeft"))
  g_InvalidValue : mg "InvalidValue" = some (.ref (He.ga K "InvalidValue"))
  o_InvalidCondition : overB K (He.ga K "TableError") (He.ga K "InvalidCondition") = true
  i_InvalidCondition : initB K (He.ga K "InvalidCondition") = true
  na_InvalidCondition : noB K (He.ga K "InvalidCondition") "path" = true
  x_InvalidCondition : ∃ fd, FunD K "__init__" "InvalidCondition.__init__" (defArgs s_InvalidCondition_init) (defBody s_InvalidCondition_init) (defScope s_InvalidCondition_init) [] [] (He.ma K (He.ga K "InvalidCondition") "__init__") fd
  t_InvalidCondition : tryB K ["TableError", "Missing", "NothingLeft"] ["path"] "InvalidCondition" = true
  o_InvalidValue : overB K (He.ga K "TableError") (He.ga K "InvalidValue") = true
  i_InvalidValue : initB K (He.ga K "InvalidValue") = true
  x_InvalidValue : ∃ fd, FunD K "__init__" "InvalidValue.__init__" (defArgs s_InvalidValue_init) (defBody s_InvalidValue_init) (defScope s_InvalidValue_init) [] [] (He.ma K (He.ga K "InvalidValue") "__init__") fd
  t_InvalidValue : tryB K ["TableError", "Missing", "NothingLeft"] ["path"] "InvalidValue" = true
  su_TableError : supB K P.main.file sd_TableError = true
  sv_TableError : fnC K (sd_TableError.at_ K) = sd_TableError.val
  cf_TableError : clsvB K (He.ga K "TableError") = true
  top_ : (P.main.scope.names.lookup ("super" : Str)).isSome = false
  ns_InvalidCondition : ∀ Ca, mg "InvalidCondition" = some (.ref Ca) → PySem.W.subIn K (.ref Ca) (.type "StopIteration") = some false
  lamE : LamTab.lam = lams
  mt_law : ((He.cT K ("law", none)).2, ("law.<locals>.<lambda>" : Str)) ∈ LamTab.T
  un_law : ∀ z ∈ LamTab.T, z.1 = (He.cT K ("law", none)).2 → z.2 = "law.<locals>.<lambda>"
structure CtxB (K : PySem.W.Frag) (mg : Str → Option Value) (base : Heap) : Prop where
  ok : True
  tb_law : LamX.TabB base mg (He.cT K ("law", none)).1 (He.cT K ("law", none)).2
section
variable {P : Program} {w : World} {K : PySem.W.Frag} {mg : Str → Option Value} {base : Heap}
theorem supT_TableError (h : (P.main.scope.names.lookup ("super" : Str)).isSome = false) : SupT P sd_TableError := ⟨⟨_, _, _, _, _, _, _, _, _, _, fun _ => ⟨_, rfl⟩, rfl⟩, ⟨_, rfl, rfl⟩, by decide +kernel, by decide +kernel, rfl, rfl, rfl, rfl, rfl, rfl, rfl, h, fun _ _ _ _ _ _ us hl => match us, hl with | [_, _], _ => rfl⟩
theorem topI_TableError (C : CtxT P K w mg) : PX.TopI P w K mg base (L2.CX P w) "TableError" (He.ga K "TableError") := topI_of (d := sd_TableError) C.g_TableError C.su_TableError C.sv_TableError (supT_TableError C.top_) C.cf_TableError
theorem exc_InvalidCondition (C : CtxT P K w mg) : ExcC P w K mg base "InvalidCondition" (some "path") "InvalidCondition" := by
  obtain ⟨fd, F⟩ := C.x_InvalidCondition
  exact excC_of1 (prm := "path") C.g_InvalidCondition C.o_InvalidCondition C.i_InvalidCondition C.na_InvalidCondition (topI_TableError C) F ⟨rfl, rfl, rfl, by decide +kernel, rfl, by decide +kernel, by decide +kernel⟩ ⟨_, _, _, _, _, _, _, ⟨_, _, _, _, _, fun _ => ⟨_, rfl⟩, rfl⟩, rfl⟩ (F.bindsN (fun _ _ _ _ _ _ us hl => match us, hl with | [_, _], _ => rfl))
theorem exc_InvalidValue (C : CtxT P K w mg) : ExcC P w K mg base "InvalidValue" none "InvalidValue" := by
  obtain ⟨fd, F⟩ := C.x_InvalidValue
  exact excC_of0 C.g_InvalidValue C.o_InvalidValue C.i_InvalidValue (topI_TableError C) F ⟨rfl, rfl, rfl, by decide +kernel, rfl, by decide +kernel, by decide +kernel⟩ ⟨_, _, _, ⟨_, _, _, _, _, fun _ => ⟨_, rfl⟩, rfl⟩, rfl⟩ (F.bindsN (fun _ _ _ _ _ _ us hl => match us, hl with | [_], _ => rfl))
def chF : List (Str × Str) := [("InvalidCondition", "path")]
def CL : List Str := ["InvalidCondition", "InvalidValue"]
theorem tryCL (C : CtxT P K w mg) : ∀ D ∈ CL, TryC K mg [.ref (He.ga K "TableError"), .ref (He.ga K "Missing"), .ref (He.ga K "NothingLeft")] chF D := by
  intro D hD
  unfold CL at hD
  rcases List.mem_cons.mp hD with rfl | hD
  · exact tryC_of (xs := ["TableError", "Missing", "NothingLeft"]) (chain := chF) C.g_InvalidCondition C.t_InvalidCondition
  rcases List.mem_cons.mp hD with rfl | hD
  · exact tryC_of (xs := ["TableError", "Missing", "NothingLeft"]) (chain := chF) C.g_InvalidValue C.t_InvalidValue
  exact absurd hD (by simp)
theorem fld_ok_ (C : CtxT P K w mg) : ∃ f, PX.FldOk P w K mg base 1 f chF ∧ mg "_law_field" = some (.ref f) ∧ PySem.W.keepIn K (.ref f) = true := by
  obtain ⟨f, fd, Fd, g⟩ := C.d__law_field
  exact ⟨f, PX.fld_ok Fd ⟨rfl, rfl, rfl, by decide +kernel, rfl, by decide +kernel, by decide +kernel⟩ (Fd.bindsN (fun _ _ _ _ _ _ us hl => match us, hl with | [_], _ => rfl)) (.cons .nil) (.inl rfl), g, Fd.kp⟩
def N_law : List Str := ["_law_script", "_law_bag", "_law_turn", "_law_k", "_law_pool", "_law_c", "_law_bad", "_law_paths_here", "_law_wrong", "_law_asks", "_law_deep", "_law_path", "_law_at", "_law_late", "_law_first", "_law_last", "_law_value"]
def N_inner_parts : List Str := ["condition", "at"]
def me_inner_parts_0 : M D :=
    (mTup (mCons (mVar 1) (mCons (mBin dIx (mVar 0) (mVar 1)) mNil)))
def m_inner_parts : MS :=
    (msSeq (msIf (mTst (mBin dNinA (mBin dIx (mVar 0) (mC (.int 0))) (mTup (mCons (mC (.str [110, 111, 116])) (mCons (mC (.str [97, 110, 100])) (mCons (mC (.str [111, 114])) mNil)))))) (msRet (mLst mNil)) msNil)
    (msRet (mLc [1] (miR2 (mCons (mC (.int 1)) (mCons (mCall dLen (mCons (mVar 0) mNil)) mNil))) (mgName 1) mYes me_inner_parts_0)))
theorem sc_inner_parts : FnScope N_inner_parts ["condition"] (defScope s_inner_parts) := ⟨rfl, rfl, rfl, by decide +kernel, rfl, by decide +kernel, by decide +kernel⟩
def F_inner_parts : PF := runP N_inner_parts.length m_inner_parts
theorem ok_inner_parts (C : CtxT P K w mg) (B : CtxB K mg base) : FnP P w K mg base "inner_parts" (1) 1 (F_inner_parts) := by
  have sc := sc_inner_parts
  obtain ⟨f, fd, Fd, g⟩ := C.d_inner_parts
  exact ⟨⟨f, fd, ["condition"], g, Fd.kp, Fd.bindsN (fun _ _ _ _ _ _ us hl => match us, hl with | [_], _ => rfl), rfl, fnP Fd sc fun cdv A outer s H E hr => (rss_cons (rs_if (rt_nin (re_ix (re_var 0) re_int) (re_tup (ra_cons (re_str [110, 111, 116]) (ra_cons (re_str [97, 110, 100]) (ra_cons (re_str [111, 114]) ra_nil))))) (rss_one (rs_ret (re_lst ra_nil))) rss_nil)
    (rss_one (rs_ret (re_lc (own := [("at", 1)]) rfl sc.nd (ri_range2 C.n_range (ra_cons re_int (ra_cons (re_len C.n_len (ra_cons (re_var 0) ra_nil)) ra_nil))) (blkOk_by (N := N_inner_parts) (sc := defScope s_inner_parts) (by decide +kernel)) (by decide) (fun _ _ _ _ _ => (rg_name 1 sc.nd)) (fun _ _ _ _ _ => rts_nil) (fun _ _ _ _ _ => (re_tup (ra_cons (re_var 1) (ra_cons (re_ix (re_var 0) (re_var 1)) ra_nil))))))))⟩⟩
def N_is_integer : List Str := ["value"]
def m_is_integer : MS :=
    (msRet (mAndV (mIsi [.int] (mVar 0)) (mNotV (mIsi [.bool] (mVar 0)))))
theorem sc_is_integer : FnScope N_is_integer ["value"] (defScope s_is_integer) := ⟨rfl, rfl, rfl, by decide +kernel, rfl, by decide +kernel, by decide +kernel⟩
def F_is_integer : PF := runP N_is_integer.length m_is_integer
theorem ok_is_integer (C : CtxT P K w mg) (B : CtxB K mg base) : FnP P w K mg base "is_integer" (1) 1 (F_is_integer) := by
  have sc := sc_is_integer
  obtain ⟨f, fd, Fd, g⟩ := C.d_is_integer
  exact ⟨⟨f, fd, ["value"], g, Fd.kp, Fd.bindsN (fun _ _ _ _ _ _ us hl => match us, hl with | [_], _ => rfl), rfl, fnP Fd sc fun cdv A outer s H E hr => (rss_one (rs_ret (re_and (re_isi .int C.n_isinstance C.n_int (re_var 0)) (re_one (re_not (re_isi .bool C.n_isinstance C.n_bool (re_var 0)))))))⟩⟩
def N_is_constant : List Str := ["value"]
def m_is_constant : MS :=
    (msRet (mAndV (mCallP F_is_integer (mCons (mVar 0) mNil)) (mChain dLe dLe (mBin dSub (mC (.int 0)) (mC g_GREATEST)) (mVar 0) (mC g_GREATEST))))
theorem sc_is_constant : FnScope N_is_constant ["value"] (defScope s_is_constant) := ⟨rfl, rfl, rfl, by decide +kernel, rfl, by decide +kernel, by decide +kernel⟩
def F_is_constant : PF := runP N_is_constant.length m_is_constant
theorem ok_is_constant (C : CtxT P K w mg) (B : CtxB K mg base) : FnP P w K mg base "is_constant" (2) 1 (F_is_constant) := by
  have sc := sc_is_constant
  have G_is_integer := ok_is_integer (P := P) (w := w) (base := base) C B
  obtain ⟨f, fd, Fd, g⟩ := C.d_is_constant
  exact ⟨⟨f, fd, ["value"], g, Fd.kp, Fd.bindsN (fun _ _ _ _ _ _ us hl => match us, hl with | [_], _ => rfl), rfl, fnP Fd sc fun cdv A outer s H E hr => (rss_one (rs_ret (re_and (re_callP G_is_integer hr tkOf (ra_cons (re_var 0) ra_nil)) (re_one (re_lele (re_sub re_int (re_glob C.c_GREATEST)) (re_var 0) (re_glob C.c_GREATEST))))))⟩⟩
def N_is_name : List Str := ["value", "letter"]
def m_is_name : MS :=
    (msSeq (msIf (mOr (mNot (mTst (mIsi [.str] (mVar 0)))) (mOr (mNot (mTst (mChain dLe dLe (mC (.int 1)) (mCall dLen (mCons (mVar 0) mNil)) (mC (.int 6))))) (mTst (mBin dInA (mVar 0) (mC g_RESERVED))))) (msRet (mC (.bl false))) msNil)
    (msRet (mCall dAll (mCons (mLc [1] (miS (mVar 0)) (mgName 1) mYes (mBin dInA (mVar 1) (mC g_LETTERS))) mNil))))
theorem sc_is_name : FnScope N_is_name ["value"] (defScope s_is_name) := ⟨rfl, rfl, rfl, by decide +kernel, rfl, by decide +kernel, by decide +kernel⟩
def F_is_name : PF := runP N_is_name.length m_is_name
theorem ok_is_name (C : CtxT P K w mg) (B : CtxB K mg base) : FnP P w K mg base "is_name" (1) 1 (F_is_name) := by
  have sc := sc_is_name
  obtain ⟨f, fd, Fd, g⟩ := C.d_is_name
  exact ⟨⟨f, fd, ["value"], g, Fd.kp, Fd.bindsN (fun _ _ _ _ _ _ us hl => match us, hl with | [_], _ => rfl), rfl, fnP Fd sc fun cdv A outer s H E hr => (rss_cons (rs_if (rt_bool (rw_or (rt_not (rt_val (re_isi .str C.n_isinstance C.n_str (re_var 0)))) (rw_or (rt_not (rt_lele re_int (re_len C.n_len (ra_cons (re_var 0) ra_nil)) re_int)) (rw_or1 (rt_in (re_var 0) (re_glob C.c_RESERVED)))))) (rss_one (rs_ret re_bl)) rss_nil)
    (rss_one (rs_ret (re_all rfl C.n_all (ra_cons (re_lc (own := [("letter", 1)]) rfl sc.nd (ri_str (re_var 0)) (blkOk_by (N := N_is_name) (sc := defScope s_is_name) (by decide +kernel)) (by decide) (fun _ _ _ _ _ => (rg_name 1 sc.nd)) (fun _ _ _ _ _ => rts_nil) (fun _ _ _ _ _ => (re_in (re_var 1) (re_glob C.c_LETTERS)))) ra_nil)))))⟩⟩
def N_is_column : List Str := ["value"]
def m_is_column : MS :=
    (msRet (mAndV (mIsi [.str] (mVar 0)) (mOrV (mBin dEq (mVar 0) (mC (.str [107, 101, 121]))) (mCallP F_is_name (mCons (mVar 0) mNil)))))
theorem sc_is_column : FnScope N_is_column ["value"] (defScope s_is_column) := ⟨rfl, rfl, rfl, by decide +kernel, rfl, by decide +kernel, by decide +kernel⟩
def F_is_column : PF := runP N_is_column.length m_is_column
theorem ok_is_column (C : CtxT P K w mg) (B : CtxB K mg base) : FnP P w K mg base "is_column" (2) 1 (F_is_column) := by
  have sc := sc_is_column
  have G_is_name := ok_is_name (P := P) (w := w) (base := base) C B
  obtain ⟨f, fd, Fd, g⟩ := C.d_is_column
  exact ⟨⟨f, fd, ["value"], g, Fd.kp, Fd.bindsN (fun _ _ _ _ _ _ us hl => match us, hl with | [_], _ => rfl), rfl, fnP Fd sc fun cdv A outer s H E hr => (rss_one (rs_ret (re_and (re_isi .str C.n_isinstance C.n_str (re_var 0)) (re_one (re_or (re_eq hr (re_var 0) (re_str [107, 101, 121])) (re_one (re_callP G_is_name hr tkOf (ra_cons (re_var 0) ra_nil))))))))⟩⟩
def N_is_plain : List Str := ["value"]
def m_is_plain : MS :=
    (msSeq (msIf (mOr (mNot (mTst (mIsi [.tup] (mVar 0)))) (mOr (mTst (mBin dLt (mCall dLen (mCons (mVar 0) mNil)) (mC (.int 2)))) (mNot (mTst (mIsi [.str] (mBin dIx (mVar 0) (mC (.int 0)))))))) (msRet (mC (.bl false))) msNil)
    (msSeq (msIf (mTst (mBin dEq (mBin dIx (mVar 0) (mC (.int 0))) (mC (.str [102, 105, 101, 108, 100])))) (msRet (mAndV (mBin dEq (mCall dLen (mCons (mVar 0) mNil)) (mC (.int 3))) (mAndV (mCallP F_is_name (mCons (mBin dIx (mVar 0) (mC (.int 1))) mNil)) (mCallP F_is_column (mCons (mBin dIx (mVar 0) (mC (.int 2))) mNil))))) msNil)
    (msSeq (msIf (mTst (mBin dNe (mCall dLen (mCons (mVar 0) mNil)) (mC (.int 2)))) (msRet (mC (.bl false))) msNil)
    (msSeq (msIf (mTst (mBin dEq (mBin dIx (mVar 0) (mC (.int 0))) (mC (.str [110, 117, 109, 98, 101, 114])))) (msRet (mCallP F_is_constant (mCons (mBin dIx (mVar 0) (mC (.int 1))) mNil))) msNil)
    (msSeq (msIf (mTst (mBin dEq (mBin dIx (mVar 0) (mC (.int 0))) (mC (.str [110, 97, 109, 101])))) (msRet (mCallP F_is_name (mCons (mBin dIx (mVar 0) (mC (.int 1))) mNil))) msNil)
    (msRet (mAndV (mBin dInA (mBin dIx (mVar 0) (mC (.int 0))) (mTup (mCons (mC (.str [111, 119, 110])) (mCons (mC (.str [110, 101, 120, 116])) mNil)))) (mCallP F_is_column (mCons (mBin dIx (mVar 0) (mC (.int 1))) mNil)))))))))
theorem sc_is_plain : FnScope N_is_plain ["value"] (defScope s_is_plain) := ⟨rfl, rfl, rfl, by decide +kernel, rfl, by decide +kernel, by decide +kernel⟩
def F_is_plain : PF := runP N_is_plain.length m_is_plain
theorem ok_is_plain (C : CtxT P K w mg) (B : CtxB K mg base) : FnP P w K mg base "is_plain" (3) 1 (F_is_plain) := by
  have sc := sc_is_plain
  have G_is_column := ok_is_column (P := P) (w := w) (base := base) C B
  have G_is_constant := ok_is_constant (P := P) (w := w) (base := base) C B
  have G_is_name := ok_is_name (P := P) (w := w) (base := base) C B
  obtain ⟨f, fd, Fd, g⟩ := C.d_is_plain
  exact ⟨⟨f, fd, ["value"], g, Fd.kp, Fd.bindsN (fun _ _ _ _ _ _ us hl => match us, hl with | [_], _ => rfl), rfl, fnP Fd sc fun cdv A outer s H E hr => (rss_cons (rs_if (rt_bool (rw_or (rt_not (rt_val (re_isi .tup C.n_isinstance C.n_tuple (re_var 0)))) (rw_or (rt_lt (re_len C.n_len (ra_cons (re_var 0) ra_nil)) re_int) (rw_or1 (rt_not (rt_val (re_isi .str C.n_isinstance C.n_str (re_ix (re_var 0) re_int)))))))) (rss_one (rs_ret re_bl)) rss_nil)
    (rss_cons (rs_if (rt_eq hr (re_ix (re_var 0) re_int) (re_str [102, 105, 101, 108, 100])) (rss_one (rs_ret (re_and (re_eq hr (re_len C.n_len (ra_cons (re_var 0) ra_nil)) re_int) (re_and (re_callP G_is_name hr tkOf (ra_cons (re_ix (re_var 0) re_int) ra_nil)) (re_one (re_callP G_is_column hr tkOf (ra_cons (re_ix (re_var 0) re_int) ra_nil))))))) rss_nil)
    (rss_cons (rs_if (rt_ne hr (re_len C.n_len (ra_cons (re_var 0) ra_nil)) re_int) (rss_one (rs_ret re_bl)) rss_nil)
    (rss_cons (rs_if (rt_eq hr (re_ix (re_var 0) re_int) (re_str [110, 117, 109, 98, 101, 114])) (rss_one (rs_ret (re_callP G_is_constant hr tkOf (ra_cons (re_ix (re_var 0) re_int) ra_nil)))) rss_nil)
    (rss_cons (rs_if (rt_eq hr (re_ix (re_var 0) re_int) (re_str [110, 97, 109, 101])) (rss_one (rs_ret (re_callP G_is_name hr tkOf (ra_cons (re_ix (re_var 0) re_int) ra_nil)))) rss_nil)
    (rss_one (rs_ret (re_and (re_in (re_ix (re_var 0) re_int) (re_tup (ra_cons (re_str [111, 119, 110]) (ra_cons (re_str [110, 101, 120, 116]) ra_nil)))) (re_one (re_callP G_is_column hr tkOf (ra_cons (re_ix (re_var 0) re_int) ra_nil)))))))))))⟩⟩
def N_is_value : List Str := ["value"]
def m_is_value : MS :=
    (msSeq (msIf (mAnd (mTst (mIsi [.tup] (mVar 0))) (mAnd (mTst (mBin dEq (mCall dLen (mCons (mVar 0) mNil)) (mC (.int 3)))) (mAnd (mTst (mIsi [.str] (mBin dIx (mVar 0) (mC (.int 0))))) (mTst (mBin dEq (mBin dIx (mVar 0) (mC (.int 0))) (mC (.str [112, 108, 117, 115]))))))) (msRet (mAndV (mCallP F_is_plain (mCons (mBin dIx (mVar 0) (mC (.int 1))) mNil)) (mCallP F_is_constant (mCons (mBin dIx (mVar 0) (mC (.int 2))) mNil)))) msNil)
    (msRet (mCallP F_is_plain (mCons (mVar 0) mNil))))
theorem sc_is_value : FnScope N_is_value ["value"] (defScope s_is_value) := ⟨rfl, rfl, rfl, by decide +kernel, rfl, by decide +kernel, by decide +kernel⟩
def F_is_value : PF := runP N_is_value.length m_is_value
theorem ok_is_value (C : CtxT P K w mg) (B : CtxB K mg base) : FnP P w K mg base "is_value" (4) 1 (F_is_value) := by
  have sc := sc_is_value
  have G_is_constant := ok_is_constant (P := P) (w := w) (base := base) C B
  have G_is_plain := ok_is_plain (P := P) (w := w) (base := base) C B
  obtain ⟨f, fd, Fd, g⟩ := C.d_is_value
  exact ⟨⟨f, fd, ["value"], g, Fd.kp, Fd.bindsN (fun _ _ _ _ _ _ us hl => match us, hl with | [_], _ => rfl), rfl, fnP Fd sc fun cdv A outer s H E hr => (rss_cons (rs_if (rt_bool (rw_and (rt_val (re_isi .tup C.n_isinstance C.n_tuple (re_var 0))) (rw_and (rt_eq hr (re_len C.n_len (ra_cons (re_var 0) ra_nil)) re_int) (rw_and (rt_val (re_isi .str C.n_isinstance C.n_str (re_ix (re_var 0) re_int))) (rw_and1 (rt_eq hr (re_ix (re_var 0) re_int) (re_str [112, 108, 117, 115]))))))) (rss_one (rs_ret (re_and (re_callP G_is_plain hr tkOf (ra_cons (re_ix (re_var 0) re_int) ra_nil)) (re_one (re_callP G_is_constant hr tkOf (ra_cons (re_ix (re_var 0) re_int) ra_nil)))))) rss_nil)
    (rss_one (rs_ret (re_callP G_is_plain hr tkOf (ra_cons (re_var 0) ra_nil)))))⟩⟩
def N_has_form : List Str := ["condition", "word"]
def m_has_form : MS :=
    (msSeq (msIf (mOr (mNot (mTst (mIsi [.tup] (mVar 0)))) (mOr (mTst (mBin dEq (mCall dLen (mCons (mVar 0) mNil)) (mC (.int 0)))) (mNot (mTst (mIsi [.str] (mBin dIx (mVar 0) (mC (.int 0)))))))) (msRet (mC (.bl false))) msNil)
    (msSeq (msAsg (mBin dIx (mVar 0) (mC (.int 0))) (mgName 1))
    (msSeq (msIf (mTst (mC1 (dCIn false kv_SIGNS) (mVar 1))) (msRet (mAndV (mBin dEq (mCall dLen (mCons (mVar 0) mNil)) (mC (.int 3))) (mAndV (mCallP F_is_value (mCons (mBin dIx (mVar 0) (mC (.int 1))) mNil)) (mCallP F_is_value (mCons (mBin dIx (mVar 0) (mC (.int 2))) mNil))))) msNil)
    (msSeq (msIf (mTst (mBin dEq (mVar 1) (mC (.str [102, 111, 117, 110, 100])))) (msRet (mAndV (mBin dEq (mCall dLen (mCons (mVar 0) mNil)) (mC (.int 2))) (mCallP F_is_name (mCons (mBin dIx (mVar 0) (mC (.int 1))) mNil)))) msNil)
    (msRet (mBin dEq (mCall dLen (mCons (mVar 0) mNil)) (mDGet2 (mDisp [((mC (.str [116, 114, 117, 101])), (mC (.int 1))), ((mC (.str [110, 111, 116])), (mC (.int 2))), ((mC (.str [97, 110, 100])), (mC (.int 3))), ((mC (.str [111, 114])), (mC (.int 3)))]) (mVar 1) (mC (.int 0)))))))))
theorem sc_has_form : FnScope N_has_form ["condition"] (defScope s_has_form) := ⟨rfl, rfl, rfl, by decide +kernel, rfl, by decide +kernel, by decide +kernel⟩
def F_has_form : PF := runP N_has_form.length m_has_form
theorem ok_has_form (C : CtxT P K w mg) (B : CtxB K mg base) : FnP P w K mg base "has_form" (5) 1 (F_has_form) := by
  have sc := sc_has_form
  have G_is_name := ok_is_name (P := P) (w := w) (base := base) C B
  have G_is_value := ok_is_value (P := P) (w := w) (base := base) C B
  obtain ⟨f, fd, Fd, g⟩ := C.d_has_form
  exact ⟨⟨f, fd, ["condition"], g, Fd.kp, Fd.bindsN (fun _ _ _ _ _ _ us hl => match us, hl with | [_], _ => rfl), rfl, fnP Fd sc fun cdv A outer s H E hr => (rss_cons (rs_if (rt_bool (rw_or (rt_not (rt_val (re_isi .tup C.n_isinstance C.n_tuple (re_var 0)))) (rw_or (rt_eq hr (re_len C.n_len (ra_cons (re_var 0) ra_nil)) re_int) (rw_or1 (rt_not (rt_val (re_isi .str C.n_isinstance C.n_str (re_ix (re_var 0) re_int)))))))) (rss_one (rs_ret re_bl)) rss_nil)
    (rss_cons (rs_set 1 sc.nd (re_ix (re_var 0) re_int))
    (rss_cons (rs_if (rt_cin C.e_SIGNS (re_var 1)) (rss_one (rs_ret (re_and (re_eq hr (re_len C.n_len (ra_cons (re_var 0) ra_nil)) re_int) (re_and (re_callP G_is_value hr tkOf (ra_cons (re_ix (re_var 0) re_int) ra_nil)) (re_one (re_callP G_is_value hr tkOf (ra_cons (re_ix (re_var 0) re_int) ra_nil))))))) rss_nil)
    (rss_cons (rs_if (rt_eq hr (re_var 1) (re_str [102, 111, 117, 110, 100])) (rss_one (rs_ret (re_and (re_eq hr (re_len C.n_len (ra_cons (re_var 0) ra_nil)) re_int) (re_one (re_callP G_is_name hr tkOf (ra_cons (re_ix (re_var 0) re_int) ra_nil)))))) rss_nil)
    (rss_one (rs_ret (re_eq hr (re_len C.n_len (ra_cons (re_var 0) ra_nil)) (re_dget2 hr (re_disp (RPs.cons (re_str [116, 114, 117, 101]) re_int (RPs.cons (re_str [110, 111, 116]) re_int (RPs.cons (re_str [97, 110, 100]) re_int (RPs.cons (re_str [111, 114]) re_int RPs.nil))))) (re_var 1) re_int))))))))⟩⟩
def N_wrong_path : List Str := ["condition", "path", "at", "inner", "found"]
def mb_wrong_path_0 (F : PF) : MS :=
    (msSeq (msAsg (mCallP F (mCons (mVar 3) (mCons (mTup (mStar (mVar 1) (mCons (mVar 2) mNil))) mNil))) (mgName 4))
    (msIf (mTst (mBin (dIsN true) (mVar 4) (mC .non))) (msRet (mVar 4)) msNil))
def m_wrong_path (F : PF) : MS :=
    (msSeq (msIf (mOr (mTst (mBin dGe (mCall dLen (mCons (mVar 1) mNil)) (mC g_MOST_DEPTH))) (mNot (mTst (mCallP F_has_form (mCons (mVar 0) mNil))))) (msRet (mVar 1)) msNil)
    (msSeq (msFor (miL (mCallP F_inner_parts (mCons (mVar 0) mNil))) (mgTup 2 (mgCons (mgName 2) (mgCons (mgName 3) mgNil))) (mb_wrong_path_0 F))
    (msRet (mC .non))))
theorem sc_wrong_path : FnScope N_wrong_path ["condition", "path"] (defScope s_wrong_path) := ⟨rfl, rfl, rfl, by decide +kernel, rfl, by decide +kernel, by decide +kernel⟩
def F_wrong_path_ : Nat → PF
  | 0 => fun _ => none
  | t + 1 => runP N_wrong_path.length (m_wrong_path (F_wrong_path_ t))
def F_wrong_path : PF := F_wrong_path_ 12
theorem okr_wrong_path (C : CtxT P K w mg) (B : CtxB K mg base) : ∀ t, FnP P w K mg base "wrong_path" (5 + (t)) 2 (F_wrong_path_ t) := by
  have sc := sc_wrong_path
  have G_has_form := ok_has_form (P := P) (w := w) (base := base) C B
  have G_inner_parts := ok_inner_parts (P := P) (w := w) (base := base) C B
  obtain ⟨f, fd, Fd, g⟩ := C.d_wrong_path
  intro t
  induction t with
  | zero => exact ⟨⟨f, fd, ["condition", "path"], g, Fd.kp, Fd.bindsN (fun _ _ _ _ _ _ us hl => match us, hl with | [_, _], _ => rfl), rfl, fnOk0⟩⟩
  | succ t G =>
    have Z : FnP P w K mg base "wrong_path" (5 + t + 1) 2 (F_wrong_path_ (t + 1)) := ⟨⟨f, fd, ["condition", "path"], g, Fd.kp, Fd.bindsN (fun _ _ _ _ _ _ us hl => match us, hl with | [_, _], _ => rfl), rfl, fnP Fd sc fun cdv A outer s H E hr => (rss_cons (rs_if (rt_bool (rw_or (rt_ge (re_len C.n_len (ra_cons (re_var 1) ra_nil)) (re_glob C.c_MOST_DEPTH)) (rw_or1 (rt_not (rt_val (re_callP G_has_form hr tkOf (ra_cons (re_var 0) ra_nil) (hk := by omega))))))) (rss_one (rs_ret (re_var 1))) rss_nil)
    (rss_cons (rs_for poOf rfl (ri_list (re_callP G_inner_parts hr tkOf (ra_cons (re_var 0) ra_nil) (hk := by omega))) (rg_tup (n := 2) rfl (rgs_cons (rg_name 2 sc.nd) (rgs_cons (rg_name 3 sc.nd) rgs_nil))) (rss_cons (rs_set 4 sc.nd (re_callP G hr tkOf (ra_cons (re_var 3) (ra_cons (re_tup (ra_star (re_var 1) (ra_cons (re_var 2) ra_nil))) ra_nil)) (hk := by omega)))
    (rss_one (rs_if (rt_isn (re_var 4) re_non) (rss_one (rs_ret (re_var 4))) rss_nil))))
    (rss_one (rs_ret re_non))))⟩⟩
    exact FnP.mono Z (by omega)
theorem ok_wrong_path (C : CtxT P K w mg) (B : CtxB K mg base) : FnP P w K mg base "wrong_path" (18) 2 (F_wrong_path) := FnP.mono (okr_wrong_path C B 12) (by decide)
def N_check_condition : List Str := ["condition", "path"]
def m_check_condition : MS :=
    (msSeq (msAsg (mCallP F_wrong_path (mCons (mVar 0) (mCons (mTup mNil) mNil))) (mgName 1))
    (msIf (mTst (mBin (dIsN true) (mVar 1) (mC .non))) (msRaise "InvalidCondition" (some "path") [73, 110, 118, 97, 108, 105, 100, 67, 111, 110, 100, 105, 116, 105, 111, 110] (mCons (mVar 1) mNil)) msNil))
theorem sc_check_condition : FnScope N_check_condition ["condition"] (defScope s_check_condition) := ⟨rfl, rfl, rfl, by decide +kernel, rfl, by decide +kernel, by decide +kernel⟩
def F_check_condition : PF := runP N_check_condition.length m_check_condition
theorem ok_check_condition (C : CtxT P K w mg) (B : CtxB K mg base) : FnP P w K mg base "check_condition" (19) 1 (F_check_condition) := by
  have sc := sc_check_condition
  have G_wrong_path := ok_wrong_path (P := P) (w := w) (base := base) C B
  obtain ⟨f, fd, Fd, g⟩ := C.d_check_condition
  exact ⟨⟨f, fd, ["condition"], g, Fd.kp, Fd.bindsN (fun _ _ _ _ _ _ us hl => match us, hl with | [_], _ => rfl), rfl, fnP Fd sc fun cdv A outer s H E hr => (rss_cons (rs_set 1 sc.nd (re_callP G_wrong_path hr tkOf (ra_cons (re_var 0) (ra_cons (re_tup ra_nil) ra_nil))))
    (rss_one (rs_if (rt_isn (re_var 1) re_non) (rss_one (rs_raise1 (exc_InvalidCondition C) (by decide +kernel) hr (by omega) rfl tkOf (ra_cons (re_var 1) ra_nil) rfl (by decide))) rss_nil)))⟩⟩
def N_integer_text : List Str := ["sign", "number"]
def m_integer_text : MS :=
    (msRet (mIf (mTst (mBin dLt (mVar 1) (mC (.int 0)))) (jsL [(mC (.str [32, 45, 32])), (mFmt (mBin dSub (mC (.int 0)) (mVar 1)))] []) (jsL [(mC (.str [32])), (mFmt (mVar 0)), (mC (.str [32])), (mFmt (mVar 1))] [])))
theorem sc_integer_text : FnScope N_integer_text ["sign", "number"] (defScope s_integer_text) := ⟨rfl, rfl, rfl, by decide +kernel, rfl, by decide +kernel, by decide +kernel⟩
def F_integer_text : PF := runP N_integer_text.length m_integer_text
theorem ok_integer_text (C : CtxT P K w mg) (B : CtxB K mg base) : FnP P w K mg base "integer_text" (1) 2 (F_integer_text) := by
  have sc := sc_integer_text
  obtain ⟨f, fd, Fd, g⟩ := C.d_integer_text
  exact ⟨⟨f, fd, ["sign", "number"], g, Fd.kp, Fd.bindsN (fun _ _ _ _ _ _ us hl => match us, hl with | [_, _], _ => rfl), rfl, fnP Fd sc fun cdv A outer s H E hr => (rss_one (rs_ret (re_if (rt_lt (re_var 1) re_int) (re_joined (.cons (re_str [32, 45, 32]) (.cons (re_fmt (re_sub re_int (re_var 1))) RJ.nil))) (re_joined (.cons (re_str [32]) (.cons (re_fmt (re_var 0)) (.cons (re_str [32]) (.cons (re_fmt (re_var 1)) RJ.nil))))))))⟩⟩
def N_value_text : List Str := ["value"]
def m_value_text (F : PF) : MS :=
    (msSeq (msIf (mNot (mTst (mCallP F_is_value (mCons (mVar 0) mNil)))) (msRaise "InvalidValue" none [73, 110, 118, 97, 108, 105, 100, 86, 97, 108, 117, 101] mNil) msNil)
    (msSeq (msIf (mTst (mBin dEq (mBin dIx (mVar 0) (mC (.int 0))) (mC (.str [112, 108, 117, 115])))) (msRet (mBin dAdd (mCallP F (mCons (mBin dIx (mVar 0) (mC (.int 1))) mNil)) (mCallP F_integer_text (mCons (mC (.str [43])) (mCons (mBin dIx (mVar 0) (mC (.int 2))) mNil))))) msNil)
    (msSeq (msIf (mTst (mBin dEq (mBin dIx (mVar 0) (mC (.int 0))) (mC (.str [102, 105, 101, 108, 100])))) (msRet (jsL [(mFmt (mBin dIx (mVar 0) (mC (.int 1)))), (mC (.str [46])), (mFmt (mBin dIx (mVar 0) (mC (.int 2))))] [])) msNil)
    (msSeq (msIf (mTst (mBin dInA (mBin dIx (mVar 0) (mC (.int 0))) (mTup (mCons (mC (.str [111, 119, 110])) (mCons (mC (.str [110, 101, 120, 116])) mNil))))) (msRet (jsL [(mFmt (mBin dIx (mVar 0) (mC (.int 0)))), (mC (.str [46])), (mFmt (mBin dIx (mVar 0) (mC (.int 1))))] [])) msNil)
    (msRet (mCall dStr (mCons (mBin dIx (mVar 0) (mC (.int 1))) mNil)))))))
theorem sc_value_text : FnScope N_value_text ["value"] (defScope s_value_text) := ⟨rfl, rfl, rfl, by decide +kernel, rfl, by decide +kernel, by decide +kernel⟩
def F_value_text_ : Nat → PF
  | 0 => fun _ => none
  | t + 1 => runP N_value_text.length (m_value_text (F_value_text_ t))
def F_value_text : PF := F_value_text_ 3
theorem okr_value_text (C : CtxT P K w mg) (B : CtxB K mg base) : ∀ t, FnP P w K mg base "value_text" (4 + (t)) 1 (F_value_text_ t) := by
  have sc := sc_value_text
  have G_integer_text := ok_integer_text (P := P) (w := w) (base := base) C B
  have G_is_value := ok_is_value (P := P) (w := w) (base := base) C B
  obtain ⟨f, fd, Fd, g⟩ := C.d_value_text
  intro t
  induction t with
  | zero => exact ⟨⟨f, fd, ["value"], g, Fd.kp, Fd.bindsN (fun _ _ _ _ _ _ us hl => match us, hl with | [_], _ => rfl), rfl, fnOk0⟩⟩
  | succ t G =>
    have Z : FnP P w K mg base "value_text" (4 + t + 1) 1 (F_value_text_ (t + 1)) := ⟨⟨f, fd, ["value"], g, Fd.kp, Fd.bindsN (fun _ _ _ _ _ _ us hl => match us, hl with | [_], _ => rfl), rfl, fnP Fd sc fun cdv A outer s H E hr => (rss_cons (rs_if (rt_not (rt_val (re_callP G_is_value hr tkOf (ra_cons (re_var 0) ra_nil) (hk := by omega)))) (rss_one (rs_raise0 (exc_InvalidValue C) (by decide +kernel) hr (by omega) rfl tkOf rfl (by decide))) rss_nil)
    (rss_cons (rs_if (rt_eq hr (re_ix (re_var 0) re_int) (re_str [112, 108, 117, 115])) (rss_one (rs_ret (re_add (re_callP G hr tkOf (ra_cons (re_ix (re_var 0) re_int) ra_nil) (hk := by omega)) (re_callP G_integer_text hr tkOf (ra_cons (re_str [43]) (ra_cons (re_ix (re_var 0) re_int) ra_nil)) (hk := by omega))))) rss_nil)
    (rss_cons (rs_if (rt_eq hr (re_ix (re_var 0) re_int) (re_str [102, 105, 101, 108, 100])) (rss_one (rs_ret (re_joined (.cons (re_fmt (re_ix (re_var 0) re_int)) (.cons (re_str [46]) (.cons (re_fmt (re_ix (re_var 0) re_int)) RJ.nil)))))) rss_nil)
    (rss_cons (rs_if (rt_in (re_ix (re_var 0) re_int) (re_tup (ra_cons (re_str [111, 119, 110]) (ra_cons (re_str [110, 101, 120, 116]) ra_nil)))) (rss_one (rs_ret (re_joined (.cons (re_fmt (re_ix (re_var 0) re_int)) (.cons (re_str [46]) (.cons (re_fmt (re_ix (re_var 0) re_int)) RJ.nil)))))) rss_nil)
    (rss_one (rs_ret (re_strc C.n_str (ra_cons (re_ix (re_var 0) re_int) ra_nil))))))))⟩⟩
    exact FnP.mono Z (by omega)
theorem ok_value_text (C : CtxT P K w mg) (B : CtxB K mg base) : FnP P w K mg base "value_text" (8) 1 (F_value_text) := FnP.mono (okr_value_text C B 3) (by decide)
def N_text_of : List Str := ["condition", "word"]
def m_text_of (F : PF) : MS :=
    (msSeq (msAsg (mBin dIx (mVar 0) (mC (.int 0))) (mgName 1))
    (msSeq (msIf (mTst (mC1 (dCIn false kv_SIGNS) (mVar 1))) (msRet (jsL [(mFmt (mCallP F_value_text (mCons (mBin dIx (mVar 0) (mC (.int 1))) mNil))), (mC (.str [32])), (mFmt (mC1 (dCIx kv_SIGNS) (mVar 1))), (mC (.str [32])), (mFmt (mCallP F_value_text (mCons (mBin dIx (mVar 0) (mC (.int 2))) mNil)))] [])) msNil)
    (msSeq (msIf (mTst (mBin dEq (mVar 1) (mC (.str [102, 111, 117, 110, 100])))) (msRet (jsL [(mC (.str [102, 111, 117, 110, 100, 32])), (mFmt (mBin dIx (mVar 0) (mC (.int 1))))] [])) msNil)
    (msSeq (msIf (mTst (mBin dEq (mVar 1) (mC (.str [110, 111, 116])))) (msRet (jsL [(mC (.str [110, 111, 116, 32])), (mFmt (mCallP F (mCons (mBin dIx (mVar 0) (mC (.int 1))) mNil)))] [])) msNil)
    (msRet (mIf (mTst (mBin dEq (mVar 1) (mC (.str [116, 114, 117, 101])))) (mC (.str [116, 114, 117, 101])) (jsL [(mC (.str [40])), (mFmt (mCallP F (mCons (mBin dIx (mVar 0) (mC (.int 1))) mNil))), (mC (.str [32])), (mFmt (mVar 1)), (mC (.str [32])), (mFmt (mCallP F (mCons (mBin dIx (mVar 0) (mC (.int 2))) mNil))), (mC (.str [41]))] [])))))))
theorem sc_text_of : FnScope N_text_of ["condition"] (defScope s_text_of) := ⟨rfl, rfl, rfl, by decide +kernel, rfl, by decide +kernel, by decide +kernel⟩
def F_text_of_ : Nat → PF
  | 0 => fun _ => none
  | t + 1 => runP N_text_of.length (m_text_of (F_text_of_ t))
def F_text_of : PF := F_text_of_ 12
theorem okr_text_of (C : CtxT P K w mg) (B : CtxB K mg base) : ∀ t, FnP P w K mg base "text_of" (8 + (t)) 1 (F_text_of_ t) := by
  have sc := sc_text_of
  have G_value_text := ok_value_text (P := P) (w := w) (base := base) C B
  obtain ⟨f, fd, Fd, g⟩ := C.d_text_of
  intro t
  induction t with
  | zero => exact ⟨⟨f, fd, ["condition"], g, Fd.kp, Fd.bindsN (fun _ _ _ _ _ _ us hl => match us, hl with | [_], _ => rfl), rfl, fnOk0⟩⟩
  | succ t G =>
    have Z : FnP P w K mg base "text_of" (8 + t + 1) 1 (F_text_of_ (t + 1)) := ⟨⟨f, fd, ["condition"], g, Fd.kp, Fd.bindsN (fun _ _ _ _ _ _ us hl => match us, hl with | [_], _ => rfl), rfl, fnP Fd sc fun cdv A outer s H E hr => (rss_cons (rs_set 1 sc.nd (re_ix (re_var 0) re_int))
    (rss_cons (rs_if (rt_cin C.e_SIGNS (re_var 1)) (rss_one (rs_ret (re_joined (.cons (re_fmt (re_callP G_value_text hr tkOf (ra_cons (re_ix (re_var 0) re_int) ra_nil) (hk := by omega))) (.cons (re_str [32]) (.cons (re_fmt (re_cix C.e_SIGNS (re_var 1))) (.cons (re_str [32]) (.cons (re_fmt (re_callP G_value_text hr tkOf (ra_cons (re_ix (re_var 0) re_int) ra_nil) (hk := by omega))) RJ.nil)))))))) rss_nil)
    (rss_cons (rs_if (rt_eq hr (re_var 1) (re_str [102, 111, 117, 110, 100])) (rss_one (rs_ret (re_joined (.cons (re_str [102, 111, 117, 110, 100, 32]) (.cons (re_fmt (re_ix (re_var 0) re_int)) RJ.nil))))) rss_nil)
    (rss_cons (rs_if (rt_eq hr (re_var 1) (re_str [110, 111, 116])) (rss_one (rs_ret (re_joined (.cons (re_str [110, 111, 116, 32]) (.cons (re_fmt (re_callP G hr tkOf (ra_cons (re_ix (re_var 0) re_int) ra_nil) (hk := by omega))) RJ.nil))))) rss_nil)
    (rss_one (rs_ret (re_if (rt_eq hr (re_var 1) (re_str [116, 114, 117, 101])) (re_str [116, 114, 117, 101]) (re_joined (.cons (re_str [40]) (.cons (re_fmt (re_callP G hr tkOf (ra_cons (re_ix (re_var 0) re_int) ra_nil) (hk := by omega))) (.cons (re_str [32]) (.cons (re_fmt (re_var 1)) (.cons (re_str [32]) (.cons (re_fmt (re_callP G hr tkOf (ra_cons (re_ix (re_var 0) re_int) ra_nil) (hk := by omega))) (.cons (re_str [41]) RJ.nil)))))))))))))))⟩⟩
    exact FnP.mono Z (by omega)
theorem ok_text_of (C : CtxT P K w mg) (B : CtxB K mg base) : FnP P w K mg base "text_of" (21) 1 (F_text_of) := FnP.mono (okr_text_of C B 12) (by decide)
def N_condition_text : List Str := ["condition"]
def m_condition_text : MS :=
    (msSeq (msExpr (mCallP F_check_condition (mCons (mVar 0) mNil)))
    (msRet (mCallP F_text_of (mCons (mVar 0) mNil))))
theorem sc_condition_text : FnScope N_condition_text ["condition"] (defScope s_condition_text) := ⟨rfl, rfl, rfl, by decide +kernel, rfl, by decide +kernel, by decide +kernel⟩
def F_condition_text : PF := runP N_condition_text.length m_condition_text
theorem ok_condition_text (C : CtxT P K w mg) (B : CtxB K mg base) : FnP P w K mg base "condition_text" (22) 1 (F_condition_text) := by
  have sc := sc_condition_text
  have G_check_condition := ok_check_condition (P := P) (w := w) (base := base) C B
  have G_text_of := ok_text_of (P := P) (w := w) (base := base) C B
  obtain ⟨f, fd, Fd, g⟩ := C.d_condition_text
  exact ⟨⟨f, fd, ["condition"], g, Fd.kp, Fd.bindsN (fun _ _ _ _ _ _ us hl => match us, hl with | [_], _ => rfl), rfl, fnP Fd sc fun cdv A outer s H E hr => (rss_cons (rs_expr (re_callP G_check_condition hr tkOf (ra_cons (re_var 0) ra_nil)))
    (rss_one (rs_ret (re_callP G_text_of hr tkOf (ra_cons (re_var 0) ra_nil)))))⟩⟩
def N_all_parts : List Str := ["condition", "path", "found", "at", "inner"]
def mb_all_parts_0 (F : PF) : MS :=
    (msAsg (mBin dAdd (mVar 2) (mCallP F (mCons (mVar 4) (mCons (mTup (mStar (mVar 1) (mCons (mVar 3) mNil))) mNil)))) (mgName 2))
def m_all_parts (F : PF) : MS :=
    (msSeq (msAsg (mLst (mCons (mTup (mCons (mVar 1) (mCons (mVar 0) mNil))) mNil)) (mgName 2))
    (msSeq (msFor (miL (mCallP F_inner_parts (mCons (mVar 0) mNil))) (mgTup 2 (mgCons (mgName 3) (mgCons (mgName 4) mgNil))) (mb_all_parts_0 F))
    (msRet (mVar 2))))
theorem sc_all_parts : FnScope N_all_parts ["condition", "path"] (defScope s_all_parts) := ⟨rfl, rfl, rfl, by decide +kernel, rfl, by decide +kernel, by decide +kernel⟩
def F_all_parts_ : Nat → PF
  | 0 => fun _ => none
  | t + 1 => runP N_all_parts.length (m_all_parts (F_all_parts_ t))
def F_all_parts : PF := F_all_parts_ 12
theorem okr_all_parts (C : CtxT P K w mg) (B : CtxB K mg base) : ∀ t, FnP P w K mg base "all_parts" (1 + (t)) 2 (F_all_parts_ t) := by
  have sc := sc_all_parts
  have G_inner_parts := ok_inner_parts (P := P) (w := w) (base := base) C B
  obtain ⟨f, fd, Fd, g⟩ := C.d_all_parts
  intro t
  induction t with
  | zero => exact ⟨⟨f, fd, ["condition", "path"], g, Fd.kp, Fd.bindsN (fun _ _ _ _ _ _ us hl => match us, hl with | [_, _], _ => rfl), rfl, fnOk0⟩⟩
  | succ t G =>
    have Z : FnP P w K mg base "all_parts" (1 + t + 1) 2 (F_all_parts_ (t + 1)) := ⟨⟨f, fd, ["condition", "path"], g, Fd.kp, Fd.bindsN (fun _ _ _ _ _ _ us hl => match us, hl with | [_, _], _ => rfl), rfl, fnP Fd sc fun cdv A outer s H E hr => (rss_cons (rs_set 2 sc.nd (re_lst (ra_cons (re_tup (ra_cons (re_var 1) (ra_cons (re_var 0) ra_nil))) ra_nil)))
    (rss_cons (rs_for poOf rfl (ri_list (re_callP G_inner_parts hr tkOf (ra_cons (re_var 0) ra_nil) (hk := by omega))) (rg_tup (n := 2) rfl (rgs_cons (rg_name 3 sc.nd) (rgs_cons (rg_name 4 sc.nd) rgs_nil))) (rss_one (rs_set 2 sc.nd (re_add (re_var 2) (re_callP G hr tkOf (ra_cons (re_var 4) (ra_cons (re_tup (ra_star (re_var 1) (ra_cons (re_var 3) ra_nil))) ra_nil)) (hk := by omega))))))
    (rss_one (rs_ret (re_var 2)))))⟩⟩
    exact FnP.mono Z (by omega)
theorem ok_all_parts (C : CtxT P K w mg) (B : CtxB K mg base) : FnP P w K mg base "all_parts" (14) 2 (F_all_parts) := FnP.mono (okr_all_parts C B 12) (by decide)
def N_values_in : List Str := ["condition", "value", "path", "part"]
def mt_values_in_0 : M Bool :=
    (mTst (mC1 (dCIn false kv_SIGNS) (mBin dIx (mVar 3) (mC (.int 0)))))
def m_values_in : MS :=
    (msSeq (msExpr (mCallP F_check_condition (mCons (mVar 0) mNil)))
    (msRet (mLc2 [2, 3, 1] (miL (mCallP F_all_parts (mCons (mVar 0) (mCons (mTup mNil) mNil)))) (mgTup 2 (mgCons (mgName 2) (mgCons (mgName 3) mgNil))) mt_values_in_0 (miL (mSl (mVar 3) (mSmP (mC (.int 1))) mNoP)) (mgName 1) mYes (mVar 1) [1])))
theorem sc_values_in : FnScope N_values_in ["condition"] (defScope s_values_in) := ⟨rfl, rfl, rfl, by decide +kernel, rfl, by decide +kernel, by decide +kernel⟩
def F_values_in : PF := runP N_values_in.length m_values_in
theorem ok_values_in (C : CtxT P K w mg) (B : CtxB K mg base) : FnP P w K mg base "values_in" (20) 1 (F_values_in) := by
  have sc := sc_values_in
  have G_all_parts := ok_all_parts (P := P) (w := w) (base := base) C B
  have G_check_condition := ok_check_condition (P := P) (w := w) (base := base) C B
  obtain ⟨f, fd, Fd, g⟩ := C.d_values_in
  exact ⟨⟨f, fd, ["condition"], g, Fd.kp, Fd.bindsN (fun _ _ _ _ _ _ us hl => match us, hl with | [_], _ => rfl), rfl, fnP Fd sc fun cdv A outer s H E hr => (rss_cons (rs_expr (re_callP G_check_condition hr tkOf (ra_cons (re_var 0) ra_nil)))
    (rss_one (rs_ret (re_lc2 (own := [("path", 2), ("part", 3), ("value", 1)]) (vs1 := [1]) rfl sc.nd (ri_list (re_callP G_all_parts hr tkOf (ra_cons (re_var 0) (ra_cons (re_tup ra_nil) ra_nil)))) (blkOk_by (N := N_values_in) (sc := defScope s_values_in) (by decide +kernel)) (by decide) (by decide) (by decide) (fun _ _ _ _ _ => (rg_tup (n := 2) rfl (rgs_cons (rg_name 2 sc.nd) (rgs_cons (rg_name 3 sc.nd) rgs_nil)))) (fun _ _ _ _ _ => (rts_one (rt_cin C.e_SIGNS (re_ix (re_var 3) re_int)))) (fun _ _ _ _ _ => (ri_list (re_slice (re_var 3) (ro_some re_int) ro_none))) (fun _ _ _ _ _ => (rg_name 1 sc.nd)) (fun _ _ _ _ _ => rts_nil) (fun _ _ _ _ _ => (re_var 1))))))⟩⟩
def N_parts : List Str := ["condition"]
def m_parts : MS :=
    (msExpr (mCallP F_check_condition (mCons (mVar 0) mNil)))
theorem sc_parts : GScope N_parts ["condition"] (defScope s_parts) := ⟨rfl, rfl, rfl, by decide +kernel, rfl, by decide +kernel, by decide +kernel⟩
def FG_parts : List D → Option Ex := genX N_parts.length m_parts
theorem ok_parts (C : CtxT P K w mg) (B : CtxB K mg base) : FnG P w K mg base "parts" 20 1 FG_parts := by
  have sc := sc_parts
  have G_check_condition := ok_check_condition (P := P) (w := w) (base := base) C B
  obtain ⟨f, fd, Fd, g⟩ := C.d_parts
  exact ⟨⟨f, fd, ["condition"], g, Fd.kp, Fd.bindsN (fun _ _ _ _ _ _ us hl => match us, hl with | [_], _ => rfl), rfl, fnG Fd sc fun cdv A outer s H E pn hr => (rs_expr (re_callP G_check_condition hr takes_gcx (ra_cons (re_var 0) ra_nil)))⟩⟩
def ml_0 : M D :=
    (mCallP F_condition_text (mCons (mVar 0) mNil))
def F_lam_0 : PF := runL ml_0
theorem lamOk_0 : LamOk (lams 0) := ⟨rfl, rfl, rfl, by decide +kernel, by decide +kernel, by decide +kernel, fun _ _ _ _ _ _ => rfl, fun h => absurd h (by decide)⟩
theorem lamF_0 {n f : Addr} {cd : Value} : LamF (envOfC "law" (defScope s_law) n f cd) N_law (lams 0) [8] := lamF_of rfl (by decide +kernel) (by decide +kernel) (by decide +kernel) (.inl ⟨rfl, rfl, rfl⟩) rfl
theorem okl_0 (C : CtxT P K w mg) (B : CtxB K mg base) : LamS P w K mg base 22 0 F_lam_0 := by
  have G_condition_text := ok_condition_text (P := P) (w := w) (base := base) C B
  have key : ∀ (l : LamD), l = lams 0 → ∀ (cl : List (Str × Addr)) (f c' : Addr) (A : Around) (outer : List Env) (s : Shared) (H : Hp) (E : XK), Room 22 (A.deeper (PySem.W.envX l.qual l.scope s.heap.objs.size f (.ref c') cl)) → RE (lamCx P w K mg base l cl f c' A outer s H E) (fun cls d _ H' => E cls d H') l.body ml_0 := by
    rintro _ rfl cl f c' A outer s H E hr
    exact (re_callP G_condition_text hr tkLam (ra_cons (re_var 0) ra_nil))
  refine ⟨by rw [C.lamE]; exact lamOk_0, ml_0, rfl, fun cl f c' A outer s H E hr => key _ (by rw [C.lamE]) cl f c' A outer s H E hr⟩
def ml_1 : M D :=
    (mCallP F_values_in (mCons (mVar 0) mNil))
def F_lam_1 : PF := runL ml_1
theorem lamOk_1 : LamOk (lams 1) := ⟨rfl, rfl, rfl, by decide +kernel, by decide +kernel, by decide +kernel, fun h => absurd h (by decide), fun _ => ⟨"_law_a", rfl, fun _ _ _ _ _ _ => ⟨_, rfl, fun _ => rfl⟩⟩⟩
theorem lamF_1 {n f : Addr} {cd : Value} : LamF (envOfC "law" (defScope s_law) n f cd) N_law (lams 1) [8] := lamF_of rfl (by decide +kernel) (by decide +kernel) (by decide +kernel) (.inr ⟨rfl, ⟨_, _, rfl⟩, rfl⟩) rfl
theorem okl_1 (C : CtxT P K w mg) (B : CtxB K mg base) : LamS P w K mg base 20 1 F_lam_1 := by
  have G_values_in := ok_values_in (P := P) (w := w) (base := base) C B
  have key : ∀ (l : LamD), l = lams 1 → ∀ (cl : List (Str × Addr)) (f c' : Addr) (A : Around) (outer : List Env) (s : Shared) (H : Hp) (E : XK), Room 20 (A.deeper (PySem.W.envX l.qual l.scope s.heap.objs.size f (.ref c') cl)) → RE (lamCx P w K mg base l cl f c' A outer s H E) (fun cls d _ H' => E cls d H') l.body ml_1 := by
    rintro _ rfl cl f c' A outer s H E hr
    exact (re_callP G_values_in hr tkLam (ra_cons (re_var 0) ra_nil))
  refine ⟨by rw [C.lamE]; exact lamOk_1, ml_1, rfl, fun cl f c' A outer s H E hr => key _ (by rw [C.lamE]) cl f c' A outer s H E hr⟩
def ml_2 : M D :=
    (mListGX "InvalidCondition" FG_parts (mCons (mVar 0) mNil))
def F_lam_2 : PF := runL ml_2
theorem lamOk_2 : LamOk (lams 2) := ⟨rfl, rfl, rfl, by decide +kernel, by decide +kernel, by decide +kernel, fun h => absurd h (by decide), fun _ => ⟨"_law_b", rfl, fun _ _ _ _ _ _ => ⟨_, rfl, fun _ => rfl⟩⟩⟩
theorem lamF_2 {n f : Addr} {cd : Value} : LamF (envOfC "law" (defScope s_law) n f cd) N_law (lams 2) [8] := lamF_of rfl (by decide +kernel) (by decide +kernel) (by decide +kernel) (.inr ⟨rfl, ⟨_, _, rfl⟩, rfl⟩) rfl
theorem okl_2 (C : CtxT P K w mg) (B : CtxB K mg base) : LamS P w K mg base 23 2 F_lam_2 := by
  have G_parts := ok_parts (P := P) (w := w) (base := base) C B
  have key : ∀ (l : LamD), l = lams 2 → ∀ (cl : List (Str × Addr)) (f c' : Addr) (A : Around) (outer : List Env) (s : Shared) (H : Hp) (E : XK), Room 23 (A.deeper (PySem.W.envX l.qual l.scope s.heap.objs.size f (.ref c') cl)) → RE (lamCx P w K mg base l cl f c' A outer s H E) (fun cls d _ H' => E cls d H') l.body ml_2 := by
    rintro _ rfl cl f c' A outer s H E hr
    exact (re_listGX G_parts hr tkLam flatE (ra_cons (re_var 0) ra_nil) C.n_list C.ns_InvalidCondition)
  refine ⟨by rw [C.lamE]; exact lamOk_2, ml_2, rfl, fun cl f c' A outer s H E hr => key _ (by rw [C.lamE]) cl f c' A outer s H E hr⟩
def ml_3 : M D :=
    (mCallP F_condition_text (mCons (mVar 0) mNil))
def F_lam_3 : PF := runL ml_3
theorem lamOk_3 : LamOk (lams 3) := ⟨rfl, rfl, rfl, by decide +kernel, by decide +kernel, by decide +kernel, fun _ _ _ _ _ _ => rfl, fun h => absurd h (by decide)⟩
theorem lamF_3 {n f : Addr} {cd : Value} : LamF (envOfC "law" (defScope s_law) n f cd) N_law (lams 3) [10] := lamF_of rfl (by decide +kernel) (by decide +kernel) (by decide +kernel) (.inl ⟨rfl, rfl, rfl⟩) rfl
theorem okl_3 (C : CtxT P K w mg) (B : CtxB K mg base) : LamS P w K mg base 22 3 F_lam_3 := by
  have G_condition_text := ok_condition_text (P := P) (w := w) (base := base) C B
  have key : ∀ (l : LamD), l = lams 3 → ∀ (cl : List (Str × Addr)) (f c' : Addr) (A : Around) (outer : List Env) (s : Shared) (H : Hp) (E : XK), Room 22 (A.deeper (PySem.W.envX l.qual l.scope s.heap.objs.size f (.ref c') cl)) → RE (lamCx P w K mg base l cl f c' A outer s H E) (fun cls d _ H' => E cls d H') l.body ml_3 := by
    rintro _ rfl cl f c' A outer s H E hr
    exact (re_callP G_condition_text hr tkLam (ra_cons (re_var 0) ra_nil))
  refine ⟨by rw [C.lamE]; exact lamOk_3, ml_3, rfl, fun cl f c' A outer s H E hr => key _ (by rw [C.lamE]) cl f c' A outer s H E hr⟩
def nLam : Nat := 4
def LF : Nat → PF
  | 0 => F_lam_0
  | 1 => F_lam_1
  | 2 => F_lam_2
  | 3 => F_lam_3
  | _ => fun _ => none
theorem okls (C : CtxT P K w mg) (B : CtxB K mg base) : ∀ t, t < nLam → LamS P w K mg base 23 t (LF t) := by
  intro t ht
  match t, ht with
  | 0, _ => exact (okl_0 (P := P) (w := w) (base := base) C B).mono (by decide)
  | 1, _ => exact (okl_1 (P := P) (w := w) (base := base) C B).mono (by decide)
  | 2, _ => exact (okl_2 (P := P) (w := w) (base := base) C B).mono (by decide)
  | 3, _ => exact (okl_3 (P := P) (w := w) (base := base) C B).mono (by decide)
  | t + 4, ht => exact absurd ht (by simp [nLam])
def N__law_draws : List Str := ["_law_script", "_law_seed", "_law_cell"]
def mb__law_draws_0 : MS :=
    (msAsg (mBin dMod (mCall dInt (mCons (mBin dAdd (mBin dAdd (mBin dMul (mVar 1) (mC (.int 44021))) (mBin dMod (mCall dInt (mCons (mVar 2) mNil)) (mC (.int 2147483489)))) (mC (.int 53))) mNil)) (mC (.int 2147483549))) (mgName 1))
def m__law_draws : MS :=
    (msSeq (msAsg (mC (.int 5648)) (mgName 1))
    (msSeq (msFor (miL (mSl (mVar 0) mNoP (mSmP (mC (.int 63))))) (mgName 2) mb__law_draws_0)
    (msRet (mLstC (mCons (mCall dList (mCons (mSl (mVar 0) mNoP (mSmP (mC (.int 63)))) mNil)) (mCons (mC (.int 0)) (mCons (mC (.int 0)) (mCons (mVar 1) (mCons (mC (.int 0)) mNil)))))))))
theorem sc__law_draws : FnScope N__law_draws ["_law_script"] (defScope s__law_draws) := ⟨rfl, rfl, rfl, by decide +kernel, rfl, by decide +kernel, by decide +kernel⟩
def F__law_draws : IF := runA N__law_draws.length m__law_draws
theorem ok__law_draws (C : CtxT P K w mg) (B : CtxB K mg base) : FnI P w K mg base "_law_draws" (1) 1 (F__law_draws) := by
  have sc := sc__law_draws
  obtain ⟨f, fd, Fd, g⟩ := C.d__law_draws
  exact ⟨⟨f, fd, ["_law_script"], g, Fd.kp, Fd.bindsN (fun _ _ _ _ _ _ us hl => match us, hl with | [_], _ => rfl), rfl, fnA Fd sc fun cdv A outer s H E hr => (rss_cons (rs_set 1 sc.nd re_int)
    (rss_cons (rs_for poOf rfl (ri_list (re_slice (re_var 0) ro_none (ro_some re_int))) (rg_name 2 sc.nd) (rss_one (rs_set 1 sc.nd (re_mod (re_intc C.n_int (ra_cons (re_add (re_add (re_mul (re_var 1) re_int) (re_mod (re_intc C.n_int (ra_cons (re_var 2) ra_nil)) re_int)) re_int) ra_nil)) re_int))))
    (rss_one (rs_ret (re_lstC (ra_cons (re_listc C.n_list (ra_cons (re_slice (re_var 0) ro_none (ro_some re_int)) ra_nil)) (ra_cons re_int (ra_cons re_int (ra_cons (re_var 1) (ra_cons re_int ra_nil))))))))))⟩⟩
def N__law_like : List Str := ["_law_a", "_law_b", "_law_same", "_law_c", "_law_d"]
def m__law_like (F : PF) : MS :=
    (msSeq (msIf (mTst (mIsi [.lst, .tup] (mVar 1))) (msSeq (msAsg (mAndV (mBin dEq (mIsi [.lst] (mVar 0)) (mIsi [.lst] (mVar 1))) (mBin dEq (mIsi [.tup] (mVar 0)) (mIsi [.tup] (mVar 1)))) (mgName 2))
    (msRet (mAndV (mVar 2) (mAndV (mBin dEq (mCall dLen (mCons (mVar 0) mNil)) (mCall dLen (mCons (mVar 1) mNil))) (mCall dAll (mCons (mLc [3, 4] (miZip (mCons (mVar 0) (mCons (mVar 1) mNil))) (mgTup 2 (mgCons (mgName 3) (mgCons (mgName 4) mgNil))) mYes (mCallP F (mCons (mVar 3) (mCons (mVar 4) mNil)))) mNil)))))) msNil)
    (msSeq (msIf (mOr (mTst (mBin (dIsN false) (mVar 0) (mC .non))) (mOr (mTst (mBin (dIsN false) (mVar 1) (mC .non))) (mTst (mBin dNe (mIsi [.bool] (mVar 0)) (mIsi [.bool] (mVar 1)))))) (msRet (mAndV (mBin (dIsN false) (mVar 0) (mC .non)) (mBin (dIsN false) (mVar 1) (mC .non)))) msNil)
    (msRet (mAndV (mBin dEq (mIsi [.int] (mVar 0)) (mIsi [.int] (mVar 1))) (mAndV (mBin dEq (mIsi [.str] (mVar 0)) (mIsi [.str] (mVar 1))) (mBin dEq (mVar 0) (mVar 1)))))))
theorem sc__law_like : FnScope N__law_like ["_law_a", "_law_b"] (defScope s__law_like) := ⟨rfl, rfl, rfl, by decide +kernel, rfl, by decide +kernel, by decide +kernel⟩
def F__law_like_ : Nat → PF
  | 0 => fun _ => none
  | t + 1 => runP N__law_like.length (m__law_like (F__law_like_ t))
def F__law_like : PF := F__law_like_ 30
theorem okr__law_like (C : CtxT P K w mg) (B : CtxB K mg base) : ∀ t, FnP P w K mg base "_law_like" (0 + (t)) 2 (F__law_like_ t) := by
  have sc := sc__law_like
  obtain ⟨f, fd, Fd, g⟩ := C.d__law_like
  intro t
  induction t with
  | zero => exact ⟨⟨f, fd, ["_law_a", "_law_b"], g, Fd.kp, Fd.bindsN (fun _ _ _ _ _ _ us hl => match us, hl with | [_, _], _ => rfl), rfl, fnOk0⟩⟩
  | succ t G =>
    have Z : FnP P w K mg base "_law_like" (0 + t + 1) 2 (F__law_like_ (t + 1)) := ⟨⟨f, fd, ["_law_a", "_law_b"], g, Fd.kp, Fd.bindsN (fun _ _ _ _ _ _ us hl => match us, hl with | [_, _], _ => rfl), rfl, fnP Fd sc fun cdv A outer s H E hr => (rss_cons (rs_if (rt_val (re_isi2 .lst .tup C.n_isinstance C.n_list C.n_tuple (re_var 1))) (rss_cons (rs_set 2 sc.nd (re_and (re_eq hr (re_isi .lst C.n_isinstance C.n_list (re_var 0)) (re_isi .lst C.n_isinstance C.n_list (re_var 1))) (re_one (re_eq hr (re_isi .tup C.n_isinstance C.n_tuple (re_var 0)) (re_isi .tup C.n_isinstance C.n_tuple (re_var 1))))))
    (rss_one (rs_ret (re_and (re_var 2) (re_and (re_eq hr (re_len C.n_len (ra_cons (re_var 0) ra_nil)) (re_len C.n_len (ra_cons (re_var 1) ra_nil))) (re_one (re_all rfl C.n_all (ra_cons (re_lc (own := [("_law_c", 3), ("_law_d", 4)]) rfl sc.nd (ri_zip C.n_zip (ra_cons (re_var 0) (ra_cons (re_var 1) ra_nil))) (blkOk_by (N := N__law_like) (sc := defScope s__law_like) (by decide +kernel)) (by decide) (fun _ _ _ _ _ => (rg_tup (n := 2) rfl (rgs_cons (rg_name 3 sc.nd) (rgs_cons (rg_name 4 sc.nd) rgs_nil)))) (fun _ _ _ _ _ => rts_nil) (fun _ _ _ _ _ => (re_callP G hr takes0 (ra_cons (re_var 3) (ra_cons (re_var 4) ra_nil)) (hk := by omega)))) ra_nil)))))))) rss_nil)
    (rss_cons (rs_if (rt_bool (rw_or (rt_is (re_var 0) re_non) (rw_or (rt_is (re_var 1) re_non) (rw_or1 (rt_ne hr (re_isi .bool C.n_isinstance C.n_bool (re_var 0)) (re_isi .bool C.n_isinstance C.n_bool (re_var 1))))))) (rss_one (rs_ret (re_and (re_is (re_var 0) re_non) (re_one (re_is (re_var 1) re_non))))) rss_nil)
    (rss_one (rs_ret (re_and (re_eq hr (re_isi .int C.n_isinstance C.n_int (re_var 0)) (re_isi .int C.n_isinstance C.n_int (re_var 1))) (re_and (re_eq hr (re_isi .str C.n_isinstance C.n_str (re_var 0)) (re_isi .str C.n_isinstance C.n_str (re_var 1))) (re_one (re_eq hr (re_var 0) (re_var 1)))))))))⟩⟩
    exact FnP.mono Z (by omega)
theorem ok__law_like (C : CtxT P K w mg) (B : CtxB K mg base) : FnP P w K mg base "_law_like" (31) 2 (F__law_like) := FnP.mono (okr__law_like C B 30) (by decide)
def N__law_pull : List Str := ["_law_bag", "_law_sides", "_law_seed", "_law_cell", "_law_digit"]
def m__law_pull : MS :=
    (msSeq (msAsg (mBin dAdd (mBin dIx (mVar 0) (mC (.int 4))) (mC (.int 1))) (mgSub (mVar 0) (mC (.int 4))))
    (msSeq (msIf (mAnd (mTst (mBin dEq (mBin dIx (mVar 0) (mC (.int 2))) (mC (.int 0)))) (mTst (mBin dLt (mBin dIx (mVar 0) (mC (.int 1))) (mCall dLen (mCons (mBin dIx (mVar 0) (mC (.int 0))) mNil))))) (msSeq (msAsg (mTup (mCons (mBin dIx (mBin dIx (mVar 0) (mC (.int 0))) (mBin dIx (mVar 0) (mC (.int 1)))) (mCons (mBin dAdd (mBin dIx (mVar 0) (mC (.int 1))) (mC (.int 1))) mNil))) (mgTup 2 (mgCons (mgName 3) (mgCons (mgSub (mVar 0) (mC (.int 1))) mgNil))))
    (msSeq (msIf (mTst (mBin dGe (mVar 3) (mBin dPow (mC (.int 10)) (mC (.int 18))))) (msAsg (mVar 3) (mgSub (mVar 0) (mC (.int 2)))) msNil)
    (msAsg (mBin dMod (mCall dInt (mCons (mBin dAdd (mBin dAdd (mBin dMul (mBin dIx (mVar 0) (mC (.int 3))) (mC (.int 38377))) (mBin dMul (mBin dMod (mCall dInt (mCons (mVar 3) mNil)) (mC (.int 2147483489))) (mC (.int 41143)))) (mC (.int 61))) mNil)) (mC (.int 2147483549))) (mgSub (mVar 0) (mC (.int 3)))))) msNil)
    (msSeq (msIf (mTst (mBin dGt (mBin dIx (mVar 0) (mC (.int 2))) (mC (.int 0)))) (msSeq (msAsg (mTup (mCons (mBin dMod (mCall dInt (mCons (mBin dIx (mVar 0) (mC (.int 2))) mNil)) (mVar 1)) (mCons (mBin dDiv (mBin dIx (mVar 0) (mC (.int 2))) (mVar 1)) mNil))) (mgTup 2 (mgCons (mgName 4) (mgCons (mgSub (mVar 0) (mC (.int 2))) mgNil))))
    (msRet (mVar 4))) msNil)
    (msSeq (msAsg (mBin dIx (mVar 0) (mC (.int 3))) (mgName 2))
    (msSeq (msAsg (mBin dMod (mCall dInt (mCons (mBin dAdd (mBin dAdd (mBin dAdd (mBin dPow (mVar 2) (mC (.int 3))) (mBin dMul (mVar 2) (mC (.int 37813)))) (mBin dMul (mBin dIx (mVar 0) (mC (.int 4))) (mC (.int 1299689)))) (mC (.int 65437))) mNil)) (mC (.int 2147483549))) (mgSub (mVar 0) (mC (.int 3))))
    (msRet (mBin dMod (mCall dInt (mCons (mBin dAdd (mBin dDiv (mBin dIx (mVar 0) (mC (.int 3))) (mC (.int 89))) (mBin dMul (mBin dMod (mCall dInt (mCons (mBin dIx (mVar 0) (mC (.int 3))) mNil)) (mC (.int 7919))) (mC (.int 71)))) mNil)) (mVar 1))))))))
theorem sc__law_pull : FnScope N__law_pull ["_law_bag", "_law_sides"] (defScope s__law_pull) := ⟨rfl, rfl, rfl, by decide +kernel, rfl, by decide +kernel, by decide +kernel⟩
def F__law_pull : IF := runI N__law_pull.length m__law_pull
theorem ok__law_pull (C : CtxT P K w mg) (B : CtxB K mg base) : FnI P w K mg base "_law_pull" (1) 2 (F__law_pull) := by
  have sc := sc__law_pull
  obtain ⟨f, fd, Fd, g⟩ := C.d__law_pull
  exact ⟨⟨f, fd, ["_law_bag", "_law_sides"], g, Fd.kp, Fd.bindsN (fun _ _ _ _ _ _ us hl => match us, hl with | [_, _], _ => rfl), rfl, fnI Fd sc fun cdv A outer s H E hr => (rss_cons (rs_asg (re_add (re_ix (re_var 0) re_int) re_int) (rg_sub (W := W0) (re_var 0) re_int))
    (rss_cons (rs_if (rt_bool (rw_and (rt_eq hr (re_ix (re_var 0) re_int) re_int) (rw_and1 (rt_lt (re_ix (re_var 0) re_int) (re_len C.n_len (ra_cons (re_ix (re_var 0) re_int) ra_nil)))))) (rss_cons (rs_asg (re_tup (ra_cons (re_ix (re_ix (re_var 0) re_int) (re_ix (re_var 0) re_int)) (ra_cons (re_add (re_ix (re_var 0) re_int) re_int) ra_nil))) (rg_tup (n := 2) rfl (rgs_cons (rg_name 3 sc.nd) (rgs_cons (rg_sub (W := W0) (re_var 0) re_int) rgs_nil))))
    (rss_cons (rs_if (rt_ge (re_var 3) (re_pow re_int re_int)) (rss_one (rs_asg (re_var 3) (rg_sub (W := W0) (re_var 0) re_int))) rss_nil)
    (rss_one (rs_asg (re_mod (re_intc C.n_int (ra_cons (re_add (re_add (re_mul (re_ix (re_var 0) re_int) re_int) (re_mul (re_mod (re_intc C.n_int (ra_cons (re_var 3) ra_nil)) re_int) re_int)) re_int) ra_nil)) re_int) (rg_sub (W := W0) (re_var 0) re_int))))) rss_nil)
    (rss_cons (rs_if (rt_gt (re_ix (re_var 0) re_int) re_int) (rss_cons (rs_asg (re_tup (ra_cons (re_mod (re_intc C.n_int (ra_cons (re_ix (re_var 0) re_int) ra_nil)) (re_var 1)) (ra_cons (re_div (re_ix (re_var 0) re_int) (re_var 1)) ra_nil))) (rg_tup (n := 2) rfl (rgs_cons (rg_name 4 sc.nd) (rgs_cons (rg_sub (W := W0) (re_var 0) re_int) rgs_nil))))
    (rss_one (rs_ret (re_var 4)))) rss_nil)
    (rss_cons (rs_set 2 sc.nd (re_ix (re_var 0) re_int))
    (rss_cons (rs_asg (re_mod (re_intc C.n_int (ra_cons (re_add (re_add (re_add (re_pow (re_var 2) re_int) (re_mul (re_var 2) re_int)) (re_mul (re_ix (re_var 0) re_int) re_int)) re_int) ra_nil)) re_int) (rg_sub (W := W0) (re_var 0) re_int))
    (rss_one (rs_ret (re_mod (re_intc C.n_int (ra_cons (re_add (re_div (re_ix (re_var 0) re_int) re_int) (re_mul (re_mod (re_intc C.n_int (ra_cons (re_ix (re_var 0) re_int) ra_nil)) re_int) re_int)) ra_nil)) (re_var 1)))))))))⟩⟩
def N__law_any : List Str := ["_law_bag", "_law_rows"]
def m__law_any : MS :=
    (msRet (mBin dIx (mVar 1) (mCallI F__law_pull (mCons (mVar 0) (mCons (mCall dLen (mCons (mVar 1) mNil)) mNil)))))
theorem sc__law_any : FnScope N__law_any ["_law_bag", "_law_rows"] (defScope s__law_any) := ⟨rfl, rfl, rfl, by decide +kernel, rfl, by decide +kernel, by decide +kernel⟩
def F__law_any : IF := runI N__law_any.length m__law_any
theorem ok__law_any (C : CtxT P K w mg) (B : CtxB K mg base) : FnI P w K mg base "_law_any" (2) 2 (F__law_any) := by
  have sc := sc__law_any
  have G__law_pull := ok__law_pull (P := P) (w := w) (base := base) C B
  obtain ⟨f, fd, Fd, g⟩ := C.d__law_any
  exact ⟨⟨f, fd, ["_law_bag", "_law_rows"], g, Fd.kp, Fd.bindsN (fun _ _ _ _ _ _ us hl => match us, hl with | [_, _], _ => rfl), rfl, fnI Fd sc fun cdv A outer s H E hr => (rss_one (rs_ret (re_ix (re_var 1) (re_callI G__law_pull hr tkOf (ra_cons (re_var 0) (ra_cons (re_len C.n_len (ra_cons (re_var 1) ra_nil)) ra_nil))))))⟩⟩
def N__law_near : List Str := ["_law_bag"]
def m__law_near : MS :=
    (msRet (mCallI F__law_any (mCons (mVar 0) (mCons (mLst (mCons (mC (.int 0)) (mCons (mC (.int 1)) (mCons (mC (.int 1)) (mCons (mC (.int 2)) (mCons (mC (.int 3)) (mCons (mBin dSub (mC (.int 0)) (mC (.int 1))) (mCons (mBin dSub (mC (.int 0)) (mC (.int 2))) mNil)))))))) mNil))))
theorem sc__law_near : FnScope N__law_near ["_law_bag"] (defScope s__law_near) := ⟨rfl, rfl, rfl, by decide +kernel, rfl, by decide +kernel, by decide +kernel⟩
def F__law_near : IF := runI N__law_near.length m__law_near
theorem ok__law_near (C : CtxT P K w mg) (B : CtxB K mg base) : FnI P w K mg base "_law_near" (3) 1 (F__law_near) := by
  have sc := sc__law_near
  have G__law_any := ok__law_any (P := P) (w := w) (base := base) C B
  obtain ⟨f, fd, Fd, g⟩ := C.d__law_near
  exact ⟨⟨f, fd, ["_law_bag"], g, Fd.kp, Fd.bindsN (fun _ _ _ _ _ _ us hl => match us, hl with | [_], _ => rfl), rfl, fnI Fd sc fun cdv A outer s H E hr => (rss_one (rs_ret (re_callI G__law_any hr tkOf (ra_cons (re_var 0) (ra_cons (re_lst (ra_cons re_int (ra_cons re_int (ra_cons re_int (ra_cons re_int (ra_cons re_int (ra_cons (re_sub re_int re_int) (ra_cons (re_sub re_int re_int) ra_nil)))))))) ra_nil)))))⟩⟩
def N__law_some_value : List Str := ["_law_bag", "_law_pool", "_law_plain"]
def m__law_some_value : MS :=
    (msSeq (msAsg (mCallI F__law_any (mCons (mVar 0) (mCons (mBin dAdd (mVar 1) (mLst (mCons (mTup (mCons (mC (.str [110, 117, 109, 98, 101, 114])) (mCons (mCallI F__law_near (mCons (mVar 0) mNil)) mNil))) mNil))) mNil))) (mgName 2))
    (msRet (mIf (mTst (mBin dEq (mCallI F__law_pull (mCons (mVar 0) (mCons (mC (.int 3)) mNil))) (mC (.int 0)))) (mTup (mCons (mC (.str [112, 108, 117, 115])) (mCons (mVar 2) (mCons (mCallI F__law_near (mCons (mVar 0) mNil)) mNil)))) (mVar 2))))
theorem sc__law_some_value : FnScope N__law_some_value ["_law_bag", "_law_pool"] (defScope s__law_some_value) := ⟨rfl, rfl, rfl, by decide +kernel, rfl, by decide +kernel, by decide +kernel⟩
def F__law_some_value : IF := runI N__law_some_value.length m__law_some_value
theorem ok__law_some_value (C : CtxT P K w mg) (B : CtxB K mg base) : FnI P w K mg base "_law_some_value" (4) 2 (F__law_some_value) := by
  have sc := sc__law_some_value
  have G__law_any := ok__law_any (P := P) (w := w) (base := base) C B
  have G__law_near := ok__law_near (P := P) (w := w) (base := base) C B
  have G__law_pull := ok__law_pull (P := P) (w := w) (base := base) C B
  obtain ⟨f, fd, Fd, g⟩ := C.d__law_some_value
  exact ⟨⟨f, fd, ["_law_bag", "_law_pool"], g, Fd.kp, Fd.bindsN (fun _ _ _ _ _ _ us hl => match us, hl with | [_, _], _ => rfl), rfl, fnI Fd sc fun cdv A outer s H E hr => (rss_cons (rs_set 2 sc.nd (re_callI G__law_any hr tkOf (ra_cons (re_var 0) (ra_cons (re_add (re_var 1) (re_lst (ra_cons (re_tup (ra_cons (re_str [110, 117, 109, 98, 101, 114]) (ra_cons (re_callI G__law_near hr tkOf (ra_cons (re_var 0) ra_nil)) ra_nil))) ra_nil))) ra_nil))))
    (rss_one (rs_ret (re_if (rt_eq hr (re_callI G__law_pull hr tkOf (ra_cons (re_var 0) (ra_cons re_int ra_nil))) re_int) (re_tup (ra_cons (re_str [112, 108, 117, 115]) (ra_cons (re_var 2) (ra_cons (re_callI G__law_near hr tkOf (ra_cons (re_var 0) ra_nil)) ra_nil)))) (re_var 2)))))⟩⟩
def N__law_some_compared : List Str := ["_law_bag", "_law_pool", "_law_one"]
def m__law_some_compared : MS :=
    (msSeq (msAsg (mIf (mTst (mBin dNe (mVar 1) (mLst mNil))) (mCallI F__law_any (mCons (mVar 0) (mCons (mVar 1) mNil))) (mTup (mCons (mC (.str [110, 117, 109, 98, 101, 114])) (mCons (mCallI F__law_near (mCons (mVar 0) mNil)) mNil)))) (mgName 2))
    (msSeq (msIf (mTst (mBin dEq (mCallI F__law_pull (mCons (mVar 0) (mCons (mC (.int 4)) mNil))) (mC (.int 0)))) (msAsg (mTup (mCons (mC (.str [112, 108, 117, 115])) (mCons (mVar 2) (mCons (mCallI F__law_near (mCons (mVar 0) mNil)) mNil)))) (mgName 2)) msNil)
    (msRet (mTup (mCons (mCallI F__law_any (mCons (mVar 0) (mCons (mLst (mCons (mC (.str [97, 116, 109, 111, 115, 116])) (mCons (mC (.str [98, 101, 108, 111, 119])) (mCons (mC (.str [98, 101, 108, 111, 119])) (mCons (mC (.str [115, 97, 109, 101])) mNil))))) mNil))) (mCons (mVar 2) (mCons (mCallI F__law_some_value (mCons (mVar 0) (mCons (mVar 1) mNil))) mNil)))))))
theorem sc__law_some_compared : FnScope N__law_some_compared ["_law_bag", "_law_pool"] (defScope s__law_some_compared) := ⟨rfl, rfl, rfl, by decide +kernel, rfl, by decide +kernel, by decide +kernel⟩
def F__law_some_compared : IF := runI N__law_some_compared.length m__law_some_compared
theorem ok__law_some_compared (C : CtxT P K w mg) (B : CtxB K mg base) : FnI P w K mg base "_law_some_compared" (5) 2 (F__law_some_compared) := by
  have sc := sc__law_some_compared
  have G__law_any := ok__law_any (P := P) (w := w) (base := base) C B
  have G__law_near := ok__law_near (P := P) (w := w) (base := base) C B
  have G__law_pull := ok__law_pull (P := P) (w := w) (base := base) C B
  have G__law_some_value := ok__law_some_value (P := P) (w := w) (base := base) C B
  obtain ⟨f, fd, Fd, g⟩ := C.d__law_some_compared
  exact ⟨⟨f, fd, ["_law_bag", "_law_pool"], g, Fd.kp, Fd.bindsN (fun _ _ _ _ _ _ us hl => match us, hl with | [_, _], _ => rfl), rfl, fnI Fd sc fun cdv A outer s H E hr => (rss_cons (rs_set 2 sc.nd (re_if (rt_ne hr (re_var 1) (re_lst ra_nil)) (re_callI G__law_any hr tkOf (ra_cons (re_var 0) (ra_cons (re_var 1) ra_nil))) (re_tup (ra_cons (re_str [110, 117, 109, 98, 101, 114]) (ra_cons (re_callI G__law_near hr tkOf (ra_cons (re_var 0) ra_nil)) ra_nil)))))
    (rss_cons (rs_if (rt_eq hr (re_callI G__law_pull hr tkOf (ra_cons (re_var 0) (ra_cons re_int ra_nil))) re_int) (rss_one (rs_set 2 sc.nd (re_tup (ra_cons (re_str [112, 108, 117, 115]) (ra_cons (re_var 2) (ra_cons (re_callI G__law_near hr tkOf (ra_cons (re_var 0) ra_nil)) ra_nil)))))) rss_nil)
    (rss_one (rs_ret (re_tup (ra_cons (re_callI G__law_any hr tkOf (ra_cons (re_var 0) (ra_cons (re_lst (ra_cons (re_str [97, 116, 109, 111, 115, 116]) (ra_cons (re_str [98, 101, 108, 111, 119]) (ra_cons (re_str [98, 101, 108, 111, 119]) (ra_cons (re_str [115, 97, 109, 101]) ra_nil))))) ra_nil))) (ra_cons (re_var 2) (ra_cons (re_callI G__law_some_value hr tkOf (ra_cons (re_var 0) (ra_cons (re_var 1) ra_nil))) ra_nil))))))))⟩⟩
def N__law_some_condition : List Str := ["_law_bag", "_law_pool", "_law_deep", "_law_way", "_law_word"]
def m__law_some_condition (F : IF) : MS :=
    (msSeq (msAsg (mIf (mTst (mBin dGt (mVar 2) (mC (.int 0)))) (mCallI F__law_pull (mCons (mVar 0) (mCons (mC (.int 7)) mNil))) (mCallI F__law_pull (mCons (mVar 0) (mCons (mC (.int 3)) mNil)))) (mgName 3))
    (msSeq (msIf (mTst (mBin dLt (mVar 3) (mC (.int 1)))) (msRet (mTup (mCons (mC (.str [116, 114, 117, 101])) mNil))) msNil)
    (msSeq (msIf (mTst (mBin dLt (mVar 3) (mC (.int 4)))) (msRet (mCallI F__law_some_compared (mCons (mVar 0) (mCons (mVar 1) mNil)))) msNil)
    (msSeq (msIf (mTst (mBin dEq (mVar 3) (mC (.int 4)))) (msRet (mTup (mCons (mC (.str [110, 111, 116])) (mCons (mCallI F (mCons (mVar 0) (mCons (mVar 1) (mCons (mBin dSub (mVar 2) (mC (.int 1))) mNil)))) mNil)))) msNil)
    (msSeq (msAsg (mIf (mTst (mBin dEq (mVar 3) (mC (.int 5)))) (mC (.str [97, 110, 100])) (mC (.str [111, 114]))) (mgName 4))
    (msRet (mTup (mCons (mVar 4) (mCons (mCallI F (mCons (mVar 0) (mCons (mVar 1) (mCons (mBin dSub (mVar 2) (mC (.int 1))) mNil)))) (mCons (mCallI F (mCons (mVar 0) (mCons (mVar 1) (mCons (mBin dSub (mVar 2) (mC (.int 1))) mNil)))) mNil))))))))))
theorem sc__law_some_condition : FnScope N__law_some_condition ["_law_bag", "_law_pool", "_law_deep"] (defScope s__law_some_condition) := ⟨rfl, rfl, rfl, by decide +kernel, rfl, by decide +kernel, by decide +kernel⟩
def F__law_some_condition_ : Nat → IF
  | 0 => fun _ _ => none
  | t + 1 => runI N__law_some_condition.length (m__law_some_condition (F__law_some_condition_ t))
def F__law_some_condition : IF := F__law_some_condition_ 8
theorem okr__law_some_condition (C : CtxT P K w mg) (B : CtxB K mg base) : ∀ t, FnI P w K mg base "_law_some_condition" (5 + (t)) 3 (F__law_some_condition_ t) := by
  have sc := sc__law_some_condition
  have G__law_pull := ok__law_pull (P := P) (w := w) (base := base) C B
  have G__law_some_compared := ok__law_some_compared (P := P) (w := w) (base := base) C B
  obtain ⟨f, fd, Fd, g⟩ := C.d__law_some_condition
  intro t
  induction t with
  | zero => exact ⟨⟨f, fd, ["_law_bag", "_law_pool", "_law_deep"], g, Fd.kp, Fd.bindsN (fun _ _ _ _ _ _ us hl => match us, hl with | [_, _, _], _ => rfl), rfl, fnOk0I⟩⟩
  | succ t G =>
    have Z : FnI P w K mg base "_law_some_condition" (5 + t + 1) 3 (F__law_some_condition_ (t + 1)) := ⟨⟨f, fd, ["_law_bag", "_law_pool", "_law_deep"], g, Fd.kp, Fd.bindsN (fun _ _ _ _ _ _ us hl => match us, hl with | [_, _, _], _ => rfl), rfl, fnI Fd sc fun cdv A outer s H E hr => (rss_cons (rs_set 3 sc.nd (re_if (rt_gt (re_var 2) re_int) (re_callI G__law_pull hr tkOf (ra_cons (re_var 0) (ra_cons re_int ra_nil)) (hk := by omega)) (re_callI G__law_pull hr tkOf (ra_cons (re_var 0) (ra_cons re_int ra_nil)) (hk := by omega))))
    (rss_cons (rs_if (rt_lt (re_var 3) re_int) (rss_one (rs_ret (re_tup (ra_cons (re_str [116, 114, 117, 101]) ra_nil)))) rss_nil)
    (rss_cons (rs_if (rt_lt (re_var 3) re_int) (rss_one (rs_ret (re_callI G__law_some_compared hr tkOf (ra_cons (re_var 0) (ra_cons (re_var 1) ra_nil)) (hk := by omega)))) rss_nil)
    (rss_cons (rs_if (rt_eq hr (re_var 3) re_int) (rss_one (rs_ret (re_tup (ra_cons (re_str [110, 111, 116]) (ra_cons (re_callI G hr tkOf (ra_cons (re_var 0) (ra_cons (re_var 1) (ra_cons (re_sub (re_var 2) re_int) ra_nil))) (hk := by omega)) ra_nil))))) rss_nil)
    (rss_cons (rs_set 4 sc.nd (re_if (rt_eq hr (re_var 3) re_int) (re_str [97, 110, 100]) (re_str [111, 114])))
    (rss_one (rs_ret (re_tup (ra_cons (re_var 4) (ra_cons (re_callI G hr tkOf (ra_cons (re_var 0) (ra_cons (re_var 1) (ra_cons (re_sub (re_var 2) re_int) ra_nil))) (hk := by omega)) (ra_cons (re_callI G hr tkOf (ra_cons (re_var 0) (ra_cons (re_var 1) (ra_cons (re_sub (re_var 2) re_int) ra_nil))) (hk := by omega)) ra_nil)))))))))))⟩⟩
    exact FnI.mono Z (by omega)
theorem ok__law_some_condition (C : CtxT P K w mg) (B : CtxB K mg base) : FnI P w K mg base "_law_some_condition" (14) 3 (F__law_some_condition) := FnI.mono (okr__law_some_condition C B 8) (by decide)
def N__law_paths : List Str := ["_law_c", "_law_path", "_law_found", "_law_at"]
def mb__law_paths_0 (F : PF) : MS :=
    (msAsg (mBin dAdd (mVar 2) (mCallP F (mCons (mBin dIx (mVar 0) (mVar 3)) (mCons (mBin dAdd (mVar 1) (mTup (mCons (mVar 3) mNil))) mNil)))) (mgName 2))
def m__law_paths (F : PF) : MS :=
    (msSeq (msAsg (mLst (mCons (mVar 1) mNil)) (mgName 2))
    (msSeq (msIf (mTst (mBin dInA (mBin dIx (mVar 0) (mC (.int 0))) (mTup (mCons (mC (.str [110, 111, 116])) (mCons (mC (.str [97, 110, 100])) (mCons (mC (.str [111, 114])) mNil)))))) (msFor (miR2 (mCons (mC (.int 1)) (mCons (mCall dLen (mCons (mVar 0) mNil)) mNil))) (mgName 3) (mb__law_paths_0 F)) msNil)
    (msRet (mVar 2))))
theorem sc__law_paths : FnScope N__law_paths ["_law_c", "_law_path"] (defScope s__law_paths) := ⟨rfl, rfl, rfl, by decide +kernel, rfl, by decide +kernel, by decide +kernel⟩
def F__law_paths_ : Nat → PF
  | 0 => fun _ => none
  | t + 1 => runP N__law_paths.length (m__law_paths (F__law_paths_ t))
def F__law_paths : PF := F__law_paths_ 12
theorem okr__law_paths (C : CtxT P K w mg) (B : CtxB K mg base) : ∀ t, FnP P w K mg base "_law_paths" (0 + (t)) 2 (F__law_paths_ t) := by
  have sc := sc__law_paths
  obtain ⟨f, fd, Fd, g⟩ := C.d__law_paths
  intro t
  induction t with
  | zero => exact ⟨⟨f, fd, ["_law_c", "_law_path"], g, Fd.kp, Fd.bindsN (fun _ _ _ _ _ _ us hl => match us, hl with | [_, _], _ => rfl), rfl, fnOk0⟩⟩
  | succ t G =>
    have Z : FnP P w K mg base "_law_paths" (0 + t + 1) 2 (F__law_paths_ (t + 1)) := ⟨⟨f, fd, ["_law_c", "_law_path"], g, Fd.kp, Fd.bindsN (fun _ _ _ _ _ _ us hl => match us, hl with | [_, _], _ => rfl), rfl, fnP Fd sc fun cdv A outer s H E hr => (rss_cons (rs_set 2 sc.nd (re_lst (ra_cons (re_var 1) ra_nil)))
    (rss_cons (rs_if (rt_in (re_ix (re_var 0) re_int) (re_tup (ra_cons (re_str [110, 111, 116]) (ra_cons (re_str [97, 110, 100]) (ra_cons (re_str [111, 114]) ra_nil))))) (rss_one (rs_for poOf rfl (ri_range2 C.n_range (ra_cons re_int (ra_cons (re_len C.n_len (ra_cons (re_var 0) ra_nil)) ra_nil))) (rg_name 3 sc.nd) (rss_one (rs_set 2 sc.nd (re_add (re_var 2) (re_callP G hr tkOf (ra_cons (re_ix (re_var 0) (re_var 3)) (ra_cons (re_add (re_var 1) (re_tup (ra_cons (re_var 3) ra_nil))) ra_nil)) (hk := by omega))))))) rss_nil)
    (rss_one (rs_ret (re_var 2)))))⟩⟩
    exact FnP.mono Z (by omega)
theorem ok__law_paths (C : CtxT P K w mg) (B : CtxB K mg base) : FnP P w K mg base "_law_paths" (13) 2 (F__law_paths) := FnP.mono (okr__law_paths C B 12) (by decide)
def N__law_try : List Str := ["_law_ask", "_law_e"]
def m__law_try : MS :=
    (msTryT CL (chainL chF) 1 (msRet (mTup (mCons (mC (.str [])) (mCons (mCallF nLam LF 0) mNil)))))
theorem sc__law_try : FnScope N__law_try ["_law_ask"] (defScope s__law_try) := ⟨rfl, rfl, rfl, by decide +kernel, rfl, by decide +kernel, by decide +kernel⟩
def F__law_try : PF := runP N__law_try.length m__law_try
theorem ok__law_try (C : CtxT P K w mg) (B : CtxB K mg base) : FnP P w K mg base "_law_try" (25) 1 (F__law_try) := by
  have sc := sc__law_try
  obtain ⟨fG, GF, hmG, hkG⟩ := fld_ok_ (P := P) (w := w) (base := base) C
  have LS := okls (P := P) (w := w) (base := base) C B
  obtain ⟨f, fd, Fd, g⟩ := C.d__law_try
  exact ⟨⟨f, fd, ["_law_ask"], g, Fd.kp, Fd.bindsN (fun _ _ _ _ _ _ us hl => match us, hl with | [_], _ => rfl), rfl, fnP Fd sc fun cdv A outer s H E hr => (rss_one (rs_tryT 1 rfl rfl sc.nd ⟨rfl, by decide, .inl C.g_TableError⟩ ⟨rfl, by decide, .inl C.g_Missing⟩ ⟨rfl, by decide, .inl C.g_NothingLeft⟩ (tryCL C) GF hmG hkG (hr.mono (by decide)) (fun W pn xe tk po => (rss_one (rs_ret (re_tup (ra_cons (re_str []) (ra_cons (re_callF 0 LS hr tk) ra_nil))))))))⟩⟩
def N__law_put : List Str := ["_law_c", "_law_path", "_law_part"]
def m__law_put (F : PF) : MS :=
    (msSeq (msIf (mTst (mBin dEq (mVar 1) (mTup mNil))) (msRet (mVar 2)) msNil)
    (msRet (mBin dAdd (mBin dAdd (mSl (mVar 0) mNoP (mSmP (mBin dIx (mVar 1) (mC (.int 0))))) (mTup (mCons (mCallP F (mCons (mBin dIx (mVar 0) (mBin dIx (mVar 1) (mC (.int 0)))) (mCons (mSl (mVar 1) (mSmP (mC (.int 1))) mNoP) (mCons (mVar 2) mNil)))) mNil))) (mSl (mVar 0) (mSmP (mBin dAdd (mBin dIx (mVar 1) (mC (.int 0))) (mC (.int 1)))) mNoP))))
theorem sc__law_put : FnScope N__law_put ["_law_c", "_law_path", "_law_part"] (defScope s__law_put) := ⟨rfl, rfl, rfl, by decide +kernel, rfl, by decide +kernel, by decide +kernel⟩
def F__law_put_ : Nat → PF
  | 0 => fun _ => none
  | t + 1 => runP N__law_put.length (m__law_put (F__law_put_ t))
def F__law_put : PF := F__law_put_ 12
theorem okr__law_put (C : CtxT P K w mg) (B : CtxB K mg base) : ∀ t, FnP P w K mg base "_law_put" (0 + (t)) 3 (F__law_put_ t) := by
  have sc := sc__law_put
  obtain ⟨f, fd, Fd, g⟩ := C.d__law_put
  intro t
  induction t with
  | zero => exact ⟨⟨f, fd, ["_law_c", "_law_path", "_law_part"], g, Fd.kp, Fd.bindsN (fun _ _ _ _ _ _ us hl => match us, hl with | [_, _, _], _ => rfl), rfl, fnOk0⟩⟩
  | succ t G =>
    have Z : FnP P w K mg base "_law_put" (0 + t + 1) 3 (F__law_put_ (t + 1)) := ⟨⟨f, fd, ["_law_c", "_law_path", "_law_part"], g, Fd.kp, Fd.bindsN (fun _ _ _ _ _ _ us hl => match us, hl with | [_, _, _], _ => rfl), rfl, fnP Fd sc fun cdv A outer s H E hr => (rss_cons (rs_if (rt_eq hr (re_var 1) (re_tup ra_nil)) (rss_one (rs_ret (re_var 2))) rss_nil)
    (rss_one (rs_ret (re_add (re_add (re_slice (re_var 0) ro_none (ro_some (re_ix (re_var 1) re_int))) (re_tup (ra_cons (re_callP G hr tkOf (ra_cons (re_ix (re_var 0) (re_ix (re_var 1) re_int)) (ra_cons (re_slice (re_var 1) (ro_some re_int) ro_none) (ra_cons (re_var 2) ra_nil))) (hk := by omega)) ra_nil))) (re_slice (re_var 0) (ro_some (re_add (re_ix (re_var 1) re_int) re_int)) ro_none)))))⟩⟩
    exact FnP.mono Z (by omega)
theorem ok__law_put (C : CtxT P K w mg) (B : CtxB K mg base) : FnP P w K mg base "_law_put" (13) 3 (F__law_put) := FnP.mono (okr__law_put C B 12) (by decide)
def N__law_tries : List Str := ["_law_asks", "_law_ask"]
def m__law_tries : MS :=
    (msRet (mLc [1] (miL (mVar 0)) (mgName 1) mYes (mCallP F__law_try (mCons (mVar 1) mNil))))
theorem sc__law_tries : FnScope N__law_tries ["_law_asks"] (defScope s__law_tries) := ⟨rfl, rfl, rfl, by decide +kernel, rfl, by decide +kernel, by decide +kernel⟩
def F__law_tries : PF := runP N__law_tries.length m__law_tries
theorem ok__law_tries (C : CtxT P K w mg) (B : CtxB K mg base) : FnP P w K mg base "_law_tries" (26) 1 (F__law_tries) := by
  have sc := sc__law_tries
  have G__law_try := ok__law_try (P := P) (w := w) (base := base) C B
  obtain ⟨f, fd, Fd, g⟩ := C.d__law_tries
  exact ⟨⟨f, fd, ["_law_asks"], g, Fd.kp, Fd.bindsN (fun _ _ _ _ _ _ us hl => match us, hl with | [_], _ => rfl), rfl, fnP Fd sc fun cdv A outer s H E hr => (rss_one (rs_ret (re_lc (own := [("_law_ask", 1)]) rfl sc.nd (ri_list (re_var 0)) (blkOk_by (N := N__law_tries) (sc := defScope s__law_tries) (by decide +kernel)) (by decide) (fun _ _ _ _ _ => (rg_name 1 sc.nd)) (fun _ _ _ _ _ => rts_nil) (fun _ _ _ _ _ => (re_callP G__law_try hr takes0 (ra_cons (re_var 1) ra_nil))))))⟩⟩
def mb_law_0 : MS :=
    (msAsg (mCallI F__law_any (mCons (mVar 1) (mCons (mLst (mCons (mTup (mCons (mTup (mCons (mC (.str [110, 111, 116])) (mCons (mVar 10) mNil))) (mCons (mBin dAdd (mTup (mCons (mC (.int 1)) mNil)) (mVar 11)) mNil))) (mCons (mTup (mCons (mTup (mCons (mC (.str [97, 110, 100])) (mCons (mTup (mCons (mC (.str [116, 114, 117, 101])) mNil)) (mCons (mVar 10) mNil)))) (mCons (mBin dAdd (mTup (mCons (mBin dAdd (mC (.int 1)) (mCall dInt (mCons (mBin dGt (mVar 3) (mC (.int 0))) mNil))) mNil)) (mVar 11)) mNil))) (mCons (mTup (mCons (mTup (mCons (mC (.str [111, 114])) (mCons (mVar 10) (mCons (mTup mNil) mNil)))) (mCons (mBin dAdd (mTup (mCons (mC (.int 1)) mNil)) (mVar 11)) mNil))) mNil)))) mNil))) (mgTup 2 (mgCons (mgName 10) (mgCons (mgName 11) mgNil))))
def mt_law_1 : M Bool :=
    (mTst (mBin dNe (mBin dIx (mVar 16) (mBin dSub (mCall dLen (mCons (mVar 16) mNil)) (mC (.int 1)))) (mC (.str [101, 110, 100]))))
def mb_law_2 : MS :=
    (msSeq (msAsg (mSl (mLst (mCons (mTup (mCons (mC (.str [110, 97, 109, 101])) (mCons (mC (.str [97])) mNil))) (mCons (mTup (mCons (mC (.str [102, 105, 101, 108, 100])) (mCons (mC (.str [114])) (mCons (mC (.str [101, 110, 100])) mNil)))) (mCons (mTup (mCons (mC (.str [111, 119, 110])) (mCons (mC (.str [107, 101, 121])) mNil))) mNil)))) mNoP (mSmP (mBin dAdd (mCallI F__law_pull (mCons (mVar 1) (mCons (mC (.int 3)) mNil))) (mC (.int 1))))) (mgName 4))
    (msSeq (msAsg (mBin dAdd (mLc [16] (miL (mVar 4)) (mgName 16) mt_law_1 (mVar 16)) (mLst (mCons (mTup (mCons (mC (.str [110, 101, 120, 116])) (mCons (mC (.str [113])) mNil))) mNil))) (mgName 4))
    (msSeq (msAsg (mCallI F__law_some_condition (mCons (mVar 1) (mCons (mVar 4) (mCons (mC (.int 3)) mNil)))) (mgName 5))
    (msSeq (msAsg (mCallI F__law_any (mCons (mVar 1) (mCons (mLst (mCons (mC .non) (mCons (mTup mNil) (mCons (mC (.int 3)) (mCons (mC (.str [116, 114, 117, 101])) (mCons (mTup (mCons (mC (.str [116, 114, 117, 101])) (mCons (mC (.int 1)) mNil))) (mCons (mTup (mCons (mC (.str [97, 116, 109, 111, 115, 116])) (mCons (mTup (mCons (mC (.str [111, 119, 110])) (mCons (mC (.str [107, 101, 121])) mNil))) mNil))) (mCons (mTup (mCons (mC (.str [98, 101, 108, 111, 119])) (mCons (mTup (mCons (mC (.str [111, 119, 110])) (mCons (mC (.str [107, 101, 121])) mNil))) (mCons (mC (.int 3)) mNil)))) (mCons (mTup (mCons (mC (.str [115, 97, 109, 101])) (mCons (mC .non) (mCons (mTup (mCons (mC (.str [111, 119, 110])) (mCons (mC (.str [107, 101, 121])) mNil))) mNil)))) (mCons (mTup (mCons (mC (.str [102, 111, 117, 110, 100])) (mCons (mC (.str [65])) mNil))) (mCons (mTup (mCons (mC (.str [102, 111, 117, 110, 100])) mNil)) (mCons (mTup (mCons (mC (.str [110, 111, 116])) mNil)) (mCons (mTup (mCons (mC (.str [97, 110, 100])) (mCons (mTup (mCons (mC (.str [116, 114, 117, 101])) mNil)) mNil))) (mCons (mTup (mCons (mC (.str [111, 114])) (mCons (mTup (mCons (mC (.str [116, 114, 117, 101])) mNil)) (mCons (mTup (mCons (mC (.str [116, 114, 117, 101])) mNil)) (mCons (mTup (mCons (mC (.str [116, 114, 117, 101])) mNil)) mNil))))) (mCons (mTup (mCons (mC (.str [108, 101, 115, 115])) (mCons (mTup (mCons (mC (.str [111, 119, 110])) (mCons (mC (.str [107, 101, 121])) mNil))) (mCons (mTup (mCons (mC (.str [111, 119, 110])) (mCons (mC (.str [107, 101, 121])) mNil))) mNil)))) (mCons (mLst (mCons (mTup (mCons (mC (.str [116, 114, 117, 101])) mNil)) mNil)) (mCons (mTup (mCons (mLst (mCons (mC (.str [116, 114, 117, 101])) mNil)) mNil)) mNil))))))))))))))))) mNil))) (mgName 6))
    (msSeq (msAsg (mCallP F__law_paths (mCons (mVar 5) (mCons (mTup mNil) mNil))) (mgName 7))
    (msSeq (msPar 12 13 (mCons (mCallI F__law_pull (mCons (mVar 1) (mCons (mCall dLen (mCons (mVar 7) mNil)) mNil))) (mCons (mCallI F__law_pull (mCons (mVar 1) (mCons (mCall dLen (mCons (mVar 7) mNil)) mNil))) mNil)))
    (msSeq (msPar 14 15 (mCons (mBin dIx (mVar 7) (mCall dMin2 (mCons (mVar 12) (mCons (mVar 13) mNil)))) (mCons (mBin dIx (mVar 7) (mCall dMax2 (mCons (mVar 12) (mCons (mVar 13) mNil)))) mNil)))
    (msSeq (msAsg (mIf (mTst (mBin dNe (mSl (mVar 15) mNoP (mSmP (mCall dLen (mCons (mVar 14) mNil)))) (mVar 14))) (mCallP F__law_put (mCons (mCallP F__law_put (mCons (mVar 5) (mCons (mVar 15) (mCons (mVar 6) mNil)))) (mCons (mVar 14) (mCons (mVar 6) mNil)))) (mCallP F__law_put (mCons (mVar 5) (mCons (mVar 14) (mCons (mVar 6) mNil))))) (mgName 8))
    (msLams 9 3 (msIf (mNot (mTst (mCallP F__law_like (mCons (mLamsG F__law_tries [(0, [8]), (1, [8]), (2, [8])]) (mCons (mBin dRepL (mLst (mCons (mTup (mCons (mC (.str [73, 110, 118, 97, 108, 105, 100, 67, 111, 110, 100, 105, 116, 105, 111, 110])) (mCons (mTup (mCons (mVar 14) mNil)) mNil))) mNil)) (mC (.int 3))) mNil))))) (msRet (mC (.bl false))) msNil))))))))))
def m_law : MS :=
    (msSeq (msAsg (mCallI F__law_draws (mCons (mVar 0) mNil)) (mgName 1))
    (msSeq (msFor (miR1 (mCons (mC (.int 8)) mNil)) (mgName 2) mb_law_2)
    (msSeq (msAsg (mTup (mCons (mTup (mCons (mC (.str [116, 114, 117, 101])) mNil)) (mCons (mTup mNil) mNil))) (mgTup 2 (mgCons (mgName 10) (mgCons (mgName 11) mgNil))))
    (msSeq (msFor (miR1 (mCons (mC (.int 6)) mNil)) (mgName 3) mb_law_0)
    (msRet (mCallP F__law_like (mCons (mLam1G F__law_try 3 [10]) (mCons (mTup (mCons (mC (.str [73, 110, 118, 97, 108, 105, 100, 67, 111, 110, 100, 105, 116, 105, 111, 110])) (mCons (mTup (mCons (mVar 11) mNil)) mNil))) mNil))))))))
theorem sc_law : FnScope N_law ["_law_script"] (defScope s_law) := ⟨rfl, rfl, rfl, by decide +kernel, rfl, by decide +kernel, by decide +kernel⟩
def F_law : IF := runI N_law.length m_law
theorem ok_law (C : CtxT P K w mg) : ∃ f fd, mg "law" = some (.ref f) ∧ (∀ (s : Shared) (u : Value), BindsTo s fd ⟨[u], []⟩ [("_law_script", u)]) ∧ ∀ base : Heap, CtxB K mg base → FnOk P w K mg base (L2.CX P w) 32 f fd ["_law_script"] (SpI K mg 1 F_law) := by
  have sc := sc_law
  obtain ⟨f, fd, Fd, g⟩ := C.d_law
  refine ⟨f, fd, g, fun s u => FunD.bindsA (ps := ["_law_script"]) Fd (fun _ _ _ _ _ _ us hl => match us, hl with | [_], _ => rfl) s [u] rfl, fun base B => ?_⟩
  have G__law_any := ok__law_any (P := P) (w := w) (base := base) C B
  have G__law_draws := ok__law_draws (P := P) (w := w) (base := base) C B
  have G__law_like := ok__law_like (P := P) (w := w) (base := base) C B
  have G__law_paths := ok__law_paths (P := P) (w := w) (base := base) C B
  have G__law_pull := ok__law_pull (P := P) (w := w) (base := base) C B
  have G__law_put := ok__law_put (P := P) (w := w) (base := base) C B
  have G__law_some_condition := ok__law_some_condition (P := P) (w := w) (base := base) C B
  have G__law_tries := ok__law_tries (P := P) (w := w) (base := base) C B
  have G__law_try := ok__law_try (P := P) (w := w) (base := base) C B
  exact fnIC (p := ("law", none)) Fd (Value.ref.inj (Option.some.inj (g.symm.trans C.g_law))) sc fun cdv A outer s H E hc hr => have lp : LamP base mg K (envOfC "law" (defScope s_law) s.heap.objs.size f cdv) ("law", none) "law.<locals>.<lambda>" := ⟨B.tb_law, hc, C.mt_law, C.un_law⟩; (rss_cons (rs_set 1 sc.nd (re_callI G__law_draws hr tkOf (ra_cons (re_var 0) ra_nil)))
    (rss_cons (rs_for poOf rfl (ri_range1 C.n_range (ra_cons re_int ra_nil)) (rg_name 2 sc.nd) (rss_cons (rs_set 4 sc.nd (re_slice (re_lst (ra_cons (re_tup (ra_cons (re_str [110, 97, 109, 101]) (ra_cons (re_str [97]) ra_nil))) (ra_cons (re_tup (ra_cons (re_str [102, 105, 101, 108, 100]) (ra_cons (re_str [114]) (ra_cons (re_str [101, 110, 100]) ra_nil)))) (ra_cons (re_tup (ra_cons (re_str [111, 119, 110]) (ra_cons (re_str [107, 101, 121]) ra_nil))) ra_nil)))) ro_none (ro_some (re_add (re_callI G__law_pull hr tkOf (ra_cons (re_var 1) (ra_cons re_int ra_nil))) re_int))))
    (rss_cons (rs_set 4 sc.nd (re_add (re_lc (own := [("_law_value", 16)]) rfl sc.nd (ri_list (re_var 4)) (blkOk_by (N := N_law) (sc := defScope s_law) (by decide +kernel)) (by decide) (fun _ _ _ _ _ => (rg_name 16 sc.nd)) (fun _ _ _ _ _ => (rts_one (rt_ne hr (re_ix (re_var 16) (re_sub (re_len C.n_len (ra_cons (re_var 16) ra_nil)) re_int)) (re_str [101, 110, 100])))) (fun _ _ _ _ _ => (re_var 16))) (re_lst (ra_cons (re_tup (ra_cons (re_str [110, 101, 120, 116]) (ra_cons (re_str [113]) ra_nil))) ra_nil))))
    (rss_cons (rs_set 5 sc.nd (re_callI G__law_some_condition hr tkOf (ra_cons (re_var 1) (ra_cons (re_var 4) (ra_cons re_int ra_nil)))))
    (rss_cons (rs_set 6 sc.nd (re_callI G__law_any hr tkOf (ra_cons (re_var 1) (ra_cons (re_lst (ra_cons re_non (ra_cons (re_tup ra_nil) (ra_cons re_int (ra_cons (re_str [116, 114, 117, 101]) (ra_cons (re_tup (ra_cons (re_str [116, 114, 117, 101]) (ra_cons re_int ra_nil))) (ra_cons (re_tup (ra_cons (re_str [97, 116, 109, 111, 115, 116]) (ra_cons (re_tup (ra_cons (re_str [111, 119, 110]) (ra_cons (re_str [107, 101, 121]) ra_nil))) ra_nil))) (ra_cons (re_tup (ra_cons (re_str [98, 101, 108, 111, 119]) (ra_cons (re_tup (ra_cons (re_str [111, 119, 110]) (ra_cons (re_str [107, 101, 121]) ra_nil))) (ra_cons re_int ra_nil)))) (ra_cons (re_tup (ra_cons (re_str [115, 97, 109, 101]) (ra_cons re_non (ra_cons (re_tup (ra_cons (re_str [111, 119, 110]) (ra_cons (re_str [107, 101, 121]) ra_nil))) ra_nil)))) (ra_cons (re_tup (ra_cons (re_str [102, 111, 117, 110, 100]) (ra_cons (re_str [65]) ra_nil))) (ra_cons (re_tup (ra_cons (re_str [102, 111, 117, 110, 100]) ra_nil)) (ra_cons (re_tup (ra_cons (re_str [110, 111, 116]) ra_nil)) (ra_cons (re_tup (ra_cons (re_str [97, 110, 100]) (ra_cons (re_tup (ra_cons (re_str [116, 114, 117, 101]) ra_nil)) ra_nil))) (ra_cons (re_tup (ra_cons (re_str [111, 114]) (ra_cons (re_tup (ra_cons (re_str [116, 114, 117, 101]) ra_nil)) (ra_cons (re_tup (ra_cons (re_str [116, 114, 117, 101]) ra_nil)) (ra_cons (re_tup (ra_cons (re_str [116, 114, 117, 101]) ra_nil)) ra_nil))))) (ra_cons (re_tup (ra_cons (re_str [108, 101, 115, 115]) (ra_cons (re_tup (ra_cons (re_str [111, 119, 110]) (ra_cons (re_str [107, 101, 121]) ra_nil))) (ra_cons (re_tup (ra_cons (re_str [111, 119, 110]) (ra_cons (re_str [107, 101, 121]) ra_nil))) ra_nil)))) (ra_cons (re_lst (ra_cons (re_tup (ra_cons (re_str [116, 114, 117, 101]) ra_nil)) ra_nil)) (ra_cons (re_tup (ra_cons (re_lst (ra_cons (re_str [116, 114, 117, 101]) ra_nil)) ra_nil)) ra_nil))))))))))))))))) ra_nil))))
    (rss_cons (rs_set 7 sc.nd (re_callP G__law_paths hr tkOf (ra_cons (re_var 5) (ra_cons (re_tup ra_nil) ra_nil))))
    (rss_cons (rs_par 12 13 rfl sc.nd (ra_cons (re_callI G__law_pull hr tkOf (ra_cons (re_var 1) (ra_cons (re_len C.n_len (ra_cons (re_var 7) ra_nil)) ra_nil))) (ra_cons (re_callI G__law_pull hr tkOf (ra_cons (re_var 1) (ra_cons (re_len C.n_len (ra_cons (re_var 7) ra_nil)) ra_nil))) ra_nil)))
    (rss_cons (rs_par 14 15 rfl sc.nd (ra_cons (re_ix (re_var 7) (re_min2 rfl C.n_min (ra_cons (re_var 12) (ra_cons (re_var 13) ra_nil)))) (ra_cons (re_ix (re_var 7) (re_max2 rfl C.n_max (ra_cons (re_var 12) (ra_cons (re_var 13) ra_nil)))) ra_nil)))
    (rss_cons (rs_set 8 sc.nd (re_if (rt_ne hr (re_slice (re_var 15) ro_none (ro_some (re_len C.n_len (ra_cons (re_var 14) ra_nil)))) (re_var 14)) (re_callP G__law_put hr tkOf (ra_cons (re_callP G__law_put hr tkOf (ra_cons (re_var 5) (ra_cons (re_var 15) (ra_cons (re_var 6) ra_nil)))) (ra_cons (re_var 14) (ra_cons (re_var 6) ra_nil)))) (re_callP G__law_put hr tkOf (ra_cons (re_var 5) (ra_cons (re_var 14) (ra_cons (re_var 6) ra_nil))))))
    (rss_lams 9 sc.nd (lamsX_cons C.lamE lamF_0 lp rfl (lamsX_cons C.lamE lamF_1 lp rfl (lamsX_cons C.lamE lamF_2 lp rfl .nil))) (rssc_one (rsc_if (rtc_not (rtc_val (rec_callP G__law_like hr tkOf (rac_cons (rec_G 9 G__law_tries hr tkOf (fun _ => rfl) (capNs_cons (capN_of C.lamE lamF_0) (capNs_cons (capN_of C.lamE lamF_1) (capNs_cons (capN_of C.lamE lamF_2) capNs_nil)))) (ra_cons (re_repL (re_lst (ra_cons (re_tup (ra_cons (re_str [73, 110, 118, 97, 108, 105, 100, 67, 111, 110, 100, 105, 116, 105, 111, 110]) (ra_cons (re_tup (ra_cons (re_var 14) ra_nil)) ra_nil))) ra_nil)) re_int) ra_nil))))) (rss_one (rs_ret re_bl)) rss_nil))))))))))))
    (rss_cons (rs_asg (re_tup (ra_cons (re_tup (ra_cons (re_str [116, 114, 117, 101]) ra_nil)) (ra_cons (re_tup ra_nil) ra_nil))) (rg_tup (n := 2) rfl (rgs_cons (rg_name 10 sc.nd) (rgs_cons (rg_name 11 sc.nd) rgs_nil))))
    (rss_cons (rs_for poOf rfl (ri_range1 C.n_range (ra_cons re_int ra_nil)) (rg_name 3 sc.nd) (rss_one (rs_asg (re_callI G__law_any hr tkOf (ra_cons (re_var 1) (ra_cons (re_lst (ra_cons (re_tup (ra_cons (re_tup (ra_cons (re_str [110, 111, 116]) (ra_cons (re_var 10) ra_nil))) (ra_cons (re_add (re_tup (ra_cons re_int ra_nil)) (re_var 11)) ra_nil))) (ra_cons (re_tup (ra_cons (re_tup (ra_cons (re_str [97, 110, 100]) (ra_cons (re_tup (ra_cons (re_str [116, 114, 117, 101]) ra_nil)) (ra_cons (re_var 10) ra_nil)))) (ra_cons (re_add (re_tup (ra_cons (re_add re_int (re_intc C.n_int (ra_cons (re_gt (re_var 3) re_int) ra_nil))) ra_nil)) (re_var 11)) ra_nil))) (ra_cons (re_tup (ra_cons (re_tup (ra_cons (re_str [111, 114]) (ra_cons (re_var 10) (ra_cons (re_tup ra_nil) ra_nil)))) (ra_cons (re_add (re_tup (ra_cons re_int ra_nil)) (re_var 11)) ra_nil))) ra_nil)))) ra_nil))) (rg_tup (n := 2) rfl (rgs_cons (rg_name 10 sc.nd) (rgs_cons (rg_name 11 sc.nd) rgs_nil))))))
    (rss_one (rs_ret (re_callP G__law_like hr tkOf (ra_cons (re_lam1 [10] C.lamE lamF_3 lp rfl G__law_try hr tkOf (fun _ => rfl)) (ra_cons (re_tup (ra_cons (re_str [73, 110, 118, 97, 108, 105, 100, 67, 111, 110, 100, 105, 116, 105, 111, 110]) (ra_cons (re_tup (ra_cons (re_var 11) ra_nil)) ra_nil))) ra_nil)))))))))
end
end K06
namespace K06
open PySem PySem.Spec PyProof.Rows L2 PD
theorem ctx {K : PySem.W.Frag} {h : Heap} {mg : Str → Option Value} (X : K.In h) (G : h.Ns mainGlobals mg) {w : World} (c4 : SaysG4 fa fn gs dsL fxL xdL sdL tf R.prog.main.file w h K) : @CtxT ⟨lams, [((He.cT K ("law", none)).2, "law.<locals>.<lambda>")]⟩ R.prog K w mg :=
  letI : LamTab := ⟨lams, [((He.cT K ("law", none)).2, "law.<locals>.<lambda>")]⟩
  have c3 := c4.g3
  have c := c3.two
  have gl : ∀ x : Str, .glo x ∈ fa → mg x = some (.ref (He.ga K x)) := fun x hx => He.glo_ok X G (SaysD.facts' c.g.d hx)
  {
  d_inner_parts := (fun ⟨fd, F⟩ => ⟨_, fd, F, gl "inner_parts" (by simp [fa])⟩) (SaysD.def' c.g.d (d := dd_inner_parts) (by simp [fn]))
  d_is_integer := (fun ⟨fd, F⟩ => ⟨_, fd, F, gl "is_integer" (by simp [fa])⟩) (SaysD.def' c.g.d (d := dd_is_integer) (by simp [fn]))
  d_is_constant := (fun ⟨fd, F⟩ => ⟨_, fd, F, gl "is_constant" (by simp [fa])⟩) (SaysD.def' c.g.d (d := dd_is_constant) (by simp [fn]))
  d_is_name := (fun ⟨fd, F⟩ => ⟨_, fd, F, gl "is_name" (by simp [fa])⟩) (SaysD.def' c.g.d (d := dd_is_name) (by simp [fn]))
  d_is_column := (fun ⟨fd, F⟩ => ⟨_, fd, F, gl "is_column" (by simp [fa])⟩) (SaysD.def' c.g.d (d := dd_is_column) (by simp [fn]))
  d_is_plain := (fun ⟨fd, F⟩ => ⟨_, fd, F, gl "is_plain" (by simp [fa])⟩) (SaysD.def' c.g.d (d := dd_is_plain) (by simp [fn]))
  d_is_value := (fun ⟨fd, F⟩ => ⟨_, fd, F, gl "is_value" (by simp [fa])⟩) (SaysD.def' c.g.d (d := dd_is_value) (by simp [fn]))
  d_has_form := (fun ⟨fd, F⟩ => ⟨_, fd, F, gl "has_form" (by simp [fa])⟩) (SaysD.def' c.g.d (d := dd_has_form) (by simp [fn]))
  d_wrong_path := (fun ⟨fd, F⟩ => ⟨_, fd, F, gl "wrong_path" (by simp [fa])⟩) (SaysD.def' c.g.d (d := dd_wrong_path) (by simp [fn]))
  d_check_condition := (fun ⟨fd, F⟩ => ⟨_, fd, F, gl "check_condition" (by simp [fa])⟩) (SaysD.def' c.g.d (d := dd_check_condition) (by simp [fn]))
  d_integer_text := (fun ⟨fd, F⟩ => ⟨_, fd, F, gl "integer_text" (by simp [fa])⟩) (SaysD.def' c.g.d (d := dd_integer_text) (by simp [fn]))
  d_value_text := (fun ⟨fd, F⟩ => ⟨_, fd, F, gl "value_text" (by simp [fa])⟩) (SaysD.def' c.g.d (d := dd_value_text) (by simp [fn]))
  d_text_of := (fun ⟨fd, F⟩ => ⟨_, fd, F, gl "text_of" (by simp [fa])⟩) (SaysD.def' c.g.d (d := dd_text_of) (by simp [fn]))
  d_condition_text := (fun ⟨fd, F⟩ => ⟨_, fd, F, gl "condition_text" (by simp [fa])⟩) (SaysD.def' c.g.d (d := dd_condition_text) (by simp [fn]))
  d_all_parts := (fun ⟨fd, F⟩ => ⟨_, fd, F, gl "all_parts" (by simp [fa])⟩) (SaysD.def' c.g.d (d := dd_all_parts) (by simp [fn]))
  d_values_in := (fun ⟨fd, F⟩ => ⟨_, fd, F, gl "values_in" (by simp [fa])⟩) (SaysD.def' c.g.d (d := dd_values_in) (by simp [fn]))
  d_parts := (fun ⟨fd, F⟩ => ⟨_, fd, F, gl "parts" (by simp [fa])⟩) (SaysD.def' c.g.d (d := dd_parts) (by simp [fn]))
  d__law_draws := (fun ⟨fd, F⟩ => ⟨_, fd, F, gl "_law_draws" (by simp [fa])⟩) (SaysD.def' c.g.d (d := dd__law_draws) (by simp [fn]))
  d__law_like := (fun ⟨fd, F⟩ => ⟨_, fd, F, gl "_law_like" (by simp [fa])⟩) (SaysD.def' c.g.d (d := dd__law_like) (by simp [fn]))
  d__law_pull := (fun ⟨fd, F⟩ => ⟨_, fd, F, gl "_law_pull" (by simp [fa])⟩) (SaysD.def' c.g.d (d := dd__law_pull) (by simp [fn]))
  d__law_any := (fun ⟨fd, F⟩ => ⟨_, fd, F, gl "_law_any" (by simp [fa])⟩) (SaysD.def' c.g.d (d := dd__law_any) (by simp [fn]))
  d__law_near := (fun ⟨fd, F⟩ => ⟨_, fd, F, gl "_law_near" (by simp [fa])⟩) (SaysD.def' c.g.d (d := dd__law_near) (by simp [fn]))
  d__law_some_value := (fun ⟨fd, F⟩ => ⟨_, fd, F, gl "_law_some_value" (by simp [fa])⟩) (SaysD.def' c.g.d (d := dd__law_some_value) (by simp [fn]))
  d__law_some_compared := (fun ⟨fd, F⟩ => ⟨_, fd, F, gl "_law_some_compared" (by simp [fa])⟩) (SaysD.def' c.g.d (d := dd__law_some_compared) (by simp [fn]))
  d__law_some_condition := (fun ⟨fd, F⟩ => ⟨_, fd, F, gl "_law_some_condition" (by simp [fa])⟩) (SaysD.def' c.g.d (d := dd__law_some_condition) (by simp [fn]))
  d__law_paths := (fun ⟨fd, F⟩ => ⟨_, fd, F, gl "_law_paths" (by simp [fa])⟩) (SaysD.def' c.g.d (d := dd__law_paths) (by simp [fn]))
  d__law_try := (fun ⟨fd, F⟩ => ⟨_, fd, F, gl "_law_try" (by simp [fa])⟩) (SaysD.def' c.g.d (d := dd__law_try) (by simp [fn]))
  d__law_put := (fun ⟨fd, F⟩ => ⟨_, fd, F, gl "_law_put" (by simp [fa])⟩) (SaysD.def' c.g.d (d := dd__law_put) (by simp [fn]))
  d__law_tries := (fun ⟨fd, F⟩ => ⟨_, fd, F, gl "_law_tries" (by simp [fa])⟩) (SaysD.def' c.g.d (d := dd__law_tries) (by simp [fn]))
  d_law := (fun ⟨fd, F⟩ => ⟨_, fd, F, gl "law" (by simp [fa])⟩) (SaysD.def' c.g.d (d := dd_law) (by simp [fn]))
  d__law_field := (fun ⟨fd, F⟩ => ⟨_, fd, F, gl "_law_field" (by simp [fa])⟩) (SaysD.def' c.g.d (d := dd__law_field) (by simp [fn]))
  n_len := He.free_ok X G (SaysD.facts' c.g.d (f := .free "len") (by simp [fa]))
  n_range := He.free_ok X G (SaysD.facts' c.g.d (f := .free "range") (by simp [fa]))
  n_isinstance := He.free_ok X G (SaysD.facts' c.g.d (f := .free "isinstance") (by simp [fa]))
  n_bool := He.free_ok X G (SaysD.facts' c.g.d (f := .free "bool") (by simp [fa]))
  n_int := He.free_ok X G (SaysD.facts' c.g.d (f := .free "int") (by simp [fa]))
  n_all := He.free_ok X G (SaysD.facts' c.g.d (f := .free "all") (by simp [fa]))
  n_str := He.free_ok X G (SaysD.facts' c.g.d (f := .free "str") (by simp [fa]))
  n_tuple := He.free_ok X G (SaysD.facts' c.g.d (f := .free "tuple") (by simp [fa]))
  n_list := He.free_ok X G (SaysD.facts' c.g.d (f := .free "list") (by simp [fa]))
  n_zip := He.free_ok X G (SaysD.facts' c.g.d (f := .free "zip") (by simp [fa]))
  n_max := He.free_ok X G (SaysD.facts' c.g.d (f := .free "max") (by simp [fa]))
  n_min := He.free_ok X G (SaysD.facts' c.g.d (f := .free "min") (by simp [fa]))
  c_GREATEST := globC_of X G (c.g.glob (p := ("GREATEST", g_GREATEST)) (by simp [gs]))
  c_LETTERS := globC_of X G (c.g.glob (p := ("LETTERS", g_LETTERS)) (by simp [gs]))
  c_RESERVED := globC_of X G (c.g.glob (p := ("RESERVED", g_RESERVED)) (by simp [gs]))
  c_MOST_DEPTH := globC_of X G (c.g.glob (p := ("MOST_DEPTH", g_MOST_DEPTH)) (by simp [gs]))
  e_SIGNS := c.dic X G (p := ("SIGNS", kv_SIGNS)) (by simp [dsL])
  g_law := gl "law" (by simp [fa])
  g_InvalidCondition := gl "InvalidCondition" (by simp [fa])
  g_TableError := gl "TableError" (by simp [fa])
  g_Missing := gl "Missing" (by simp [fa])
  g_NothingLeft := gl "NothingLeft" (by simp [fa])
  g_InvalidValue := gl "InvalidValue" (by simp [fa])
  o_InvalidCondition := c3.fact (f := fx_o_InvalidCondition) (by simp [fxL])
  i_InvalidCondition := c3.fact (f := fx_i_InvalidCondition) (by simp [fxL])
  na_InvalidCondition := c3.fact (f := fx_na_InvalidCondition) (by simp [fxL])
  x_InvalidCondition := c3.defA (d := xd_InvalidCondition_init) (by simp [xdL])
  t_InvalidCondition := c3.fact (f := fx_t_InvalidCondition) (by simp [fxL])
  o_InvalidValue := c3.fact (f := fx_o_InvalidValue) (by simp [fxL])
  i_InvalidValue := c3.fact (f := fx_i_InvalidValue) (by simp [fxL])
  x_InvalidValue := c3.defA (d := xd_InvalidValue_init) (by simp [xdL])
  t_InvalidValue := c3.fact (f := fx_t_InvalidValue) (by simp [fxL])
  su_TableError := (c4.sup sd_TableError (by simp [sdL])).1
  sv_TableError := (c4.sup sd_TableError (by simp [sdL])).2
  cf_TableError := c3.fact (f := fx_cf_TableError) (by simp [fxL])
  top_ := by decide +kernel
  ns_InvalidCondition := fun Ca h => by
    rw [gl "InvalidCondition" (by simp [fa])] at h
    cases h
    exact of_decide_eq_true (c3.fact (f := fx_ns_InvalidCondition) (by simp [fxL]))
  lamE := rfl
  mt_law := by simp [LamTab.T]
  un_law := by simp [LamTab.T]
  }
theorem fin (math : ∀ ns : List Int, ns.length ≤ 63 → (∀ z ∈ ns, Builtin.Int.intBits z ≤ 1048576) → (∃ h', F_law [.scr (ns.map .int)] [] = some (.ok (.bl true), h')) ∧ ∃ h', F_law [.lst (ns.map .int)] [] = some (.ok (.bl true), h')) :
    PySem.W.WalkO (PySem.W.view R.prog [44]) loose (PySem.W.XL (PySem.W.view R.prog [44]) []) hk.says R.toRowW (HandSHeadRun.topDef R.prog 44) [] (fun f vs => PySem.call f vs) := by
  refine walk_pdT (lams := lams) (l := PySem.Challenge.rw_lookedrows_k06_conditions_refused) (n := 63) (k := 32) (x := "_law_script") rfl (by decide) (by kernel_rfl) ⟨rfl, by decide, by decide⟩ ?_ math
  intro w mg fa h Y G hmg0
  obtain ⟨K, KX, c⟩ := Y
  have hmg : mg ("law" : PySem.Str) = some (.ref fa) := by
    have e : (HandSHeadRun.topDef R.prog 44).name = ("law" : PySem.Str) := by kernel_rfl
    rw [← e]
    exact hmg0
  letI : LamTab := ⟨lams, [((He.cT K ("law", none)).2, "law.<locals>.<lambda>")]⟩
  obtain ⟨f, fd, g, hb, hF⟩ := ok_law (P := (PySem.Challenge.rw_lookedrows_k06_conditions_refused).prog) (w := w) (ctx KX G c)
  have ef : fa = f := by
    have := hmg.symm.trans g
    cases this
    rfl
  subst ef
  refine ⟨K, fd, tf.map (He.cT K), [((He.cT K ("law", none)).2, "law.<locals>.<lambda>")], KX, fun p hp => ?_, fun p hp => ?_, fun p hp => ?_, fun p hp => ?_, hb, fun base KB GB TB => hF base ⟨trivial, TB (He.cT K ("law", none)) (List.mem_map.mpr ⟨("law", none), by simp [tf], rfl⟩)⟩⟩
  · obtain ⟨q, hq, rfl⟩ := List.mem_map.mp hp
    exact c.empty q hq
  · obtain ⟨q, hq, rfl⟩ := List.mem_map.mp hp
    exact c.out q hq
  · obtain ⟨q, hq, rfl⟩ := List.mem_map.mp hp
    exact PySem.W.codeHd_of_K KX (c.hd q hq)
  rcases List.mem_cons.mp hp with rfl | hp
  · exact ⟨(He.cT K ("law", none)).1, List.mem_map.mpr ⟨("law", none), by simp [tf], rfl⟩⟩
  cases hp
end K06
namespace K06
open PySem PD PV PQ PT Wd
theorem e_draws : K06.F__law_draws = PD.F_draws := rfl
theorem e_pull : K06.F__law_pull = PV.F__law_pull := rfl
theorem e_any : K06.F__law_any = PV.F__law_any := rfl
theorem e_sc : K06.F__law_some_condition = PV.F__law_some_condition := rfl
theorem e_like : K06.F__law_like = PV.F__law_like := rfl
theorem e_put : K06.F__law_put = PT.F__law_put := rfl
theorem e_paths : K06.F__law_paths = PT.F__law_paths := rfl
theorem e_check : K06.F_check_condition = PV.F_check_condition := rfl
def sIC6 : List Nat := [73, 110, 118, 97, 108, 105, 100, 67, 111, 110, 100, 105, 116, 105, 111, 110]
def icX6 (p : List Int) : Ex := ⟨"InvalidCondition", [("path", tp p), ("code", .str sIC6)]⟩
theorem icX6_no (p : List Int) : PD.noRef.gf (icX6 p).fs = true := by
  show (PD.noRef.go (p.map D.int) && (true && true)) = true
  rw [ints_go]; rfl
/-- d's first wrong part is at p -/
structure First (d : D) (p : List Int) : Prop where
  no : PD.noRef d = true
  fn : noFn d = true
  go : PV.F_wrong_path_ 12 [d, tp []] = some (.ok (tp p))
theorem first_wp {w : Wd} {p : List Int} (g : w.good) (h : w.wp = some p) (m : w.m ≤ 6) : First w.d p := by
  have k := wd_wp w g
  rw [h] at k
  refine ⟨k.no, wd_noFn w g, ?_⟩
  have e := k.go 12 [] (by simpa using m) (by omega)
  exact e
theorem check_ex {d : D} {p : List Int} (F : First d p) (h : EH) : callPK PV.F_check_condition [d] h = some (.ex (icX6 p), h) := by
  refine callPK_ok (F := PV.F_check_condition) ?_ (go1 F.no)
  have w := callPK_ok (F := PV.F_wrong_path) (h := []) F.go (wpgo F.no [])
  have w' : callPK PV.F_wrong_path [d, .tup []] [] = some (.ok (tp p), []) := w
  have nn : isNon (tp p) = false := rfl
  show endP (PV.m_check_condition [some d, none] []) = _
  simp! only [PV.m_check_condition, w', nn, raise_ap, raiseK_1]
  exact endP_ex (icX6_no p)
theorem ctext_ex {d : D} {p : List Int} (F : First d p) : F_condition_text [d] = some (.ex (icX6 p)) := by
  have c := check_ex F []
  show endP (m_condition_text [some d] []) = _
  simp! only [m_condition_text, e_check, c]
  exact endP_ex (icX6_no p)
theorem vals_ex {d : D} {p : List Int} (F : First d p) : F_values_in [d] = some (.ex (icX6 p)) := by
  have c := check_ex F []
  show endP (m_values_in [some d, none, none, none] []) = _
  simp! only [m_values_in, e_check, c]
  exact endP_ex (icX6_no p)
theorem parts_ex {d : D} {p : List Int} (F : First d p) : FG_parts [d] = some (icX6 p) := by
  have c := check_ex F []
  have e : m_parts [some d] [] = some (.ex (icX6 p) [some d], []) := by
    simp! only [m_parts, e_check, c]
  show genX 1 m_parts [d] = _
  unfold genX
  rw [show startE 1 [d] = [some d] from rfl, e]
  exact if_pos (icX6_no p)
theorem lam0 {d : D} {p : List Int} (F : First d p) : F_lam_0 [d] = some (.ex (icX6 p)) := by
  have c := callPK_ok (F := F_condition_text) (h := []) (ctext_ex F) (go1 F.no)
  show endL (ml_0 [some d] []) = _
  simp! only [ml_0, c]
  exact endL_ex (icX6_no p)
theorem lam1 {d : D} {p : List Int} (F : First d p) : F_lam_1 [d] = some (.ex (icX6 p)) := by
  have c := callPK_ok (F := F_values_in) (h := []) (vals_ex F) (go1 F.no)
  show endL (ml_1 [some d] []) = _
  simp! only [ml_1, c]
  exact endL_ex (icX6_no p)
theorem lam2 {d : D} {p : List Int} (F : First d p) : F_lam_2 [d] = some (.ex (icX6 p)) := by
  have e : ml_2 [some d] [] = some (.ex (icX6 p), []) := by
    show (if PD.noRef.go [d] = true then (match FG_parts [d] with
      | some e => if e.cls = "InvalidCondition" then some (R.ex e, ([] : EH)) else none
      | none => none) else none) = _
    rw [if_pos (go1 F.no), parts_ex F]
    exact if_pos rfl
  show endL (ml_2 [some d] []) = _
  rw [e]
  exact endL_ex (icX6_no p)
theorem lam3 {d : D} {p : List Int} (F : First d p) : F_lam_3 [d] = some (.ex (icX6 p)) := by
  have c := callPK_ok (F := F_condition_text) (h := []) (ctext_ex F) (go1 F.no)
  show endL (ml_3 [some d] []) = _
  simp! only [ml_3, c]
  exact endL_ex (icX6_no p)
theorem try_gen {j : Nat} {caps : List D} {X : Ex} {r : D} (hj : j < nLam) (n1 : PD.noRef.go caps = true) (n2 : noFn.go caps = true) (nr : PD.noRef r = true) (e : LF j caps = some (.ex X)) (te : tryEnd CL (chainL chF) 1 X [some (.fn j caps), none] [] = some (.rt r, [])) : F__law_try [.fn j caps] = some (.ok r) := by
  have c := callF_ok (n := nLam) (LF := LF) (i := 0) (ε := [some (.fn j caps), none]) (h := []) rfl hj n1 n2 e
  show endP (m__law_try [some (.fn j caps), none] []) = _
  simp! only [m__law_try, try_ap, c, tryK_ex, te]
  exact endP_ok nr
def ask6 (p : List Int) : D := .tup [.str sIC6, .tup [tp p]]
theorem ask6_no (p : List Int) : PD.noRef (ask6 p) = true := by
  show (true && ((PD.noRef.go (p.map D.int) && true) && true)) = true
  rw [ints_go]; rfl
theorem tryC {j : Nat} {d : D} {p : List Int} (hj : j < nLam) (F : First d p) (e : LF j [d] = some (.ex (icX6 p))) : F__law_try [.fn j [d]] = some (.ok (ask6 p)) :=
  try_gen hj (go1 F.no) (by rw [noFn.go, F.fn]; rfl) (ask6_no p) e (by kernel_rfl)
theorem tries_gen {fs : List (D × D)} (h : ∀ p ∈ fs, PD.noRef p.1 = true ∧ PD.noRef p.2 = true ∧ F__law_try [p.1] = some (.ok p.2)) (l : fs.length ≤ 1000) : F__law_tries [.lst (fs.map Prod.fst)] = some (.ok (.lst (fs.map Prod.snd))) := by
  have lc : lcL (mgName 1) mYes (mCallP F__law_try (mCons (mVar 1) mNil)) (fs.map Prod.fst) [some (.lst (fs.map Prod.fst)), none] [] = some (fs.map Prod.snd, []) := by
    refine lcL_mapf Prod.fst Prod.snd fun p hp => ⟨[some (.lst (fs.map Prod.fst)), some p.1], rfl, rfl, ?_⟩
    have i := callPK_ok (F := F__law_try) (h := []) (h p hp).2.2 (go1 (h p hp).1)
    dsimp? only [i]
  have lk := lcK_ok (vs := [1]) (ε := [some (.lst (fs.map Prod.fst)), none]) lc (by rw [List.length_map]; omega)
  show endP (m__law_tries [some (.lst (fs.map Prod.fst)), none] []) = _
  dsimp? only [m__law_tries, lk]
  exact endP_ok (noRef_all fun d hd => by
    obtain ⟨p, hp, rfl⟩ := List.mem_map.mp hd
    exact (h p hp).2.1)
theorem lam1G_ok {F : PF} {i : Nat} {ks : List Nat} {ε : Ev} {h : EH} {ds : List D} {d : D} (e1 : capsE ε ks = some ds) (n : PD.noRef.go ds = true) (e2 : F [.fn i ds] = some (.ok d)) (p : plain d = true) : mLam1G F i ks ε h = some (.ok d, h) := by
  unfold mLam1G
  rw [e1]
  dsimp only
  rw [if_pos n, e2]
  show (if plain d = true then some (R.ok d, h) else none) = _
  rw [if_pos p]
theorem asks3 {d : D} {p : List Int} (F : First d p) : F__law_tries [.lst [.fn 0 [d], .fn 1 [d], .fn 2 [d]]] = some (.ok (.lst [ask6 p, ask6 p, ask6 p])) := by
  have g1 : PD.noRef.go [d] = true := go1 F.no
  have r : ∀ i, PD.noRef (.fn i [d]) = true := fun i => g1
  exact tries_gen (fs := [(.fn 0 [d], ask6 p), (.fn 1 [d], ask6 p), (.fn 2 [d], ask6 p)]) (by
    simp only [List.forall_mem_cons]
    exact ⟨⟨r 0, ask6_no p, tryC (by decide) F (lam0 F)⟩, ⟨r 1, ask6_no p, tryC (by decide) F (lam1 F)⟩, ⟨r 2, ask6_no p, tryC (by decide) F (lam2 F)⟩, (fun _ h => nomatch h)⟩) (by simp)
theorem ask6_ok {p : List Int} (l : p.length ≤ 100) : okD 5 (ask6 p) = true := okD_tup2 (t := 4) rfl (okD_tupL (t := 3) (by simp) (by
  simp only [List.forall_mem_cons]
  exact ⟨okD_tupL (t := 2) (by rw [List.length_map]; omega) fun d hd => by
    obtain ⟨i, _, rfl⟩ := List.mem_map.mp hd
    rfl, (fun _ h => nomatch h)⟩))
def dOK : D := .tup [.str [111, 119, 110], .str [107, 101, 121]]
def dTr : D := .tup [.str [116, 114, 117, 101]]
def bads : List D := [.non, .tup [], .int 3, .str [116, 114, 117, 101], .tup [.str [116, 114, 117, 101], .int 1], .tup [.str [97, 116, 109, 111, 115, 116], dOK], .tup [.str [98, 101, 108, 111, 119], dOK, .int 3], .tup [.str [115, 97, 109, 101], .non, dOK],
  .tup [.str [102, 111, 117, 110, 100], .str [65]], .tup [.str [102, 111, 117, 110, 100]], .tup [.str [110, 111, 116]], .tup [.str [97, 110, 100], dTr], .tup [.str [111, 114], dTr, dTr, dTr], .tup [.str [108, 101, 115, 115], dOK, dOK], .lst [dTr], .tup [.lst [.str [116, 114, 117, 101]]]]
theorem bads_bad : ∀ d ∈ bads, Bad d := by
  simp only [bads, List.forall_mem_cons]
  exact ⟨⟨rfl, by kernel_rfl, rfl⟩, ⟨rfl, by kernel_rfl, rfl⟩, ⟨rfl, by kernel_rfl, rfl⟩, ⟨rfl, by kernel_rfl, rfl⟩, ⟨rfl, by kernel_rfl, rfl⟩, ⟨rfl, by kernel_rfl, rfl⟩, ⟨rfl, by kernel_rfl, rfl⟩, ⟨rfl, by kernel_rfl, rfl⟩,
    ⟨rfl, by kernel_rfl, rfl⟩, ⟨rfl, by kernel_rfl, rfl⟩, ⟨rfl, by kernel_rfl, rfl⟩, ⟨rfl, by kernel_rfl, rfl⟩, ⟨rfl, by kernel_rfl, rfl⟩, ⟨rfl, by kernel_rfl, rfl⟩, ⟨rfl, by kernel_rfl, rfl⟩, ⟨rfl, by kernel_rfl, rfl⟩, (fun _ h => nomatch h)⟩
end K06
namespace K06
open PySem PD PV PQ PT Wd
def mbA : MS := (msAsg (mSl (mLst (mCons (mTup (mCons (mC (.str [110, 97, 109, 101])) (mCons (mC (.str [97])) mNil))) (mCons (mTup (mCons (mC (.str [102, 105, 101, 108, 100])) (mCons (mC (.str [114])) (mCons (mC (.str [101, 110, 100])) mNil)))) (mCons (mTup (mCons (mC (.str [111, 119, 110])) (mCons (mC (.str [107, 101, 121])) mNil))) mNil)))) mNoP (mSmP (mBin dAdd (mCallI F__law_pull (mCons (mVar 1) (mCons (mC (.int 3)) mNil))) (mC (.int 1))))) (mgName 4))
def mbB : MS := (msAsg (mBin dAdd (mLc [16] (miL (mVar 4)) (mgName 16) mt_law_1 (mVar 16)) (mLst (mCons (mTup (mCons (mC (.str [110, 101, 120, 116])) (mCons (mC (.str [113])) mNil))) mNil))) (mgName 4))
def mbC : MS :=
    (msSeq (msAsg (mCallI F__law_some_condition (mCons (mVar 1) (mCons (mVar 4) (mCons (mC (.int 3)) mNil)))) (mgName 5))
    (msSeq (msAsg (mCallI F__law_any (mCons (mVar 1) (mCons (mLst (mCons (mC .non) (mCons (mTup mNil) (mCons (mC (.int 3)) (mCons (mC (.str [116, 114, 117, 101])) (mCons (mTup (mCons (mC (.str [116, 114, 117, 101])) (mCons (mC (.int 1)) mNil))) (mCons (mTup (mCons (mC (.str [97, 116, 109, 111, 115, 116])) (mCons (mTup (mCons (mC (.str [111, 119, 110])) (mCons (mC (.str [107, 101, 121])) mNil))) mNil))) (mCons (mTup (mCons (mC (.str [98, 101, 108, 111, 119])) (mCons (mTup (mCons (mC (.str [111, 119, 110])) (mCons (mC (.str [107, 101, 121])) mNil))) (mCons (mC (.int 3)) mNil)))) (mCons (mTup (mCons (mC (.str [115, 97, 109, 101])) (mCons (mC .non) (mCons (mTup (mCons (mC (.str [111, 119, 110])) (mCons (mC (.str [107, 101, 121])) mNil))) mNil)))) (mCons (mTup (mCons (mC (.str [102, 111, 117, 110, 100])) (mCons (mC (.str [65])) mNil))) (mCons (mTup (mCons (mC (.str [102, 111, 117, 110, 100])) mNil)) (mCons (mTup (mCons (mC (.str [110, 111, 116])) mNil)) (mCons (mTup (mCons (mC (.str [97, 110, 100])) (mCons (mTup (mCons (mC (.str [116, 114, 117, 101])) mNil)) mNil))) (mCons (mTup (mCons (mC (.str [111, 114])) (mCons (mTup (mCons (mC (.str [116, 114, 117, 101])) mNil)) (mCons (mTup (mCons (mC (.str [116, 114, 117, 101])) mNil)) (mCons (mTup (mCons (mC (.str [116, 114, 117, 101])) mNil)) mNil))))) (mCons (mTup (mCons (mC (.str [108, 101, 115, 115])) (mCons (mTup (mCons (mC (.str [111, 119, 110])) (mCons (mC (.str [107, 101, 121])) mNil))) (mCons (mTup (mCons (mC (.str [111, 119, 110])) (mCons (mC (.str [107, 101, 121])) mNil))) mNil)))) (mCons (mLst (mCons (mTup (mCons (mC (.str [116, 114, 117, 101])) mNil)) mNil)) (mCons (mTup (mCons (mLst (mCons (mC (.str [116, 114, 117, 101])) mNil)) mNil)) mNil))))))))))))))))) mNil))) (mgName 6))
    (msSeq (msAsg (mCallP F__law_paths (mCons (mVar 5) (mCons (mTup mNil) mNil))) (mgName 7))
    (msSeq (msPar 12 13 (mCons (mCallI F__law_pull (mCons (mVar 1) (mCons (mCall dLen (mCons (mVar 7) mNil)) mNil))) (mCons (mCallI F__law_pull (mCons (mVar 1) (mCons (mCall dLen (mCons (mVar 7) mNil)) mNil))) mNil)))
    (msSeq (msPar 14 15 (mCons (mBin dIx (mVar 7) (mCall dMin2 (mCons (mVar 12) (mCons (mVar 13) mNil)))) (mCons (mBin dIx (mVar 7) (mCall dMax2 (mCons (mVar 12) (mCons (mVar 13) mNil)))) mNil)))
    (msSeq (msAsg (mIf (mTst (mBin dNe (mSl (mVar 15) mNoP (mSmP (mCall dLen (mCons (mVar 14) mNil)))) (mVar 14))) (mCallP F__law_put (mCons (mCallP F__law_put (mCons (mVar 5) (mCons (mVar 15) (mCons (mVar 6) mNil)))) (mCons (mVar 14) (mCons (mVar 6) mNil)))) (mCallP F__law_put (mCons (mVar 5) (mCons (mVar 14) (mCons (mVar 6) mNil))))) (mgName 8))
    (msLams 9 3 (msIf (mNot (mTst (mCallP F__law_like (mCons (mLamsG F__law_tries [(0, [8]), (1, [8]), (2, [8])]) (mCons (mBin dRepL (mLst (mCons (mTup (mCons (mC (.str [73, 110, 118, 97, 108, 105, 100, 67, 111, 110, 100, 105, 116, 105, 111, 110])) (mCons (mTup (mCons (mVar 14) mNil)) mNil))) mNil)) (mC (.int 3))) mNil))))) (msRet (mC (.bl false))) msNil))))))))
theorem mb_eq : mb_law_2 = msSeq mbA (msSeq mbB mbC) := rfl
theorem repS3 {h : EH} {x : D} : dRepL h (.lst [x]) (.int 3) = some (.lst [x, x, x]) := by
  show (if 0 ≤ (3 : Int) ∧ (3 : Int) < 2 ^ 62 ∧ [x].length * (3 : Int).toNat ≤ sizeLine then some (D.lst (List.replicate (3 : Int).toNat [x]).flatten) else none) = _
  rw [if_pos ⟨by decide, by decide, by show 3 ≤ sizeLine; unfold sizeLine; omega⟩]; rfl
theorem min2_ap {h : EH} (i j : Int) : dMin2 h [.int i, .int j] = some (.int (if j < i then j else i)) := rfl
theorem mx2_ap {h : EH} (i j : Int) : dMax2 h [.int i, .int j] = some (.int (if j > i then j else i)) := rfl
theorem cut_loA {α : Type} {z : List α} {n : Nat} : cutD z none (some (n : Int)) = z.take n := by
  by_cases h : n ≤ z.length
  · exact cut_lo h
  · unfold cutD
    have e1 : HT.sIx z.length 0 none = 0 := rfl
    have e2 : HT.sIx z.length z.length (some (n : Int)) = z.length := by
      show (if ((n : Int)) < 0 then ((n : Int) + (z.length : Int)).toNat else min (n : Int).toNat z.length) = _
      rw [if_neg (by omega)]
      show min n z.length = _
      omega
    rw [e1, e2, List.drop_zero, Nat.sub_zero, List.take_length, List.take_of_length_le (by omega)]
/-- the exchange gives a condition whose first wrong part is at the first place -/
theorem wrongs {c : Cd} (hc : c.ok = true) (hd : c.dep ≤ 4) {b : D} (hb : Bad b) {i j : Nat} {p q : List Int} (hij : i ≤ j) (hi : (toW c).paths[i]? = some p) (hj : (toW c).paths[j]? = some q) {h : EH} :
    ∃ w : Wd, First w.d p ∧ ((q.take p.length = p ∧ callPK PT.F__law_put [c.d, tp p, b] h = some (.ok w.d, h)) ∨ (¬ q.take p.length = p ∧ ∃ v : Wd, callPK PT.F__law_put [c.d, tp q, b] h = some (.ok v.d, h) ∧ callPK PT.F__law_put [v.d, tp p, b] h = some (.ok w.d, h))) := by
  have g := toW_good c hc
  have wh := toW_whole c
  have mp := List.mem_of_getElem? hi
  have mq := List.mem_of_getElem? hj
  have lp := path_lt _ p mp
  have lq := path_lt _ q mq
  rw [toW_m] at lp lq
  have pm : ∀ (w : Wd) (r : List Int), (w.put r b).m ≤ w.m := fun w r => by
    have := put_m (b := b) w r (m_pos w) fun _ _ => trivial
    have := m_pos w
    omega
  have go : ∀ (w : Wd) (r : List Int), w.good → r ∈ w.paths → r.length < 12 → ∀ h : EH, callPK PT.F__law_put [w.d, tp r, b] h = some (.ok (w.put r b).d, h) := fun w r hg hr hl h =>
    callPK_ok (F := PT.F__law_put) (putD_ok hb w r 12 hg hr hl) (put_go (wd_no w hg) hb.1 r)
  have e1 := go (toW c) p g mp (by omega) h
  have e2 := go (toW c) q g mq (by omega) h
  rw [toW_d] at e1 e2
  have m0 : (toW c).m ≤ 4 := by rw [toW_m]; exact hd
  by_cases n : q.take p.length = p
  · refine ⟨(toW c).put p b, first_wp (put_good hb _ p g) (put_one _ p wh mp) (by have := pm (toW c) p; omega), .inl ⟨n, e1⟩⟩
  · obtain ⟨a1, a2⟩ := put_two (b := b) (toW c) p q wh mp mq (paths_bef hi hj hij) n
    have g2 := put_good hb (toW c) q g
    refine ⟨((toW c).put q b).put p b, first_wp (put_good hb _ p g2) a1 (by have := pm (toW c) q; have := pm ((toW c).put q b) p; omega), .inr ⟨n, (toW c).put q b, e2, go _ p g2 a2 (by omega) h⟩⟩
theorem turnC {x : D} {ds : List D} (hp : PoolOk ds) (hn : ds ≠ []) {k : Cell} (hk : BagI k) (a2 a3 a5 a6 a7 a8 a9 a10 a11 a12 a13 a14 a15 a16 : Option D) : ∃ (b5 b6 b7 b8 b9 b12 b13 b14 b15 : Option D) (k' : Cell), BagI k' ∧
    mbC [some x, some (.ref 0), a2, a3, some (.lst ds), a5, a6, a7, a8, a9, a10, a11, a12, a13, a14, a15, a16] [k] = some (.nx [some x, some (.ref 0), a2, a3, some (.lst ds), b5, b6, b7, b8, b9, a10, a11, b12, b13, b14, b15, a16], [k']) := by
  obtain ⟨c, k1, e1, hc, hcd, hk1⟩ := some_cond_ok hp hn [] 8 3 k hk (by decide)
  have e1' : PV.F__law_some_condition [.ref 0, .lst ds, .int 3] [k] = some (.ok c.d, [k1]) := e1
  obtain ⟨b, k2, e2, hb, hk2⟩ := any_lst hk1 (ds := bads) (by decide) (by decide) (fun d hd => (bads_bad d hd).1) []
  have e2' : PV.F__law_any [.ref 0, .lst [.non, .tup [], .int 3, .str [116, 114, 117, 101], .tup [.str [116, 114, 117, 101], .int 1], .tup [.str [97, 116, 109, 111, 115, 116], .tup [.str [111, 119, 110], .str [107, 101, 121]]], .tup [.str [98, 101, 108, 111, 119], .tup [.str [111, 119, 110], .str [107, 101, 121]], .int 3], .tup [.str [115, 97, 109, 101], .non, .tup [.str [111, 119, 110], .str [107, 101, 121]]],
  .tup [.str [102, 111, 117, 110, 100], .str [65]], .tup [.str [102, 111, 117, 110, 100]], .tup [.str [110, 111, 116]], .tup [.str [97, 110, 100], .tup [.str [116, 114, 117, 101]]], .tup [.str [111, 114], .tup [.str [116, 114, 117, 101]], .tup [.str [116, 114, 117, 101]], .tup [.str [116, 114, 117, 101]]], .tup [.str [108, 101, 115, 115], .tup [.str [111, 119, 110], .str [107, 101, 121]], .tup [.str [111, 119, 110], .str [107, 101, 121]]], .lst [.tup [.str [116, 114, 117, 101]]], .tup [.lst [.str [116, 114, 117, 101]]]]] [k1] = some (.ok b, [k2]) := e2
  have bb := bads_bad b hb
  have pth := callPK_ok (F := PT.F__law_paths) (h := [k2]) (paths_ok c 12 [] (by omega) (by omega) (by simp; omega)) (wpgo c.noRef [])
  have pth' : callPK PT.F__law_paths [c.d, .tup []] [k2] = some (.ok (.lst (pd [] (toW c))), [k2]) := pth
  have dp := pd_len [] (toW c) (by rw [toW_m]; omega)
  have dl : (pd [] (toW c)).length = (toW c).paths.length := by show (List.map _ _).length = _; rw [List.length_map]
  have d1 : 1 ≤ (toW c).paths.length := by
    cases q : (toW c).paths with
    | nil => cases hw : toW c <;> rw [hw] at q <;> simp [paths] at q
    | cons _ _ => simp
  generalize eL : pd [] (toW c) = Ld at pth' dp dl
  obtain ⟨i, k3, e3, i0, i1, hk3⟩ := pull_ok hk2 (n := (Ld.length : Int)) (by omega) (by omega) []
  have e3' : PV.F__law_pull [.ref 0, .int (Ld.length : Int)] [k2] = some (.ok (.int i), [k3]) := e3
  obtain ⟨j, k4, e4, j0, j1, hk4⟩ := pull_ok hk3 (n := (Ld.length : Int)) (by omega) (by omega) []
  have e4' : PV.F__law_pull [.ref 0, .int (Ld.length : Int)] [k3] = some (.ok (.int j), [k4]) := e4
  -- the two places
  obtain ⟨u, hu⟩ : ∃ u : Nat, (if j < i then j else i) = (u : Int) := ⟨(if j < i then j else i).toNat, by split <;> omega⟩
  obtain ⟨v, hv⟩ : ∃ v : Nat, (if j > i then j else i) = (v : Int) := ⟨(if j > i then j else i).toNat, by split <;> omega⟩
  have uv : u ≤ v := by
    have h1 := hu; have h2 := hv
    split at h1 <;> split at h2 <;> omega
  have ul : v < Ld.length := by
    have h2 := hv
    split at h2 <;> omega
  have mn : ∀ h : EH, dMin2 h [.int i, .int j] = some (.int (u : Int)) := fun h => by rw [min2_ap, hu]
  have mx : ∀ h : EH, dMax2 h [.int i, .int j] = some (.int (v : Int)) := fun h => by rw [mx2_ap, hv]
  obtain ⟨p, hp1⟩ : ∃ p, (toW c).paths[u]? = some p := ⟨_, List.getElem?_eq_getElem (by omega)⟩
  obtain ⟨q, hq1⟩ : ∃ q, (toW c).paths[v]? = some q := ⟨_, List.getElem?_eq_getElem (by omega)⟩
  have ixp : ∀ h : EH, dIx h (.lst Ld) (.int (u : Int)) = some (tp p) := fun h => by
    rw [ix_lst, atI_nat _ u _ rfl, ← eL]
    show (List.map _ _)[u]? = _
    rw [List.getElem?_map, hp1]; rfl
  have ixq : ∀ h : EH, dIx h (.lst Ld) (.int (v : Int)) = some (tp q) := fun h => by
    rw [ix_lst, atI_nat _ v _ rfl, ← eL]
    show (List.map _ _)[v]? = _
    rw [List.getElem?_map, hq1]; rfl
  obtain ⟨w, F, alt⟩ := wrongs hc (by omega) bb uv hp1 hq1 (h := [k4])
  have lp : ∀ h : EH, dLen h [tp p] = some (.int (p.length : Nat)) := fun h => by
    show some (D.int ((p.map D.int).length : Nat)) = _
    rw [List.length_map]
  have sq : ∀ h : EH, dSl h (tp q) none (some ((p.length : Nat) : Int)) = some (tp (q.take p.length)) := fun h => by
    show some (D.tup (cutD (q.map D.int) none (some ((p.length : Nat) : Int)))) = _
    rw [cut_loA, ← List.map_take]; rfl
  obtain ⟨bq, _, ne, iq⟩ := tp_eq (h := [k4]) (q.take p.length) p
  have pl : p.length ≤ 100 := by
    have := path_lt _ p (List.mem_of_getElem? hp1)
    rw [toW_m] at this
    omega
  have lk := like_ok (t := 30) (h := [k4]) (d := .lst [ask6 p, ask6 p, ask6 p]) (okD_le (t := 6) (okD_lstL (by simp) (by
    simp only [List.forall_mem_cons]
    exact ⟨ask6_ok pl, ask6_ok pl, ask6_ok pl, (fun _ h => nomatch h)⟩)) (by decide)) (Nat.le_refl _)
  have oL : okD 6 (.lst [ask6 p, ask6 p, ask6 p]) = true := okD_lstL (by simp) (by
    simp only [List.forall_mem_cons]
    exact ⟨ask6_ok pl, ask6_ok pl, ask6_ok pl, (fun _ h => nomatch h)⟩)
  have la : ∀ (m : MS) (s9 : Option D), msLams 9 3 m [some x, some (.ref 0), a2, a3, some (.lst ds), some c.d, some b, some (.lst Ld), some w.d, s9, a10, a11, some (.int i), some (.int j), some (tp p), some (tp q), a16] [k4] =
      m [some x, some (.ref 0), a2, a3, some (.lst ds), some c.d, some b, some (.lst Ld), some w.d, none, a10, a11, some (.int i), some (.int j), some (tp p), some (tp q), a16] [k4] := fun m s9 => lams_ap (by simp) (by decide)
  have lg := lamsG_ok (F := F__law_tries) (ps := [(0, [8]), (1, [8]), (2, [8])]) (ε := [some x, some (.ref 0), a2, a3, some (.lst ds), some c.d, some b, some (.lst Ld), some w.d, none, a10, a11, some (.int i), some (.int j), some (tp p), some (tp q), a16]) (h := [k4]) (ds := [.fn 0 [w.d], .fn 1 [w.d], .fn 2 [w.d]]) rfl (by
    show ((PD.noRef w.d && true) && ((PD.noRef w.d && true) && ((PD.noRef w.d && true) && true))) = true
    rw [F.no]; rfl) (by simp) (asks3 F) (okD_plain oL)
  have fa : D.tup [.str [73, 110, 118, 97, 108, 105, 100, 67, 111, 110, 100, 105, 116, 105, 111, 110], .tup [tp p]] = ask6 p := rfl
  refine ⟨some c.d, some b, some (.lst Ld), some w.d, none, some (.int i), some (.int j), some (tp p), some (tp q), k4, hk4, ?_⟩
  rcases alt with ⟨n, pu⟩ | ⟨n, vv, pu1, pu2⟩
  · rw [iq.mpr n] at ne
    simp! only [mbC, e_sc, e_any, e_paths, e_pull, e_put, e_like, e1', e2', pth', e3', e4', mn, mx, ixp, ixq, lp, sq, ne, pu, la, lg, fa, repS3, lk]
  · have bf : bq = false := by
      cases bq with
      | false => rfl
      | true => exact absurd (iq.mp rfl) n
    rw [bf] at ne
    simp! only [mbC, e_sc, e_any, e_paths, e_pull, e_put, e_like, e1', e2', pth', e3', e4', mn, mx, ixp, ixq, lp, sq, ne, pu1, pu2, la, lg, fa, repS3, lk]
end K06
namespace K06
open PySem PD PV PQ PT Wd
def vA : D := .tup [.str [110, 97, 109, 101], .str [97]]
def vR : D := .tup [.str [102, 105, 101, 108, 100], .str [114], .str [101, 110, 100]]
def vN : D := .tup [.str [110, 101, 120, 116], .str [113]]
theorem pool1 : PoolOk [vA, vN] where
  at_ := by
    simp only [List.forall_mem_cons]
    exact ⟨⟨.name [97], rfl, rfl⟩, ⟨.next [113], rfl, rfl⟩, (fun _ h => nomatch h)⟩
  len := by simp
theorem pool2 : PoolOk [vA, dOK, vN] where
  at_ := by
    simp only [List.forall_mem_cons]
    exact ⟨⟨.name [97], rfl, rfl⟩, ⟨.own [107, 101, 121], rfl, rfl⟩, ⟨.next [113], rfl, rfl⟩, (fun _ h => nomatch h)⟩
  len := by simp
theorem lturn {x : D} (d : D) (k : Cell) (r : Ev) (hk : BagI k) (hr : r.length = 15) : ∃ (ε1 r' : Ev) (k' : Cell), mgName 2 d (some x :: some (.ref 0) :: r) [k] = some (ε1, [k]) ∧
    (mb_law_2 ε1 [k] = some (.nx (some x :: some (.ref 0) :: r'), [k']) ∨ mb_law_2 ε1 [k] = some (.ct (some x :: some (.ref 0) :: r'), [k'])) ∧ r'.length = 15 ∧ BagI k' := by
  match r, hr with
  | [r2, r3, r4, r5, r6, r7, r8, r9, r10, r11, r12, r13, r14, r15, r16], _ =>
  obtain ⟨n, k1, e1, n0, n1, hk1⟩ := pull_ok hk (n := 3) (by decide) (by decide) []
  have e1' : PV.F__law_pull [.ref 0, .int 3] [k] = some (.ok (.int n), [k1]) := e1
  have key : ∃ (ds : List D), PoolOk ds ∧ ds ≠ [] ∧ msSeq mbA (msSeq mbB mbC) [some x, some (.ref 0), some d, r3, r4, r5, r6, r7, r8, r9, r10, r11, r12, r13, r14, r15, r16] [k] = mbC [some x, some (.ref 0), some d, r3, some (.lst ds), r5, r6, r7, r8, r9, r10, r11, r12, r13, r14, r15, r16] [k1] := by
    have fa : D.tup [.str [110, 97, 109, 101], .str [97]] = vA := rfl
    have fr : D.tup [.str [102, 105, 101, 108, 100], .str [114], .str [101, 110, 100]] = vR := rfl
    have fo : D.tup [.str [111, 119, 110], .str [107, 101, 121]] = dOK := rfl
    have fn : D.tup [.str [110, 101, 120, 116], .str [113]] = vN := rfl
    have c3 : n = 0 ∨ n = 1 ∨ n = 2 := by omega
    rcases c3 with rfl | rfl | rfl
    · refine ⟨[vA, vN], pool1, by simp, ?_⟩
      have sl : cutD [vA, vR, dOK] none (some 1) = [vA] := rfl
      have lk : lcK [16] (mgName 16) mt_law_1 (mVar 16) [some x, some (.ref 0), some d, r3, some (.lst [vA]), r5, r6, r7, r8, r9, r10, r11, r12, r13, r14, r15, r16] [vA] [k1] = some (.ok (.lst [vA]), [k1]) := by kernel_rfl
      have ad : ∀ h : EH, dAdd h (.lst [vA]) (.lst [vN]) = some (.lst [vA, vN]) := fun h => by rw [add_lst (by simp)]; rfl
      simp! only [mbA, mbB, e_pull, fa, fr, fo, e1', sl, fn, lk, ad]
    · refine ⟨[vA, vN], pool1, by simp, ?_⟩
      have sl : cutD [vA, vR, dOK] none (some 2) = [vA, vR] := rfl
      have lk : lcK [16] (mgName 16) mt_law_1 (mVar 16) [some x, some (.ref 0), some d, r3, some (.lst [vA, vR]), r5, r6, r7, r8, r9, r10, r11, r12, r13, r14, r15, r16] [vA, vR] [k1] = some (.ok (.lst [vA]), [k1]) := by kernel_rfl
      have ad : ∀ h : EH, dAdd h (.lst [vA]) (.lst [vN]) = some (.lst [vA, vN]) := fun h => by rw [add_lst (by simp)]; rfl
      simp! only [mbA, mbB, e_pull, fa, fr, fo, e1', sl, fn, lk, ad]
    · refine ⟨[vA, dOK, vN], pool2, by simp, ?_⟩
      have sl : cutD [vA, vR, dOK] none (some 3) = [vA, vR, dOK] := rfl
      have lk : lcK [16] (mgName 16) mt_law_1 (mVar 16) [some x, some (.ref 0), some d, r3, some (.lst [vA, vR, dOK]), r5, r6, r7, r8, r9, r10, r11, r12, r13, r14, r15, r16] [vA, vR, dOK] [k1] = some (.ok (.lst [vA, dOK]), [k1]) := by kernel_rfl
      have ad : ∀ h : EH, dAdd h (.lst [vA, dOK]) (.lst [vN]) = some (.lst [vA, dOK, vN]) := fun h => by rw [add_lst (by simp)]; rfl
      simp! only [mbA, mbB, e_pull, fa, fr, fo, e1', sl, fn, lk, ad]
  obtain ⟨ds, hp, hn, run⟩ := key
  obtain ⟨b5, b6, b7, b8, b9, b12, b13, b14, b15, k2, hk2, rc⟩ := turnC (x := x) hp hn hk1 (some d) r3 r5 r6 r7 r8 r9 r10 r11 r12 r13 r14 r15 r16
  refine ⟨[some x, some (.ref 0), some d, r3, r4, r5, r6, r7, r8, r9, r10, r11, r12, r13, r14, r15, r16], [some d, r3, some (.lst ds), b5, b6, b7, b8, b9, r10, r11, b12, b13, b14, b15, r16], k2, rfl, .inl ?_, rfl, hk2⟩
  rw [mb_eq, run, rc]
structure DF (d : D) (k : Nat) (p : List Int) : Prop where
  w : DW d k p
  fn : noFn d = true
theorem dTr_wp : WP dTr 1 none := wp_cd (c := .tru) rfl
theorem df_0 : DF dTr 0 [] := ⟨dw_0 rfl, rfl⟩
theorem fn_bin {j : Bool} {x y : D} (n : noFn x = true) (m : noFn y = true) : noFn (dBin j x y) = true := by
  show (true && (noFn x && (noFn y && true))) = true
  rw [n, m]; rfl
theorem fn_nt {x : D} (n : noFn x = true) : noFn (dNt x) = true := by
  show (true && (noFn x && true)) = true
  rw [n]; rfl
theorem df_first {d : D} {p : List Int} (F : DF d 6 p) : First d p := by
  refine ⟨F.w.no, F.fn, ?_⟩
  exact F.w.go 12 [] rfl (by decide)
theorem tp_cons {h : EH} {i : Int} {p : List Int} (l : p.length ≤ 100) : dAdd h (.tup [.int i]) (tp p) = some (tp (i :: p)) := by
  show dAdd h (.tup [.int i]) (.tup (p.map .int)) = _
  rw [add_tup (by rw [List.length_map]; simp; omega)]; rfl
theorem deep_turn {a0 a2 a4 a5 a6 a7 a8 a9 a12 a13 a14 a15 a16 : Option D} {d : D} {n : Nat} {p : List Int} (F : DF d n p) (hn : n ≤ 5) (hl : p.length = n) {k : Cell} (hk : BagI k) : ∃ (d' : D) (p' : List Int) (k' : Cell), DF d' (n + 1) p' ∧ p'.length = n + 1 ∧ BagI k' ∧
    mb_law_0 [a0, some (.ref 0), a2, some (.int (n : Nat)), a4, a5, a6, a7, a8, a9, some d, some (tp p), a12, a13, a14, a15, a16] [k] = some (.nx [a0, some (.ref 0), a2, some (.int (n : Nat)), a4, a5, a6, a7, a8, a9, some d', some (tp p'), a12, a13, a14, a15, a16], [k']) := by
  have nd := F.w.no
  obtain ⟨m, hm⟩ : ∃ m : Int, m = (if n = 0 then 1 else 2) := ⟨_, rfl⟩
  have g : decide ((0 : Int) < (n : Int)) = decide (n ≠ 0) := decide_eq_decide.mpr (by omega)
  have nA : PD.noRef (.tup [dNt d, tp (1 :: p)]) = true := by
    show (PD.noRef (dNt d) && (PD.noRef.go ((1 :: p).map D.int) && true)) = true
    rw [no_nt nd, ints_go]; rfl
  have nB : PD.noRef (.tup [dBin true dTr d, tp (m :: p)]) = true := by
    show (PD.noRef (dBin true dTr d) && (PD.noRef.go ((m :: p).map D.int) && true)) = true
    rw [no_bin rfl nd, ints_go]; rfl
  have nC : PD.noRef (.tup [dBin false d (.tup []), tp (1 :: p)]) = true := by
    show (PD.noRef (dBin false d (.tup [])) && (PD.noRef.go ((1 :: p).map D.int) && true)) = true
    rw [no_bin nd rfl, ints_go]; rfl
  obtain ⟨z, k1, e1, hz, hk1⟩ := any_lst hk (ds := [.tup [dNt d, tp (1 :: p)], .tup [dBin true dTr d, tp (m :: p)], .tup [dBin false d (.tup []), tp (1 :: p)]]) (by simp) (by simp) (by
    simp only [List.forall_mem_cons]
    exact ⟨nA, nB, nC, (fun _ h => nomatch h)⟩) []
  have e1' : PV.F__law_any [.ref 0, .lst [.tup [dNt d, tp (1 :: p)], .tup [dBin true dTr d, tp (m :: p)], .tup [dBin false d (.tup []), tp (1 :: p)]]] [k] = some (.ok z, [k1]) := e1
  have fA : D.tup [.str [110, 111, 116], d] = dNt d := rfl
  have fB : D.tup [.str [97, 110, 100], .tup [.str [116, 114, 117, 101]], d] = dBin true dTr d := rfl
  have fC : D.tup [.str [111, 114], d, .tup []] = dBin false d (.tup []) := rfl
  have t1 : ∀ h : EH, dAdd h (.tup [.int 1]) (tp p) = some (tp (1 :: p)) := fun h => tp_cons (by omega)
  have tm : ∀ h : EH, dAdd h (.tup [.int m]) (tp p) = some (tp (m :: p)) := fun h => tp_cons (by omega)
  have ib : ∀ h : EH, dInt h [.bl (decide (n ≠ 0))] = some (.int (if decide (n ≠ 0) = true then 1 else 0)) := fun h => rfl
  have am : (1 : Int) + (if decide (n ≠ 0) = true then 1 else 0) = m := by
    rw [hm]
    by_cases q : n = 0
    · simp [q]
    · simp [q]
  generalize (if decide (n ≠ 0) = true then (1 : Int) else 0) = bi at ib am
  generalize decide (n ≠ 0) = bb at g ib
  have ai : ∀ h : EH, dAdd h (.int 1) (.int bi) = some (.int m) := fun h => by
    show some (D.int (1 + bi)) = _
    rw [am]
  have gt : ∀ h : EH, dGt h (.int (n : Nat)) (.int 0) = some (.bl bb) := fun h => by
    show some (D.bl (decide ((0 : Int) < (n : Int)))) = _
    rw [g]
  have run : ∀ (y : D) (s : List Int), z = .tup [y, tp s] → mb_law_0 [a0, some (.ref 0), a2, some (.int (n : Nat)), a4, a5, a6, a7, a8, a9, some d, some (tp p), a12, a13, a14, a15, a16] [k] = some (.nx [a0, some (.ref 0), a2, some (.int (n : Nat)), a4, a5, a6, a7, a8, a9, some y, some (tp s), a12, a13, a14, a15, a16], [k1]) := fun y s e => by
    rw [e] at e1'
    simp! only [mb_law_0, e_any, fA, fB, fC, t1, g, ib, am, tm, e1']
  simp only [List.mem_cons, List.not_mem_nil, or_false] at hz
  rcases hz with e | e | e
  · exact ⟨_, _, k1, ⟨dw_nt F.w hn, fn_nt F.fn⟩, by rw [List.length_cons, hl], hk1, run _ _ e⟩
  · by_cases q : n = 0
    · subst q
      have hp : p = [] := List.eq_nil_of_length_eq_zero hl
      subst hp
      rw [if_pos rfl] at hm
      rw [hm] at e
      exact ⟨_, _, k1, ⟨dw_l (dw_0 rfl) nd (by decide), fn_bin rfl F.fn⟩, rfl, hk1, run _ _ e⟩
    · obtain ⟨n', rfl⟩ : ∃ n', n = n' + 1 := ⟨n - 1, by omega⟩
      rw [if_neg q] at hm
      rw [hm] at e
      exact ⟨_, _, k1, ⟨dw_r dTr_wp F.w (by omega), fn_bin rfl F.fn⟩, by rw [List.length_cons, hl], hk1, run _ _ e⟩
  · exact ⟨_, _, k1, ⟨dw_l F.w rfl hn, fn_bin F.fn rfl⟩, by rw [List.length_cons, hl], hk1, run _ _ e⟩
theorem deep_loop {a0 a2 a4 a5 a6 a7 a8 a9 a12 a13 a14 a15 a16 : Option D} : ∀ (r n : Nat) (d : D) (p : List Int) (k : Cell) (a3 : Option D), n + r = 6 → DF d n p → p.length = n → BagI k → ∃ (d' : D) (p' : List Int) (k' : Cell) (a3' : Option D), DF d' 6 p' ∧ p'.length = 6 ∧ BagI k' ∧
    forL (mgName 3) mb_law_0 ((List.range' n r).map fun i => .int (i : Nat)) [a0, some (.ref 0), a2, a3, a4, a5, a6, a7, a8, a9, some d, some (tp p), a12, a13, a14, a15, a16] [k] = some (.nx [a0, some (.ref 0), a2, a3', a4, a5, a6, a7, a8, a9, some d', some (tp p'), a12, a13, a14, a15, a16], [k'])
  | 0, n, d, p, k, a3, h, F, hl, hk => by
    have : n = 6 := by omega
    subst this
    exact ⟨d, p, k, a3, F, hl, hk, rfl⟩
  | r + 1, n, d, p, k, a3, h, F, hl, hk => by
    obtain ⟨d1, p1, k1, F1, l1, hk1, e1⟩ := deep_turn (a0 := a0) (a2 := a2) (a4 := a4) (a5 := a5) (a6 := a6) (a7 := a7) (a8 := a8) (a9 := a9) (a12 := a12) (a13 := a13) (a14 := a14) (a15 := a15) (a16 := a16) F (by omega) hl hk
    obtain ⟨d2, p2, k2, b3, F2, l2, hk2, e2⟩ := deep_loop r (n + 1) d1 p1 k1 (some (.int (n : Nat))) (by omega) F1 l1 hk1
    refine ⟨d2, p2, k2, b3, F2, l2, hk2, ?_⟩
    rw [List.range'_succ, List.map_cons, forL_nx (ε1 := [a0, some (.ref 0), a2, some (.int (n : Nat)), a4, a5, a6, a7, a8, a9, some d, some (tp p), a12, a13, a14, a15, a16]) (h1 := [k]) rfl e1]
    exact e2
theorem run_of {x : D} {k : Cell} (e0 : PD.F_draws [x] [] = some (.ok (.ref 0), [k])) (hk : BagI k) : ∃ h', F_law [x] [] = some (.ok (.bl true), h') := by
  obtain ⟨r, k1, el, hr, hk1⟩ := forL_bag (g := mgName 2) (b := mb_law_2) (n := 15) (x := x) lturn (rngD 0 8) k [none, none, none, none, none, none, none, none, none, none, none, none, none, none, none] hk rfl
  have e0' : PD.F_draws [x] [] = some (.ok (.ref 0), [k]) := e0
  have r8 : ∀ h : EH, ir1K [.int 8] h = some (.ok (rngD 0 8), h) := fun h => ir1K_ok (j := 8) (by decide)
  have r6 : ∀ h : EH, ir1K [.int 6] h = some (.ok (rngD 0 6), h) := fun h => ir1K_ok (j := 6) (by decide)
  match r, hr with
  | [s2, s3, s4, s5, s6, s7, s8, s9, s10, s11, s12, s13, s14, s15, s16], _ =>
  obtain ⟨d, p, k2, b3, F, lp, hk2, e2⟩ := deep_loop (a0 := some x) (a2 := s2) (a4 := s4) (a5 := s5) (a6 := s6) (a7 := s7) (a8 := s8) (a9 := s9) (a12 := s12) (a13 := s13) (a14 := s14) (a15 := s15) (a16 := s16) 6 0 dTr [] k1 s3 rfl df_0 rfl hk1
  have e2' : forL (mgName 3) mb_law_0 (rngD 0 6) [some x, some (.ref 0), s2, s3, s4, s5, s6, s7, s8, s9, some dTr, some (.tup []), s12, s13, s14, s15, s16] [k1] = some (.nx [some x, some (.ref 0), s2, b3, s4, s5, s6, s7, s8, s9, some d, some (tp p), s12, s13, s14, s15, s16], [k2]) := e2
  have Fi := df_first F
  have ok := ask6_ok (p := p) (by omega)
  have lk := like_ok (t := 30) (h := [k2]) (okD_le ok (by decide)) (Nat.le_refl _)
  have lg : mLam1G F__law_try 3 [10] [some x, some (.ref 0), s2, b3, s4, s5, s6, s7, s8, s9, some d, some (tp p), s12, s13, s14, s15, s16] [k2] = some (.ok (ask6 p), [k2]) :=
    lam1G_ok (ds := [d]) rfl (go1 Fi.no) (tryC (by decide) Fi (lam3 Fi)) (okD_plain ok)
  have fT : D.tup [.str [116, 114, 117, 101]] = dTr := rfl
  have fa : D.tup [.str [73, 110, 118, 97, 108, 105, 100, 67, 111, 110, 100, 105, 116, 105, 111, 110], .tup [tp p]] = ask6 p := rfl
  refine ⟨[], ?_⟩
  show endI 0 (m_law [some x, none, none, none, none, none, none, none, none, none, none, none, none, none, none, none, none] []) = _
  have run : m_law [some x, none, none, none, none, none, none, none, none, none, none, none, none, none, none, none, none] [] = some (.rt (.bl true), [k2]) := by
    simp! only [m_law, e_draws, e_like, e0', r8, el, fT, r6, e2', lg, fa, lk]
  rw [run]
  unfold endI trim frzI frz1I
  rfl
theorem math (ns : List Int) (h1 : ns.length ≤ 63) (h2 : ∀ z ∈ ns, Builtin.Int.intBits z ≤ 1048576) : (∃ h', F_law [.scr (ns.map .int)] [] = some (.ok (.bl true), h')) ∧ ∃ h', F_law [.lst (ns.map .int)] [] = some (.ok (.bl true), h') := by
  obtain ⟨k, e, hk⟩ := draws_ok h1
  obtain ⟨k', e', hk'⟩ := draws_lst h1
  exact ⟨run_of e hk, run_of e' hk'⟩
end K06
open PySem PySem.W PySem.Calls PyProof.Rows
theorem PySem.Challenge.cw_lookedrows_k06_conditions_refused_holds : PySem.Challenge.rw_lookedrows_k06_conditions_refused.Holds := by
  w_on; o_law
  refine HandSHeadRun.head_any (r := OpenLaw.row PySem.Challenge.rw_lookedrows_k06_conditions_refused) (q := view (OpenLaw.row PySem.Challenge.rw_lookedrows_k06_conditions_refused).prog [44]) (H := K06.hk) (ob := K06.ob) (M := 6000) (loose := K06.loose) (d := HandSHeadRun.topDef (OpenLaw.row PySem.Challenge.rw_lookedrows_k06_conditions_refused).prog 44) (kwd := []) K06.ob_eq
    (by kernel_rfl) (fun s => by kernel_rfl) K06.run (by kernel_rfl) (by kernel_rfl) (by kernel_rfl) (by rfl) (by first | assumption | decide +kernel) (by decide +kernel) ⟨rfl, rfl, rfl, rfl, rfl, by decide +kernel⟩ ?hw ?hc
  case hw => w_witness2
  case hc => exact K06.fin K06.math
