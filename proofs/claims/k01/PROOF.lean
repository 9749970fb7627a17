import PyProof.Rows.All
import Wide.All
import OpenK.AllK
import Wide.FinOn
import HandS.Head0
import HandS.Head1
import HandS.Head2
import HandS.HeadNt
import HandS.HeadHook3
import KE.KExcInit
import KE.KTryMore
import KE.KStateDown
import HandS.ForMost
import HandS.Defaults
import HandS.Exc
import HandS.IsInst
import HandS.Walk
import HandS.Flow
import HandS.Lambda
import HandS.ExcInit
import HandS.TupAny
import HandS.TupMul
import HandS.Codes
import HandS.Deep
import HandS.Text
import HandS.FStr
import HandS.WideBits
import HandS.Star
import HandS.ExcOwn
import HandS.Property
import HandS.ExcCtx
import HandS.ClsMeth
import KE.KFmtOwn
import KE.RegKCallOwn
import HandS.Iter
import KE.GoesEnum
import HandS.Dict
import PyProof.ReprRoads
import HandS.HeadHook4
import HandS.HeadEnd
import HandS.Ends
import HandS.Style
import HandS.Wide
import HandS.Conv
import HandS.HotCalls
import KE.SortKeyHeap
import HandS.SortKw
import KE.KExcIs
import PyProof.ExcBaseAll.ValueError
import PyProof.ExcBaseAll.LookupError
import PyProof.ExcBaseAll.ArithmeticError
import HandS.ExcValue
import KE.KDictPairs
import HandS.More
import HandS.WordsDict
import HandS.DictComp
import PyProof.AssignAttr
import KE.KDictItemsList
import KE.KOpsOwn
import HandS.TryOnly
import KE.GoesZip
import HandS.Zip
import PyProof.LongRange
import HandS.Replace
import PySem.Challenge.RW_knotspools_k01_constants_and_errors
set_option Elab.async false
set_option linter.all false
set_option maxRecDepth 100000
set_option maxHeartbeats 4000000
namespace AM
open PySem PySem.Spec PyProof.Rows L2 He
def strsAre : List Value → List Str → Bool
  | .str y _ :: vs, z :: zs => decide (y = z) && strsAre vs zs
  | [], [] => true
  | _, _ => false
def rowsAre (K : PySem.W.Frag) : List Value → List (Str ⊕ List Str) → Bool
  | .str y _ :: vs, .inl z :: zs => decide (y = z) && rowsAre K vs zs
  | .ref a :: vs, .inr l :: zs => (match K.lookup a with
    | some o => decide (o.cls = .type "tuple") && (match o.data with
      | .seq its _ => decide (its.size ≤ 100) && strsAre its.toList l
      | _ => false)
    | none => false) && rowsAre K vs zs
  | [], [] => true
  | _, _ => false
inductive Ty1 where
  | ty (n : String) | own (x : Str)
def Ty1.v (K : PySem.W.Frag) : Ty1 → Value
  | .ty n => .type n
  | .own x => .ref (ga K x)
inductive Fx where
  | clsI (x : Str)
  | built (x m : Str) (id : String)
  | mro (x : Str)
  | first (x : Str)
  | kit (t u : Ty1) (b : Bool)
  | exm (x y : Str) (b : Bool)
  | prop (x f : Str)
  | stat (x m : Str)
  | sub (t u : Ty1) (b : Bool)
  | tupS (x : Str) (zs : List Str)
  | tupM (x : Str) (zs : List (Str ⊕ List Str))
  | exc (x f : Str) (B : Nat) (row : List (Ty1 × Bool))
  | own (x m : Str)
  | exc0 (x : Str) (B : Nat) (row : List (Ty1 × Bool))
def pfA (K : PySem.W.Frag) (C : Addr) (f : Str) : Addr := match PySem.W.recIn K (ma K C f) "property" with
  | some (.ref g :: _) => g
  | _ => 0
def sfA (K : PySem.W.Frag) (C : Addr) (m : Str) : Addr := He5.wf K C "staticmethod" m
def excBm : Nat → List Value
  | 0 => [.type "ValueError", .type "Exception", .type "BaseException", .type "object"]
  | 1 => [.type "LookupError", .type "Exception", .type "BaseException", .type "object"]
  | _ => [.type "ArithmeticError", .type "Exception", .type "BaseException", .type "object"]
def excNew : Nat → String
  | 0 => "ValueError.__new__"
  | 1 => "LookupError.__new__"
  | _ => "ArithmeticError.__new__"
def rzB (K : PySem.W.Frag) (C fI : Addr) (f : Str) (B : Nat) : Bool := PySem.W.excInitIn K C (excBm B) (excNew B) && (PySem.W.excOver K C (excBm B) && (decide (PySem.W.takerIn K C f = some none) && (PySem.W.hasDictIn K C && (eqO (PySem.W.findIn K (.ref C) "__setattr__") (some (some (.builtin "object.__setattr__"))) &&
  (decide (PySem.W.subIn K (.ref C) (.type "BaseException") = some true) && (decide (PySem.W.typeIn K (.ref C) = some (.type "type")) && (PySem.W.keepIn K (.ref C) && (eqO (PySem.W.findIn K (.ref C) "__init__") (some (some (.ref fI))) && decide (PySem.W.typeIn K (.ref fI) = some (.type "function"))))))))))
def xvB (K : PySem.W.Frag) (C : Addr) : Bool := eqO (PySem.W.findIn K (.ref C) "__getattribute__") (some (some (.builtin "BaseException.__getattribute__"))) && (eqO (PySem.W.findIn K (.ref C) "__getattr__") (some none) && ((PySem.W.clsIn K C).isSome && (eqO (PySem.W.findIn K (.ref C) "__class__") (some (some (.builtin "object.__class__"))) &&
  (eqO (PySem.W.specialIn K (.builtin "object.__class__") "__get__") (some (some (.builtin "getset_descriptor.__get__"))) && (decide (PySem.W.takesIn K (.builtin "object.__class__") = some true) && decide (PySem.W.mroIn K C (.type "object") = some true))))))
def excB (K : PySem.W.Frag) (C fI : Addr) (f : Str) (B : Nat) (row : List (Ty1 × Bool)) : Bool := rzB K C fI f B && (xvB K C && (([("given" : Str), "number", "index"].all fun n => eqO (PySem.W.findIn K (.ref C) n) (some none)) && ((row.all fun r => decide (PySem.W.kitOne K (.ref C) (r.1.v K) = some r.2)) &&
  decide (PySem.W.exmAny K (.ref C) [.ref (ga K "WrongValue"), .ref (ga K "WrongName"), .ref (ga K "NoAnswer")] = some true))))
def exc0B (K : PySem.W.Frag) (C : Addr) (B : Nat) (row : List (Ty1 × Bool)) : Bool := PySem.W.excIn K C (excBm B) (excNew B) && (PySem.W.keepIn K (.ref C) && (decide (PySem.W.subIn K (.ref C) (.type "BaseException") = some true) && (decide (PySem.W.typeIn K (.ref C) = some (.type "type")) && (PySem.W.hasDictIn K C && (xvB K C && (([("given" : Str), "number", "index"].all fun n => eqO (PySem.W.findIn K (.ref C) n) (some none)) && ((row.all fun r => decide (PySem.W.kitOne K (.ref C) (r.1.v K) = some r.2)) &&
  decide (PySem.W.exmAny K (.ref C) [.ref (ga K "WrongValue"), .ref (ga K "WrongName"), .ref (ga K "NoAnswer")] = some true))))))))
def Fx.ok (K : PySem.W.Frag) : Fx → Bool
  | .exc0 x B row => exc0B K (ga K x) B row
  | .clsI x => (Fa.cls x).ok K && (eqO (PySem.W.findIn K (.ref (ga K x)) "__class__") (some (some (.builtin "object.__class__"))) && (eqO (PySem.W.specialIn K (.builtin "object.__class__") "__get__") (some (some (.builtin "getset_descriptor.__get__"))) &&
      (decide (PySem.W.takesIn K (.builtin "object.__class__") = some true) && decide (PySem.W.mroIn K (ga K x) (.type "object") = some true))))
  | .built x m id => eqO (PySem.W.findIn K (.ref (ga K x)) m) (some (some (.builtin id)))
  | .mro x => decide (PySem.W.mroIn K (ga K x) (.type "object") = some true)
  | .first x => PySem.W.selfFirst K (ga K x)
  | .own x m => PySem.W.noSeq K (ga K x) && PySem.W.fnIn K (ma K (ga K x) m)
  | .exc x f B row => excB K (ga K x) (ma K (ga K x) "__init__") f B row
  | .sub t u b => decide (PySem.W.subIn K (t.v K) (u.v K) = some b)
  | .tupS x zs => eqO (PySem.W.nsIn K mainGlobals x) (some (some (.ref (ga K x)))) && (match K.lookup (ga K x) with
    | some o => decide (o.cls = .type "tuple") && (match o.data with
      | .seq its _ => decide (its.size ≤ 100) && strsAre its.toList zs
      | _ => false)
    | none => false)
  | .tupM x zs => eqO (PySem.W.nsIn K mainGlobals x) (some (some (.ref (ga K x)))) && (match K.lookup (ga K x) with
    | some o => decide (o.cls = .type "tuple") && (match o.data with
      | .seq its _ => decide (its.size ≤ 100) && rowsAre K its.toList zs
      | _ => false)
    | none => false)
  | .kit t u b => decide (PySem.W.kitOne K (t.v K) (u.v K) = some b)
  | .exm x y b => decide (PySem.W.exmOne K (.ref (ga K x)) (.ref (ga K y)) = some b)
  | .prop x f => (Fa.cls x).ok K && (eqO (PySem.W.findIn K (.ref (ga K x)) f) (some (some (.ref (ma K (ga K x) f)))) && (eqO (PySem.W.specialIn K (.ref (ma K (ga K x) f)) "__get__") (some (some (.builtin "property.__get__"))) &&
      (decide (PySem.W.takesIn K (.ref (ma K (ga K x) f)) = some true) && (match PySem.W.recIn K (ma K (ga K x) f) "property" with
        | some (.ref _ :: _) => true
        | _ => false))))
  | .stat x m => eqO (PySem.W.specialIn K (.ref (ga K x)) "__getattribute__") (some (some (.builtin "type.__getattribute__"))) && (decide (PySem.W.typeIn K (.ref (ga K x)) = some (.type "type")) && (PySem.W.readsIn K (ga K x) (.type "type") && (He5.wrapB K (ga K x) "staticmethod" "staticmethod.__get__" m &&
      PySem.W.keepIn K (.ref (sfA K (ga K x) m)))))
def obsM (fa : List Fa) (fn : List He5.DefA) (ex : List Fx) (K : PySem.W.Frag) : He.AlD := ((fa.all fun f => f.ok K) && ((fn.all fun d => d.ok K) && ex.all fun f => f.ok K), fn.map fun d => He5.fnA K (d.at_ K))
def SaysM (fa : List Fa) (fn : List He5.DefA) (ex : List Fx) (K : PySem.W.Frag) : Prop := obsM fa fn ex K = He5.valA fn
def walkA {α : Type} : List Addr → Nat → List Addr → (Nat → List Addr → α) → α
  | [], seen, out, k => k seen out
  | a :: r, seen, out, k => match Nat.testBit seen a with
    | true => walkA r seen out k
    | false => walkA r (seen ||| (1 <<< a)) (a :: out) k
def asM (g : Addr → Option Obj) : Nat → Nat → List Addr → List Addr
  | 0, _, front => front
  | n + 1, seen, front => front ++ walkA (front.flatMap fun a => match g a with
    | some o => refsD o
    | none => []) seen [] fun seen' out => asM g n seen' out
def asN (g : Addr → Option Obj) (n : Nat) : List Addr := asM g n (1 <<< mainGlobals) [mainGlobals] ++ [cStatics]
def obsMG (n : Nat) (fa : List Fa) (fn : List He5.DefA) (ex : List Fx) (g : Addr → Option Obj) : He.AlD := obsM fa fn ex (frG g (asN g n))
def hookM (n : Nat) (fa : List Fa) (fn : List He5.DefA) (ex : List Fx) : PySem.W.Hook where
  α := He.AlD
  obs := fun s => obsMG n fa fn ex s.heap.get?
  val := fun _ => He5.valA fn
  says := fun _ h => ∃ K : PySem.W.Frag, K.In h ∧ SaysM fa fn ex K
  of := fun _ _ e => ⟨_, frG_in, e⟩
  keeps := fun _ _ _ ⟨K, hK, c⟩ k => ⟨K, PySem.W.Frag.In.keeps hK k, c⟩
theorem obsMG_eq {n : Nat} {fa : List Fa} {fn : List He5.DefA} {ex : List Fx} {g : Addr → Option Obj} {s : Shared} (h : ∀ a, g a = s.heap.get? a) : obsMG n fa fn ex g = (hookM n fa fn ex).obs s := by
  obtain rfl : g = s.heap.get? := funext h
  rfl
inductive Tv where
  | int (i : Int)
  | pair (i : Int) (c : Nat)
def Tv.b (K : PySem.W.Frag) (Γ : Nat → Addr) : Tv → Value → Bool
  | .int i, .int j _ => decide (i = j)
  | .pair i c, .ref t => (match K.lookup t with
    | some o => decide (o.cls = .type "tuple") && (match o.data with
      | .seq its _ => (match its.toList with
        | [.int j _, .ref g] => decide (j = i) && decide (g = Γ c)
        | _ => false)
      | _ => false)
    | none => false)
  | _, _ => false
def tabB (K : PySem.W.Frag) (Γ : Nat → Addr) (x : Str) (r : List (Str × Tv)) : Bool := eqO (PySem.W.nsIn K mainGlobals x) (some (some (.ref (ga K x)))) && r.all fun q => match PySem.W.nsIn K (ga K x) q.1 with
  | some (some u) => q.2.b K Γ u
  | _ => false
abbrev TabM : Type := Str × List (Str × Tv)
abbrev AlM : Type := He.AlD × (Bool × List (Option (List (Option (Str × Int)))))
def obsX (fa : List Fa) (fn : List He5.DefA) (ex : List Fx) (Γ : PySem.W.Frag → Nat → Addr) (ts : List TabM) (K : PySem.W.Frag) : AlM := (obsM fa fn ex K, ts.all fun t => tabB K (Γ K) t.1 t.2, ts.map fun t => dicW K (ga K t.1))
def valX (fn : List He5.DefA) (ts : List TabM) (w : World) : AlM := (He5.valA fn, true, ts.map fun t => some (keysIn w.params (t.2.map (·.1))))
def SaysX (fa : List Fa) (fn : List He5.DefA) (ex : List Fx) (Γ : PySem.W.Frag → Nat → Addr) (ts : List TabM) (w : World) (K : PySem.W.Frag) : Prop := obsX fa fn ex Γ ts K = valX fn ts w
end AM
namespace AM
open PySem PySem.Spec PyProof.Rows L2
abbrev St := List (Option V)
structure Ct where
  K : PySem.W.Frag
  Γ : Nat → Addr
abbrev XC (X : Cx) (Γ : Nat → Addr) : Ct := ⟨X.K, Γ⟩
inductive D where
  | non | bl (b : Bool) | int (i : Int) | str (s : Str) | ty (n : String) | cls (c : Nat)
  | tup (ds : List D) | lst (ds : List D) | fz (ds : List D) | ins (c : Nat) (fs : List (Str × D)) | hd (n : Nat) | dic (r : List (Key × D)) | exv (c : Nat) (a : Addr) (dx : Option Addr) (fs : List (Str × D)) | dk (r : List (Key × D)) | exx (c : Nat) (fs : List (Str × D)) | pin (a : Addr) (o : Option (Addr × Str)) (vs : List V) (ds : List D)
def imV : D → Option V
  | .non => some .non
  | .bl b => some (.bl b)
  | .int i => some (.int i)
  | .str s => some (.str s)
  | _ => none
def imR : List (Key × D) → Option (List (Key × V))
  | [] => some []
  | (k, d) :: r => match imV d, imR r with
    | some v, some vs => some ((k, v) :: vs)
    | _, _ => none
inductive Cell where
  | lst (ds : List D) | obj (c : Nat) (fs : List (Str × D)) | tab (i : Nat) (q : Str) | dct (r : List (Key × D))
abbrev Sto := List Cell
structure Exn where
  c : Nat
  fs : List (Str × D)
inductive Res (α : Type) where
  | ok (a : α) (st : Sto) | exc (e : Exn) (st : Sto) | bad
inductive Sl where
  | un | sh (d : D) | own (ds : List D)
abbrev AEnv := List Sl
inductive SR where
  | nx (env : AEnv) (st : Sto) | rt (d : D) (st : Sto) | bk (env : AEnv) (st : Sto) | ct (env : AEnv) (st : Sto) | exc (e : Exn) (st : Sto) | bad
abbrev EF := AEnv → Sto → Res D
abbrev EFs := AEnv → Sto → Res (List D)
abbrev TF := AEnv → Sto → Res Bool
abbrev SF := AEnv → Sto → SR
abbrev DF := List D → Sto → Res D
def SqF (K : PySem.W.Frag) (H : Hp) (S : Addr → Prop) (a : Addr) (vs : List V) : Prop := (∃ o, H a = some (.frz o (.lst vs)) ∧ ¬ S a) ∨ SqL K (fun _ => none) a vs
theorem SqF.sql {K : PySem.W.Frag} {H : Hp} {S : Addr → Prop} {a : Addr} {vs : List V} (h : SqF K H S a vs) : SqL K H a vs := by
  rcases h with ⟨o, e, _⟩ | (e | ⟨o, e⟩) | h
  · exact .inl (.inr ⟨o, e⟩)
  · cases e
  · cases e
  · exact .inr h
theorem SqF.imp {K : PySem.W.Frag} {H H' : Hp} {S S' : Addr → Prop} {a : Addr} {vs : List V} (h : SqF K H S a vs) (i : ∀ o, H a = some o → ¬ S a → H' a = some o ∧ ¬ S' a) : SqF K H' S' a vs := by
  rcases h with ⟨o, e, n⟩ | h
  · exact .inl ⟨o, i _ e n⟩
  · exact .inr h
def XdAt (H : Hp) (S : Addr → Prop) (d : Option Addr) (gs : List (Str × V)) : Prop := match d with
  | some d => H d = some (.xd gs) ∧ ¬ S d
  | none => gs = []
theorem XdAt.gen {H H' : Hp} {S S' : Addr → Prop} {d : Option Addr} {gs : List (Str × V)} (x : XdAt H S d gs) (h : ∀ a o, H a = some o → ¬ S a → H' a = some o ∧ ¬ S' a) : XdAt H' S' d gs := by
  cases d with
  | none => exact x
  | some d => exact h d _ x.1 x.2
theorem XdAt.back {H : Hp} {S S' : Addr → Prop} {d : Option Addr} {gs : List (Str × V)} (x : XdAt H S d gs) (h : ∀ a, S' a → S a ∨ H a = none) : XdAt H S' d gs := x.gen fun a o e n => ⟨e, fun z => (h a z).elim n fun q => by
  rw [e] at q; cases q⟩
def XdE (H : Hp) (S : Addr → Prop) (d : Option Addr) (gs : List (Str × V)) : Prop := match d with
  | some d => H d = some (exd d gs) ∧ ¬ S d
  | none => gs = []
theorem XdE.gen {H H' : Hp} {S S' : Addr → Prop} {d : Option Addr} {gs : List (Str × V)} (x : XdE H S d gs) (h : ∀ a o, H a = some o → ¬ S a → H' a = some o ∧ ¬ S' a) : XdE H' S' d gs := by
  cases d with
  | none => exact x
  | some d => exact h d _ x.1 x.2
def PinAt (H : Hp) (S : Addr → Prop) (o : Option (Addr × Str)) : Prop := match o with
  | some p => H p.1 = some (LamX.CodeO p.1 p.2) ∧ ¬ S p.1
  | none => True
theorem PinAt.gen {H H' : Hp} {S S' : Addr → Prop} {o : Option (Addr × Str)} (x : PinAt H S o) (h : ∀ a o, H a = some o → ¬ S a → H' a = some o ∧ ¬ S' a) : PinAt H' S' o := by
  cases o with
  | none => exact x
  | some p => exact h p.1 _ x.1 x.2
mutual
inductive Den (K : Ct) (ρ : List Addr) (S : Addr → Prop) (H : Hp) : V → D → Prop
  | non : Den K ρ S H .non .non
  | bl (b : Bool) : Den K ρ S H (.bl b) (.bl b)
  | int (i : Int) : Den K ρ S H (.int i) (.int i)
  | str (x : Str) : Den K ρ S H (.str x) (.str x)
  | ty (n : String) : Den K ρ S H (.ty n) (.ty n)
  | cls (c : Nat) : Den K ρ S H (.ref (K.Γ c)) (.cls c)
  | tup {a : Addr} {vs : List V} {ds : List D} : SqT K.K H a vs → Dens K ρ S H vs ds → Den K ρ S H (.ref a) (.tup ds)
  | lst {a : Addr} {vs : List V} {ds : List D} : H a = some (.lst vs) → ¬ S a → Dens K ρ S H vs ds → Den K ρ S H (.ref a) (.lst ds)
  | fz {a : Addr} {vs : List V} {ds : List D} : SqF K.K H S a vs → Dens K ρ S H vs ds → Den K ρ S H (.ref a) (.fz ds)
  | ins {a dx : Addr} {c : Nat} {gs : List (Str × V)} {fs : List (Str × D)} : H a = some (.ins (K.Γ c) dx gs) → ¬ S a → DenF K ρ S H gs fs → Den K ρ S H (.ref a) (.ins c fs)
  | hd {a : Addr} {n : Nat} : ρ[n]? = some a → Den K ρ S H (.ref a) (.hd n)
  | dic {a : Addr} {r : List (Key × D)} {kvs : List (Key × V)} : H a = some (.dK kvs) → ¬ S a → imR r = some kvs → Den K ρ S H (.ref a) (.dic r)
  | exv {a : Addr} {dx : Option Addr} {c : Nat} {gs : List (Str × V)} {fs : List (Str × D)} : XdAt H S dx gs → DenF K ρ S H gs fs → Den K ρ S H (.ref a) (.exv c a dx fs)
  | dk {a : Addr} {o : Obj} {r : List (Key × D)} {kvs : List (Key × V)} : H a = some (.frz o (.dK kvs)) → ¬ S a → DenK K ρ S H kvs r → Den K ρ S H (.ref a) (.dk r)
  | exx {a : Addr} {dx : Option Addr} {c : Nat} {gs : List (Str × V)} {fs : List (Str × D)} : H a = some (exo a (K.Γ c) dx) → ¬ S a → XdE H S dx gs → DenF K ρ S H gs fs → Den K ρ S H (.ref a) (.exx c fs)
  | pin {a : Addr} {o : Option (Addr × Str)} {vs : List V} {ds : List D} : PinAt H S o → Dens K ρ S H vs ds → Den K ρ S H (.ref a) (.pin a o vs ds)
inductive Dens (K : Ct) (ρ : List Addr) (S : Addr → Prop) (H : Hp) : List V → List D → Prop
  | nil : Dens K ρ S H [] []
  | cons {v : V} {d : D} {vs : List V} {ds : List D} : Den K ρ S H v d → Dens K ρ S H vs ds → Dens K ρ S H (v :: vs) (d :: ds)
inductive DenF (K : Ct) (ρ : List Addr) (S : Addr → Prop) (H : Hp) : List (Str × V) → List (Str × D) → Prop
  | nil : DenF K ρ S H [] []
  | cons {f : Str} {v : V} {d : D} {vs : List (Str × V)} {ds : List (Str × D)} : Den K ρ S H v d → DenF K ρ S H vs ds → DenF K ρ S H ((f, v) :: vs) ((f, d) :: ds)
inductive DenK (K : Ct) (ρ : List Addr) (S : Addr → Prop) (H : Hp) : List (Key × V) → List (Key × D) → Prop
  | nil : DenK K ρ S H [] []
  | cons {k : Key} {v : V} {d : D} {vs : List (Key × V)} {ds : List (Key × D)} : Den K ρ S H v d → DenK K ρ S H vs ds → DenK K ρ S H ((k, v) :: vs) ((k, d) :: ds)
end
structure Ext (K : Ct) (ρ : List Addr) (H : Hp) (ρ' : List Addr) (H' : Hp) : Prop where
  pre : ∃ l, ρ' = ρ ++ l
  keep : ∀ a o, H a = some o → a ∉ ρ → H' a = some o ∧ a ∉ ρ'
  tups : ∀ a vs, SqT K.K H a vs → SqT K.K H' a vs
section
variable {K : Ct} {ρ ρ' ρ2 : List Addr} {S S' : Addr → Prop} {H H' H2 : Hp}
theorem Ext.refl : Ext K ρ H ρ H := ⟨⟨[], by simp⟩, fun _ _ h n => ⟨h, n⟩, fun _ _ h => h⟩
theorem Ext.trans (a : Ext K ρ H ρ' H') (b : Ext K ρ' H' ρ2 H2) : Ext K ρ H ρ2 H2 := by
  obtain ⟨l, e⟩ := a.pre
  obtain ⟨l2, e2⟩ := b.pre
  refine ⟨⟨l ++ l2, by rw [e2, e, List.append_assoc]⟩, fun x o h n => ?_, fun x vs h => b.tups x vs (a.tups x vs h)⟩
  obtain ⟨h1, n1⟩ := a.keep x o h n
  exact b.keep x o h1 n1
theorem Ext.hd (a : Ext K ρ H ρ' H') {n : Nat} {x : Addr} (h : ρ[n]? = some x) : ρ'[n]? = some x := by
  obtain ⟨l, e⟩ := a.pre
  rw [e, List.getElem?_append_left (List.getElem?_eq_some_iff.mp h).1]
  exact h
mutual
theorem Den.mono (x : Ext K ρ H ρ' H') (hS : ∀ a, S' a → S a ∨ H a = none) (hr : ∀ a, a ∈ ρ → S a) : ∀ {v : V} {d : D}, Den K ρ S H v d → Den K ρ' S' H' v d
  | _, _, .non => .non
  | _, _, .bl b => .bl b
  | _, _, .int i => .int i
  | _, _, .str s => .str s
  | _, _, .ty n => .ty n
  | _, _, .cls a => .cls a
  | _, _, .tup h t => .tup (x.tups _ _ h) (Dens.mono x hS hr t)
  | _, _, .lst h n t => by
    refine .lst (x.keep _ _ h fun z => n (hr _ z)).1 (fun z => ?_) (Dens.mono x hS hr t)
    rcases hS _ z with q | q
    · exact n q
    · rw [q] at h; cases h
  | _, _, .fz h t => by
    refine .fz (h.imp fun o e n => ⟨(x.keep _ _ e fun z => n (hr _ z)).1, fun z => ?_⟩) (Dens.mono x hS hr t)
    rcases hS _ z with q | q
    · exact n q
    · rw [q] at e; cases e
  | _, _, .ins h n t => by
    refine .ins (x.keep _ _ h fun z => n (hr _ z)).1 (fun z => ?_) (DenF.mono x hS hr t)
    rcases hS _ z with q | q
    · exact n q
    · rw [q] at h; cases h
  | _, _, .hd h => .hd (x.hd h)
  | _, _, .exv h t => .exv (h.gen fun a o e n => ⟨(x.keep a o e fun z => n (hr a z)).1, fun z => (hS a z).elim n fun q => by
      rw [e] at q; cases q⟩) (DenF.mono x hS hr t)
  | _, _, .dic h n t => by
    refine .dic (x.keep _ _ h fun z => n (hr _ z)).1 (fun z => ?_) t
    rcases hS _ z with q | q
    · exact n q
    · rw [q] at h; cases h
  | _, _, .dk h n t => by
    refine .dk (x.keep _ _ h fun z => n (hr _ z)).1 (fun z => ?_) (DenK.mono x hS hr t)
    rcases hS _ z with q | q
    · exact n q
    · rw [q] at h; cases h
  | _, _, .exx h n y t => .exx (x.keep _ _ h fun z => n (hr _ z)).1 (fun z => (hS _ z).elim n fun q => by
      rw [q] at h; cases h) (y.gen fun a o e n => ⟨(x.keep a o e fun z => n (hr a z)).1, fun z => (hS a z).elim n fun q => by
      rw [e] at q; cases q⟩) (DenF.mono x hS hr t)
  | _, _, .pin y t => .pin (y.gen fun a o e n => ⟨(x.keep a o e fun z => n (hr a z)).1, fun z => (hS a z).elim n fun q => by
      rw [e] at q; cases q⟩) (Dens.mono x hS hr t)
theorem Dens.mono (x : Ext K ρ H ρ' H') (hS : ∀ a, S' a → S a ∨ H a = none) (hr : ∀ a, a ∈ ρ → S a) : ∀ {vs : List V} {ds : List D}, Dens K ρ S H vs ds → Dens K ρ' S' H' vs ds
  | _, _, .nil => .nil
  | _, _, .cons h t => .cons (Den.mono x hS hr h) (Dens.mono x hS hr t)
theorem DenF.mono (x : Ext K ρ H ρ' H') (hS : ∀ a, S' a → S a ∨ H a = none) (hr : ∀ a, a ∈ ρ → S a) : ∀ {vs : List (Str × V)} {ds : List (Str × D)}, DenF K ρ S H vs ds → DenF K ρ' S' H' vs ds
  | _, _, .nil => .nil
  | _, _, .cons h t => .cons (Den.mono x hS hr h) (DenF.mono x hS hr t)
theorem DenK.mono (x : Ext K ρ H ρ' H') (hS : ∀ a, S' a → S a ∨ H a = none) (hr : ∀ a, a ∈ ρ → S a) : ∀ {vs : List (Key × V)} {ds : List (Key × D)}, DenK K ρ S H vs ds → DenK K ρ' S' H' vs ds
  | _, _, .nil => .nil
  | _, _, .cons h t => .cons (Den.mono x hS hr h) (DenK.mono x hS hr t)
end
theorem Dens.length : ∀ {vs : List V} {ds : List D}, Dens K ρ S H vs ds → vs.length = ds.length
  | _, _, .nil => rfl
  | _, _, .cons _ t => by rw [List.length_cons, List.length_cons, Dens.length t]
theorem Dens.get : ∀ {vs : List V} {ds : List D} {i : Nat} {d : D}, Dens K ρ S H vs ds → ds[i]? = some d → ∃ v, vs[i]? = some v ∧ Den K ρ S H v d
  | _, _, _, _, .nil, e => by simp at e
  | _, _, 0, _, .cons h _, e => by simp at e; subst e; exact ⟨_, rfl, h⟩
  | _, _, i + 1, d, .cons _ t, e => by
    obtain ⟨v, h1, h2⟩ := Dens.get (i := i) (d := d) t (by simpa using e)
    exact ⟨v, by simpa using h1, h2⟩
theorem Dens.getV : ∀ {vs : List V} {ds : List D} {i : Nat} {v : V}, Dens K ρ S H vs ds → vs[i]? = some v → ∃ d, ds[i]? = some d ∧ Den K ρ S H v d
  | _, _, _, _, .nil, e => by simp at e
  | _, _, 0, _, .cons h _, e => by simp at e; subst e; exact ⟨_, rfl, h⟩
  | _, _, i + 1, d, .cons _ t, e => by
    obtain ⟨v, h1, h2⟩ := Dens.getV (i := i) (v := d) t (by simpa using e)
    exact ⟨v, by simpa using h1, h2⟩
theorem Dens.append : ∀ {vs ws : List V} {ds es : List D}, Dens K ρ S H vs ds → Dens K ρ S H ws es → Dens K ρ S H (vs ++ ws) (ds ++ es)
  | _, _, _, _, .nil, t => t
  | _, _, _, _, .cons h r, t => .cons h (Dens.append r t)
theorem Dens.take : ∀ {vs : List V} {ds : List D} (n : Nat), Dens K ρ S H vs ds → Dens K ρ S H (vs.take n) (ds.take n)
  | _, _, 0, _ => .nil
  | _, _, _ + 1, .nil => .nil
  | _, _, n + 1, .cons h t => .cons h (Dens.take n t)
theorem Dens.drop : ∀ {vs : List V} {ds : List D} (n : Nat), Dens K ρ S H vs ds → Dens K ρ S H (vs.drop n) (ds.drop n)
  | _, _, 0, t => t
  | _, _, _ + 1, .nil => .nil
  | _, _, n + 1, .cons _ t => Dens.drop n t
theorem Dens.set : ∀ {vs : List V} {ds : List D} {v : V} {d : D} (n : Nat), Dens K ρ S H vs ds → Den K ρ S H v d → Dens K ρ S H (vs.set n v) (ds.set n d)
  | _, _, _, _, _, .nil, _ => .nil
  | _, _, _, _, 0, .cons _ t, h => .cons h t
  | _, _, _, _, n + 1, .cons q t, h => .cons q (Dens.set n t h)
theorem Dens.reverse {vs : List V} {ds : List D} (h : Dens K ρ S H vs ds) : Dens K ρ S H vs.reverse ds.reverse := by
  have go : ∀ {vs : List V} {ds : List D}, Dens K ρ S H vs ds → Dens K ρ S H vs.reverse ds.reverse := by
    intro vs
    induction vs with
    | nil => intro ds h; cases h; exact .nil
    | cons v vs ih =>
      intro ds h
      cases h with
      | cons a b =>
        rw [List.reverse_cons, List.reverse_cons]
        exact Dens.append (ih b) (.cons a .nil)
  exact go h
theorem DenF.lookup : ∀ {gs : List (Str × V)} {fs : List (Str × D)} {f : Str} {d : D}, DenF K ρ S H gs fs → fs.lookup f = some d → ∃ v, gs.lookup f = some v ∧ Den K ρ S H v d
  | _, _, f, d, .nil, e => by simp at e
  | _, _, f, d, .cons (f := g) (v := v) (d := c) h t, e => by
    by_cases q : (f == g) = true
    · rw [List.lookup_cons, q] at e
      cases e
      exact ⟨v, by rw [List.lookup_cons, q], h⟩
    · have q' : (f == g) = false := by simpa using q
      rw [List.lookup_cons, q'] at e
      obtain ⟨v, h1, h2⟩ := DenF.lookup t e
      exact ⟨v, by rw [List.lookup_cons, q']; exact h1, h2⟩
end
structure Wd where
  ρ : List Addr
  R : Addr → Prop
  O : List (Option Addr)
def Wd.S (w : Wd) : Addr → Prop := fun a => a ∈ w.ρ ∨ w.R a ∨ some a ∈ w.O
def TabC (K : Ct) (S : Addr → Prop) (H : Hp) (a : Addr) (i : Nat) (q : Str) : Prop := a = K.Γ i ∧ ∃ ps : Array Value, H a = some (.tbl ps) ∧ TriplesOk ps.toList ∧ ∀ (pos : Pos) (cv : Value), codeAmong pos ps.toList = some cv → ∃ c, cv = .ref c ∧ H c = some (LamX.CodeO c q) ∧ ¬ S c
theorem TabC.gen {K : Ct} {S S' : Addr → Prop} {H H' : Hp} {a : Addr} {i : Nat} {q : Str} (h : TabC K S H a i q) (e : H' a = H a) (k : ∀ b o, H b = some o → ¬ S b → H' b = some o ∧ ¬ S' b) : TabC K S' H' a i q := by
  obtain ⟨h0, ps, h1, h2, h3⟩ := h
  refine ⟨h0, ps, e.trans h1, h2, fun pos cv hc => ?_⟩
  obtain ⟨c, c1, c2, c3⟩ := h3 pos cv hc
  obtain ⟨k1, k2⟩ := k c _ c2 c3
  exact ⟨c, c1, k1, k2⟩
theorem TabC.mono {K : Ct} {ρ ρ' : List Addr} {S S' : Addr → Prop} {H H' : Hp} {a : Addr} {i : Nat} {q : Str} (h : TabC K S H a i q) (e : H' a = H a) (x : Ext K ρ H ρ' H') (hS : ∀ a, S' a → S a ∨ H a = none) (hr : ∀ a, a ∈ ρ → S a) : TabC K S' H' a i q :=
  h.gen e fun b o e n => ⟨(x.keep b o e fun z => n (hr b z)).1, fun z => (hS b z).elim n fun z => by rw [e] at z; cases z⟩
def CellOk (K : Ct) (ρ : List Addr) (S : Addr → Prop) (H : Hp) (a : Addr) : Cell → Prop
  | .lst ds => ∃ vs, H a = some (.lst vs) ∧ Dens K ρ S H vs ds
  | .obj c fs => ∃ dx gs, H a = some (.ins (K.Γ c) dx gs) ∧ DenF K ρ S H gs fs
  | .tab i q => TabC K S H a i q
  | .dct r => ∃ kvs, H a = some (.dK kvs) ∧ DenK K ρ S H kvs r
structure StOk (K : Ct) (ρ : List Addr) (S : Addr → Prop) (H : Hp) (st : Sto) : Prop where
  len : ρ.length = st.length
  nd : ρ.Nodup
  cell : ∀ (n : Nat) a c, ρ[n]? = some a → st[n]? = some c → CellOk K ρ S H a c
theorem CellOk.some {K : Ct} {ρ : List Addr} {S : Addr → Prop} {H : Hp} {a : Addr} {c : Cell} (h : CellOk K ρ S H a c) : ∃ o, H a = some o ∧ ∀ u, o ≠ .tup u := by
  cases c with
  | lst ds => obtain ⟨vs, e, _⟩ := h; exact ⟨_, e, fun u z => by cases z⟩
  | obj C fs => obtain ⟨dx, gs, e, _⟩ := h; exact ⟨_, e, fun u z => by cases z⟩
  | tab i q => obtain ⟨_, ps, e, _⟩ := h; exact ⟨_, e, fun u z => by cases z⟩
  | dct r => obtain ⟨kvs, e, _⟩ := h; exact ⟨_, e, fun u z => by cases z⟩
theorem StOk.there {K : Ct} {ρ : List Addr} {S : Addr → Prop} {H : Hp} {st : Sto} (s : StOk K ρ S H st) {a : Addr} (h : a ∈ ρ) : ∃ o, H a = some o := by
  obtain ⟨n, hn, e⟩ := List.mem_iff_getElem.mp h
  have hc : n < st.length := by rw [← s.len]; exact hn
  obtain ⟨o, z, _⟩ := (s.cell n a st[n] (by rw [List.getElem?_eq_getElem hn, e]) (by rw [List.getElem?_eq_getElem hc])).some
  exact ⟨o, z⟩
def SlotOk (K : Ct) (w : Wd) (H : Hp) : Option V → Sl → Option Addr → Prop
  | v, .sh d, o => o = none ∧ ∃ x, v = some x ∧ Den K w.ρ w.S H x d
  | v, .own ds, o => ∃ a vs, o = some a ∧ v = some (V.ref a) ∧ H a = some (.lst vs) ∧ Dens K w.ρ w.S H vs ds
  | _, .un, o => o = none
structure Rel (K : Ct) (w : Wd) (env : AEnv) (st : Sto) (σ : AM.St) (H : Hp) : Prop where
  sto : StOk K w.ρ w.S H st
  res : ∀ a, w.R a → (∃ o, H a = some o) ∧ a ∉ w.ρ
  len : σ.length = env.length
  lenO : w.O.length = env.length
  slot : ∀ (i : Nat) v s o, σ[i]? = some v → env[i]? = some s → w.O[i]? = some o → SlotOk K w H v s o
  ndO : ∀ (i j : Nat) a, w.O[i]? = some (some a) → w.O[j]? = some (some a) → i = j
  disO : ∀ a, some a ∈ w.O → a ∉ w.ρ ∧ ¬ w.R a
section
variable {K : Ct} {w w' w2 : Wd} {env env' : AEnv} {st st' : Sto} {σ σ' : AM.St} {H H' H2 : Hp}
theorem Rel.own (r : Rel K w env st σ H) {i : Nat} {a : Addr} (h : w.O[i]? = some (some a)) : ∃ ds vs, env[i]? = some (.own ds) ∧ σ[i]? = some (some (V.ref a)) ∧ H a = some (.lst vs) ∧ Dens K w.ρ w.S H vs ds := by
  have hi := (List.getElem?_eq_some_iff.mp h).1
  have h1 : i < env.length := by rw [← r.lenO]; exact hi
  have h2 : i < σ.length := by rw [r.len]; exact h1
  have q := r.slot i σ[i] env[i] (some a) (List.getElem?_eq_getElem h2) (List.getElem?_eq_getElem h1) h
  cases e : env[i] with
  | un => rw [e] at q; cases (show some a = none from q)
  | sh d => rw [e] at q; cases q.1
  | own ds =>
    rw [e] at q
    obtain ⟨b, vs, e1, e2, e3, e4⟩ := q
    cases e1
    exact ⟨ds, vs, by rw [List.getElem?_eq_getElem h1, e], by rw [List.getElem?_eq_getElem h2, e2], e3, e4⟩
theorem Rel.thereS (r : Rel K w env st σ H) {a : Addr} (h : w.S a) : ∃ o, H a = some o := by
  rcases h with h | h | h
  · exact r.sto.there h
  · exact (r.res a h).1
  · obtain ⟨i, hi, e⟩ := List.mem_iff_getElem.mp h
    obtain ⟨_, vs, _, _, z, _⟩ := r.own (i := i) (a := a) (by rw [List.getElem?_eq_getElem hi, e])
    exact ⟨_, z⟩
theorem Rel.fresh (r : Rel K w env st σ H) {a : Addr} (h : H a = none) : ¬ w.S a := fun z => by
  obtain ⟨o, e⟩ := r.thereS z
  rw [h] at e; cases e
theorem Rel.sh (r : Rel K w env st σ H) {i : Nat} {d : D} (h : env[i]? = some (.sh d)) : ∃ v, σ[i]? = some (some v) ∧ Den K w.ρ w.S H v d := by
  have h1 := (List.getElem?_eq_some_iff.mp h).1
  have h2 : i < σ.length := by rw [r.len]; exact h1
  have h3 : i < w.O.length := by rw [r.lenO]; exact h1
  obtain ⟨_, x, e, q⟩ := r.slot i σ[i] _ w.O[i] (List.getElem?_eq_getElem h2) h (List.getElem?_eq_getElem h3)
  exact ⟨x, by rw [List.getElem?_eq_getElem h2, e], q⟩
theorem Rel.ownE (r : Rel K w env st σ H) {i : Nat} {ds : List D} (h : env[i]? = some (.own ds)) : ∃ a vs, w.O[i]? = some (some a) ∧ σ[i]? = some (some (V.ref a)) ∧ H a = some (.lst vs) ∧ Dens K w.ρ w.S H vs ds := by
  have h1 := (List.getElem?_eq_some_iff.mp h).1
  have h2 : i < σ.length := by rw [r.len]; exact h1
  have h3 : i < w.O.length := by rw [r.lenO]; exact h1
  obtain ⟨a, vs, e1, e2, e3, e4⟩ := r.slot i σ[i] _ w.O[i] (List.getElem?_eq_getElem h2) h (List.getElem?_eq_getElem h3)
  exact ⟨a, vs, by rw [List.getElem?_eq_getElem h3, e1], by rw [List.getElem?_eq_getElem h2, e2], e3, e4⟩
theorem inS_ρ {a : Addr} (h : a ∈ w.ρ) : w.S a := .inl h
theorem S_ext (r : Rel K w env st σ H) {ρ' : List Addr} (x : Ext K w.ρ H ρ' H') : ∀ a, (⟨ρ', w.R, w.O⟩ : Wd).S a → w.S a ∨ H a = none := fun a h => by
  cases q : H a with
  | none => exact .inr rfl
  | some o =>
    refine .inl ?_
    by_cases hr : a ∈ w.ρ
    · exact .inl hr
    · rcases h with h | h | h
      · exact absurd h (x.keep a o q hr).2
      · exact .inr (.inl h)
      · exact .inr (.inr h)
theorem Rel.ext (r : Rel K w env st σ H) {ρ' : List Addr} (x : Ext K w.ρ H ρ' H') (s : StOk K ρ' (⟨ρ', w.R, w.O⟩ : Wd).S H' st') : Rel K ⟨ρ', w.R, w.O⟩ env st' σ H' where
  sto := s
  res := fun a h => by
    obtain ⟨⟨o, e⟩, n⟩ := r.res a h
    obtain ⟨e', n'⟩ := x.keep a o e n
    exact ⟨⟨o, e'⟩, n'⟩
  len := r.len
  lenO := r.lenO
  slot := fun i v sl o h1 h2 h3 => by
    have q := r.slot i v sl o h1 h2 h3
    have m : ∀ {v d}, Den K w.ρ w.S H v d → Den K ρ' (⟨ρ', w.R, w.O⟩ : Wd).S H' v d := fun h => h.mono x (S_ext r x) fun _ => inS_ρ
    have ms : ∀ {v d}, Dens K w.ρ w.S H v d → Dens K ρ' (⟨ρ', w.R, w.O⟩ : Wd).S H' v d := fun h => h.mono x (S_ext r x) fun _ => inS_ρ
    cases sl with
    | un => exact q
    | sh d => obtain ⟨e, z, ez, hz⟩ := q; exact ⟨e, z, ez, m hz⟩
    | own ds =>
      obtain ⟨a, vs, e1, e2, e3, e4⟩ := q
      have hm : some a ∈ w.O := by rw [e1] at h3; exact List.mem_of_getElem? h3
      exact ⟨a, vs, e1, e2, (x.keep a _ e3 (r.disO a hm).1).1, ms e4⟩
  ndO := r.ndO
  disO := fun a h => by
    obtain ⟨n1, n2⟩ := r.disO a h
    obtain ⟨i, hi, e⟩ := List.mem_iff_getElem.mp h
    obtain ⟨_, vs, _, _, z, _⟩ := r.own (i := i) (a := a) (by rw [List.getElem?_eq_getElem hi, e])
    exact ⟨(x.keep a _ z n1).2, n2⟩
end
end AM
namespace AM
open PySem PySem.Spec PyProof.Rows L2
def Res.bind {α β : Type} (r : Res α) (k : α → Sto → Res β) : Res β := match r with
  | .ok a st => k a st
  | .exc e st => .exc e st
  | .bad => .bad
abbrev DnT (β α : Type) := Ct → List Addr → (Addr → Prop) → Hp → β → α → Prop
abbrev Wd.at_ (w : Wd) (ρ : List Addr) : Wd := ⟨ρ, w.R, w.O⟩
def dnB : DnT Bool Bool := fun _ _ _ _ b c => b = c
def Post {α β : Type} (Dn : DnT β α) (K : Ct) (W : WX) (w : Wd) (H : Hp) (σ : St) (r : Res α) (Q : β → Hp → Prop) : Prop := match r with
  | .ok a st' => ∀ ρ' H' x, StOk K ρ' (w.at_ ρ').S H' st' → Ext K w.ρ H ρ' H' → Dn K ρ' (w.at_ ρ').S H' x a → Q x H'
  | .exc e st' => ∀ ρ' H' d gs, StOk K ρ' (w.at_ ρ').S H' st' → Ext K w.ρ H ρ' H' → XdAt H' (w.at_ ρ').S d gs → DenF K ρ' (w.at_ ρ').S H' gs e.fs → W (.ref (K.Γ e.c)) d σ H'
  | .bad => False
def tG {α β : Type} (Dn : DnT β α) (K : Ct) (W : WX) (f : AEnv → Sto → Res α) : St → Hp → (β → Hp → Prop) → Prop := fun σ H Q =>
  ∃ w env st, Rel K w env st σ H ∧ Post Dn K W w H σ (f env st) Q
abbrev tD (K : Ct) (W : WX) (f : EF) : TE := tG (α := D) (β := V) Den K W f
abbrev tDs (K : Ct) (W : WX) (f : EFs) : TA := tG (α := List D) (β := List V) Dens K W f
abbrev tT (K : Ct) (W : WX) (f : TF) : TT := tG (α := Bool) (β := Bool) dnB K W f
section
variable {α β γ δ : Type} {Da : DnT β α} {Dg : DnT δ γ} {K : Ct} {W : WX} {w : Wd} {env : AEnv} {st : Sto} {σ : St} {H H' : Hp} {Q : δ → Hp → Prop}
theorem Post.mono {r : Res α} {Q Q' : β → Hp → Prop} (h : Post Da K W w H σ r Q) (i : ∀ x H, Q x H → Q' x H) : Post Da K W w H σ r Q' := by
  cases r with
  | ok a st => exact fun ρ' H' x h1 h2 h3 => i _ _ (h ρ' H' x h1 h2 h3)
  | exc e st => exact h
  | bad => exact h
theorem Post.back {r : Res γ} {ρ1 : List Addr} {H1 : Hp} (x : Ext K w.ρ H ρ1 H1) (h : Post Dg K W w H σ r Q) : Post Dg K W (w.at_ ρ1) H1 σ r Q := by
  cases r with
  | ok a st => exact fun ρ' H' y h1 h2 h3 => h ρ' H' y h1 (x.trans h2) h3
  | exc e st => exact fun ρ' H' d gs h1 h2 h3 h4 => h ρ' H' d gs h1 (x.trans h2) h3 h4
  | bad => exact h
theorem Post.bind {f : Res α} {g : α → Sto → Res γ} (r : Rel K w env st σ H) (h : Post Dg K W w H σ (f.bind g) Q) :
    Post Da K W w H σ f fun x H1 => ∃ w1 st1 a, Rel K w1 env st1 σ H1 ∧ (∃ ρ1, w1 = w.at_ ρ1) ∧ Ext K w.ρ H w1.ρ H1 ∧ Da K w1.ρ w1.S H1 x a ∧ Post Dg K W w1 H1 σ (g a st1) Q := by
  cases f with
  | ok a st1 =>
    intro ρ' H' x h1 h2 h3
    exact ⟨w.at_ ρ', st1, a, r.ext h2 h1, ⟨ρ', rfl⟩, h2, h3, Post.back h2 h⟩
  | exc e st1 => exact h
  | bad => exact h
theorem t1 {f : AEnv → Sto → Res α} {g : AEnv → α → Sto → Res γ} (h : tG Dg K W (fun env st => (f env st).bind (g env)) σ H Q) :
    tG Da K W f σ H fun x H1 => ∃ w env st a, Rel K w env st σ H1 ∧ Da K w.ρ w.S H1 x a ∧ Post Dg K W w H1 σ (g env a st) Q := by
  obtain ⟨w, env, st, r, p⟩ := h
  refine ⟨w, env, st, r, (Post.bind (Da := Da) r p).mono ?_⟩
  rintro x H1 ⟨w1, st1, a, r1, _, _, d, p1⟩
  exact ⟨w1, env, st1, a, r1, d, p1⟩
def Lasts {α β : Type} (Da : DnT β α) : Prop := ∀ {K : Ct} {w w' : Wd} {env : AEnv} {st : Sto} {σ : St} {H H' : Hp} {x : β} {a : α}, Rel K w env st σ H → (∃ ρ', w' = w.at_ ρ') → Ext K w.ρ H w'.ρ H' → Da K w.ρ w.S H x a → Da K w'.ρ w'.S H' x a
theorem lastsD : Lasts (α := D) (β := V) Den := fun r e x h => by
  obtain ⟨ρ', rfl⟩ := e
  exact h.mono x (S_ext r x) fun _ => inS_ρ
theorem lastsDs : Lasts (α := List D) (β := List V) Dens := fun r e x h => by
  obtain ⟨ρ', rfl⟩ := e
  exact h.mono x (S_ext r x) fun _ => inS_ρ
theorem t2 {α2 β2 : Type} {Db : DnT β2 α2} (la : Lasts Da) {f : AEnv → Sto → Res α} {g : AEnv → α → Sto → Res α2} {k : AEnv → α → α2 → Sto → Res γ}
    (h : tG Dg K W (fun env st => (f env st).bind fun a st1 => (g env a st1).bind fun b st2 => k env a b st2) σ H Q) :
    tG Da K W f σ H fun x H1 => ∃ w env st a, Rel K w env st σ H1 ∧ Da K w.ρ w.S H1 x a ∧ Post Db K W w H1 σ (g env a st) fun y H2 =>
      ∃ w st2 b, Rel K w env st2 σ H2 ∧ Da K w.ρ w.S H2 x a ∧ Db K w.ρ w.S H2 y b ∧ Post Dg K W w H2 σ (k env a b st2) Q := by
  obtain ⟨w, env, st, r, p⟩ := h
  refine ⟨w, env, st, r, (Post.bind (Da := Da) r p).mono ?_⟩
  rintro x H1 ⟨w1, st1, a, r1, _, _, d, p1⟩
  refine ⟨w1, env, st1, a, r1, d, (Post.bind (Da := Db) r1 p1).mono ?_⟩
  rintro y H2 ⟨w2, st2, b, r2, e2, x2, d2, p2⟩
  exact ⟨w2, st2, b, r2, la r1 e2 x2 d, d2, p2⟩
end
theorem peImp {X : Cx} {e : Expr} {t t' : TE} (h : PE X e t) (i : ∀ σ H Q, t' σ H Q → t σ H Q) : PE X e t' := ⟨fun pins s σ H Q I hw => h.run pins s σ H Q I (i σ H Q hw)⟩
theorem ptImp {X : Cx} {e : Expr} {t t' : TT} (h : PT X e t) (i : ∀ σ H Q, t' σ H Q → t σ H Q) : PT X e t' := ⟨fun pins s σ H Q I hw => h.run pins s σ H Q I (i σ H Q hw)⟩
theorem pwImp {X : Cx} {e : Expr} {t t' : TT} (h : PW X e t) (i : ∀ σ H Q, t' σ H Q → t σ H Q) : PW X e t' := ⟨fun wh pins s σ H Q I hw => h.run wh pins s σ H Q I (i σ H Q hw)⟩
theorem paImp {X : Cx} {e : List Expr} {t t' : TA} (h : PA X e t) (i : ∀ σ H Q, t' σ H Q → t σ H Q) : PA X e t' := ⟨fun pos pins s σ H Q I hw => h.run pos pins s σ H Q I (i σ H Q hw)⟩
theorem psImp {X : Cx} {e : Stmt} {t t' : TS} (h : PS X e t) (i : ∀ D σ H, t' D σ H → t D σ H) : PS X e t' := ⟨fun pins s σ H D I hw => h.run pins s σ H D I (i D σ H hw)⟩
theorem pssImp {X : Cx} {e : List Stmt} {t t' : TS} (h : PSs X e t) (i : ∀ D σ H, t' D σ H → t D σ H) : PSs X e t' := ⟨fun pins s σ H D I hw => h.run pins s σ H D I (i D σ H hw)⟩
section
variable {K : Ct} {W : WX} {w : Wd} {env : AEnv} {st : Sto} {σ : St} {H : Hp} {Q : VK} {p : Addr} {o : HO}
theorem SqT.upd {a : Addr} {vs : List V} (hp : H p = none) (h : SqT K.K H a vs) : SqT K.K (upd H p o) a vs := by
  rcases h with (h | ⟨u, h⟩) | h
  · exact .inl (.inl (by rw [upd_ne (ne_of_none h hp)]; exact h))
  · exact .inl (.inr ⟨u, by rw [upd_ne (ne_of_none h hp)]; exact h⟩)
  · exact .inr h
theorem Ext.new {ρ : List Addr} (hp : H p = none) : Ext K ρ H ρ (upd H p o) :=
  ⟨⟨[], by simp⟩, fun a u h n => ⟨by rw [upd_ne (ne_of_none h hp)]; exact h, n⟩, fun a vs h => SqT.upd hp h⟩
theorem StOk.ext {ρ : List Addr} {S S' : Addr → Prop} {H' : Hp} (s : StOk K ρ S H st) (x : Ext K ρ H ρ H') (hS : ∀ a, S' a → S a ∨ H a = none) (hr : ∀ a, a ∈ ρ → S a) (hc : ∀ a, a ∈ ρ → H' a = H a) : StOk K ρ S' H' st where
  len := s.len
  nd := s.nd
  cell := fun n a c h1 h2 => by
    have q := s.cell n a c h1 h2
    have e := hc a (List.mem_of_getElem? h1)
    cases c with
    | lst ds => obtain ⟨vs, z, t⟩ := q; exact ⟨vs, by rw [e]; exact z, t.mono x hS hr⟩
    | obj C fs => obtain ⟨dx, gs, z, t⟩ := q; exact ⟨dx, gs, by rw [e]; exact z, t.mono x hS hr⟩
    | dct r => obtain ⟨kvs, z, t⟩ := q; exact ⟨kvs, by rw [e]; exact z, t.mono x hS hr⟩
    | tab i q' => exact TabC.mono q e x hS hr
theorem Rel.newSto (r : Rel K w env st σ H) (hp : H p = none) : StOk K w.ρ (w.at_ w.ρ).S (upd H p o) st :=
  r.sto.ext (Ext.new hp) (fun a h => .inl h) (fun a h => .inl h) fun a h => by
    obtain ⟨u, e⟩ := r.sto.there h
    exact upd_ne (ne_of_none e hp)
theorem Rel.new (r : Rel K w env st σ H) (hp : H p = none) : Rel K w env st σ (upd H p o) := r.ext (Ext.new hp) (r.newSto hp)
theorem Post.ok {α β : Type} {Da : DnT β α} {Q : β → Hp → Prop} {a : α} {x : β} (r : Rel K w env st σ H) (h : Post Da K W w H σ (.ok a st) Q) (d : Da K w.ρ w.S H x a) : Q x H := h w.ρ H x r.sto Ext.refl d
theorem Post.okNew {a : D} (r : Rel K w env st σ H) (h : Post Den K W w H σ (.ok a st) Q) (hp : H p = none) (d : Den K w.ρ w.S (upd H p o) (.ref p) a) : Q (.ref p) (upd H p o) :=
  h w.ρ (upd H p o) (.ref p) (r.newSto hp) (Ext.new hp) d
theorem Dens.new {vs : List V} {ds : List D} (r : Rel K w env st σ H) (hp : H p = none) (h : Dens K w.ρ w.S H vs ds) : Dens K w.ρ w.S (upd H p o) vs ds := h.mono (Ext.new hp) (fun a h => .inl h) fun a h => .inl h
theorem Den.new {v : V} {d : D} (r : Rel K w env st σ H) (hp : H p = none) (h : Den K w.ρ w.S H v d) : Den K w.ρ w.S (upd H p o) v d := h.mono (Ext.new hp) (fun a h => .inl h) fun a h => .inl h
theorem Post.newTup {vs : List V} {ds : List D} (r : Rel K w env st σ H) (h : Post Den K W w H σ (.ok (.tup ds) st) Q) (d : Dens K w.ρ w.S H vs ds) (hp : H p = none) : Q (.ref p) (upd H p (.tup vs)) :=
  h.okNew r hp (.tup (.inl (.inl upd_same)) (d.new r hp))
theorem Post.newLst {vs : List V} {ds : List D} (r : Rel K w env st σ H) (h : Post Den K W w H σ (.ok (.lst ds) st) Q) (d : Dens K w.ρ w.S H vs ds) (hp : H p = none) : Q (.ref p) (upd H p (.lst vs)) :=
  h.okNew r hp (.lst upd_same (r.fresh hp) (d.new r hp))
end
end AM
namespace AM
open PySem PySem.Spec PyProof.Rows L2
def DenB : DnT V D := fun K ρ S H v d => match d with
  | .lst ds => ∃ a vs, v = .ref a ∧ H a = some (.lst vs) ∧ a ∉ ρ ∧ Dens K ρ S H vs ds
  | d => Den K ρ S H v d
section
variable {K : Ct} {W : WX} {w : Wd} {env : AEnv} {st : Sto} {σ : St} {H : Hp} {v : V} {d : D}
theorem Den.b (h : Den K w.ρ w.S H v d) : DenB K w.ρ w.S H v d := by
  cases h with
  | lst a b c => exact ⟨_, _, rfl, a, fun z => b (inS_ρ z), c⟩
  | non => exact .non
  | bl b => exact .bl b
  | int i => exact .int i
  | str s => exact .str s
  | ty n => exact .ty n
  | cls a => exact .cls a
  | tup a b => exact .tup a b
  | fz a c => exact .fz a c
  | ins a b c => exact .ins a b c
  | hd a => exact .hd a
  | dic a b c => exact .dic a b c
  | dk a b c => exact .dk a b c
  | exv a b => exact .exv a b
  | exx a b c d => exact .exx a b c d
  | pin a b => exact .pin a b
theorem DenB.tup {ds : List D} (h : DenB K w.ρ w.S H v (.tup ds)) : ∃ a vs, v = .ref a ∧ SqT K.K H a vs ∧ Dens K w.ρ w.S H vs ds := by
  have q : Den K w.ρ w.S H v (.tup ds) := h
  cases q with
  | tup a b => exact ⟨_, _, rfl, a, b⟩
theorem DenB.lst {ds : List D} (h : DenB K w.ρ w.S H v (.lst ds)) : ∃ a vs, v = .ref a ∧ H a = some (.lst vs) ∧ a ∉ w.ρ ∧ Dens K w.ρ w.S H vs ds := h
theorem DenB.fz {ds : List D} (h : DenB K w.ρ w.S H v (.fz ds)) : ∃ a vs, v = .ref a ∧ SqF K.K H w.S a vs ∧ Dens K w.ρ w.S H vs ds := by
  have q : Den K w.ρ w.S H v (.fz ds) := h
  cases q with
  | fz a c => exact ⟨_, _, rfl, a, c⟩
theorem DenB.str {s : Str} (h : DenB K w.ρ w.S H v (.str s)) : v = .str s := by
  have q : Den K w.ρ w.S H v (.str s) := h
  cases q with
  | str => rfl
theorem DenB.int {i : Int} (h : DenB K w.ρ w.S H v (.int i)) : v = .int i := by
  have q : Den K w.ρ w.S H v (.int i) := h
  cases q with
  | int => rfl
theorem DenB.bl {i : Bool} (h : DenB K w.ρ w.S H v (.bl i)) : v = .bl i := by
  have q : Den K w.ρ w.S H v (.bl i) := h
  cases q with
  | bl => rfl
theorem DenB.non (h : DenB K w.ρ w.S H v .non) : v = .non := by
  have q : Den K w.ρ w.S H v .non := h
  cases q with
  | non => rfl
theorem DenB.ty {n : String} (h : DenB K w.ρ w.S H v (.ty n)) : v = .ty n := by
  have q : Den K w.ρ w.S H v (.ty n) := h
  cases q with
  | ty => rfl
theorem DenB.cls {c : Nat} (h : DenB K w.ρ w.S H v (.cls c)) : v = .ref (K.Γ c) := by
  have q : Den K w.ρ w.S H v (.cls c) := h
  cases q with
  | cls => rfl
theorem DenB.hd {n : Nat} (h : DenB K w.ρ w.S H v (.hd n)) : ∃ a, v = .ref a ∧ w.ρ[n]? = some a := by
  have q : Den K w.ρ w.S H v (.hd n) := h
  cases q with
  | hd e => exact ⟨_, rfl, e⟩
theorem DenB.ins {c : Nat} {fs : List (Str × D)} (h : DenB K w.ρ w.S H v (.ins c fs)) : ∃ a dx gs, v = .ref a ∧ H a = some (.ins (K.Γ c) dx gs) ∧ ¬ w.S a ∧ DenF K w.ρ w.S H gs fs := by
  have q : Den K w.ρ w.S H v (.ins c fs) := h
  cases q with
  | ins a b c => exact ⟨_, _, _, rfl, a, b, c⟩
theorem DenB.dic {rr : List (Key × D)} (h : DenB K w.ρ w.S H v (.dic rr)) : ∃ a kvs, v = .ref a ∧ H a = some (.dK kvs) ∧ ¬ w.S a ∧ imR rr = some kvs := by
  have q : Den K w.ρ w.S H v (.dic rr) := h
  cases q with
  | dic a b c => exact ⟨_, _, rfl, a, b, c⟩
theorem DenB.dk {rr : List (Key × D)} (h : DenB K w.ρ w.S H v (.dk rr)) : ∃ a kvs, v = .ref a ∧ (∃ o, H a = some (.frz o (.dK kvs))) ∧ ¬ w.S a ∧ DenK K w.ρ w.S H kvs rr := by
  have q : Den K w.ρ w.S H v (.dk rr) := h
  cases q with
  | dk a b c => exact ⟨_, _, rfl, ⟨_, a⟩, b, c⟩
theorem Rel.cellL (r : Rel K w env st σ H) {n : Nat} {a : Addr} {ds : List D} (h : w.ρ[n]? = some a) (e : st[n]? = some (.lst ds)) : ∃ vs, H a = some (.lst vs) ∧ Dens K w.ρ w.S H vs ds := r.sto.cell n a _ h e
end
theorem lastsDB : Lasts (α := D) (β := V) DenB := by
  intro K w w' env st σ H H' x a r e z h
  obtain ⟨ρ', rfl⟩ := e
  have m : ∀ {v d}, Den K w.ρ w.S H v d → Den K ρ' (w.at_ ρ').S H' v d := fun h => h.mono z (S_ext r z) fun _ => inS_ρ
  cases a with
  | lst ds =>
    obtain ⟨b, vs, e1, e2, n, t⟩ := h
    exact ⟨b, vs, e1, (z.keep _ _ e2 n).1, (z.keep _ _ e2 n).2, t.mono z (S_ext r z) fun _ => inS_ρ⟩
  | _ => exact m h
abbrev tDB (K : Ct) (W : WX) (f : EF) : TE := tG (α := D) (β := V) DenB K W f
section
variable {X : Cx} {Γ : Nat → Addr} {W : WX} {e a b c : Expr} {f fa fb fc : EF} {pos : Pos}
theorem pdb (h : PE X e (tD (XC X Γ) W f)) : PE X e (tDB (XC X Γ) W f) := peImp h fun σ H Q ⟨w, env, st, r, p⟩ => ⟨w, env, st, r, by
  cases q : f env st with
  | ok d st' => rw [q] at p; exact fun ρ' H' x h1 h2 h3 => p ρ' H' x h1 h2 (Den.b (w := w.at_ ρ') h3)
  | exc x st' => rw [q] at p; exact p
  | bad => rw [q] at p; exact p⟩
def dVar (i : Nat) : EF := fun env st => match env[i]? with
  | some (.sh d) => .ok d st
  | _ => .bad
def dOwn (i : Nat) : EF := fun env st => match env[i]? with
  | some (.own ds) => .ok (.lst ds) st
  | some (.sh d) => .ok d st
  | _ => .bad
def dC (d : D) : EF := fun _ st => .ok d st
theorem pd_var (i : Nat) {x : Str} (hN : X.N[i]? = some x := by rfl) (hv : Vis X.env.scope x := by first | exact Or.inl rfl | exact Or.inr (Or.inl rfl) | exact Or.inr (Or.inr rfl)) (hd : (x == ("__debug__" : Str)) = false := by decide)
    (hcd : (x == ("__classdict__" : Str)) = false := by decide) : PE X (.Name x pos) (tD (XC X Γ) W (dVar i)) := peImp (pe_var hN hv hd hcd) fun σ H Q ⟨w, env, st, r, p⟩ => by
  unfold dVar at p
  split at p
  · rename_i d e
    obtain ⟨v, e1, h⟩ := r.sh e
    exact ⟨v, e1, Post.ok r p h⟩
  · exact p.elim
theorem pd_own (i : Nat) {x : Str} (hN : X.N[i]? = some x := by rfl) (hv : Vis X.env.scope x := by first | exact Or.inl rfl | exact Or.inr (Or.inl rfl) | exact Or.inr (Or.inr rfl)) (hd : (x == ("__debug__" : Str)) = false := by decide)
    (hcd : (x == ("__classdict__" : Str)) = false := by decide) : PE X (.Name x pos) (tDB (XC X Γ) W (dOwn i)) := peImp (pe_var hN hv hd hcd) fun σ H Q ⟨w, env, st, r, p⟩ => by
  unfold dOwn at p
  split at p
  · rename_i ds e
    obtain ⟨a, vs, e0, e1, e2, h⟩ := r.ownE e
    exact ⟨_, e1, Post.ok (Da := DenB) r p ⟨a, vs, rfl, e2, (r.disO a (List.mem_of_getElem? e0)).1, h⟩⟩
  · rename_i d e
    obtain ⟨v, e1, h⟩ := r.sh e
    exact ⟨v, e1, Post.ok (Da := DenB) r p h.b⟩
  · exact p.elim
theorem pdc {v : V} {d : D} (h : PE X e (tC v)) (r : ∀ ρ S H, Den (XC X Γ) ρ S H v d) : PE X e (tD (XC X Γ) W (dC d)) := peImp h fun σ H Q ⟨w, env, st, rl, p⟩ => Post.ok rl p (r _ _ _)
theorem pd_int {i j} : PE X (.Constant (.int i) j pos) (tD (XC X Γ) W (dC (.int i))) := pdc pe_int fun _ _ _ => .int i
theorem pd_str {i j} : PE X (.Constant (.str i) j pos) (tD (XC X Γ) W (dC (.str i))) := pdc pe_str fun _ _ _ => .str i
theorem pd_bl {i j} : PE X (.Constant (.bool i) j pos) (tD (XC X Γ) W (dC (.bl i))) := pdc pe_bl fun _ _ _ => .bl i
theorem pd_non {j} : PE X (.Constant .none j pos) (tD (XC X Γ) W (dC .non)) := pdc pe_non fun _ _ _ => .non
theorem pd_glob {x : Str} {v : V} {u : Value} {d : D} (hm : X.mg x = some u) (r : RelV v u) (h : ∀ ρ S H, Den (XC X Γ) ρ S H v d) (hg : Gl X x := by rfl) (hd : (x == ("__debug__" : Str)) = false := by decide) : PE X (.Name x pos) (tD (XC X Γ) W (dC d)) := pdc (pe_glob hg hm r hd) h
abbrev Op2 := D → D → Sto → Res D
def rD2 (K : Ct) (W : WX) (k : Op2) : R2 := fun x y H Q => ∃ w env st σ a b, Rel K w env st σ H ∧ DenB K w.ρ w.S H x a ∧ DenB K w.ρ w.S H y b ∧ Post Den K W w H σ (k a b st) Q
def dOp2 (k : Op2) (fa fb : EF) : EF := fun env st => (fa env st).bind fun a st1 => (fb env st1).bind fun b st2 => k a b st2
theorem dOp2_ok {K : Ct} {k : Op2} {r : R2} {σ : St} {H : Hp} {Q : VK} (h : tD K W (dOp2 k fa fb) σ H Q) (i : ∀ x y H Q, rD2 K W k x y H Q → r x y H Q) : tOp r (tDB K W fa) (tDB K W fb) σ H Q := by
  obtain ⟨w, env, st, rl, p⟩ := t2 (Da := DenB) (Db := DenB) (g := fun env a st => fb env st) (k := fun env a b st => k a b st) lastsDB h
  refine ⟨w, env, st, rl, p.mono ?_⟩
  rintro x H1 ⟨w1, env1, st1, a, r1, d1, p1⟩
  refine ⟨w1, env1, st1, r1, p1.mono ?_⟩
  rintro y H2 ⟨w2, st2, b, r2, d2, d3, p2⟩
  exact i _ _ _ _ ⟨w2, env1, st2, σ, a, b, r2, d2, d3, p2⟩
theorem pd_op {op : Operator} {k : Op2} (ho : OpR X (binaryOp op) (rD2 (XC X Γ) W k)) (ha : PE X a (tDB (XC X Γ) W fa)) (hb : PE X b (tDB (XC X Γ) W fb)) : PE X (.BinOp a op b pos) (tD (XC X Γ) W (dOp2 k fa fb)) :=
  peImp (pe_op ho ha hb) fun _ _ _ h => dOp2_ok h fun _ _ _ _ q => q
theorem opr {f : Value → Value → Sem Value} {k : Op2} (h : ∀ (w : Wd) (env : AEnv) (st : Sto) (σ : St) (H : Hp) (x y : V) (a b : D) (Q : VK), Rel (XC X Γ) w env st σ H → DenB (XC X Γ) w.ρ w.S H x a → DenB (XC X Γ) w.ρ w.S H y b → Post Den (XC X Γ) W w H σ (k a b st) Q →
    ∃ r : R2, OpR X f r ∧ r x y H Q) : OpR X f (rD2 (XC X Γ) W k) := fun pins s σ H x y v u Q I rx ry ⟨w, env, st, σ', a, b, r, d1, d2, p⟩ => by
  obtain ⟨rr, ho, q⟩ := h w env st σ' H x y a b Q r d1 d2 p
  exact ho pins s σ H x y v u Q I rx ry q
def oAdd : Op2 := fun a b st => match a, b with
  | .int i, .int j => .ok (.int (i + j)) st
  | .str i, .str j => if i.length + j.length ≤ sizeLine then .ok (.str (i ++ j)) st else .bad
  | .tup i, .tup j => if i.length + j.length ≤ sizeLine then .ok (.tup (i ++ j)) st else .bad
  | .lst i, .lst j => if i.length + j.length ≤ sizeLine then .ok (.lst (i ++ j)) st else .bad
  | _, _ => .bad
def oSub : Op2 := fun a b st => match a, b with
  | .int i, .int j => .ok (.int (i - j)) st
  | _, _ => .bad
def small64 (i : Int) : Bool := decide (-(2 ^ 64) < i) && decide (i < 2 ^ 64)
def mk (l : List Nat) : Str := ⟨l.toArray⟩
theorem mk_len (l : List Nat) : (mk l).length = l.length := by
  show l.toArray.size = l.length
  simp
def oMul : Op2 := fun a b st => match a, b with
  | .int i, .int j => if (small64 i || small64 j) = true then .ok (.int (i * j)) st else .bad
  | .str s, .int j => if s.length * j.toNat ≤ sizeLine ∧ -(2 ^ 62) ≤ j ∧ j < 2 ^ 62 then .ok (.str (mk (List.replicate j.toNat s.cps.toList).flatten)) st else .bad
  | .lst i, .int j => if i.length * j.toNat ≤ sizeLine ∧ -(2 ^ 63) ≤ j ∧ j < 2 ^ 63 then .ok (.lst (List.replicate j.toNat i).flatten) st else .bad
  | _, _ => .bad
def oDiv : Op2 := fun a b st => match a, b with
  | .int i, .int j => if 0 < j ∧ j < 1073741824 then .ok (.int (i / j)) st else .bad
  | _, _ => .bad
def oMod : Op2 := fun a b st => match a, b with
  | .int i, .int j => if 0 < j then .ok (.int (i % j)) st else .bad
  | _, _ => .bad
def oPow : Op2 := fun a b st => match a, b with
  | .int i, .int j => if 0 ≤ j ∧ j ≤ 1000000 ∧ i.natAbs < 2 ^ 64 then .ok (.int (i ^ j.toNat)) st else .bad
  | _, _ => .bad
theorem Str.mul_list (x : Str) (n : Nat) : (⟨(List.replicate n x.cps).foldl (· ++ ·) #[]⟩ : Str) = mk (List.replicate n x.cps.toList).flatten := by
  have go : ∀ (n : Nat) (acc : Array Nat), (List.replicate n x.cps).foldl (· ++ ·) acc = (acc.toList ++ (List.replicate n x.cps.toList).flatten).toArray := by
    intro n
    induction n with
    | zero => intro acc; simp
    | succ n ih =>
      intro acc
      rw [List.replicate_succ, List.foldl_cons, ih, List.replicate_succ, List.flatten_cons, Array.toList_append, List.append_assoc]
  rw [go]
  rfl
theorem flatten_len {α : Type} (l : List α) : ∀ n : Nat, ((List.replicate n l).flatten).length = n * l.length
  | 0 => by simp
  | n + 1 => by rw [List.replicate_succ, List.flatten_cons, List.length_append, flatten_len l n, Nat.succ_mul, Nat.add_comm]
theorem op_rep_str : OpR X (binaryOp .Mult) (fun x y H Q => ∃ s j, x = .str s ∧ y = .int j ∧ s.length * j.toNat ≤ sizeLine ∧ -(2 ^ 62) ≤ j ∧ j < 2 ^ 62 ∧ Q (.str (mk (List.replicate j.toNat s.cps.toList).flatten)) H) := by
  intro pins s σ H x y v u Q I rx ry h
  obtain ⟨z, j, rfl, rfl, hz, h1, h2, q⟩ := h
  obtain ⟨t, rfl⟩ := rx
  obtain ⟨t', rfl⟩ := ry
  have hs : sizeLine = 16777216 := sizeLine_eq
  by_cases hj : j < 1
  · refine PySem.P.mul_str_none hj (by omega) ⟨.str Str.empty, H, I.tok _, ⟨_, rfl⟩, ?_⟩
    have e : j.toNat = 0 := by omega
    rw [e] at q
    exact q
  · have hlen : z.length * j.toNat < 2 ^ 62 := by omega
    refine PySem.P.mul_str (by rw [decide_eq_false (by omega), decide_eq_false (by omega)]; rfl) (fun _ _ z0 => ?_) (fun _ _ => ?_) ?_
    · have hpos : 0 < j := by omega
      have h3 : (z.length : Int) * j ≤ 2 ^ 62 := by
        have e : ((j.toNat : Nat) : Int) = j := Int.toNat_of_nonneg (by omega)
        rw [← e]
        have := Int.ofNat_le.mpr (Nat.le_of_lt hlen)
        simpa using this
      have h4 : (z.length : Int) ≤ (2 ^ 63 - 1) / j := (Int.le_ediv_iff_mul_le hpos).mpr (by omega)
      omega
    · exact decide_eq_false (by omega)
    · rw [if_neg hj]
      rw [← Str.mul_list] at q
      by_cases hb : (j == 1 || z.length == 0) = true
      · rw [if_pos hb]
        refine ⟨.str z, H, I, ⟨t, rfl⟩, ?_⟩
        have e : (⟨(List.replicate j.toNat z.cps).foldl (· ++ ·) #[]⟩ : Str) = z := by
          rw [Str.mul_list]
          rcases Bool.or_eq_true _ _ ▸ hb with q1 | q1
          · have ej : j = 1 := by simpa using q1
            subst ej
            show mk (List.replicate 1 z.cps.toList).flatten = z
            simp [mk]
          · have ez : z.cps = #[] := Array.size_eq_zero_iff.mp (show z.length = 0 by simpa using q1)
            obtain ⟨c⟩ := z
            have ez' : c = #[] := ez
            subst ez'
            show mk (List.replicate j.toNat []).flatten = _
            simp [mk]
        rw [e] at q
        exact q
      · rw [if_neg hb]
        refine ⟨?_, .str _, H, I.tok _, ⟨_, rfl⟩, q⟩
        rw [Str.mul_list, mk_len, flatten_len]
        have : z.cps.toList.length = z.length := Array.length_toList
        rw [this, Nat.mul_comm]
        exact hz
theorem opd_add : OpR X (binaryOp .Add) (rD2 (XC X Γ) W oAdd) := opr fun w env st σ H x y a b Q r d1 d2 p => by
  cases a with
  | int i =>
    cases b with
    | int j => exact ⟨_, op_add, i, j, d1.int, d2.int, Post.ok r p (.int _)⟩
    | _ => exact p.elim
  | str i =>
    cases b with
    | str j =>
      rw [show oAdd (.str i) (.str j) st = if i.length + j.length ≤ sizeLine then .ok (.str (i ++ j)) st else .bad from rfl] at p
      split at p
      · rename_i hz
        exact ⟨_, op_add_str, i, j, d1.str, d2.str, hz, Post.ok r p (.str _)⟩
      · exact p.elim
    | _ => exact p.elim
  | tup i =>
    cases b with
    | tup j =>
      rw [show oAdd (.tup i) (.tup j) st = if i.length + j.length ≤ sizeLine then .ok (.tup (i ++ j)) st else .bad from rfl] at p
      split at p
      · rename_i hz
        obtain ⟨a1, v1, e1, q1, t1⟩ := d1.tup
        obtain ⟨a2, v2, e2, q2, t2⟩ := d2.tup
        refine ⟨_, op_catA, a1, a2, v1, v2, e1, e2, q1, q2, by rw [t1.length, t2.length]; exact hz, fun z => ?_, fun _ z => ?_, fun _ _ pp hp => ?_⟩
        · subst z
          cases t1
          exact Post.ok r p (.tup q2 t2)
        · subst z
          cases t2
          rw [List.append_nil] at p
          exact Post.ok r p (.tup q1 t1)
        · exact p.newTup r (t1.append t2) hp
      · exact p.elim
    | _ => exact p.elim
  | lst i =>
    cases b with
    | lst j =>
      rw [show oAdd (.lst i) (.lst j) st = if i.length + j.length ≤ sizeLine then .ok (.lst (i ++ j)) st else .bad from rfl] at p
      split at p
      · rename_i hz
        obtain ⟨a1, v1, e1, q1, n1, t1⟩ := d1.lst
        obtain ⟨a2, v2, e2, q2, n2, t2⟩ := d2.lst
        exact ⟨_, op_cat, a1, a2, v1, v2, e1, e2, q1, q2, by rw [t1.length, t2.length]; exact hz, fun pp hp => p.newLst r (t1.append t2) hp⟩
      · exact p.elim
    | _ => exact p.elim
  | _ => exact p.elim
end
end AM
namespace AM
open PySem PySem.Spec PyProof.Rows L2
mutual
def D.py : D → Option PyData
  | .non => some .none
  | .bl b => some (.bool b)
  | .int i => some (.int i)
  | .str s => some (.str s)
  | .tup ds => (pyL ds).map .tuple
  | .lst ds => (pyL ds).map .list
  | _ => none
def pyL : List D → Option (List PyData)
  | [] => some []
  | d :: ds => match D.py d, pyL ds with
    | some x, some xs => some (x :: xs)
    | _, _ => none
end
section
variable {K : Ct} {w : Wd} {H : Hp}
mutual
theorem Den.dp {ρ : List Addr} {S : Addr → Prop} : ∀ {d : D} {v : V} {x : PyData}, Den K ρ S H v d → d.py = some x → Dp K.K H v x
  | .non, _, _, .non, e => by cases e; exact .non
  | .bl _, _, _, .bl b, e => by cases e; exact .bl b
  | .int _, _, _, .int b, e => by cases e; exact .int b
  | .str _, _, _, .str b, e => by cases e; exact .str b
  | .tup ds, _, _, .tup h t, e => by
    unfold D.py at e
    cases q : pyL ds with
    | none => rw [q] at e; cases e
    | some xs => rw [q] at e; cases e; exact .tup h (Dens.dp t q)
  | .lst ds, _, _, .lst h _ t, e => by
    unfold D.py at e
    cases q : pyL ds with
    | none => rw [q] at e; cases e
    | some xs => rw [q] at e; cases e; exact .lst (.inl (.inl h)) (Dens.dp t q)
  | .ty _, _, _, .ty _, e => by cases e
  | .cls _, _, _, .cls _, e => by cases e
  | .fz _, _, _, .fz _ _, e => by cases e
  | .ins _ _, _, _, .ins _ _ _, e => by cases e
  | .hd _, _, _, .hd _, e => by cases e
theorem Dens.dp {ρ : List Addr} {S : Addr → Prop} : ∀ {ds : List D} {vs : List V} {xs : List PyData}, Dens K ρ S H vs ds → pyL ds = some xs → DpAll K.K H vs xs
  | [], _, _, .nil, e => by cases e; exact .nil
  | d :: ds, _, _, .cons h t, e => by
    unfold pyL at e
    cases q1 : d.py with
    | none => rw [q1] at e; cases e
    | some x =>
      cases q2 : pyL ds with
      | none => rw [q1, q2] at e; cases e
      | some xs => rw [q1, q2] at e; cases e; exact .cons (Den.dp h q1) (Dens.dp t q2)
end
theorem DenB.dp {d : D} {v : V} {x : PyData} (h : DenB K w.ρ w.S H v d) (e : d.py = some x) : Dp K.K H v x := by
  cases d with
  | lst ds =>
    obtain ⟨a, vs, rfl, q, _, t⟩ := h
    unfold D.py at e
    cases z : pyL ds with
    | none => rw [z] at e; cases e
    | some xs => rw [z] at e; cases e; exact .lst (.inl (.inl q)) (t.dp z)
  | _ => exact Den.dp (show Den K w.ρ w.S H v _ from h) e
end
def eqD (a b : D) : Option Bool := match a.py, b.py with
  | some x, some y => if (SeqAt.shaped x && SeqAt.shaped y) = true then some (PyData.eqv x y) else none
  | _, _ => none
def oOf (r : Option Bool) (st : Sto) : Res D := match r with
  | some b => .ok (.bl b) st
  | none => .bad
def oEq : Op2 := fun a b st => oOf (eqD a b) st
def oNe : Op2 := fun a b st => oOf ((eqD a b).map not) st
theorem eqD_some {a b : D} {r : Bool} (h : eqD a b = some r) : ∃ x y, a.py = some x ∧ b.py = some y ∧ SeqAt.shaped x = true ∧ SeqAt.shaped y = true ∧ r = PyData.eqv x y := by
  unfold eqD at h
  cases e1 : a.py with
  | none => rw [e1] at h; cases h
  | some x =>
    cases e2 : b.py with
    | none => rw [e1, e2] at h; cases h
    | some y =>
      rw [e1, e2] at h
      have h2 : (if (SeqAt.shaped x && SeqAt.shaped y) = true then some (PyData.eqv x y) else none) = some r := h
      split at h2
      · rename_i c
        obtain ⟨c1, c2⟩ := Bool.and_eq_true_iff.mp c
        exact ⟨x, y, rfl, rfl, c1, c2, (Option.some.inj h2).symm⟩
      · cases h2
def inStr (x z : Str) : Bool := match x.cps.toList with
  | [c] => decide (c ∈ z.cps.toList)
  | _ => !(Builtin.Str.occurrences z x 0 z.length 1).isEmpty
def inD (a b : D) : Option Bool := match b with
  | .str z => (match a with
    | .str x => some (inStr x z)
    | _ => none)
  | .tup ds => inSeq a ds
  | .lst ds => inSeq a ds
  | _ => none
where
  inSeq (a : D) (ds : List D) : Option Bool := match a.py, pyL ds with
    | some x, some xs => if (SeqAt.shaped x && SeqAt.shaped (.list xs)) = true then some (xs.any fun z => PyData.eqv z x) else none
    | _, _ => none
def oIn : Op2 := fun a b st => oOf (inD a b) st
def oNotIn : Op2 := fun a b st => oOf ((inD a b).map not) st
def D.isNon : D → Bool
  | .non => true
  | _ => false
def oIs : Op2 := fun a b st => match b with
  | .non => .ok (.bl a.isNon) st
  | _ => .bad
def oIsNot : Op2 := fun a b st => match b with
  | .non => .ok (.bl (!a.isNon)) st
  | _ => .bad
def ltStr (a b : Str) : Bool := decide (a.cps.toList < b.cps.toList)
def oLt : Op2 := fun a b st => match a, b with
  | .int i, .int j => .ok (.bl (decide (i < j))) st
  | .str i, .str j => .ok (.bl (ltStr i j)) st
  | _, _ => .bad
def oLe : Op2 := fun a b st => match a, b with
  | .int i, .int j => .ok (.bl (decide (i ≤ j))) st
  | .str i, .str j => .ok (.bl (!ltStr j i)) st
  | _, _ => .bad
def oGt : Op2 := fun a b st => match a, b with
  | .int i, .int j => .ok (.bl (decide (j < i))) st
  | .str i, .str j => .ok (.bl (ltStr j i)) st
  | _, _ => .bad
def oGe : Op2 := fun a b st => match a, b with
  | .int i, .int j => .ok (.bl (decide (j ≤ i))) st
  | .str i, .str j => .ok (.bl (!ltStr i j)) st
  | _, _ => .bad
section
variable {X : Cx} {Γ : Nat → Addr} {W : WX}
theorem opd_mul : OpR X (binaryOp .Mult) (rD2 (XC X Γ) W oMul) := opr fun w env st σ H x y a b Q r d1 d2 p => by
  cases a with
  | int i =>
    cases b with
    | int j =>
      rw [show oMul (.int i) (.int j) st = if (small64 i || small64 j) = true then .ok (.int (i * j)) st else .bad from rfl] at p
      split at p
      · rename_i hz
        refine ⟨_, op_mul, i, j, d1.int, d2.int, ?_, Post.ok r p (.int _)⟩
        unfold small64 at hz
        rcases Bool.or_eq_true _ _ ▸ hz with q | q
        · obtain ⟨q1, q2⟩ := Bool.and_eq_true_iff.mp q
          exact .inl ⟨of_decide_eq_true q1, of_decide_eq_true q2⟩
        · obtain ⟨q1, q2⟩ := Bool.and_eq_true_iff.mp q
          exact .inr ⟨of_decide_eq_true q1, of_decide_eq_true q2⟩
      · exact p.elim
    | _ => exact p.elim
  | str s =>
    cases b with
    | int j =>
      rw [show oMul (.str s) (.int j) st = if s.length * j.toNat ≤ sizeLine ∧ -(2 ^ 62) ≤ j ∧ j < 2 ^ 62 then .ok (.str (mk (List.replicate j.toNat s.cps.toList).flatten)) st else .bad from rfl] at p
      split at p
      · rename_i hz
        exact ⟨_, op_rep_str, s, j, d1.str, d2.int, hz.1, hz.2.1, hz.2.2, Post.ok r p (.str _)⟩
      · exact p.elim
    | _ => exact p.elim
  | lst s =>
    cases b with
    | int j =>
      rw [show oMul (.lst s) (.int j) st = if s.length * j.toNat ≤ sizeLine ∧ -(2 ^ 63) ≤ j ∧ j < 2 ^ 63 then .ok (.lst (List.replicate j.toNat s).flatten) st else .bad from rfl] at p
      split at p
      · rename_i hz
        obtain ⟨a1, v1, e1, q1, n1, t1⟩ := d1.lst
        refine ⟨_, op_rep, a1, j, v1, e1, d2.int, q1, hz.2.1, hz.2.2, by rw [t1.length]; exact hz.1, fun pp hp => p.newLst r (vs := (List.replicate j.toNat v1).flatten) ?_ hp⟩
        clear p
        generalize j.toNat = n
        induction n with
        | zero => exact .nil
        | succ n ih => rw [List.replicate_succ, List.replicate_succ, List.flatten_cons, List.flatten_cons]; exact t1.append ih
      · exact p.elim
    | _ => exact p.elim
  | _ => exact p.elim
theorem opd_div : OpR X (binaryOp .FloorDiv) (rD2 (XC X Γ) W oDiv) := opr fun w env st σ H x y a b Q r d1 d2 p => by
  cases a with
  | int i =>
    cases b with
    | int j =>
      rw [show oDiv (.int i) (.int j) st = if 0 < j ∧ j < 1073741824 then .ok (.int (i / j)) st else .bad from rfl] at p
      split at p
      · rename_i hz
        exact ⟨_, op_fdiv, i, j, d1.int, d2.int, hz, Post.ok r p (.int _)⟩
      · exact p.elim
    | _ => exact p.elim
  | _ => exact p.elim
theorem opd_mod : OpR X (binaryOp .Mod) (rD2 (XC X Γ) W oMod) := opr fun w env st σ H x y a b Q r d1 d2 p => by
  cases a with
  | int i =>
    cases b with
    | int j =>
      rw [show oMod (.int i) (.int j) st = if 0 < j then .ok (.int (i % j)) st else .bad from rfl] at p
      split at p
      · rename_i hz
        exact ⟨_, op_mod, i, j, d1.int, d2.int, hz, Post.ok r p (.int _)⟩
      · exact p.elim
    | _ => exact p.elim
  | _ => exact p.elim
theorem opd_pow : OpR X (binaryOp .Pow) (rD2 (XC X Γ) W oPow) := opr fun w env st σ H x y a b Q r d1 d2 p => by
  cases a with
  | int i =>
    cases b with
    | int j =>
      rw [show oPow (.int i) (.int j) st = if 0 ≤ j ∧ j ≤ 1000000 ∧ i.natAbs < 2 ^ 64 then .ok (.int (i ^ j.toNat)) st else .bad from rfl] at p
      split at p
      · rename_i hz
        exact ⟨_, op_pow, i, j, d1.int, d2.int, hz, Post.ok r p (.int _)⟩
      · exact p.elim
    | _ => exact p.elim
  | _ => exact p.elim
theorem opd_eq (hu : X.A.units + 64 < cLine) : OpR X (compareOp .Eq) (rD2 (XC X Γ) W oEq) := opr fun w env st σ H x y a b Q r d1 d2 p => by
  cases e : eqD a b with
  | none => rw [show oEq a b st = oOf (eqD a b) st from rfl, e] at p; exact p.elim
  | some v =>
    rw [show oEq a b st = oOf (eqD a b) st from rfl, e] at p
    obtain ⟨dx, dy, e1, e2, s1, s2, rfl⟩ := eqD_some e
    exact ⟨_, op_eqD hu, dx, dy, d1.dp e1, d2.dp e2, s1, s2, Post.ok r p (.bl _)⟩
theorem opd_ne (hu : X.A.units + 64 < cLine) : OpR X (compareOp .NotEq) (rD2 (XC X Γ) W oNe) := opr fun w env st σ H x y a b Q r d1 d2 p => by
  cases e : eqD a b with
  | none => rw [show oNe a b st = oOf ((eqD a b).map not) st from rfl, e] at p; exact p.elim
  | some v =>
    rw [show oNe a b st = oOf ((eqD a b).map not) st from rfl, e] at p
    obtain ⟨dx, dy, e1, e2, s1, s2, rfl⟩ := eqD_some e
    exact ⟨_, op_neD hu, dx, dy, d1.dp e1, d2.dp e2, s1, s2, Post.ok r p (.bl _)⟩
end
end AM
namespace AM
open PySem PySem.Spec PyProof.Rows L2
section
variable {X : Cx} {Γ : Nat → Addr} {W : WX}
theorem opd_lt : OpR X (compareOp .Lt) (rD2 (XC X Γ) W oLt) := opr fun w env st σ H x y a b Q r d1 d2 p => by
  cases a with
  | int i =>
    cases b with
    | int j => exact ⟨_, op_lt, i, j, d1.int, d2.int, Post.ok r p (.bl _)⟩
    | _ => exact p.elim
  | str i =>
    cases b with
    | str j => exact ⟨_, op_lt_str, i, j, d1.str, d2.str, Post.ok r p (.bl _)⟩
    | _ => exact p.elim
  | _ => exact p.elim
theorem opd_gt : OpR X (compareOp .Gt) (rD2 (XC X Γ) W oGt) := opr fun w env st σ H x y a b Q r d1 d2 p => by
  cases a with
  | int i =>
    cases b with
    | int j => exact ⟨_, op_gt, i, j, d1.int, d2.int, Post.ok r p (.bl _)⟩
    | _ => exact p.elim
  | str i =>
    cases b with
    | str j => exact ⟨_, op_gt_str, i, j, d1.str, d2.str, Post.ok r p (.bl _)⟩
    | _ => exact p.elim
  | _ => exact p.elim
theorem opd_ge : OpR X (compareOp .GtE) (rD2 (XC X Γ) W oGe) := opr fun w env st σ H x y a b Q r d1 d2 p => by
  cases a with
  | int i =>
    cases b with
    | int j => exact ⟨_, op_ge, i, j, d1.int, d2.int, Post.ok r p (.bl _)⟩
    | _ => exact p.elim
  | str i =>
    cases b with
    | str j => exact ⟨_, op_ge_str, i, j, d1.str, d2.str, Post.ok r p (.bl _)⟩
    | _ => exact p.elim
  | _ => exact p.elim
end
section
variable {X : Cx} {Γ : Nat → Addr} {W : WX} {e a b c : Expr} {f fa fb fc : EF} {g ga gb : TF} {pos : Pos} {op op' : CmpOp} {k k' : Op2} {rest : List Expr}
theorem pd_cmp (ho : OpR X (compareOp op) (rD2 (XC X Γ) W k)) (ha : PE X a (tDB (XC X Γ) W fa)) (hb : PE X b (tDB (XC X Γ) W fb)) (hm : behindInMarks op b = false := by first | exact nomark _ | rfl | with_unfolding_all rfl) : PE X (.Compare a [op] [b] pos) (tD (XC X Γ) W (dOp2 k fa fb)) :=
  peImp (pe_cmpR ho ha hb hm) fun _ _ _ h => dOp2_ok h fun _ _ _ _ q => q
def truD : D → Option Bool
  | .non => some false
  | .bl b => some b
  | .int i => some (i != 0)
  | .str s => if s.length ≤ sizeLine then some ((s.length : Int) != 0) else none
  | .tup ds => some (!ds.isEmpty)
  | .lst ds => some (!ds.isEmpty)
  | _ => none
def bOf (r : Option Bool) (st : Sto) : Res Bool := match r with
  | some b => .ok b st
  | none => .bad
def gTru (f : EF) : TF := fun env st => (f env st).bind fun d st => bOf (truD d) st
theorem Dens.isEmpty {K : Ct} {ρ : List Addr} {S : Addr → Prop} {H : Hp} {vs : List V} {ds : List D} (h : Dens K ρ S H vs ds) : vs.isEmpty = ds.isEmpty := by
  cases h <;> rfl
theorem pt_tru (h : PE X a (tDB (XC X Γ) W f)) (he : ∀ whole, isTrue a X.env whole = (do let v ← whole; standAt a.pos; holding [v] (truthy v)) := by intro _; rfl) : PT X a (tT (XC X Γ) W (gTru f)) :=
  ptImp (pt_truth h he) fun σ H Q hq => by
    obtain ⟨w, env, st, r, p⟩ := t1 (Da := DenB) hq
    refine ⟨w, env, st, r, p.mono ?_⟩
    rintro x H1 ⟨w1, env1, st1, d, r1, d1, p1⟩
    cases e : truD d with
    | none => rw [e] at p1; exact p1.elim
    | some k =>
      rw [e] at p1
      refine ⟨k, ?_, Post.ok (Da := dnB) (x := k) r1 p1 rfl⟩
      cases d with
      | non => rw [d1.non]; exact (Option.some.inj e).symm
      | bl i => rw [d1.bl]; exact (Option.some.inj e).symm
      | int i => rw [d1.int]; exact (Option.some.inj e).symm
      | str s =>
        rw [d1.str]
        unfold truD at e
        dsimp only at e
        split at e
        · rename_i hz
          exact ⟨hz, (Option.some.inj e).symm⟩
        · cases e
      | tup ds =>
        obtain ⟨a, vs, rfl, q, t⟩ := d1.tup
        exact .inr (.inl ⟨vs, q, by rw [t.isEmpty]; exact (Option.some.inj e).symm⟩)
      | lst ds =>
        obtain ⟨a, vs, rfl, q, _, t⟩ := d1.lst
        exact .inl ⟨vs, SqL.of q, by rw [t.isEmpty]; exact (Option.some.inj e).symm⟩
      | _ => cases e
def gBl (f : EF) : TF := fun env st => (f env st).bind fun d st => match d with
  | .bl b => .ok b st
  | _ => .bad
theorem gBl_ok {K : Ct} {t : TE} {σ : St} {H : Hp} {Q : Bool → Hp → Prop} (h : tT K W (gBl f) σ H Q) : tD K W f σ H fun x H1 => ∃ k, x = .bl k ∧ Q k H1 := by
  obtain ⟨w, env, st, r, p⟩ := t1 (Da := Den) h
  refine ⟨w, env, st, r, p.mono ?_⟩
  rintro x H1 ⟨w1, env1, st1, d, r1, d1, p1⟩
  cases d with
  | bl b => exact ⟨b, DenB.bl (w := w1) d1.b, Post.ok (Da := dnB) (x := b) r1 p1 rfl⟩
  | _ => exact p1.elim
theorem pt_cmp (ho : OpR X (compareOp op) (rD2 (XC X Γ) W k)) (ha : PE X a (tDB (XC X Γ) W fa)) (hb : PE X b (tDB (XC X Γ) W fb)) (hm : behindInMarks op b = false := by first | exact nomark _ | rfl | with_unfolding_all rfl) : PT X (.Compare a [op] [b] pos) (tT (XC X Γ) W (gBl (dOp2 k fa fb))) :=
  ptImp (pt_cmpR ho ha hb hm) fun σ H Q h => dOp2_ok (gBl_ok (t := tD (XC X Γ) W (dOp2 k fa fb)) h) fun _ _ _ _ q => q
def dChain (k k' : Op2) (fa fb fc : EF) : EF := fun env st => (fa env st).bind fun a st1 => (fb env st1).bind fun b st2 => (k a b st2).bind fun r st3 => match r with
  | .bl true => (fc env st3).bind fun c st4 => k' b c st4
  | .bl false => .ok (.bl false) st3
  | _ => .bad
def gAnd (g h : TF) : TF := fun env st => (g env st).bind fun b st => if b = true then h env st else .ok false st
def gOr (g h : TF) : TF := fun env st => (g env st).bind fun b st => if b = true then .ok true st else h env st
def gNot (g : TF) : TF := fun env st => (g env st).bind fun b st => .ok (!b) st
theorem pwd1 {t : TT} (h : PT X a t) (op : BoolOp) : PW X (.BoolOp op [a] pos) t := by
  cases op with
  | And => exact pw_and1 h
  | Or => exact pw_or1 h
theorem pwd_or (ha : PT X a (tT (XC X Γ) W ga)) (hb : PW X (.BoolOp .Or (b :: rest) pos) (tT (XC X Γ) W gb)) : PW X (.BoolOp .Or (a :: b :: rest) pos) (tT (XC X Γ) W (gOr ga gb)) := pwImp (pw_or ha hb) fun σ H Q h => by
  obtain ⟨w, env, st, r, p⟩ := t1 (Da := dnB) h
  refine ⟨w, env, st, r, p.mono ?_⟩
  rintro x H1 ⟨w1, env1, st1, d, r1, d1, p1⟩
  cases (show x = d from d1)
  cases x with
  | true =>
    rw [if_pos rfl] at p1 ⊢
    exact Post.ok (Da := dnB) (x := true) r1 p1 rfl
  | false =>
    rw [if_neg Bool.false_ne_true] at p1 ⊢
    exact ⟨w1, env1, st1, r1, p1⟩
def dAnd (f g : EF) : EF := fun env st => (f env st).bind fun d st => match d with
  | .bl true => g env st
  | .bl false => .ok (.bl false) st
  | _ => .bad
def dOr (f g : EF) : EF := fun env st => (f env st).bind fun d st => match d with
  | .bl true => .ok (.bl true) st
  | .bl false => g env st
  | _ => .bad
def dNot (f : EF) : EF := fun env st => (f env st).bind fun d st => match d with
  | .bl b => .ok (.bl (!b)) st
  | _ => .bad
def dIf (g : TF) (f h : EF) : EF := fun env st => (g env st).bind fun b st => if b = true then f env st else h env st
theorem pd_if (hc : PT X c (tT (XC X Γ) W g)) (ha : PE X a (tD (XC X Γ) W fa)) (hb : PE X b (tD (XC X Γ) W fb)) : PE X (.IfExp c a b pos) (tD (XC X Γ) W (dIf g fa fb)) := peImp (pe_ifExp hc ha hb) fun σ H Q h => by
  obtain ⟨w, env, st, r, p⟩ := t1 (Da := dnB) h
  refine ⟨w, env, st, r, p.mono ?_⟩
  rintro x H1 ⟨w1, env1, st1, d, r1, d1, p1⟩
  cases (show x = d from d1)
  cases x with
  | true =>
    rw [if_pos rfl] at p1 ⊢
    exact ⟨w1, env1, st1, r1, p1⟩
  | false =>
    rw [if_neg Bool.false_ne_true] at p1 ⊢
    exact ⟨w1, env1, st1, r1, p1⟩
def dNeg (f : EF) : EF := fun env st => (f env st).bind fun d st => match d with
  | .int i => .ok (.int (-i)) st
  | _ => .bad
theorem pd_neg (ha : PE X a (tD (XC X Γ) W fa)) : PE X (.UnaryOp .USub a pos) (tD (XC X Γ) W (dNeg fa)) := peImp (pe_un un_neg ha) fun σ H Q h => by
  obtain ⟨w, env, st, r, p⟩ := t1 (Da := Den) h
  refine ⟨w, env, st, r, p.mono ?_⟩
  rintro x H1 ⟨w1, env1, st1, d, r1, d1, p1⟩
  cases d with
  | int v => exact ⟨v, DenB.int (w := w1) d1.b, Post.ok r1 p1 (.int _)⟩
  | _ => exact p1.elim
end
end AM
namespace AM
open PySem PySem.Spec PyProof.Rows L2
section
variable {X : Cx} {Γ : Nat → Addr} {W : WX} {e a b c : Expr} {es : List Expr} {f fa fb fc : EF} {fs : EFs} {pos : Pos}
def dNil : EFs := fun _ st => .ok [] st
def dCons (f : EF) (fs : EFs) : EFs := fun env st => (f env st).bind fun d st1 => (fs env st1).bind fun ds st2 => .ok (d :: ds) st2
theorem pad_nil : PA X [] (tDs (XC X Γ) W dNil) := paImp pa_nil fun σ H Q ⟨w, env, st, r, p⟩ => Post.ok (Da := Dens) r p .nil
theorem pad_cons (ha : PE X e (tD (XC X Γ) W f)) (hr : PA X es (tDs (XC X Γ) W fs)) (hs : starEach (e :: es) X.env = (false, eval e X.env) :: starEach es X.env := by rfl) : PA X (e :: es) (tDs (XC X Γ) W (dCons f fs)) :=
  paImp (pa_cons ha hr hs) fun σ H Q h => by
    obtain ⟨w, env, st, rl, p⟩ := t2 (Da := Den) (Db := Dens) (g := fun env a st => fs env st) (k := fun env a b st => .ok (a :: b) st) lastsD h
    refine ⟨w, env, st, rl, p.mono ?_⟩
    rintro x H1 ⟨w1, env1, st1, a, r1, d1, p1⟩
    refine ⟨w1, env1, st1, r1, p1.mono ?_⟩
    rintro y H2 ⟨w2, st2, b, r2, d2, d3, p2⟩
    exact Post.ok (Da := Dens) r2 p2 (.cons d2 d3)
def dTup (fs : EFs) : EF := fun env st => (fs env st).bind fun ds st => if ds.length ≤ sizeLine then .ok (.tup ds) st else .bad
def dLst (fs : EFs) : EF := fun env st => (fs env st).bind fun ds st => if ds.length ≤ sizeLine then .ok (.lst ds) st else .bad
theorem pd_tup {x1} (h : PA X es (tDs (XC X Γ) W fs)) : PE X (.Tuple es x1 pos) (tD (XC X Γ) W (dTup fs)) := peImp (pe_tup h) fun σ H Q hq => by
  obtain ⟨w, env, st, r, p⟩ := t1 (Da := Dens) hq
  refine ⟨w, env, st, r, p.mono ?_⟩
  rintro x H1 ⟨w1, env1, st1, d, r1, d1, p1⟩
  by_cases hz : d.length ≤ sizeLine
  · rw [if_pos hz] at p1
    exact ⟨by rw [d1.length]; exact hz, fun pp hp => p1.newTup r1 d1 hp⟩
  · rw [if_neg hz] at p1; exact p1.elim
theorem pd_lst (h : PA X es (tDs (XC X Γ) W fs)) : PE X (.List es pos) (tD (XC X Γ) W (dLst fs)) := peImp (pe_lst h) fun σ H Q hq => by
  obtain ⟨w, env, st, r, p⟩ := t1 (Da := Dens) hq
  refine ⟨w, env, st, r, p.mono ?_⟩
  rintro x H1 ⟨w1, env1, st1, d, r1, d1, p1⟩
  by_cases hz : d.length ≤ sizeLine
  · rw [if_pos hz] at p1
    exact ⟨by rw [d1.length]; exact hz, fun pp hp => p1.newLst r1 d1 hp⟩
  · rw [if_neg hz] at p1; exact p1.elim
def oIx : Op2 := fun a b st => match b with
  | .int i => (match a with
    | .tup ds => go (atI ds i) st
    | .lst ds => go (atI ds i) st
    | .fz ds => go (atI ds i) st
    | .str s => if s.length ≤ sizeLine then go ((atI s.cps.toList i).map fun c => .str (mk [c])) st else .bad
    | .hd n => (match st[n]? with
      | some (.lst ds) => go (atI ds i) st
      | _ => .bad)
    | _ => .bad)
  | _ => .bad
where
  go (o : Option D) (st : Sto) : Res D := match o with
    | some d => .ok d st
    | none => .bad
theorem Dens.atI {K : Ct} {ρ : List Addr} {S : Addr → Prop} {H : Hp} {vs : List V} {ds : List D} {i : Int} {d : D} (h : Dens K ρ S H vs ds) (e : L2.atI ds i = some d) : ∃ v, L2.atI vs i = some v ∧ Den K ρ S H v d := by
  unfold L2.atI at e ⊢
  rw [h.length]
  cases q : ixN ds.length i with
  | none => rw [q] at e; cases e
  | some j => rw [q] at e; exact h.get e
theorem ixr {k : Op2} (h : ∀ (w : Wd) (env : AEnv) (st : Sto) (σ : St) (H : Hp) (x y : V) (a b : D) (Q : VK), Rel (XC X Γ) w env st σ H → DenB (XC X Γ) w.ρ w.S H x a → DenB (XC X Γ) w.ρ w.S H y b → Post Den (XC X Γ) W w H σ (k a b st) Q →
    ∃ r : R2, IxR X r ∧ r x y H Q) : IxR X (rD2 (XC X Γ) W k) := fun value slice pins s σ H x y v u Q I rx ry ⟨w, env, st, σ', a, b, r, d1, d2, p⟩ hs => by
  obtain ⟨rr, ho, q⟩ := h w env st σ' H x y a b Q r d1 d2 p
  exact ho value slice pins s σ H x y v u Q I rx ry q hs
theorem ixd : IxR X (rD2 (XC X Γ) W oIx) := ixr fun w env st σ H x y a b Q r d1 d2 p => by
  cases b with
  | int i =>
    have li : ∀ {ds : List D} {vs : List V} {q : Addr}, Dens (XC X Γ) w.ρ w.S H vs ds → x = .ref q → SqL X.K H q vs → Post Den (XC X Γ) W w H σ (oIx.go (atI ds i) st) Q → ∃ r : R2, IxR X r ∧ r x y H Q := fun {ds vs q} t e1 hq p => by
      cases e : atI ds i with
      | none => rw [e] at p; exact p.elim
      | some d =>
        rw [e] at p
        obtain ⟨v, h1, h2⟩ := t.atI e
        exact ⟨_, ix_list, q, vs, i, v, e1, d2.int, hq, h1, Post.ok r p h2⟩
    cases a with
    | tup ds =>
      obtain ⟨q, vs, e1, hq, t⟩ := d1.tup
      have p : Post Den (XC X Γ) W w H σ (oIx.go (atI ds i) st) Q := p
      cases e : atI ds i with
      | none => rw [e] at p; exact p.elim
      | some d =>
        rw [e] at p
        obtain ⟨v, h1, h2⟩ := t.atI e
        exact ⟨_, ix_tup, q, vs, i, v, e1, d2.int, hq, h1, Post.ok r p h2⟩
    | lst ds =>
      obtain ⟨q, vs, e1, hq, _, t⟩ := d1.lst
      exact li t e1 (SqL.of hq) p
    | fz ds =>
      obtain ⟨q, vs, e1, hq, t⟩ := d1.fz
      exact li t e1 hq.sql p
    | str s =>
      have p : Post Den (XC X Γ) W w H σ (if s.length ≤ sizeLine then oIx.go ((atI s.cps.toList i).map fun c => .str (mk [c])) st else .bad) Q := p
      split at p
      · rename_i hz
        cases e : atI s.cps.toList i with
        | none => rw [e] at p; exact p.elim
        | some d =>
          rw [e] at p
          exact ⟨_, ix_str, s, i, d, d1.str, d2.int, hz, e, Post.ok r p (.str _)⟩
      · exact p.elim
    | hd n =>
      obtain ⟨q, e1, e2⟩ := d1.hd
      have p : Post Den (XC X Γ) W w H σ (match st[n]? with
        | some (.lst ds) => oIx.go (atI ds i) st
        | _ => .bad) Q := p
      split at p
      · rename_i ds e3
        obtain ⟨vs, hq, t⟩ := r.cellL e2 e3
        exact li t e1 (SqL.of hq) p
      · exact p.elim
    | _ => exact p.elim
  | _ => cases a <;> exact p.elim
theorem pd_ix (ha : PE X a (tDB (XC X Γ) W fa)) (hb : PE X b (tDB (XC X Γ) W fb)) (hs : PlainIx b := by intro _ _; rfl) : PE X (.Subscript a b pos) (tD (XC X Γ) W (dOp2 oIx fa fb)) := peImp (pe_ix ixd ha hb hs) fun _ _ _ h => dOp2_ok h fun _ _ _ _ q => q
abbrev OF := AEnv → Sto → Res (Option Int)
def dnO : DnT (Option Int) (Option Int) := fun _ _ _ _ a b => a = b
abbrev tO (K : Ct) (W : WX) (f : OF) : TO := tG (α := Option Int) (β := Option Int) dnO K W f
theorem poImp {e : Option Expr} {t t' : TO} (h : PO X e t) (i : ∀ σ H Q, t' σ H Q → t σ H Q) : PO X e t' := ⟨fun pins s σ H Q I hw => h.run pins s σ H Q I (i σ H Q hw)⟩
def oNo : OF := fun _ st => .ok none st
def oSo (f : EF) : OF := fun env st => (f env st).bind fun d st => match d with
  | .int i => .ok (some i) st
  | _ => .bad
theorem pod_none : PO X none (tO (XC X Γ) W oNo) := poImp po_none fun σ H Q ⟨w, env, st, r, p⟩ => Post.ok (Da := dnO) (x := none) r p rfl
theorem pod_some (h : PE X e (tD (XC X Γ) W f)) : PO X (some e) (tO (XC X Γ) W (oSo f)) := poImp (po_some h) fun σ H Q hq => by
  obtain ⟨w, env, st, r, p⟩ := t1 (Da := Den) hq
  refine ⟨w, env, st, r, p.mono ?_⟩
  rintro x H1 ⟨w1, env1, st1, d, r1, d1, p1⟩
  cases d with
  | int i => exact ⟨i, DenB.int (w := w1) d1.b, Post.ok (Da := dnO) (x := some i) r1 p1 rfl⟩
  | _ => exact p1.elim
def cutL {α : Type} (xs : List α) (lo hi : Option Int) : List α := (xs.drop (HT.sIx xs.length 0 lo)).take (HT.sIx xs.length xs.length hi - HT.sIx xs.length 0 lo)
def oSl (a : D) (lo hi : Option Int) (st : Sto) : Res D := match a with
  | .tup ds => .ok (.tup (cutL ds lo hi)) st
  | .lst ds => .ok (.lst (cutL ds lo hi)) st
  | .fz ds => .ok (.lst (cutL ds lo hi)) st
  | .str s => if s.length ≤ sizeLine then .ok (.str (mk (cutL s.cps.toList lo hi))) st else .bad
  | _ => .bad
def dSl (f : EF) (lo hi : OF) : EF := fun env st => (f env st).bind fun d st1 => (lo env st1).bind fun l st2 => (hi env st2).bind fun h st3 => oSl d l h st3
theorem Dens.cut {K : Ct} {ρ : List Addr} {S : Addr → Prop} {H : Hp} {vs : List V} {ds : List D} (h : Dens K ρ S H vs ds) (lo hi : Option Int) : Dens K ρ S H (cutV vs lo hi) (cutL ds lo hi) := by
  unfold cutV cutL
  rw [h.length]
  exact (h.drop _).take _
theorem pd_slice {lo hi : Option Expr} {gl gh : OF} {p2 : Pos} (he : PE X e (tDB (XC X Γ) W f)) (hl : PO X lo (tO (XC X Γ) W gl)) (hh : PO X hi (tO (XC X Γ) W gh)) : PE X (.Subscript e (.Slice lo hi none p2) pos) (tD (XC X Γ) W (dSl f gl gh)) := by
  refine peImp (pe_slice (r := fun x l h H Q => ∃ w env st σ a, Rel (XC X Γ) w env st σ H ∧ DenB (XC X Γ) w.ρ w.S H x a ∧ Post Den (XC X Γ) W w H σ (oSl a l h st) Q) ?_ he hl hh) ?_
  · intro pins s σ H x v vl vu lo hi sl Q I rx hs pl pu ⟨w, env, st, σ', a, r, d1, p⟩
    cases a with
    | tup ds =>
      obtain ⟨q, vs, e1, hq, t⟩ := d1.tup
      refine sl_tupA pins s σ H x v vl vu lo hi sl Q I rx hs pl pu ⟨q, vs, e1, hq, fun z => ?_, fun _ pp hp => p.newTup r (t.cut lo hi) hp⟩
      have e : cutL ds lo hi = ds := by
        unfold cutL
        rw [← t.length, z.1, z.2, List.drop_zero, Nat.sub_zero, t.length, List.take_length]
      have p : Post Den (XC X Γ) W w H σ' (.ok (.tup (cutL ds lo hi)) st) Q := p
      rw [e] at p
      exact Post.ok r p (.tup hq t)
    | lst ds =>
      obtain ⟨q, vs, e1, hq, _, t⟩ := d1.lst
      exact sl_list pins s σ H x v vl vu lo hi sl Q I rx hs pl pu ⟨q, vs, e1, SqL.of hq, fun pp hp => p.newLst r (t.cut lo hi) hp⟩
    | fz ds =>
      obtain ⟨q, vs, e1, hq, t⟩ := d1.fz
      exact sl_list pins s σ H x v vl vu lo hi sl Q I rx hs pl pu ⟨q, vs, e1, hq.sql, fun pp hp => p.newLst r (t.cut lo hi) hp⟩
    | str z =>
      have p : Post Den (XC X Γ) W w H σ' (if z.length ≤ sizeLine then .ok (.str (mk (cutL z.cps.toList lo hi))) st else .bad) Q := p
      split at p
      · rename_i hz
        refine sl_str pins s σ H x v vl vu lo hi sl Q I rx hs pl pu ⟨z, d1.str, hz, ?_⟩
        have e : cutS z lo hi = mk (cutL z.cps.toList lo hi) := by
          unfold cutS mk cutL
          rw [Array.length_toList]
          rfl
        rw [e]
        exact Post.ok r p (.str _)
      · exact p.elim
    | _ => exact p.elim
  · intro σ H Q h
    obtain ⟨w, env, st, rl, p⟩ := t2 (Da := DenB) (Db := dnO) (g := fun env a st => gl env st) (k := fun env a b st => (gh env st).bind fun h st3 => oSl a b h st3) lastsDB h
    refine ⟨w, env, st, rl, p.mono ?_⟩
    rintro x H1 ⟨w1, env1, st1, a, r1, d1, p1⟩
    refine ⟨w1, env1, st1, r1, p1.mono ?_⟩
    rintro y H2 ⟨w2, st2, b, r2, d2, d3, p2⟩
    cases (show y = b from d3)
    refine ⟨w2, env1, st2, r2, (Post.bind (Da := dnO) r2 p2).mono ?_⟩
    rintro z H3 ⟨w3, st3, c, r3, e3, x3, d4, p3⟩
    cases (show z = c from d4)
    exact ⟨w3, env1, st3, σ, a, r3, lastsDB r2 e3 x3 d2, p3⟩
abbrev Op1 := D → Sto → Res D
def dOp1 (k : Op1) (f : EF) : EF := fun env st => (f env st).bind fun d st => k d st
def rC1 (K : Ct) (W : WX) (k : Op1) : List V → Hp → VK → Prop := fun xs H Q => ∃ w env st σ x a, xs = [x] ∧ Rel K w env st σ H ∧ DenB K w.ρ w.S H x a ∧ Post Den K W w H σ (k a st) Q
def rC2 (K : Ct) (W : WX) (k : Op2) : List V → Hp → VK → Prop := fun xs H Q => ∃ w env st σ x y a b, xs = [x, y] ∧ Rel K w env st σ H ∧ DenB K w.ρ w.S H x a ∧ DenB K w.ρ w.S H y b ∧ Post Den K W w H σ (k a b st) Q
theorem c1_ok {K : Ct} {k : Op1} {σ : St} {H : Hp} {Q : VK} (h : tD K W (dOp1 k f) σ H Q) : tCB (rC1 K W k) (tCons (tDB K W f) tNil) σ H Q := by
  obtain ⟨w, env, st, r, p⟩ := t1 (Da := DenB) h
  refine ⟨w, env, st, r, p.mono ?_⟩
  rintro x H1 ⟨w1, env1, st1, d, r1, d1, p1⟩
  exact ⟨w1, env1, st1, σ, x, d, rfl, r1, d1, p1⟩
theorem c2_ok {K : Ct} {k : Op2} {σ : St} {H : Hp} {Q : VK} (h : tD K W (dOp2 k fa fb) σ H Q) : tCB (rC2 K W k) (tCons (tDB K W fa) (tCons (tDB K W fb) tNil)) σ H Q := by
  obtain ⟨w, env, st, rl, p⟩ := t2 (Da := DenB) (Db := DenB) (g := fun env a st => fb env st) (k := fun env a b st => k a b st) lastsDB h
  refine ⟨w, env, st, rl, p.mono ?_⟩
  rintro x H1 ⟨w1, env1, st1, a, r1, d1, p1⟩
  refine ⟨w1, env1, st1, r1, p1.mono ?_⟩
  rintro y H2 ⟨w2, st2, b, r2, d2, d3, p2⟩
  exact ⟨w2, env1, st2, σ, x, y, a, b, rfl, r2, d2, d3, p2⟩
theorem pd_call1 {id : String} {k : Op1} {x : Str} {p : Pos} (hc : CallR X (.builtin id) (rC1 (XC X Γ) W k)) (hm : X.mg x = none) (ha : PE X e (tDB (XC X Γ) W f)) (hv : bootBuiltins x = some (.builtin id) := by decide +kernel) (hg : Gl X x := by rfl) (hn : x ≠ "__name__" := by decide) (hdb : (x == ("__debug__" : Str)) = false := by decide)
    (he : starEach (e :: []) X.env = (false, eval e X.env) :: starEach [] X.env := by rfl) (hpl : (backTo pos (starEach [] X.env)).any (·.1) = false := by rfl) : PE X (.Call (.Name x p) [e] [] pos) (tD (XC X Γ) W (dOp1 k f)) :=
  peImp (pe_callB hc hg hm hv (pa_cons ha pa_nil he) hn hdb he hpl) fun _ _ _ h => c1_ok h
theorem pd_callT1 {T : String} {k : Op1} {x : Str} {p : Pos} (hc : CallR X (.type T) (rC1 (XC X Γ) W k)) (hm : X.mg x = none) (ha : PE X e (tDB (XC X Γ) W f)) (hv : bootBuiltins x = some (.type T) := by decide +kernel) (hg : Gl X x := by rfl) (hn : x ≠ "__name__" := by decide) (hdb : (x == ("__debug__" : Str)) = false := by decide)
    (he : starEach (e :: []) X.env = (false, eval e X.env) :: starEach [] X.env := by rfl) (hpl : (backTo pos (starEach [] X.env)).any (·.1) = false := by rfl) : PE X (.Call (.Name x p) [e] [] pos) (tD (XC X Γ) W (dOp1 k f)) :=
  peImp (pe_callTy hc hg hm hv (pa_cons ha pa_nil he) hn hdb he hpl) fun _ _ _ h => c1_ok h
theorem pd_call2 {id : String} {k : Op2} {x : Str} {p : Pos} (hc : CallR X (.builtin id) (rC2 (XC X Γ) W k)) (hm : X.mg x = none) (ha : PE X a (tDB (XC X Γ) W fa)) (hb : PE X b (tDB (XC X Γ) W fb)) (hv : bootBuiltins x = some (.builtin id) := by decide +kernel) (hg : Gl X x := by rfl) (hn : x ≠ "__name__" := by decide) (hdb : (x == ("__debug__" : Str)) = false := by decide)
    (he : starEach (a :: [b]) X.env = (false, eval a X.env) :: starEach [b] X.env := by rfl) (he2 : starEach (b :: []) X.env = (false, eval b X.env) :: starEach [] X.env := by rfl) (hpl : (backTo pos (starEach [b] X.env)).any (·.1) = false := by rfl) : PE X (.Call (.Name x p) [a, b] [] pos) (tD (XC X Γ) W (dOp2 k fa fb)) :=
  peImp (pe_callB hc hg hm hv (pa_cons ha (pa_cons hb pa_nil he2) he) hn hdb he hpl) fun _ _ _ h => c2_ok h
theorem cr1 {g : Value} {k : Op1} (h : ∀ (w : Wd) (env : AEnv) (st : Sto) (σ : St) (H : Hp) (x : V) (a : D) (Q : VK), Rel (XC X Γ) w env st σ H → DenB (XC X Γ) w.ρ w.S H x a → Post Den (XC X Γ) W w H σ (k a st) Q →
    ∃ r, CallR X g r ∧ r [x] H Q) : CallR X g (rC1 (XC X Γ) W k) := fun pins s σ H xs us Q I rs ⟨w, env, st, σ', x, a, e, r, d1, p⟩ => by
  subst e
  obtain ⟨rr, ho, q⟩ := h w env st σ' H x a Q r d1 p
  exact ho pins s σ H _ us Q I rs q
theorem cr2 {g : Value} {k : Op2} (h : ∀ (w : Wd) (env : AEnv) (st : Sto) (σ : St) (H : Hp) (x y : V) (a b : D) (Q : VK), Rel (XC X Γ) w env st σ H → DenB (XC X Γ) w.ρ w.S H x a → DenB (XC X Γ) w.ρ w.S H y b → Post Den (XC X Γ) W w H σ (k a b st) Q →
    ∃ r, CallR X g r ∧ r [x, y] H Q) : CallR X g (rC2 (XC X Γ) W k) := fun pins s σ H xs us Q I rs ⟨w, env, st, σ', x, y, a, b, e, r, d1, d2, p⟩ => by
  subst e
  obtain ⟨rr, ho, q⟩ := h w env st σ' H x y a b Q r d1 d2 p
  exact ho pins s σ H _ us Q I rs q
def oLen : Op1 := fun a st => match a with
  | .tup ds => .ok (.int ds.length) st
  | .lst ds => .ok (.int ds.length) st
  | .fz ds => .ok (.int ds.length) st
  | .str s => if s.length ≤ sizeLine then .ok (.int s.length) st else .bad
  | _ => .bad
theorem cd_len : CallR X (.builtin "len") (rC1 (XC X Γ) W oLen) := cr1 fun w env st σ H x a Q r d p => by
  cases a with
  | tup ds =>
    obtain ⟨q, vs, e1, hq, t⟩ := d.tup
    exact ⟨_, call_len_seq, q, vs, by rw [e1], .inr hq, by rw [t.length]; exact Post.ok r p (.int _)⟩
  | lst ds =>
    obtain ⟨q, vs, e1, hq, _, t⟩ := d.lst
    exact ⟨_, call_len_seq, q, vs, by rw [e1], .inl (SqL.of hq), by rw [t.length]; exact Post.ok r p (.int _)⟩
  | fz ds =>
    obtain ⟨q, vs, e1, hq, t⟩ := d.fz
    exact ⟨_, call_len_seq, q, vs, by rw [e1], .inl hq.sql, by rw [t.length]; exact Post.ok r p (.int _)⟩
  | str s =>
    have p : Post Den (XC X Γ) W w H σ (if s.length ≤ sizeLine then .ok (.int s.length) st else .bad) Q := p
    split at p
    · rename_i hz
      exact ⟨_, call_len_str, s, by rw [d.str], hz, Post.ok r p (.int _)⟩
    · exact p.elim
  | _ => exact p.elim
def oAbs : Op1 := fun a st => match a with
  | .int i => .ok (.int (if i < 0 then -i else i)) st
  | _ => .bad
theorem cd_abs : CallR X (.builtin "abs") (rC1 (XC X Γ) W oAbs) := cr1 fun w env st σ H x a Q r d p => by
  cases a with
  | int i => exact ⟨_, call_abs, i, by rw [d.int], Post.ok r p (.int _)⟩
  | _ => exact p.elim
def oMax : Op2 := fun a b st => match a, b with
  | .int i, .int j => .ok (.int (if j > i then j else i)) st
  | _, _ => .bad
def oMin : Op2 := fun a b st => match a, b with
  | .int i, .int j => .ok (.int (if j < i then j else i)) st
  | _, _ => .bad
theorem cd_max (hc : X.calm = true) : CallR X (.builtin "max") (rC2 (XC X Γ) W oMax) := cr2 fun w env st σ H x y a b Q r d1 d2 p => by
  cases a with
  | int i =>
    cases b with
    | int j => exact ⟨_, call_max2 hc, i, j, by rw [d1.int, d2.int], Post.ok r p (.int _)⟩
    | _ => exact p.elim
  | _ => exact p.elim
theorem cd_min (hc : X.calm = true) : CallR X (.builtin "min") (rC2 (XC X Γ) W oMin) := cr2 fun w env st σ H x y a b Q r d1 d2 p => by
  cases a with
  | int i =>
    cases b with
    | int j => exact ⟨_, call_min2 hc, i, j, by rw [d1.int, d2.int], Post.ok r p (.int _)⟩
    | _ => exact p.elim
  | _ => exact p.elim
def oDivmod : Op2 := fun a b st => match a, b with
  | .int i, .int j => if 0 < j ∧ j.natAbs.log2 < 9000 then .ok (.tup [.int (i / j), .int (i % j)]) st else .bad
  | _, _ => .bad
theorem cd_divmod : CallR X (.builtin "divmod") (rC2 (XC X Γ) W oDivmod) := cr2 fun w env st σ H x y a b Q r d1 d2 p => by
  cases a with
  | int i =>
    cases b with
    | int j =>
      have p : Post Den (XC X Γ) W w H σ (if 0 < j ∧ j.natAbs.log2 < 9000 then .ok (.tup [.int (i / j), .int (i % j)]) st else .bad) Q := p
      split at p
      · rename_i hz
        exact ⟨_, call_divmodW, i, j, by rw [d1.int, d2.int], ⟨hz.1, PyProof.noPylong_of_log2 hz.2⟩, fun pp hp => p.newTup r (.cons (.int _) (.cons (.int _) .nil)) hp⟩
      · exact p.elim
    | _ => exact p.elim
  | _ => exact p.elim
def oIntT : Op1 := fun a st => match a with
  | .int i => .ok (.int i) st
  | .bl k => .ok (.int (if k then 1 else 0)) st
  | .str s => (match PySem.intText? s with
    | some n => if s.length ≤ 640 then .ok (.int n) st else .bad
    | none => .bad)
  | _ => .bad
theorem cd_int : CallR X (.type "int") (rC1 (XC X Γ) W oIntT) := cr1 fun w env st σ H x a Q r d p => by
  cases a with
  | int i => exact ⟨_, call_int1, .inl ⟨i, by rw [d.int], Post.ok r p (.int _)⟩⟩
  | bl k => exact ⟨_, call_int1, .inr ⟨k, by rw [d.bl], Post.ok r p (.int _)⟩⟩
  | str s =>
    have p : Post Den (XC X Γ) W w H σ (match PySem.intText? s with
    | some n => if s.length ≤ 640 then .ok (.int n) st else .bad
    | none => .bad) Q := p
    cases e : PySem.intText? s with
    | none => rw [e] at p; exact p.elim
    | some n =>
      rw [e] at p
      have p : Post Den (XC X Γ) W w H σ (if s.length ≤ 640 then .ok (.int n) st else .bad) Q := p
      split at p
      · rename_i hz
        exact ⟨_, call_int_str, s, n, by rw [d.str], e, hz, Post.ok r p (.int _)⟩
      · exact p.elim
  | _ => exact p.elim
def oTupT : Op1 := fun a st => match a with
  | .tup ds => .ok (.tup ds) st
  | .lst ds => .ok (.tup ds) st
  | _ => .bad
def signs (s : Str) : List D := s.cps.toList.map fun c => .str (mk [c])
def blsD : List D → Option (List Bool)
  | [] => some []
  | .bl b :: r => (blsD r).map (b :: ·)
  | _ => none
theorem Dens.bls {K : Ct} {ρ : List Addr} {S : Addr → Prop} {H : Hp} : ∀ {ds : List D} {vs : List V} {bs : List Bool}, Dens K ρ S H vs ds → blsD ds = some bs → vs = bs.map V.bl
  | [], _, _, .nil, e => by cases e; rfl
  | d :: ds, _, bs, .cons h t, e => by
    cases h with
    | bl b =>
      cases q : blsD ds with
      | none => unfold blsD at e; rw [q] at e; cases e
      | some cs => unfold blsD at e; rw [q] at e; cases e; rw [Dens.bls t q]; rfl
    | _ => cases e
def oAll : Op1 := fun a st => match a with
  | .lst ds => oOf ((blsD ds).map fun bs => bs.all id) st
  | _ => .bad
def oAny : Op1 := fun a st => match a with
  | .lst ds => oOf ((blsD ds).map fun bs => bs.any id) st
  | _ => .bad
theorem cd_all (hc : X.calm = true) : CallR X (.builtin "all") (rC1 (XC X Γ) W oAll) := cr1 fun w env st σ H x a Q r d p => by
  cases a with
  | lst ds =>
    obtain ⟨q, vs, e1, hq, _, t⟩ := d.lst
    have p : Post Den (XC X Γ) W w H σ (oOf ((blsD ds).map fun bs => bs.all id) st) Q := p
    cases e : blsD ds with
    | none => rw [e] at p; exact p.elim
    | some bs =>
      rw [e] at p
      exact ⟨_, cr_all hc, q, bs, by rw [e1], by rw [← t.bls e]; exact SqL.of hq, Post.ok r p (.bl _)⟩
  | _ => exact p.elim
end
end AM
namespace AM
open PySem PySem.Spec PyProof.Rows L2
section
variable {X : Cx} {Γ : Nat → Addr} {W : WX} {e a b c o : Expr} {es : List Expr} {f fa fb fc : EF} {fs : EFs} {pos apos : Pos} {name : Str} {id : String}
abbrev SOp1 := Str → D → Sto → Res D
abbrev SOp0 := Str → Sto → Res D
def kM1 (k : SOp1) (fb : EF) (env : AEnv) : D → Sto → Res D := fun a st1 => match a with
  | .str s => (fb env st1).bind fun b st2 => k s b st2
  | _ => .bad
def dM1 (k : SOp1) (fa fb : EF) : EF := fun env st => (fa env st).bind (kM1 k fb env)
def kM0 (k : SOp0) : D → Sto → Res D := fun a st1 => match a with
  | .str s => k s st1
  | _ => .bad
def dM0 (k : SOp0) (fa : EF) : EF := fun env st => (fa env st).bind (kM0 k)
def kJ (acc : Str) (k : Str → AEnv → Sto → Res D) (env : AEnv) : D → Sto → Res D := fun d st => match d with
  | .str y => if (acc ++ y).length ≤ sizeLine then k (acc ++ y) env st else .bad
  | _ => .bad
def dJs : List EF → Str → AEnv → Sto → Res D
  | [], acc => fun _ st => .ok (.str acc) st
  | f :: fs, acc => fun env st => (f env st).bind (kJ acc (dJs fs) env)
inductive PDJ (X : Cx) (Γ : Nat → Addr) (W : WX) : List Expr → List EF → Prop where
  | nil : PDJ X Γ W [] []
  | cons {e : Expr} {f : EF} {es : List Expr} {fs : List EF} (h : PE X e (tD (XC X Γ) W f)) (r : PDJ X Γ W es fs) : PDJ X Γ W (e :: es) (f :: fs)
end
end AM
namespace AM
open PySem PySem.Spec PyProof.Rows L2
structure ExtS (K : Ct) (w : Wd) (H : Hp) (w' : Wd) (H' : Hp) : Prop where
  pre : ∃ l, w'.ρ = w.ρ ++ l
  keep : ∀ a o, H a = some o → a ∉ w.ρ → some a ∉ w.O → H' a = some o ∧ a ∉ w'.ρ ∧ some a ∉ w'.O
  res : ∀ a, w'.R a → w.R a ∨ H a = none
  there : ∀ a o, H a = some o → ∃ o', H' a = some o'
  tups : ∀ a vs, SqT K.K H a vs → SqT K.K H' a vs
  resK : ∀ a, w.R a → w'.R a
section
variable {K : Ct} {w w' w2 : Wd} {env env' : AEnv} {st st' : Sto} {σ σ' : St} {H H' H2 : Hp}
theorem ExtS.refl : ExtS K w H w H := ⟨⟨[], by simp⟩, fun _ _ h n m => ⟨h, n, m⟩, fun _ h => .inl h, fun _ o h => ⟨o, h⟩, fun _ _ h => h, fun _ h => h⟩
theorem ExtS.trans (a : ExtS K w H w' H') (b : ExtS K w' H' w2 H2) : ExtS K w H w2 H2 := by
  obtain ⟨l, e⟩ := a.pre
  obtain ⟨l2, e2⟩ := b.pre
  refine ⟨⟨l ++ l2, by rw [e2, e, List.append_assoc]⟩, fun x o h n m => ?_, fun x h => ?_, fun x o h => ?_, fun x vs h => b.tups x vs (a.tups x vs h), fun x h => b.resK x (a.resK x h)⟩
  · obtain ⟨h1, n1, m1⟩ := a.keep x o h n m
    exact b.keep x o h1 n1 m1
  · rcases b.res x h with q | q
    · exact a.res x q
    · cases z : H x with
      | none => exact .inr rfl
      | some o =>
        obtain ⟨o', e⟩ := a.there x o z
        rw [q] at e; cases e
  · obtain ⟨o', e⟩ := a.there x o h
    exact b.there x o' e
theorem ExtS.hd (a : ExtS K w H w' H') {n : Nat} {x : Addr} (h : w.ρ[n]? = some x) : w'.ρ[n]? = some x := by
  obtain ⟨l, e⟩ := a.pre
  rw [e, List.getElem?_append_left (List.getElem?_eq_some_iff.mp h).1]
  exact h
mutual
theorem Den.monoS (x : ExtS K w H w' H') : ∀ {v : V} {d : D}, Den K w.ρ w.S H v d → Den K w'.ρ w'.S H' v d
  | _, _, .non => .non
  | _, _, .bl b => .bl b
  | _, _, .int i => .int i
  | _, _, .str s => .str s
  | _, _, .ty n => .ty n
  | _, _, .cls a => .cls a
  | _, _, .tup h t => .tup (x.tups _ _ h) (Dens.monoS x t)
  | _, _, .lst h n t => by
    obtain ⟨h1, h2, h3⟩ := x.keep _ _ h (fun z => n (.inl z)) (fun z => n (.inr (.inr z)))
    refine .lst h1 (fun z => ?_) (Dens.monoS x t)
    rcases z with z | z | z
    · exact h2 z
    · rcases x.res _ z with q | q
      · exact n (.inr (.inl q))
      · rw [h] at q; cases q
    · exact h3 z
  | _, _, .fz h t => by
    refine .fz (h.imp fun o e n => ?_) (Dens.monoS x t)
    obtain ⟨h1, h2, h3⟩ := x.keep _ _ e (fun z => n (.inl z)) (fun z => n (.inr (.inr z)))
    refine ⟨h1, fun z => ?_⟩
    rcases z with z | z | z
    · exact h2 z
    · rcases x.res _ z with q | q
      · exact n (.inr (.inl q))
      · rw [e] at q; cases q
    · exact h3 z
  | _, _, .ins h n t => by
    obtain ⟨h1, h2, h3⟩ := x.keep _ _ h (fun z => n (.inl z)) (fun z => n (.inr (.inr z)))
    refine .ins h1 (fun z => ?_) (DenF.monoS x t)
    rcases z with z | z | z
    · exact h2 z
    · rcases x.res _ z with q | q
      · exact n (.inr (.inl q))
      · rw [h] at q; cases q
    · exact h3 z
  | _, _, .hd h => .hd (x.hd h)
  | _, _, .exv h t => .exv (h.gen fun a o e n => by
    obtain ⟨h1, h2, h3⟩ := x.keep _ _ e (fun z => n (.inl z)) (fun z => n (.inr (.inr z)))
    refine ⟨h1, fun z => ?_⟩
    rcases z with z | z | z
    · exact h2 z
    · rcases x.res _ z with q | q
      · exact n (.inr (.inl q))
      · rw [e] at q; cases q
    · exact h3 z) (DenF.monoS x t)
  | _, _, .dic h n t => by
    obtain ⟨h1, h2, h3⟩ := x.keep _ _ h (fun z => n (.inl z)) (fun z => n (.inr (.inr z)))
    refine .dic h1 (fun z => ?_) t
    rcases z with z | z | z
    · exact h2 z
    · rcases x.res _ z with q | q
      · exact n (.inr (.inl q))
      · rw [h] at q; cases q
    · exact h3 z
  | _, _, .dk h n t => by
    obtain ⟨h1, h2, h3⟩ := x.keep _ _ h (fun z => n (.inl z)) (fun z => n (.inr (.inr z)))
    refine .dk h1 (fun z => ?_) (DenK.monoS x t)
    rcases z with z | z | z
    · exact h2 z
    · rcases x.res _ z with q | q
      · exact n (.inr (.inl q))
      · rw [h] at q; cases q
    · exact h3 z
  | _, _, .exx h n y t => by
    have mv : ∀ a o, H a = some o → ¬ w.S a → H' a = some o ∧ ¬ w'.S a := fun a o e n => by
      obtain ⟨h1, h2, h3⟩ := x.keep _ _ e (fun z => n (.inl z)) (fun z => n (.inr (.inr z)))
      refine ⟨h1, fun z => ?_⟩
      rcases z with z | z | z
      · exact h2 z
      · rcases x.res _ z with q | q
        · exact n (.inr (.inl q))
        · rw [e] at q; cases q
      · exact h3 z
    exact .exx (mv _ _ h n).1 (mv _ _ h n).2 (y.gen mv) (DenF.monoS x t)
  | _, _, .pin y t => .pin (y.gen fun a o e n => by
      obtain ⟨h1, h2, h3⟩ := x.keep _ _ e (fun z => n (.inl z)) (fun z => n (.inr (.inr z)))
      refine ⟨h1, fun z => ?_⟩
      rcases z with z | z | z
      · exact h2 z
      · rcases x.res _ z with q | q
        · exact n (.inr (.inl q))
        · rw [e] at q; cases q
      · exact h3 z) (Dens.monoS x t)
theorem Dens.monoS (x : ExtS K w H w' H') : ∀ {vs : List V} {ds : List D}, Dens K w.ρ w.S H vs ds → Dens K w'.ρ w'.S H' vs ds
  | _, _, .nil => .nil
  | _, _, .cons h t => .cons (Den.monoS x h) (Dens.monoS x t)
theorem DenF.monoS (x : ExtS K w H w' H') : ∀ {vs : List (Str × V)} {ds : List (Str × D)}, DenF K w.ρ w.S H vs ds → DenF K w'.ρ w'.S H' vs ds
  | _, _, .nil => .nil
  | _, _, .cons h t => .cons (Den.monoS x h) (DenF.monoS x t)
theorem DenK.monoS (x : ExtS K w H w' H') : ∀ {vs : List (Key × V)} {ds : List (Key × D)}, DenK K w.ρ w.S H vs ds → DenK K w'.ρ w'.S H' vs ds
  | _, _, .nil => .nil
  | _, _, .cons h t => .cons (Den.monoS x h) (DenK.monoS x t)
end
theorem CellOk.monoS {a : Addr} {c : Cell} (x : ExtS K w H w' H') (h : CellOk K w.ρ w.S H a c) (e : H' a = H a) : CellOk K w'.ρ w'.S H' a c := by
  cases c with
  | lst ds => obtain ⟨vs, q, t⟩ := h; exact ⟨vs, by rw [e]; exact q, t.monoS x⟩
  | obj C fs => obtain ⟨dx, gs, q, t⟩ := h; exact ⟨dx, gs, by rw [e]; exact q, t.monoS x⟩
  | dct r => obtain ⟨kvs, q, t⟩ := h; exact ⟨kvs, by rw [e]; exact q, t.monoS x⟩
  | tab i q =>
    refine TabC.gen h e fun b o eb n => ?_
    obtain ⟨h1, h2, h3⟩ := x.keep b o eb (fun z => n (.inl z)) fun z => n (.inr (.inr z))
    refine ⟨h1, fun z => ?_⟩
    rcases z with z | z | z
    · exact h2 z
    · rcases x.res b z with z | z
      · exact n (.inr (.inl z))
      · rw [eb] at z; cases z
    · exact h3 z
theorem Ext.toS {ρ' : List Addr} (r : Rel K w env st σ H) (x : Ext K w.ρ H ρ' H') (s : StOk K ρ' (w.at_ ρ').S H' st') : ExtS K w H (w.at_ ρ') H' := by
  refine ⟨x.pre, fun a o h n m => ?_, fun a h => .inl h, fun a o h => ?_, x.tups, fun _ h => h⟩
  · obtain ⟨h1, h2⟩ := x.keep a o h n
    exact ⟨h1, h2, m⟩
  · by_cases hr : a ∈ w.ρ
    · obtain ⟨l, e⟩ := x.pre
      exact s.there (a := a) (by rw [e]; exact List.mem_append_left _ hr)
    · exact ⟨o, (x.keep a o h hr).1⟩
theorem ExtS.toE (x : ExtS K w H w' H') (h : ∀ a, some a ∉ w.O) : Ext K w.ρ H w'.ρ H' := ⟨x.pre, fun a o e n => let ⟨h1, h2, _⟩ := x.keep a o e n (h a); ⟨h1, h2⟩, x.tups⟩
end
def PostS (K : Ct) (W : WX) (w : Wd) (H : Hp) (σ0 : St) (r : SR) (D : Ends) : Prop := match r with
  | .nx env' st' => ∀ w' σ' H', Rel K w' env' st' σ' H' → ExtS K w H w' H' → D.nx σ' H'
  | .bk env' st' => ∀ w' σ' H', Rel K w' env' st' σ' H' → ExtS K w H w' H' → D.bk σ' H'
  | .ct env' st' => ∀ w' σ' H', Rel K w' env' st' σ' H' → ExtS K w H w' H' → D.ct σ' H'
  | .rt d st' => ∀ w' H' v, StOk K w'.ρ w'.S H' st' → ExtS K w H w' H' → Den K w'.ρ w'.S H' v d → D.rt v H'
  | .exc e st' => ∀ w' σ' H' d gs, StOk K w'.ρ w'.S H' st' → ExtS K w H w' H' → XdAt H' w'.S d gs → DenF K w'.ρ w'.S H' gs e.fs → W (.ref (K.Γ e.c)) d σ' H'
  | .bad => False
def tS (K : Ct) (W : WX) (g : SF) : TS := fun D σ H => ∃ w env st, Rel K w env st σ H ∧ PostS K W w H σ (g env st) D
def SR.bind (r : SR) (k : AEnv → Sto → SR) : SR := match r with
  | .nx env st => k env st
  | r => r
def Res.then {α : Type} (r : Res α) (k : α → Sto → SR) : SR := match r with
  | .ok a st => k a st
  | .exc e st => .exc e st
  | .bad => .bad
section
variable {K : Ct} {W : WX} {w w' : Wd} {env : AEnv} {st : Sto} {σ σ' : St} {H H' : Hp} {D D' : Ends}
theorem PostS.back {r : SR} (x : ExtS K w H w' H') (h : PostS K W w H σ r D) : PostS K W w' H' σ' r D := by
  cases r with
  | nx e s => exact fun w' σ' H' h1 h2 => h w' σ' H' h1 (x.trans h2)
  | bk e s => exact fun w' σ' H' h1 h2 => h w' σ' H' h1 (x.trans h2)
  | ct e s => exact fun w' σ' H' h1 h2 => h w' σ' H' h1 (x.trans h2)
  | rt d s => exact fun w' H' v h1 h2 h3 => h w' H' v h1 (x.trans h2) h3
  | exc e s => exact fun w' σ' H' d gs h1 h2 h3 h4 => h w' σ' H' d gs h1 (x.trans h2) h3 h4
  | bad => exact h
theorem PostS.bind {r : SR} {k : AEnv → Sto → SR} (h : PostS K W w H σ (r.bind k) D) : PostS K W w H σ r { D with nx := tS K W k D } := by
  cases r with
  | nx e s => exact fun w' σ' H' h1 h2 => ⟨w', e, s, h1, PostS.back h2 h⟩
  | bk e s => exact h
  | ct e s => exact h
  | rt d s => exact h
  | exc e s => exact h
  | bad => exact h
theorem Post.then {α β : Type} {Da : DnT β α} {f : Res α} {k : α → Sto → SR} (r : Rel K w env st σ H) (h : PostS K W w H σ (f.then k) D) :
    Post Da K W w H σ f fun x H1 => ∃ w1 st1 a, Rel K w1 env st1 σ H1 ∧ ExtS K w H w1 H1 ∧ Da K w1.ρ w1.S H1 x a ∧ PostS K W w1 H1 σ (k a st1) D := by
  cases f with
  | ok a st1 =>
    intro ρ' H' x h1 h2 h3
    have z := h2.toS r h1
    exact ⟨w.at_ ρ', st1, a, r.ext h2 h1, z, h3, PostS.back z h⟩
  | exc e st1 =>
    intro ρ' H' d gs h1 h2 h3 h4
    exact h (w.at_ ρ') σ H' d gs h1 (h2.toS r h1) h3 h4
  | bad => exact h
theorem t1S {α β : Type} {Da : DnT β α} {f : AEnv → Sto → Res α} {k : AEnv → α → Sto → SR} (h : tS K W (fun env st => (f env st).then (k env)) D σ H) :
    tG Da K W f σ H fun x H1 => ∃ w env st a, Rel K w env st σ H1 ∧ Da K w.ρ w.S H1 x a ∧ PostS K W w H1 σ (k env a st) D := by
  obtain ⟨w, env, st, r, p⟩ := h
  refine ⟨w, env, st, r, (Post.then (Da := Da) r p).mono ?_⟩
  rintro x H1 ⟨w1, st1, a, r1, _, d, p1⟩
  exact ⟨w1, env, st1, a, r1, d, p1⟩
theorem PostS.nxt (r : Rel K w env st σ H) (h : PostS K W w H σ' (.nx env st) D) : D.nx σ H := h w σ H r ExtS.refl
end
section
variable {K : Ct} {w w' : Wd} {env : AEnv} {st : Sto} {σ : St} {H : Hp} {v : V} {d : D} {i : Nat}
def Wd.free (w : Wd) (i : Nat) : Wd := ⟨w.ρ, w.R, w.O.set i none⟩
theorem free_S (a : Addr) (h : (w.free i).S a) : w.S a := by
  rcases h with h | h | h
  · exact .inl h
  · exact .inr (.inl h)
  · refine .inr (.inr ?_)
    have h : some a ∈ w.O.set i none := h
    rcases List.mem_or_eq_of_mem_set h with q | q
    · exact q
    · cases q
theorem free_ext (r : Rel K w env st σ H) : ExtS K w H (w.free i) H := ⟨⟨[], by simp [Wd.free]⟩, fun a o h n m => ⟨h, n, fun z => by
  have z : some a ∈ w.O.set i none := z
  rcases List.mem_or_eq_of_mem_set z with q | q
  · exact m q
  · cases q⟩, fun a h => .inl h, fun a o h => ⟨o, h⟩, fun _ _ h => h, fun _ h => h⟩
theorem Den.free (h : Den K w.ρ w.S H v d) : Den K (w.free i).ρ (w.free i).S H v d := h.mono Ext.refl (fun a h => .inl (free_S a h)) fun a h => .inl h
theorem Dens.free {vs : List V} {ds : List D} (h : Dens K w.ρ w.S H vs ds) : Dens K (w.free i).ρ (w.free i).S H vs ds := h.mono Ext.refl (fun a h => .inl (free_S a h)) fun a h => .inl h
theorem Rel.freeSto (r : Rel K w env st σ H) : StOk K (w.free i).ρ (w.free i).S H st := r.sto.ext Ext.refl (fun a h => .inl (free_S a h)) (fun a h => .inl h) fun _ _ => rfl
theorem get_set {α : Type} {l : List α} {i j : Nat} {a b : α} (h : (l.set i a)[j]? = some b) : (j = i ∧ a = b ∧ i < l.length) ∨ (j ≠ i ∧ l[j]? = some b) := by
  by_cases e : i = j
  · subst e
    by_cases hi : i < l.length
    · rw [List.getElem?_set_self hi] at h
      exact .inl ⟨rfl, Option.some.inj h, hi⟩
    · rw [List.getElem?_eq_none (by rw [List.length_set]; omega)] at h; cases h
  · rw [List.getElem?_set_ne e] at h
    exact .inr ⟨fun z => e z.symm, h⟩
theorem Rel.setSh (r : Rel K w env st σ H) (h : Den K w.ρ w.S H v d) : Rel K (w.free i) (env.set i (.sh d)) st (σ.set i (some v)) H where
  sto := r.freeSto
  res := r.res
  len := by rw [List.length_set, List.length_set, r.len]
  lenO := by show (w.O.set i none).length = _; rw [List.length_set, List.length_set, r.lenO]
  slot := fun j v' s o h1 h2 h3 => by
    rcases get_set h1 with ⟨rfl, rfl, hi⟩ | ⟨hj, h1⟩
    · rcases get_set h2 with ⟨_, rfl, _⟩ | ⟨q, _⟩
      · rcases get_set (show (w.O.set j none)[j]? = some o from h3) with ⟨_, rfl, _⟩ | ⟨q, _⟩
        · exact ⟨rfl, v, rfl, h.free⟩
        · exact absurd rfl q
      · exact absurd rfl q
    · rcases get_set h2 with ⟨q, _⟩ | ⟨_, h2⟩
      · exact absurd q hj
      · rcases get_set (show (w.O.set i none)[j]? = some o from h3) with ⟨q, _⟩ | ⟨_, h3⟩
        · exact absurd q hj
        · have q := r.slot j v' s o h1 h2 h3
          cases s with
          | un => exact q
          | sh d' => obtain ⟨e, x, ex, dx⟩ := q; exact ⟨e, x, ex, dx.free⟩
          | own ds => obtain ⟨a, vs, e1, e2, e3, e4⟩ := q; exact ⟨a, vs, e1, e2, e3, e4.free⟩
  ndO := fun j k a h1 h2 => by
    rcases get_set (show (w.O.set i none)[j]? = some (some a) from h1) with ⟨_, q, _⟩ | ⟨_, h1⟩
    · cases q
    · rcases get_set (show (w.O.set i none)[k]? = some (some a) from h2) with ⟨_, q, _⟩ | ⟨_, h2⟩
      · cases q
      · exact r.ndO j k a h1 h2
  disO := fun a h => by
    rcases List.mem_or_eq_of_mem_set (show some a ∈ w.O.set i none from h) with q | q
    · exact r.disO a q
    · cases q
theorem Rel.setOwn {p : Addr} {vs : List V} {ds : List D} (r : Rel K w env st σ H) (hp : H p = none) (h : Dens K w.ρ w.S H vs ds) : Rel K ⟨w.ρ, w.R, w.O.set i (some p)⟩ (env.set i (.own ds)) st (σ.set i (some (V.ref p))) (upd H p (.lst vs)) := by
  have nS : ¬ w.S p := r.fresh hp
  have hS : ∀ a, (⟨w.ρ, w.R, w.O.set i (some p)⟩ : Wd).S a → w.S a ∨ H a = none := fun a q => by
    rcases q with q | q | q
    · exact .inl (.inl q)
    · exact .inl (.inr (.inl q))
    · rcases List.mem_or_eq_of_mem_set (show some a ∈ w.O.set i (some p) from q) with z | z
      · exact .inl (.inr (.inr z))
      · cases z; exact .inr hp
  have m : ∀ {v d}, Den K w.ρ w.S H v d → Den K w.ρ (⟨w.ρ, w.R, w.O.set i (some p)⟩ : Wd).S (upd H p (.lst vs)) v d := fun h => h.mono (Ext.new hp) hS fun a h => .inl h
  have ms : ∀ {v d}, Dens K w.ρ w.S H v d → Dens K w.ρ (⟨w.ρ, w.R, w.O.set i (some p)⟩ : Wd).S (upd H p (.lst vs)) v d := fun h => h.mono (Ext.new hp) hS fun a h => .inl h
  have ne : ∀ a o, H a = some o → upd H p (.lst vs) a = H a := fun a o e => upd_ne (ne_of_none e hp)
  refine ⟨r.sto.ext (Ext.new hp) hS (fun a h => .inl h) fun a h => ?_, fun a h => ?_, by rw [List.length_set, List.length_set, r.len], by show (w.O.set i (some p)).length = _; rw [List.length_set, List.length_set, r.lenO], fun j v' s o h1 h2 h3 => ?_, fun j k a h1 h2 => ?_, fun a h => ?_⟩
  · obtain ⟨o, e⟩ := r.sto.there h
    exact ne a o e
  · obtain ⟨⟨o, e⟩, n⟩ := r.res a h
    exact ⟨⟨o, by rw [ne a o e]; exact e⟩, n⟩
  · rcases get_set h1 with ⟨rfl, rfl, hi⟩ | ⟨hj, h1⟩
    · rcases get_set h2 with ⟨_, rfl, _⟩ | ⟨q, _⟩
      · rcases get_set (show (w.O.set j (some p))[j]? = some o from h3) with ⟨_, rfl, _⟩ | ⟨q, _⟩
        · exact ⟨p, vs, rfl, rfl, upd_same, ms h⟩
        · exact absurd rfl q
      · exact absurd rfl q
    · rcases get_set h2 with ⟨q, _⟩ | ⟨_, h2⟩
      · exact absurd q hj
      · rcases get_set (show (w.O.set i (some p))[j]? = some o from h3) with ⟨q, _⟩ | ⟨_, h3⟩
        · exact absurd q hj
        · have q := r.slot j v' s o h1 h2 h3
          cases s with
          | un => exact q
          | sh d' => obtain ⟨e, x, ex, dx⟩ := q; exact ⟨e, x, ex, m dx⟩
          | own ds => obtain ⟨a, us, e1, e2, e3, e4⟩ := q; exact ⟨a, us, e1, e2, by rw [ne a _ e3]; exact e3, ms e4⟩
  · have np : ∀ k a, w.O[k]? = some (some a) → a ≠ p := fun k a e z => nS (.inr (.inr (by rw [← z]; exact List.mem_of_getElem? e)))
    rcases get_set (show (w.O.set i (some p))[j]? = some (some a) from h1) with ⟨e1, q, _⟩ | ⟨_, h1⟩
    · cases q
      rcases get_set (show (w.O.set i (some p))[k]? = some (some p) from h2) with ⟨e2, _, _⟩ | ⟨_, h2⟩
      · rw [e1, e2]
      · exact absurd rfl (np k p h2)
    · rcases get_set (show (w.O.set i (some p))[k]? = some (some a) from h2) with ⟨_, q, _⟩ | ⟨_, h2⟩
      · cases q; exact absurd rfl (np j p h1)
      · exact r.ndO j k a h1 h2
  · rcases List.mem_or_eq_of_mem_set (show some a ∈ w.O.set i (some p) from h) with q | q
    · exact r.disO a q
    · cases q
      exact ⟨fun z => nS (.inl z), fun z => nS (.inr (.inl z))⟩
theorem own_ext {p : Addr} {vs : List V} (r : Rel K w env st σ H) (hp : H p = none) : ExtS K w H ⟨w.ρ, w.R, w.O.set i (some p)⟩ (upd H p (.lst vs)) :=
  ⟨⟨[], by simp⟩, fun a o h n m => ⟨by rw [upd_ne (ne_of_none h hp)]; exact h, n, fun z => by
    rcases List.mem_or_eq_of_mem_set (show some a ∈ w.O.set i (some p) from z) with q | q
    · exact m q
    · cases q; rw [hp] at h; cases h⟩, fun a h => .inl h, fun a o h => ⟨o, by rw [upd_ne (ne_of_none h hp)]; exact h⟩, fun _ _ h => SqT.upd hp h, fun _ h => h⟩
theorem Rel.putOwn {a : Addr} {vs ws : List V} {ds es : List D} (r : Rel K w env st σ H) (hi : env[i]? = some (.own ds)) (ho : w.O[i]? = some (some a)) (hH : H a = some (.lst vs)) (h : Dens K w.ρ w.S H ws es) :
    Rel K w (env.set i (.own es)) st σ (upd H a (.lst ws)) ∧ ExtS K w H w (upd H a (.lst ws)) := by
  have hm : some a ∈ w.O := List.mem_of_getElem? ho
  obtain ⟨nρ, nR⟩ := r.disO a hm
  have tu : ∀ b us, SqT K.K H b us → SqT K.K (upd H a (.lst ws)) b us := fun b us q => by
    rcases q with (q | ⟨o, q⟩) | q
    · exact .inl (.inl (by rw [upd_ne (ne_of q hH (by intro z; cases z))]; exact q))
    · exact .inl (.inr ⟨o, by rw [upd_ne (ne_of q hH (by intro z; cases z))]; exact q⟩)
    · exact .inr q
  have X : ExtS K w H w (upd H a (.lst ws)) := ⟨⟨[], by simp⟩, fun b o h n m => ⟨by rw [upd_ne (fun z => m (by rw [z]; exact hm))]; exact h, n, m⟩, fun b h => .inl h, fun b o h => by
    by_cases e : b = a
    · exact ⟨_, by rw [e]; exact upd_same⟩
    · exact ⟨o, by rw [upd_ne e]; exact h⟩, tu, fun _ h => h⟩
  refine ⟨⟨⟨r.sto.len, r.sto.nd, fun n b c h1 h2 => (r.sto.cell n b c h1 h2).monoS X (upd_ne fun z => nρ (by rw [← z]; exact List.mem_of_getElem? h1))⟩, fun b q => ?_, by rw [List.length_set]; exact r.len, by rw [List.length_set]; exact r.lenO, fun j v' s o h1 h2 h3 => ?_, r.ndO, r.disO⟩, X⟩
  · obtain ⟨⟨o, e⟩, n⟩ := r.res b q
    exact ⟨X.there b o e, n⟩
  · rcases get_set h2 with ⟨rfl, rfl, _⟩ | ⟨hj, h2⟩
    · have q := r.slot j v' _ o h1 hi h3
      rw [ho] at h3
      cases h3
      obtain ⟨b, us, e1, e2, e3, _⟩ := q
      cases e1
      exact ⟨a, ws, rfl, e2, upd_same, h.monoS X⟩
    · have q := r.slot j v' s o h1 h2 h3
      cases s with
      | un => exact q
      | sh d' => obtain ⟨e, x, ex, dx⟩ := q; exact ⟨e, x, ex, dx.monoS X⟩
      | own ds' =>
        obtain ⟨b, us, e1, e2, e3, e4⟩ := q
        subst e1
        have nb : b ≠ a := fun z => hj (r.ndO j i b h3 (by rw [z]; exact ho))
        exact ⟨b, us, rfl, e2, by rw [upd_ne nb]; exact e3, e4.monoS X⟩
end
end AM
namespace AM
open PySem PySem.Spec PyProof.Rows L2
section
variable {X : Cx} {Γ : Nat → Addr} {W : WX} {e a b c : Expr} {f fa fb : EF} {s : Stmt} {ss rest : List Stmt} {g h : SF} {t : TF} {pos : Pos}
def sSeq (g h : SF) : SF := fun env st => (g env st).bind h
def sPass : SF := fun env st => .nx env st
theorem pssd_cons (h1 : PS X s (tS (XC X Γ) W g)) (h2 : PSs X rest (tS (XC X Γ) W h)) : PSs X (s :: rest) (tS (XC X Γ) W (sSeq g h)) := pssImp (pss_cons h1 h2) fun D σ H ⟨w, env, st, r, p⟩ => ⟨w, env, st, r, p.bind⟩
theorem pssd_one (h1 : PS X s (tS (XC X Γ) W g)) : PSs X [s] (tS (XC X Γ) W g) := pss_one h1
theorem pssd_nil : PSs X [] (tS (XC X Γ) W sPass) := pssImp pss_nil fun D σ H ⟨w, env, st, r, p⟩ => p.nxt r
def sRet (f : EF) : SF := fun env st => (f env st).then fun d st => .rt d st
theorem psd_ret (he : PE X e (tD (XC X Γ) W f)) : PS X (.Return (some e) pos) (tS (XC X Γ) W (sRet f)) := psImp (ps_ret he) fun D σ H h => by
  obtain ⟨w, env, st, r, p⟩ := t1S (Da := Den) (k := fun env d st => .rt d st) h
  refine ⟨w, env, st, r, p.mono ?_⟩
  rintro x H1 ⟨w1, env1, st1, d, r1, d1, p1⟩
  exact p1 w1 H1 x r1.sto ExtS.refl d1
def sExpr (f : EF) : SF := fun env st => (f env st).then fun _ st => .nx env st
def sIf (t : TF) (g h : SF) : SF := fun env st => (t env st).then fun b st => if b = true then g env st else h env st
theorem psd_if {p q : List Stmt} (hc : PT X c (tT (XC X Γ) W t)) (ha : PSs X p (tS (XC X Γ) W g)) (hb : PSs X q (tS (XC X Γ) W h)) : PS X (.If c p q pos) (tS (XC X Γ) W (sIf t g h)) := psImp (ps_if hc ha hb) fun D σ H h' => by
  obtain ⟨w, env, st, r, p⟩ := t1S (Da := dnB) (k := fun env b st => if b = true then g env st else h env st) h'
  refine ⟨w, env, st, r, p.mono ?_⟩
  rintro x H1 ⟨w1, env1, st1, d, r1, d1, p1⟩
  cases (show x = d from d1)
  cases x with
  | true =>
    rw [if_pos rfl] at p1 ⊢
    exact ⟨w1, env1, st1, r1, p1⟩
  | false =>
    rw [if_neg Bool.false_ne_true] at p1 ⊢
    exact ⟨w1, env1, st1, r1, p1⟩
abbrev GF := D → AEnv → Sto → SR
def tgG (K : Ct) (W : WX) (g : GF) : TG := fun v σ H Q => ∃ w env st d, Rel K w env st σ H ∧ Den K w.ρ w.S H v d ∧ PostS K W w H σ (g d env st) { nx := Q, rt := fun _ _ => False }
def gNm (i : Nat) : GF := fun d env st => .nx (env.set i (.sh d)) st
theorem pgd_name {i : Nat} {x : Str} (hN : X.N.Nodup) (hi : X.N[i]? = some x := by rfl) (hx : Loc X.env.scope x := by first | exact Or.inl rfl | exact Or.inr rfl) (hf : X.fn x = true ∨ X.env.scope.names.lookup x = some .local := by first | exact .inl rfl | exact .inr rfl) : PG X (.Name x pos) (tgG (XC X Γ) W (gNm i)) := by
  refine ⟨fun pins s σ H v u Q I rv h => (pg_name hN hi hx hf).run pins s σ H v u Q I rv ?_⟩
  obtain ⟨w, env, st, d, r, hd, p⟩ := h
  exact p (w.free i) _ H (r.setSh hd) (free_ext r)
def sSet (i : Nat) (f : EF) : SF := fun env st => (f env st).then fun d st => .nx (env.set i (.sh d)) st
theorem psd_set {i : Nat} {x : Str} {pos' : Pos} (hN : X.N.Nodup) (he : PE X e (tD (XC X Γ) W f)) (hi : X.N[i]? = some x := by rfl) (hx : Loc X.env.scope x := by first | exact Or.inl rfl | exact Or.inr rfl) (hs : swapsWith e (some (.Name x pos')) pos.line X.env = pure false := by rfl)
    (hf : X.fn x = true ∨ X.env.scope.names.lookup x = some .local := by first | exact .inl rfl | exact .inr rfl) : PS X (.Assign [.Name x pos'] e pos) (tS (XC X Γ) W (sSet i f)) := psImp (ps_set hN hi hx he hs hf) fun D σ H h => by
  obtain ⟨w, env, st, r, p⟩ := t1S (Da := Den) (k := fun env d st => .nx (env.set i (.sh d)) st) h
  refine ⟨w, env, st, r, p.mono ?_⟩
  rintro x H1 ⟨w1, env1, st1, d, r1, d1, p1⟩
  exact p1 (w1.free i) _ H1 (r1.setSh d1) (free_ext r1)
def onlyNx : SR → SR
  | .nx env st => .nx env st
  | .exc e st => .exc e st
  | _ => .bad
theorem PostS.onlyNx {K : Ct} {w : Wd} {H : Hp} {σ : St} {r : SR} {D : Ends} (h : PostS K W w H σ (AM.onlyNx r) D) : PostS K W w H σ r { nx := D.nx, rt := fun _ _ => False } := by
  cases r with
  | nx e s => exact h
  | exc e s => exact h
  | _ => exact h.elim
def sAsg (f : EF) (g : GF) : SF := fun env st => (f env st).then fun d st => onlyNx (g d env st)
theorem psd_asg {tg : Expr} {g : GF} (he : PE X e (tD (XC X Γ) W f)) (hg : PG X tg (tgG (XC X Γ) W g)) (hs : swapsWithSole [tg] e pos.line X.env = pure false := by rfl) (hw : swappedStores [tg] e X.env = pure none := by rfl)
    (h1 : (assignEach [tg] X.env).map (·.2) = [assign tg X.env] := by rfl) : PS X (.Assign [tg] e pos) (tS (XC X Γ) W (sAsg f g)) := psImp (ps_asg he hg hs hw h1) fun D σ H h => by
  obtain ⟨w, env, st, r, p⟩ := t1S (Da := Den) (k := fun env d st => onlyNx (g d env st)) h
  refine ⟨w, env, st, r, p.mono ?_⟩
  rintro x H1 ⟨w1, env1, st1, d, r1, d1, p1⟩
  exact ⟨w1, env1, st1, d, r1, d1, (PostS.onlyNx p1)⟩
abbrev GFs := List D → AEnv → Sto → SR
def tgGs (K : Ct) (W : WX) (g : GFs) : TGs := fun vs σ H Q => ∃ w env st ds, Rel K w env st σ H ∧ Dens K w.ρ w.S H vs ds ∧ PostS K W w H σ (g ds env st) { nx := Q, rt := fun _ _ => False }
def gNilD : GFs := fun ds env st => match ds with
  | [] => .nx env st
  | _ => .bad
def gConsD (g : GF) (gs : GFs) : GFs := fun ds env st => match ds with
  | d :: ds => (onlyNx (g d env st)).bind fun env st => gs ds env st
  | [] => .bad
theorem pgsd_nil : PGs X [] (tgGs (XC X Γ) W gNilD) := by
  refine ⟨fun pins s σ H v u Q I rv h => pgs_nil.run pins s σ H v u Q I rv ?_⟩
  obtain ⟨w, env, st, ds, r, hd, p⟩ := h
  cases hd with
  | nil => exact ⟨rfl, p.nxt r⟩
  | cons _ _ => exact p.elim
theorem pgsd_cons {es : List Expr} {g : GF} {gs : GFs} (h1 : PG X e (tgG (XC X Γ) W g)) (h2 : PGs X es (tgGs (XC X Γ) W gs)) (hs : (assignEach (e :: es) X.env).map (·.2) = assign e X.env :: (assignEach es X.env).map (·.2) := by rfl) : PGs X (e :: es) (tgGs (XC X Γ) W (gConsD g gs)) := by
  refine ⟨fun pins s σ H v u Q I rv h => (pgs_cons h1 h2 hs).run pins s σ H v u Q I rv ?_⟩
  obtain ⟨w, env, st, ds, r, hd, p⟩ := h
  cases hd with
  | nil => exact p.elim
  | @cons v d vs ds hd ht =>
    refine ⟨v, vs, rfl, w, env, st, d, r, hd, ?_⟩
    have p : PostS (XC X Γ) W w H σ ((onlyNx (g d env st)).bind fun env st => gs ds env st) { nx := Q, rt := fun _ _ => False } := p
    cases q : g d env st with
    | nx e1 s1 =>
      rw [q] at p
      intro w' σ' H' r1 x1
      exact ⟨w', e1, s1, ds, r1, ht.monoS x1, PostS.back x1 p⟩
    | exc e1 s1 => rw [q] at p; exact p
    | _ => rw [q] at p; exact p.elim
def gTupD (n : Nat) (gs : GFs) : GF := fun d env st => match d with
  | .tup ds => if ds.length = n then gs ds env st else .bad
  | _ => .bad
theorem pgd_tup {es : List Expr} {k n : Nat} {gs : GFs} (hc : X.calm = true) (h : PGs X es (tgGs (XC X Γ) W gs)) (hn : (assignEach es X.env).length = n := by rfl) (hst : (assignEach es X.env).findIdx? (·.1) = none := by rfl) :
    PG X (.Tuple es k pos) (tgG (XC X Γ) W (gTupD n gs)) := by
  refine ⟨fun pins s σ H v u Q I rv h' => (pg_tup hc h hn hst).run pins s σ H v u Q I rv ?_⟩
  obtain ⟨w, env, st, d, r, hd, p⟩ := h'
  cases d with
  | tup ds =>
    obtain ⟨a, vs, e1, hq, t⟩ := DenB.tup (w := w) hd.b
    have p : PostS (XC X Γ) W w H σ (if ds.length = n then gs ds env st else .bad) { nx := Q, rt := fun _ _ => False } := p
    split at p
    · rename_i q
      exact ⟨a, vs, e1, hq, by rw [t.length, q], w, env, st, ds, r, t, p⟩
    · exact p.elim
  | _ => exact p.elim
def tF (K : Ct) (W : WX) (f : AEnv → Sto → Res (List D)) : TE := fun σ H Q => ∃ w env st, Rel K w env st σ H ∧ (match f env st with
  | .ok ds st' => ∀ ρ' H' p vs, StOk K ρ' (w.at_ ρ').S H' st' → Ext K w.ρ H ρ' H' → H' p = none → Dens K ρ' (w.at_ ρ').S H' vs ds → Q (.ref p) (upd H' p (.lst vs))
  | .exc e st' => ∀ ρ' H' d gs, StOk K ρ' (w.at_ ρ').S H' st' → Ext K w.ρ H ρ' H' → XdAt H' (w.at_ ρ').S d gs → DenF K ρ' (w.at_ ρ').S H' gs e.fs → W (.ref (K.Γ e.c)) d σ H'
  | .bad => False)
def dF (f : AEnv → Sto → Res (List D)) : EF := fun env st => (f env st).bind fun ds st => .ok (.lst ds) st
theorem pdf {f : AEnv → Sto → Res (List D)} (h : PE X e (tF (XC X Γ) W f)) : PE X e (tD (XC X Γ) W (dF f)) := peImp h fun σ H Q ⟨w, env, st, r, p⟩ => ⟨w, env, st, r, by
  unfold dF at p
  cases q : f env st with
  | ok ds st' =>
    rw [q] at p
    intro ρ' H' pp vs h1 h2 h3 h4
    exact Post.newLst (r.ext h2 h1) (Post.back h2 p) h4 h3
  | exc x st' => rw [q] at p; exact p
  | bad => rw [q] at p; exact p⟩
def dLstF (fs : EFs) : AEnv → Sto → Res (List D) := fun env st => (fs env st).bind fun ds st => if ds.length ≤ sizeLine then .ok ds st else .bad
theorem pf_lst {es : List Expr} {fs : EFs} (h : PA X es (tDs (XC X Γ) W fs)) : PE X (.List es pos) (tF (XC X Γ) W (dLstF fs)) := peImp (pe_lst h) fun σ H Q ⟨w, env, st, r, p⟩ => ⟨w, env, st, r, by
  unfold dLstF at p
  cases q : fs env st with
  | ok ds st' =>
    rw [q] at p
    intro ρ' H' xs h1 h2 h3
    by_cases hz : ds.length ≤ sizeLine
    · have e : (Res.ok ds st').bind (fun ds st => if ds.length ≤ sizeLine then Res.ok ds st else .bad) = .ok ds st' := if_pos hz
      rw [e] at p
      exact ⟨by rw [h3.length]; exact hz, fun pp hp => p ρ' H' pp xs h1 h2 hp h3⟩
    · have e : (Res.ok ds st').bind (fun ds st => if ds.length ≤ sizeLine then Res.ok ds st else .bad) = .bad := if_neg hz
      rw [e] at p
      exact p.elim
  | exc x st' => rw [q] at p; exact p
  | bad => rw [q] at p; exact p⟩
def sOwn (i : Nat) (f : AEnv → Sto → Res (List D)) : SF := fun env st => (f env st).then fun ds st => .nx (env.set i (.own ds)) st
theorem psd_own {i : Nat} {x : Str} {pos' : Pos} {f : AEnv → Sto → Res (List D)} (hN : X.N.Nodup) (he : PE X e (tF (XC X Γ) W f)) (hi : X.N[i]? = some x := by rfl) (hx : Loc X.env.scope x := by first | exact Or.inl rfl | exact Or.inr rfl) (hs : swapsWith e (some (.Name x pos')) pos.line X.env = pure false := by rfl)
    (hf : X.fn x = true ∨ X.env.scope.names.lookup x = some .local := by first | exact .inl rfl | exact .inr rfl) : PS X (.Assign [.Name x pos'] e pos) (tS (XC X Γ) W (sOwn i f)) := psImp (ps_set hN hi hx he hs hf) fun D σ H ⟨w, env, st, r, p⟩ => ⟨w, env, st, r, by
  unfold sOwn at p
  cases q : f env st with
  | ok ds st' =>
    rw [q] at p
    intro ρ' H' pp vs h1 h2 h3 h4
    have r1 := r.ext h2 h1
    exact p _ _ _ (Rel.setOwn (i := i) r1 h3 h4) ((h2.toS r h1).trans (own_ext r1 h3))
  | exc x st' =>
    rw [q] at p
    intro ρ' H' d gs h1 h2 h3 h4
    exact p (w.at_ ρ') σ H' d gs h1 (h2.toS r h1) h3 h4
  | bad => rw [q] at p; exact p⟩
def frz (i : Nat) (g : SF) : SF := fun env st => match env[i]? with
  | some (.own ds) => g (env.set i (.sh (.lst ds))) st
  | _ => g env st
def sApp (i : Nat) (f : EF) : SF := fun env st => match env[i]? with
  | some (.own ds) => (f env st).then fun d st => if ds.length < sizeLine then .nx (env.set i (.own (ds ++ [d]))) st else .bad
  | _ => .bad
theorem psd_app (i : Nat) {x : Str} {xp ap pos2 : Pos} (he : PE X e (tD (XC X Γ) W f)) (hN : X.N[i]? = some x := by rfl) (hv : Vis X.env.scope x := by first | exact Or.inl rfl | exact Or.inr (Or.inl rfl) | exact Or.inr (Or.inr rfl)) (hd : (x == ("__debug__" : Str)) = false := by decide) (hcd : (x == ("__classdict__" : Str)) = false := by decide)
    (hbase : attributeBase (.Name x xp) "append" X.env (eval (.Name x xp) X.env) = eval (.Name x xp) X.env := by rfl)
    (hfew : ((backTo pos (starEach (e :: []) X.env)).all (fun x => !x.1) && (backToKw pos (keywordEach [] X.env)).all (fun x => x.1.isSome)
      && decide ((e :: []).length + ([] : List Keyword).length + (if ([] : List Keyword).isEmpty then 0 else 1) < 30)) = true := by rfl)
    (hline : (ap.endLine == pos.line) = true := by rfl) (hst : starEach (e :: []) X.env = (false, eval e X.env) :: starEach [] X.env := by rfl) (hplain : (backTo pos (starEach [] X.env)).any (·.1) = false := by rfl)
    (hs : swapsWith (.Call (.Attribute (.Name x xp) "append" ap) [e] [] pos) none pos2.line X.env = pure false := by rfl) :
    PS X (.Expr (.Call (.Attribute (.Name x xp) "append" ap) [e] [] pos) pos2) (tS (XC X Γ) W (sApp i f)) := psImp (ps_expr (pe_bm F.plainAttrs_list F.slot_list_append F.type_list_append mt_append (pe_var hN hv hd hcd) (pa_cons he pa_nil hst) hbase hfew hline hst hplain) hs) fun D σ H ⟨w, env, st, r, p⟩ => by
  unfold sApp at p
  split at p
  · rename_i ds0 e0
    obtain ⟨a, vs, h1, h2, h3, h4⟩ := r.ownE e0
    refine ⟨_, h2, .inl ⟨rfl, vs, SqL.of h3⟩, w, env, st, r, (Post.then (Da := Den) r p).mono ?_⟩
    rintro y H1 ⟨w1, st1, d, r1, x1, d1, p1⟩
    obtain ⟨a', vs', g1, g2, g3, g4⟩ := r1.ownE e0
    split at p1
    · rename_i hz
      rw [h2] at g2
      cases g2
      refine ⟨a, vs', y, rfl, rfl, g3, by rw [g4.length]; exact hz, ?_⟩
      obtain ⟨r2, x2⟩ := r1.putOwn e0 g1 g3 (g4.append (.cons d1 .nil))
      exact p1 w1 σ _ r2 x2
    · exact p1.elim
  · exact p.elim
end
end AM
namespace AM
open PySem PySem.Spec PyProof.Rows L2
structure Iter (K : Ct) (w : Wd) (H : Hp) (J : It) (items : List D) : Prop where
  goes : ∀ w' H' i, ExtS K w H w' H' → i < items.length → J.go i H'
  stops : ∀ w' H', ExtS K w H w' H' → J.stop items.length H'
  yields : ∀ w' env st σ H' i x H2, Rel K w' env st σ H' → ExtS K w H w' H' → i < items.length → J.yld i H' x H2 → ∃ d, items[i]? = some d ∧ Den K w'.ρ w'.S H2 x d ∧ Rel K w' env st σ H2 ∧ Ext K w'.ρ H' w'.ρ H2
abbrev IF := AEnv → Sto → Res (List D)
def PostI (K : Ct) (W : WX) (w : Wd) (H : Hp) (σ : St) (r : Res (List D)) (R : It → Hp → Prop) : Prop := match r with
  | .ok items st' => ∀ ρ' H' J, StOk K ρ' (w.at_ ρ').S H' st' → Ext K w.ρ H ρ' H' → Iter K (w.at_ ρ') H' J items → R J H'
  | .exc e st' => ∀ ρ' H' d gs, StOk K ρ' (w.at_ ρ').S H' st' → Ext K w.ρ H ρ' H' → XdAt H' (w.at_ ρ').S d gs → DenF K ρ' (w.at_ ρ').S H' gs e.fs → W (.ref (K.Γ e.c)) d σ H'
  | .bad => False
def tI (K : Ct) (W : WX) (f : IF) : TI := fun σ H R => ∃ w env st, Rel K w env st σ H ∧ PostI K W w H σ (f env st) R
section
variable {K : Ct} {w : Wd} {H : Hp}
theorem iter_list {a : Addr} {vs : List V} {ds : List D} (h : H a = some (.lst vs)) (n : ¬ w.S a) (t : Dens K w.ρ w.S H vs ds) : Iter K w H (Itl K.K a) ds := by
  have k : ∀ w' H', ExtS K w H w' H' → H' a = some (.lst vs) := fun w' H' x => (x.keep a _ h (fun z => n (.inl z)) fun z => n (.inr (.inr z))).1
  refine ⟨fun w' H' i x hi => ?_, fun w' H' x => ⟨vs, SqL.of (k w' H' x), by rw [t.length]; exact Nat.le_refl _⟩, fun w' env st σ H' i y H2 r x hi q => ?_⟩
  · have hv : i < vs.length := by rw [t.length]; exact hi
    exact ⟨vs, vs[i], SqL.of (k w' H' x), List.getElem?_eq_getElem hv⟩
  · obtain ⟨rfl, q⟩ := q
    obtain ⟨d, e1, e2⟩ := (t.monoS x).getV (q vs (SqL.of (k w' _ x)))
    exact ⟨d, e1, e2, r, Ext.refl⟩
theorem iter_frz {a : Addr} {vs : List V} {ds : List D} (h : SqF K.K H w.S a vs) (t : Dens K w.ρ w.S H vs ds) : Iter K w H (Itl K.K a) ds := by
  have k : ∀ w' H', ExtS K w H w' H' → SqL K.K H' a vs := fun w' H' x => SqF.sql (S := fun _ => False) (h.imp fun o e n => ⟨(x.keep a _ e (fun z => n (.inl z)) fun z => n (.inr (.inr z))).1, fun z => z⟩)
  refine ⟨fun w' H' i x hi => ?_, fun w' H' x => ⟨vs, k w' H' x, by rw [t.length]; exact Nat.le_refl _⟩, fun w' env st σ H' i y H2 r x hi q => ?_⟩
  · have hv : i < vs.length := by rw [t.length]; exact hi
    exact ⟨vs, vs[i], k w' H' x, List.getElem?_eq_getElem hv⟩
  · obtain ⟨rfl, q⟩ := q
    obtain ⟨d, e1, e2⟩ := (t.monoS x).getV (q vs (k w' _ x))
    exact ⟨d, e1, e2, r, Ext.refl⟩
theorem iter_tup {a : Addr} {vs : List V} {ds : List D} (h : SqT K.K H a vs) (t : Dens K w.ρ w.S H vs ds) : Iter K w H (Itt K.K a) ds := by
  refine ⟨fun w' H' i x hi => ?_, fun w' H' x => ⟨vs, x.tups _ _ h, by rw [t.length]; exact Nat.le_refl _⟩, fun w' env st σ H' i y H2 r x hi q => ?_⟩
  · have hv : i < vs.length := by rw [t.length]; exact hi
    exact ⟨vs, vs[i], x.tups _ _ h, List.getElem?_eq_getElem hv⟩
  · obtain ⟨rfl, q⟩ := q
    obtain ⟨d, e1, e2⟩ := (t.monoS x).getV (q vs (x.tups _ _ h))
    exact ⟨d, e1, e2, r, Ext.refl⟩
theorem iter_str (s : Str) : Iter K w H (Its s) (signs s) := by
  have hl : (signs s).length = s.cps.size := by unfold signs; rw [List.length_map, Array.length_toList]
  refine ⟨fun w' H' i x hi => by rw [hl] at hi; exact hi, fun w' H' x => by rw [hl]; exact Nat.le_refl _, fun w' env st σ H' i y H2 r x hi q => ?_⟩
  obtain ⟨rfl, c, e, rfl⟩ := q
  refine ⟨.str (mk [c]), ?_, .str _, r, Ext.refl⟩
  unfold signs
  rw [List.getElem?_map, Array.getElem?_toList, e]
  rfl
def rng (lo : Int) (n : Nat) : List D := (List.range n).map fun i => .int (lo + (i : Nat))
theorem iter_range (lo : Int) (n : Nat) : Iter K w H (Itr lo n) (rng lo n) := by
  have hl : (rng lo n).length = n := by unfold rng; rw [List.length_map, List.length_range]
  refine ⟨fun w' H' i x hi => by rw [hl] at hi; exact hi, fun w' H' x => by rw [hl]; exact Nat.le_refl _, fun w' env st σ H' i y H2 r x hi q => ?_⟩
  obtain ⟨rfl, rfl⟩ := q
  rw [hl] at hi
  refine ⟨.int (lo + (i : Nat)), ?_, .int _, r, Ext.refl⟩
  unfold rng
  rw [List.getElem?_map, List.getElem?_range hi]
  rfl
end
section
variable {X : Cx} {Γ : Nat → Addr} {W : WX} {e a b c tg l : Expr} {f fa fb : EF} {s : Stmt} {ss rest : List Stmt} {g h : SF} {pos : Pos}
def itemsD : D → Sto → Res (List D) := fun d st => match d with
  | .tup ds => .ok ds st
  | .lst ds => .ok ds st
  | .fz ds => .ok ds st
  | .str s => .ok (signs s) st
  | _ => .bad
def iSeq (f : EF) : IF := fun env st => (f env st).bind itemsD
theorem pid_seq (h : PE X l (tD (XC X Γ) W f)) : PI X tg l (tI (XC X Γ) W (iSeq f)) := by
  refine ⟨fun pins s σ H R I hh => ?_⟩
  obtain ⟨w, env, st, r, p⟩ := hh
  have p : PostI (XC X Γ) W w H σ ((f env st).bind itemsD) R := p
  cases q : f env st with
  | ok d st1 =>
    rw [q] at p
    cases d with
    | tup ds =>
      refine (pi_tup h).run pins s σ H R I ⟨w, env, st, r, ?_⟩
      rw [q]
      intro ρ' H' x h1 h2 h3
      obtain ⟨a, vs, e1, hq, t⟩ := DenB.tup (w := w.at_ ρ') h3.b
      exact ⟨a, e1, ⟨vs, hq⟩, p ρ' H' _ h1 h2 (iter_tup hq t)⟩
    | lst ds =>
      refine (pi_list h).run pins s σ H R I ⟨w, env, st, r, ?_⟩
      rw [q]
      intro ρ' H' x h1 h2 h3
      cases h3 with
      | lst hq n t => exact ⟨_, rfl, ⟨_, SqL.of hq⟩, p ρ' H' _ h1 h2 (iter_list hq n t)⟩
    | fz ds =>
      refine (pi_list h).run pins s σ H R I ⟨w, env, st, r, ?_⟩
      rw [q]
      intro ρ' H' x h1 h2 h3
      cases h3 with
      | fz hq t => exact ⟨_, rfl, ⟨_, hq.sql⟩, p ρ' H' _ h1 h2 (iter_frz hq t)⟩
    | str z =>
      refine (pi_str h).run pins s σ H R I ⟨w, env, st, r, ?_⟩
      rw [q]
      intro ρ' H' x h1 h2 h3
      exact ⟨z, DenB.str (w := w.at_ ρ') h3.b, p ρ' H' _ h1 h2 (iter_str z)⟩
    | _ => exact p.elim
  | exc x st1 =>
    rw [q] at p
    refine (pi_tup h).run pins s σ H R I ⟨w, env, st, r, ?_⟩
    rw [q]
    exact p
  | bad => rw [q] at p; exact p.elim
def okR (j : Int) : Bool := decide (-(2 ^ 62) ≤ j) && decide (j < 2 ^ 62)
def iRan (f : EF) : IF := fun env st => (f env st).bind fun d st => match d with
  | .int j => if okR j = true then .ok (rng 0 j.toNat) st else .bad
  | _ => .bad
theorem pid_range1 {p : Pos} (hm : X.mg "range" = none) (ha : PE X a (tD (XC X Γ) W f)) (hg : Gl X "range" := by rfl) (hst : starEach (a :: []) X.env = (false, eval a X.env) :: starEach [] X.env := by rfl) (hs : starEach [a] X.env = [(false, eval a X.env)] := by rfl) :
    PI X tg (.Call (.Name "range" p) [a] [] pos) (tI (XC X Γ) W (iRan f)) := by
  refine ⟨fun pins s σ H R I ⟨w, env, st, r, p⟩ => (pi_range1 hg hm (pa_cons ha pa_nil hst) hs).run pins s σ H R I ⟨w, env, st, r, ?_⟩⟩
  unfold iRan at p
  cases q : f env st with
  | ok d st1 =>
    rw [q] at p
    intro ρ' H' x h1 h2 h3
    cases d with
    | int j =>
      have p : PostI (XC X Γ) W w H σ (if okR j = true then .ok (rng 0 j.toNat) st1 else .bad) R := p
      split at p
      · rename_i hz
        obtain ⟨z1, z2⟩ := Bool.and_eq_true_iff.mp hz
        exact ⟨j, by rw [DenB.int (w := w.at_ ρ') h3.b], of_decide_eq_true z1, of_decide_eq_true z2, p ρ' H' _ h1 h2 (iter_range 0 j.toNat)⟩
      · exact p.elim
    | _ => exact p.elim
  | exc x st1 => rw [q] at p; exact p
  | bad => rw [q] at p; exact p.elim
def kRan2 : D → D → Sto → Res (List D) := fun a b st => match a, b with
  | .int i, .int j => if (okR i && okR j) = true then .ok (rng i (j - i).toNat) st else .bad
  | _, _ => .bad
def iRan2 (fa fb : EF) : IF := fun env st => (fa env st).bind fun a st1 => (fb env st1).bind fun b st => kRan2 a b st
def forL (g : GF) (h : SF) : List D → SF
  | [] => fun env st => .nx env st
  | d :: ds => fun env st => (onlyNx (g d env st)).bind fun env1 st1 => match h env1 st1 with
    | .nx env2 st2 => forL g h ds env2 st2
    | .ct env2 st2 => forL g h ds env2 st2
    | .bk env2 st2 => .nx env2 st2
    | r => r
def sFor (fi : IF) (g : GF) (h : SF) : SF := fun env st => (fi env st).then fun items st => forL g h items env st
theorem psd_for {g : GF} {fi : IF} {iter : Expr} {body : List Stmt} (hp : PassesOwn (model X.prog X.w) X.A X.env X.xe) (hc : X.calm = true) (hi : PI X tg iter (tI (XC X Γ) W fi)) (hg : PG X tg (tgG (XC X Γ) W g)) (hb : PSs X body (tS (XC X Γ) W h))
    (hs : ∀ x, foldedSetIterable iter X.env x = pure x := by intro _; rfl) : PS X (.For tg iter body [] pos) (tS (XC X Γ) W (sFor fi g h)) := psImp (ps_for hp hc hi hg hb hs) fun D σ H ⟨w, env, st, r, p⟩ => by
  refine ⟨w, env, st, r, ?_⟩
  unfold sFor at p
  cases q : fi env st with
  | ok items st1 =>
    rw [q] at p
    have p : PostS (XC X Γ) W w H σ (forL g h items env st1) D := p
    intro ρ' H1 J h1 h2 It
    have r1 := r.ext h2 h1
    have p1 := PostS.back (σ' := σ) (h2.toS r h1) p
    refine ⟨fun i m σ' H' => m = items.length - i ∧ i ≤ items.length ∧ ∃ w' env' st', Rel (XC X Γ) w' env' st' σ' H' ∧ ExtS (XC X Γ) (w.at_ ρ') H1 w' H' ∧ PostS (XC X Γ) W w' H' σ' (forL g h (items.drop i) env' st') D, ⟨items.length, rfl, Nat.zero_le _, _, env, st1, r1, ExtS.refl, p1⟩, ?_⟩
    rintro i m σ' H' ⟨rfl, hi, w', env', st', r', x', p'⟩
    by_cases hlt : i < items.length
    · refine .inr ⟨It.goes w' H' i x' hlt, fun σ2 H2 => ∃ w2 env2 st2, Rel (XC X Γ) w2 env2 st2 σ2 H2 ∧ ExtS (XC X Γ) (w.at_ ρ') H1 w2 H2 ∧ PostS (XC X Γ) W w2 H2 σ2 (forL g h (items.drop (i + 1)) env2 st2) D, fun σ2 H2 ⟨w2, env2, st2, a1, a2, a3⟩ => ⟨items.length - (i + 1), by omega, rfl, hlt, w2, env2, st2, a1, a2, a3⟩, fun x H2 y => ?_⟩
      obtain ⟨d, e1, d1, r2, x2⟩ := It.yields w' env' st' σ' H' i x H2 r' x' hlt y
      have x2s := x2.toS r' r2.sto
      have x3 : ExtS (XC X Γ) (w.at_ ρ') H1 w' H2 := x'.trans x2s
      have ed : items.drop i = d :: items.drop (i + 1) := by
        rw [List.drop_eq_getElem_cons hlt]
        congr 1
        rw [List.getElem?_eq_getElem hlt] at e1
        exact Option.some.inj e1
      rw [ed] at p'
      have p2 : PostS (XC X Γ) W w' H2 σ' ((onlyNx (g d env' st')).bind fun env1 st1 => match h env1 st1 with
        | .nx env2 st2 => forL g h (items.drop (i + 1)) env2 st2
        | .ct env2 st2 => forL g h (items.drop (i + 1)) env2 st2
        | .bk env2 st2 => .nx env2 st2
        | r => r) D := PostS.back x2s p'
      refine ⟨w', env', st', d, r2, d1, ?_⟩
      cases q3 : g d env' st' with
      | nx e3 s3 =>
        rw [q3] at p2
        intro w4 σ4 H4 r4 x4
        refine ⟨w4, e3, s3, r4, ?_⟩
        have p3 := PostS.back (σ' := σ4) x4 p2
        have p3 : PostS (XC X Γ) W w4 H4 σ4 (match h e3 s3 with
          | .nx env2 st2 => forL g h (items.drop (i + 1)) env2 st2
          | .ct env2 st2 => forL g h (items.drop (i + 1)) env2 st2
          | .bk env2 st2 => .nx env2 st2
          | r => r) D := p3
        have x5 := x3.trans x4
        cases q4 : h e3 s3 with
        | nx e5 s5 =>
          rw [q4] at p3
          intro w6 σ6 H6 r6 x6
          exact ⟨w6, e5, s5, r6, x5.trans x6, PostS.back x6 p3⟩
        | ct e5 s5 =>
          rw [q4] at p3
          intro w6 σ6 H6 r6 x6
          exact ⟨w6, e5, s5, r6, x5.trans x6, PostS.back x6 p3⟩
        | bk e5 s5 => rw [q4] at p3; exact p3
        | rt d5 s5 => rw [q4] at p3; exact p3
        | exc d5 s5 => rw [q4] at p3; exact p3
        | bad => rw [q4] at p3; exact p3.elim
      | exc e3 s3 => rw [q3] at p2; exact p2
      | _ => rw [q3] at p2; exact p2.elim
    · have e : i = items.length := by omega
      subst e
      rw [List.drop_length] at p'
      exact .inl ⟨It.stops w' H' x', p'.nxt r'⟩
  | exc x st1 =>
    rw [q] at p
    intro ρ' H' d gs h1 h2 h3 h4
    exact p (w.at_ ρ') σ H' d gs h1 (h2.toS r h1) h3 h4
  | bad => rw [q] at p; exact p.elim
end
end AM
namespace AM
open PySem PySem.Spec PyProof.Rows L2
section
variable {K : Ct} {ρ ρ' : List Addr} {S S' : Addr → Prop} {H H' : Hp}
mutual
theorem Den.gen (hk : ∀ a o, H a = some o → ¬ S a → H' a = some o ∧ ¬ S' a) (ht : ∀ a vs, SqT K.K H a vs → SqT K.K H' a vs) (hh : ∀ (n : Nat) a, ρ[n]? = some a → ρ'[n]? = some a) : ∀ {v : V} {d : D}, Den K ρ S H v d → Den K ρ' S' H' v d
  | _, _, .non => .non
  | _, _, .bl b => .bl b
  | _, _, .int i => .int i
  | _, _, .str s => .str s
  | _, _, .ty n => .ty n
  | _, _, .cls a => .cls a
  | _, _, .tup h t => .tup (ht _ _ h) (Dens.gen hk ht hh t)
  | _, _, .lst h n t => .lst (hk _ _ h n).1 (hk _ _ h n).2 (Dens.gen hk ht hh t)
  | _, _, .fz h t => .fz (h.imp fun o e n => hk _ _ e n) (Dens.gen hk ht hh t)
  | _, _, .ins h n t => .ins (hk _ _ h n).1 (hk _ _ h n).2 (DenF.gen hk ht hh t)
  | _, _, .hd h => .hd (hh _ _ h)
  | _, _, .exv h t => .exv (h.gen hk) (DenF.gen hk ht hh t)
  | _, _, .dic h n t => .dic (hk _ _ h n).1 (hk _ _ h n).2 t
  | _, _, .dk h n t => .dk (hk _ _ h n).1 (hk _ _ h n).2 (DenK.gen hk ht hh t)
  | _, _, .exx h n y t => .exx (hk _ _ h n).1 (hk _ _ h n).2 (y.gen hk) (DenF.gen hk ht hh t)
  | _, _, .pin y t => .pin (y.gen hk) (Dens.gen hk ht hh t)
theorem Dens.gen (hk : ∀ a o, H a = some o → ¬ S a → H' a = some o ∧ ¬ S' a) (ht : ∀ a vs, SqT K.K H a vs → SqT K.K H' a vs) (hh : ∀ (n : Nat) a, ρ[n]? = some a → ρ'[n]? = some a) : ∀ {vs : List V} {ds : List D}, Dens K ρ S H vs ds → Dens K ρ' S' H' vs ds
  | _, _, .nil => .nil
  | _, _, .cons h t => .cons (Den.gen hk ht hh h) (Dens.gen hk ht hh t)
theorem DenF.gen (hk : ∀ a o, H a = some o → ¬ S a → H' a = some o ∧ ¬ S' a) (ht : ∀ a vs, SqT K.K H a vs → SqT K.K H' a vs) (hh : ∀ (n : Nat) a, ρ[n]? = some a → ρ'[n]? = some a) : ∀ {vs : List (Str × V)} {ds : List (Str × D)}, DenF K ρ S H vs ds → DenF K ρ' S' H' vs ds
  | _, _, .nil => .nil
  | _, _, .cons h t => .cons (Den.gen hk ht hh h) (DenF.gen hk ht hh t)
theorem DenK.gen (hk : ∀ a o, H a = some o → ¬ S a → H' a = some o ∧ ¬ S' a) (ht : ∀ a vs, SqT K.K H a vs → SqT K.K H' a vs) (hh : ∀ (n : Nat) a, ρ[n]? = some a → ρ'[n]? = some a) : ∀ {vs : List (Key × V)} {ds : List (Key × D)}, DenK K ρ S H vs ds → DenK K ρ' S' H' vs ds
  | _, _, .nil => .nil
  | _, _, .cons h t => .cons (Den.gen hk ht hh h) (DenK.gen hk ht hh t)
end
end
section
variable {K : Ct} {w : Wd} {env : AEnv} {st : Sto} {σ : St} {H H' : Hp} {a : Addr} {vs ws : List V}
def Wd.keep (w : Wd) (a : Addr) : Wd := ⟨w.ρ, fun b => w.R b ∨ b = a, w.O⟩
theorem keep_S {b : Addr} : (w.keep a).S b ↔ w.S b ∨ b = a := by
  constructor
  · rintro (h | (h | h) | h)
    · exact .inl (.inl h)
    · exact .inl (.inr (.inl h))
    · exact .inr h
    · exact .inl (.inr (.inr h))
  · rintro ((h | h | h) | h)
    · exact .inl h
    · exact .inr (.inl (.inl h))
    · exact .inr (.inr h)
    · exact .inr (.inl (.inr h))
theorem SlotOk.map {w' : Wd} {v : Option V} {s : Sl} {o : Option Addr} (h : SlotOk K w H v s o) (m : ∀ {v d}, Den K w.ρ w.S H v d → Den K w'.ρ w'.S H' v d) (ms : ∀ {v d}, Dens K w.ρ w.S H v d → Dens K w'.ρ w'.S H' v d) (ho : ∀ b us, o = some b → H b = some (.lst us) → H' b = some (.lst us)) : SlotOk K w' H' v s o := by
  cases s with
  | un => exact h
  | sh d => obtain ⟨e, x, ex, dx⟩ := h; exact ⟨e, x, ex, m dx⟩
  | own ds => obtain ⟨b, us, e1, e2, e3, e4⟩ := h; exact ⟨b, us, e1, e2, ho b us e1 e3, ms e4⟩
theorem Rel.keepNew (r : Rel K w env st σ H) (ha : H a = none) : Rel K (w.keep a) env st σ (upd H a (.lst vs)) ∧ ExtS K w H (w.keep a) (upd H a (.lst vs)) := by
  have ne : ∀ b o, H b = some o → upd H a (.lst vs) b = H b := fun b o e => upd_ne (ne_of_none e ha)
  have nb : ∀ b o, H b = some o → b ≠ a := fun b o e => ne_of_none e ha
  have hk : ∀ b o, H b = some o → ¬ w.S b → upd H a (.lst vs) b = some o ∧ ¬ (w.keep a).S b := fun b o e n => ⟨by rw [ne b o e]; exact e, fun z => (keep_S.mp z).elim n (nb b o e)⟩
  have m : ∀ {v d}, Den K w.ρ w.S H v d → Den K (w.keep a).ρ (w.keep a).S (upd H a (.lst vs)) v d := fun h => h.gen hk (fun _ _ h => SqT.upd ha h) fun _ _ h => h
  have ms : ∀ {v d}, Dens K w.ρ w.S H v d → Dens K (w.keep a).ρ (w.keep a).S (upd H a (.lst vs)) v d := fun h => h.gen hk (fun _ _ h => SqT.upd ha h) fun _ _ h => h
  have mf : ∀ {v d}, DenF K w.ρ w.S H v d → DenF K (w.keep a).ρ (w.keep a).S (upd H a (.lst vs)) v d := fun h => h.gen hk (fun _ _ h => SqT.upd ha h) fun _ _ h => h
  have mk : ∀ {v d}, DenK K w.ρ w.S H v d → DenK K (w.keep a).ρ (w.keep a).S (upd H a (.lst vs)) v d := fun h => h.gen hk (fun _ _ h => SqT.upd ha h) fun _ _ h => h
  refine ⟨⟨⟨r.sto.len, r.sto.nd, fun n b c h1 h2 => ?_⟩, fun b h => ?_, r.len, r.lenO, fun i v s o h1 h2 h3 => (r.slot i v s o h1 h2 h3).map m ms fun b us _ e => by rw [ne b _ e]; exact e, r.ndO, fun b h => ⟨(r.disO b h).1, fun z => ?_⟩⟩,
    ⟨⟨[], by simp [Wd.keep]⟩, fun b o h n k => ⟨by rw [ne b o h]; exact h, n, k⟩, fun b h => h.elim .inl fun z => .inr (by rw [z]; exact ha), fun b o h => ⟨o, by rw [ne b o h]; exact h⟩, fun _ _ h => SqT.upd ha h, fun _ h => .inl h⟩⟩
  · have q := r.sto.cell n b c h1 h2
    cases c with
    | lst ds => obtain ⟨us, e, t⟩ := q; exact ⟨us, by rw [ne b _ e]; exact e, ms t⟩
    | obj C fs => obtain ⟨dx, gs, e, t⟩ := q; exact ⟨dx, gs, by rw [ne b _ e]; exact e, mf t⟩
    | dct r => obtain ⟨kvs, e, t⟩ := q; exact ⟨kvs, by rw [ne b _ e]; exact e, mk t⟩
    | tab i q' =>
      obtain ⟨o, eo, _⟩ := CellOk.some q
      exact TabC.gen q (ne b _ eo) hk
  · rcases h with h | h
    · obtain ⟨⟨o, e⟩, n⟩ := r.res b h
      exact ⟨⟨o, by rw [ne b o e]; exact e⟩, n⟩
    · subst h
      exact ⟨⟨_, upd_same⟩, fun z => r.fresh ha (.inl z)⟩
  · rcases z with z | z
    · exact (r.disO b h).2 z
    · subst z
      exact r.fresh ha (.inr (.inr h))
theorem SqT.put {b : Addr} {us : List V} (ha : H a = some (.lst vs)) (h : SqT K.K H b us) : SqT K.K (L2.upd H a (.lst ws)) b us := by
  rcases h with (q | ⟨o, q⟩) | q
  · exact .inl (.inl (by rw [upd_ne (ne_of q ha (by intro z; cases z))]; exact q))
  · exact .inl (.inr ⟨o, by rw [upd_ne (ne_of q ha (by intro z; cases z))]; exact q⟩)
  · exact .inr q
theorem Rel.putKept (r : Rel K w env st σ H) (hR : w.R a) (ha : H a = some (.lst vs)) : Rel K w env st σ (upd H a (.lst ws)) := by
  have nb : ∀ b, ¬ w.S b → b ≠ a := fun b n z => n (by rw [z]; exact .inr (.inl hR))
  have hk : ∀ b o, H b = some o → ¬ w.S b → upd H a (.lst ws) b = some o ∧ ¬ w.S b := fun b o e n => ⟨by rw [upd_ne (nb b n)]; exact e, n⟩
  have m : ∀ {v d}, Den K w.ρ w.S H v d → Den K w.ρ w.S (upd H a (.lst ws)) v d := fun h => h.gen hk (fun _ _ h => SqT.put ha h) fun _ _ h => h
  have ms : ∀ {v d}, Dens K w.ρ w.S H v d → Dens K w.ρ w.S (upd H a (.lst ws)) v d := fun h => h.gen hk (fun _ _ h => SqT.put ha h) fun _ _ h => h
  have mf : ∀ {v d}, DenF K w.ρ w.S H v d → DenF K w.ρ w.S (upd H a (.lst ws)) v d := fun h => h.gen hk (fun _ _ h => SqT.put ha h) fun _ _ h => h
  have mk : ∀ {v d}, DenK K w.ρ w.S H v d → DenK K w.ρ w.S (upd H a (.lst ws)) v d := fun h => h.gen hk (fun _ _ h => SqT.put ha h) fun _ _ h => h
  have nρ : ∀ b, b ∈ w.ρ → b ≠ a := fun b h z => (r.res a hR).2 (by rw [← z]; exact h)
  refine ⟨⟨r.sto.len, r.sto.nd, fun n b c h1 h2 => ?_⟩, fun b h => ?_, r.len, r.lenO, fun i v s o h1 h2 h3 => (r.slot i v s o h1 h2 h3).map m ms fun b us eo e => ?_, r.ndO, r.disO⟩
  · have q := r.sto.cell n b c h1 h2
    have e := upd_ne (H := H) (o := .lst ws) (nρ b (List.mem_of_getElem? h1))
    cases c with
    | lst ds => obtain ⟨us, q, t⟩ := q; exact ⟨us, by rw [e]; exact q, ms t⟩
    | obj C fs => obtain ⟨dx, gs, q, t⟩ := q; exact ⟨dx, gs, by rw [e]; exact q, mf t⟩
    | dct r => obtain ⟨kvs, q, t⟩ := q; exact ⟨kvs, by rw [e]; exact q, mk t⟩
    | tab i q' => exact TabC.gen q e hk
  · obtain ⟨⟨o, e⟩, n⟩ := r.res b h
    by_cases z : b = a
    · exact ⟨⟨_, by rw [z]; exact upd_same⟩, n⟩
    · exact ⟨⟨o, by rw [upd_ne z]; exact e⟩, n⟩
  · have z : b ≠ a := fun z => (r.disO b (by rw [eo] at h3; exact List.mem_of_getElem? h3)).2 (by rw [z]; exact hR)
    rw [upd_ne z]
    exact e
def lift (H : Hp) (a : Addr) : Hp := fun b => if b = a then none else H b
theorem lift_upd (ha : H a = some (.lst vs)) : upd (lift H a) a (.lst vs) = H := by
  funext b
  by_cases e : b = a
  · subst e; rw [upd_same, ha]
  · rw [upd_ne e]; exact if_neg e
theorem lift_at : lift H a a = none := if_pos rfl
theorem lift_ne {b : Addr} (h : b ≠ a) : lift H a b = H b := if_neg h
end
def wipeE (env : AEnv) : List Nat → AEnv
  | [] => env
  | v :: vs => (wipeE env vs).set v .un
def noOwn (env : AEnv) (vs : List Nat) : Bool := vs.all fun v => match env[v]? with
  | some (.own _) => false
  | _ => true
section
variable {K : Ct} {w : Wd} {env : AEnv} {st : Sto} {σ : St} {H H' : Hp} {i : Nat}
theorem Rel.wipe1 (r : Rel K w env st σ H) (h : ∀ ds, env[i]? ≠ some (.own ds)) : Rel K w (env.set i .un) st (σ.set i none) H where
  sto := r.sto
  res := r.res
  len := by rw [List.length_set, List.length_set, r.len]
  lenO := by rw [List.length_set, r.lenO]
  slot := fun j v s o h1 h2 h3 => by
    rcases get_set h2 with ⟨rfl, rfl, _⟩ | ⟨hj, h2⟩
    · cases o with
      | none => rfl
      | some a =>
        obtain ⟨ds, _, e, _⟩ := r.own h3
        exact absurd e (h ds)
    · rcases get_set h1 with ⟨q, _⟩ | ⟨_, h1⟩
      · exact absurd q hj
      · exact r.slot j v s o h1 h2 h3
  ndO := r.ndO
  disO := r.disO
theorem wipeE_own {vs : List Nat} {j : Nat} {ds : List D} : (wipeE env vs)[j]? = some (.own ds) → env[j]? = some (.own ds) := by
  induction vs with
  | nil => exact fun h => h
  | cons v vs ih =>
    intro h
    rcases get_set (show ((wipeE env vs).set v .un)[j]? = some (.own ds) from h) with ⟨_, q, _⟩ | ⟨_, h⟩
    · cases q
    · exact ih h
theorem Rel.wipe (r : Rel K w env st σ H) : ∀ vs : List Nat, noOwn env vs = true → Rel K w (wipeE env vs) st (wipe σ vs) H
  | [], _ => r
  | v :: vs, h => by
    obtain ⟨h1, h2⟩ := Bool.and_eq_true_iff.mp (show ((match env[v]? with
      | some (.own _) => false
      | _ => true) && noOwn env vs) = true from h)
    refine (Rel.wipe r vs h2).wipe1 fun ds e => ?_
    rw [wipeE_own e] at h1
    cases h1
theorem wipe_set {α : Type} {σ : St} {vs : List Nat} {x : Option V} (h : i ∈ vs) : wipe (σ.set i x) vs = wipe σ vs := by
  induction vs with
  | nil => cases h
  | cons v vs ih =>
    show (wipe (σ.set i x) vs).set v none = (wipe σ vs).set v none
    by_cases e : i ∈ vs
    · rw [ih e]
    · have e2 : i = v := by
        rcases List.mem_cons.mp h with q | q
        · exact q
        · exact absurd q e
      subst e2
      have go : ∀ (us : List Nat) (τ : St), i ∉ us → wipe (τ.set i x) us = (wipe τ us).set i x := by
        intro us
        induction us with
        | nil => intro τ _; rfl
        | cons u us ihu =>
          intro τ hn
          show (wipe (τ.set i x) us).set u none = ((wipe τ us).set u none).set i x
          rw [ihu τ (fun z => hn (List.mem_cons_of_mem _ z)), List.set_comm]
          exact fun z => hn (by rw [z]; exact List.mem_cons_self)
      rw [go vs σ e, List.set_set]
theorem wipe_wipe (σ : St) (vs : List Nat) : wipe (wipe σ vs) vs = wipe σ vs := by
  have go : ∀ us : List Nat, (∀ u ∈ us, u ∈ vs) → wipe (wipe σ us) vs = wipe σ vs := by
    intro us
    induction us with
    | nil => intro _; rfl
    | cons u us ih =>
      intro h
      show wipe ((wipe σ us).set u none) vs = _
      rw [wipe_set (α := Unit) (h u List.mem_cons_self)]
      exact ih fun z hz => h z (List.mem_cons_of_mem _ hz)
  exact go vs fun _ h => h
def putAll (env : AEnv) : List Nat → List D → AEnv
  | i :: is, d :: ds => putAll (env.set i (.sh d)) is ds
  | _, _ => env
def putAllV (σ : St) : List Nat → List V → St
  | i :: is, d :: ds => putAllV (σ.set i (some d)) is ds
  | _, _ => σ
theorem Rel.putAll : ∀ {is : List Nat} {w : Wd} {env : AEnv} {σ : St} {ds : List D} {vs : List V}, Rel K w env st σ H → Dens K w.ρ w.S H vs ds → (∀ i ∈ is, w.O[i]? = some none ∨ w.O[i]? = none) → Rel K w (AM.putAll env is ds) st (putAllV σ is vs) H
  | [], w, env, σ, ds, vs, r, t, _ => by cases t <;> exact r
  | i :: is, w, env, σ, ds, vs, r, t, hO => by
    cases t with
    | nil => exact r
    | @cons v d vs ds h t =>
      have e : w.O.set i none = w.O := by
        apply List.ext_getElem?
        intro j
        by_cases z : i = j
        · subst z
          rcases hO i List.mem_cons_self with q | q
          · rw [List.getElem?_set_self (List.getElem?_eq_some_iff.mp q).1, q]
          · rw [q, List.getElem?_eq_none (by rw [List.length_set]; exact List.getElem?_eq_none_iff.mp q)]
        · rw [List.getElem?_set_ne z]
      have ew : w.free i = w := by
        unfold Wd.free
        rw [e]
      have r1 := r.setSh (i := i) h
      rw [ew] at r1
      show Rel K w (AM.putAll (env.set i (.sh d)) is ds) st (putAllV (σ.set i (some v)) is vs) H
      exact Rel.putAll r1 t fun j hj => hO j (List.mem_cons_of_mem _ hj)
theorem wipe_putAll {is vs : List Nat} {xs : List V} {σ : St} (h : ∀ i ∈ is, i ∈ vs) : wipe (putAllV σ is xs) vs = wipe σ vs := by
  induction is generalizing σ xs with
  | nil => cases xs <;> rfl
  | cons i is ih =>
    cases xs with
    | nil => rfl
    | cons x xs =>
      show wipe (putAllV (σ.set i (some x)) is xs) vs = _
      rw [ih fun j hj => h j (List.mem_cons_of_mem _ hj), wipe_set (α := Unit) (h i List.mem_cons_self)]
end
def tgC (tup : Bool) (is : List Nat) (d : D) : Option (List D) := match tup with
  | true => (match d with
    | .tup ds => if ds.length = is.length then some ds else none
    | _ => none)
  | false => if is.length = 1 then some [d] else none
def gsN : List Nat → TGs
  | [] => gNil
  | i :: is => gCons (gName i) (gsN is)
def gC (K : PySem.W.Frag) (tup : Bool) (is : List Nat) : TG := match tup with
  | true => gTup K is.length (gsN is)
  | false => gName (is.headD 0)
theorem gsN_ok {Q : St → Hp → Prop} {H : Hp} : ∀ {is : List Nat} {xs : List V} {σ : St}, xs.length = is.length → Q (putAllV σ is xs) H → gsN is xs σ H Q
  | [], [], σ, _, q => ⟨rfl, q⟩
  | i :: is, x :: xs, σ, h, q => ⟨x, xs, rfl, gsN_ok (is := is) (by simpa using h) q⟩
theorem gC_ok {K : Ct} {w : Wd} {H : Hp} {tup : Bool} {is : List Nat} {x : V} {d : D} {ds : List D} {σ : St} {Q : St → Hp → Prop} (e : tgC tup is d = some ds) (h : Den K w.ρ w.S H x d) : ∃ xs, Dens K w.ρ w.S H xs ds ∧ (Q (putAllV σ is xs) H → gC K.K tup is x σ H Q) := by
  cases tup with
  | true =>
    cases d with
    | tup es =>
      have e : (if es.length = is.length then some es else none) = some ds := e
      split at e
      · rename_i hl
        cases e
        obtain ⟨a, vs, e1, hq, t⟩ := DenB.tup (w := w) h.b
        exact ⟨vs, t, fun q => ⟨a, vs, e1, hq, by rw [t.length, hl], gsN_ok (by rw [t.length, hl]) q⟩⟩
      · cases e
    | _ => cases e
  | false =>
    have e : (if is.length = 1 then some [d] else none) = some ds := e
    split at e
    · rename_i hl
      cases e
      match is, hl with
      | [i], _ => exact ⟨[x], .cons h .nil, fun q => q⟩
    · cases e
def Res.bindN {α β : Type} (r : Res α) (k : α → Sto → Res β) : Res β := match r with
  | .ok a st => k a st
  | _ => .bad
def onlyOk {α : Type} (r : Res α) : Res α := match r with
  | .ok a st => .ok a st
  | _ => .bad
def compL (tup : Bool) (is vs : List Nat) (t : TF) (f : EF) (env : AEnv) : List D → List D → Sto → Res (List D)
  | acc, [], st => .ok acc st
  | acc, d :: ds, st => match tgC tup is d with
    | some es => (t (putAll (wipeE env vs) is es) st).bindN fun b st2 => if b = true then (f (putAll (wipeE env vs) is es) st2).bindN fun y st3 => (if acc.length < sizeLine then compL tup is vs t f env (acc ++ [y]) ds st3 else .bad) else compL tup is vs t f env acc ds st2
    | none => .bad
def compF (fi : IF) (tup : Bool) (is vs : List Nat) (t : TF) (f : EF) : IF := fun env st => if noOwn env vs = true ∧ (∀ i ∈ is, i ∈ vs) then (fi env st).bind fun items st => onlyOk (compL tup is vs t f env [] items st) else .bad
abbrev WN : WX := fun _ _ _ _ => False
def tYesD : TF := fun _ st => .ok true st
theorem Post.bindN {α β γ : Type} {Da : DnT β α} {K : Ct} {w : Wd} {env : AEnv} {st : Sto} {σ : St} {H : Hp} {f : Res α} {k : α → Sto → Res γ} {P : Res γ → Prop} (r : Rel K w env st σ H) (h : P (f.bindN k)) (hb : ¬ P .bad) :
    Post Da K WN w H σ f fun x H1 => ∃ ρ1 st1 a, Rel K (w.at_ ρ1) env st1 σ H1 ∧ Ext K w.ρ H ρ1 H1 ∧ Da K ρ1 (w.at_ ρ1).S H1 x a ∧ P (k a st1) := by
  cases f with
  | ok a st1 => exact fun ρ' H' x h1 h2 h3 => ⟨ρ', st1, a, r.ext h2 h1, h2, h3, h⟩
  | exc e st1 => exact (hb h).elim
  | bad => exact (hb h).elim
section
variable {X : Cx} {Γ : Nat → Addr} {W : WX} {elt tg iter : Expr} {ifs : List Expr} {f : EF} {fi : IF} {t : TF} {pos : Pos} {scope : Scope} {own : List (Str × Nat)} {tup : Bool} {is : List Nat}
theorem ptsd_nil : PTs X [] (tT (XC X Γ) W tYesD) := ⟨fun pins s σ H Q I ⟨w, env, st, r, p⟩ => pts_nil.run pins s σ H Q I (Post.ok (Da := dnB) (x := true) r p rfl)⟩
theorem ptsd_one {c : Expr} (h : PT X c (tT (XC X Γ) W t)) : PTs X [c] (tT (XC X Γ) W t) := pts_one h
def CFin (K : Ct) (w : Wd) (H1 : Hp) (ρ1 : List Addr) (D : Addr) (env : AEnv) (σ : St) (Q : VK) : Res (List AM.D) → Prop
  | .ok ds st' => ∀ ρ3 H3 vs3, Rel K ((w.at_ ρ3).keep D) env st' σ H3 → Ext K ρ1 H1 ρ3 H3 → H3 D = some (.lst vs3) → Dens K ρ3 ((w.at_ ρ3).keep D).S H3 vs3 ds → Q (.ref D) H3
  | _ => False
theorem cfin_of {K : Ct} {w : Wd} {env : AEnv} {st : Sto} {σ : St} {H H1 : Hp} {ρ' : List Addr} {D : Addr} {Q : VK} {rr : Res (List AM.D)} (r : Rel K w env st σ H) (h2 : Ext K w.ρ H ρ' H1) (hD : H1 D = none)
    (p : match onlyOk rr with
      | .ok ds st' => ∀ ρ' H' p vs, StOk K ρ' (w.at_ ρ').S H' st' → Ext K w.ρ H ρ' H' → H' p = none → Dens K ρ' (w.at_ ρ').S H' vs ds → Q (.ref p) (upd H' p (.lst vs))
      | .exc e st' => ∀ ρ' H' d gs, StOk K ρ' (w.at_ ρ').S H' st' → Ext K w.ρ H ρ' H' → XdAt H' (w.at_ ρ').S d gs → DenF K ρ' (w.at_ ρ').S H' gs e.fs → W (.ref (K.Γ e.c)) d σ H'
      | .bad => False) : CFin K w H1 ρ' D env σ Q rr := by
  cases rr with
  | ok ds st' =>
    intro ρ3 H3 vs3 r3 x3 eD t3
    have hS : ∀ a, (w.at_ ρ3).S a → ((w.at_ ρ3).keep D).S a := fun a z => keep_S.mpr (.inl z)
    have SD : ((w.at_ ρ3).keep D).S D := keep_S.mpr (.inr rfl)
    have nD : ∀ a, ¬ ((w.at_ ρ3).keep D).S a → a ≠ D := fun a n z => n (by rw [z]; exact SD)
    have hk : ∀ a o, H3 a = some o → ¬ ((w.at_ ρ3).keep D).S a → lift H3 D a = some o ∧ ¬ (w.at_ ρ3).S a := fun a o e n => ⟨by rw [lift_ne (nD a n)]; exact e, fun z => n (hS a z)⟩
    have ht : ∀ a us, SqT K.K H3 a us → SqT K.K (lift H3 D) a us := fun a us z => by
      rcases z with (z | ⟨o, z⟩) | z
      · exact .inl (.inl (by rw [lift_ne (ne_of z eD (by intro q; cases q))]; exact z))
      · exact .inl (.inr ⟨o, by rw [lift_ne (ne_of z eD (by intro q; cases q))]; exact z⟩)
      · exact .inr z
    have nDρ : ∀ a, a ∈ ρ3 → a ≠ D := fun a h z => (r3.res D (.inr rfl)).2 (by rw [← z]; exact h)
    have sto : StOk K ρ3 (w.at_ ρ3).S (lift H3 D) st' := ⟨r3.sto.len, r3.sto.nd, fun n a c g1 g2 => by
      have z := r3.sto.cell n a c g1 g2
      have ea := lift_ne (H := H3) (nDρ a (List.mem_of_getElem? g1))
      cases c with
      | lst ds => obtain ⟨us, z, tt⟩ := z; exact ⟨us, by rw [ea]; exact z, tt.gen hk ht fun _ _ h => h⟩
      | obj C fs => obtain ⟨dx, gs, z, tt⟩ := z; exact ⟨dx, gs, by rw [ea]; exact z, tt.gen hk ht fun _ _ h => h⟩
      | dct r => obtain ⟨kvs, z, tt⟩ := z; exact ⟨kvs, by rw [ea]; exact z, tt.gen hk ht fun _ _ h => h⟩
      | tab i q' => exact TabC.gen z ea hk⟩
    have ext : Ext K w.ρ H ρ3 (lift H3 D) := by
      refine ⟨(h2.trans x3).pre, fun a o g n => ?_, fun a us g => ht a us (x3.tups a us (h2.tups a us g))⟩
      obtain ⟨g1, n1⟩ := h2.keep a o g n
      obtain ⟨g2, n2⟩ := x3.keep a o g1 n1
      exact ⟨by rw [lift_ne (ne_of_none g1 hD)]; exact g2, n2⟩
    have z := p ρ3 (lift H3 D) D vs3 sto ext lift_at (t3.gen hk ht fun _ _ h => h)
    rw [lift_upd eD] at z
    exact z
  | exc x st' => exact p
  | bad => exact p
theorem ext_keep {K : Ct} {w : Wd} {env : AEnv} {st : Sto} {σ : St} {H1 H3 : Hp} {ρ1 ρ3 : List Addr} {D : Addr} (x : Ext K ρ1 H1 ρ3 H3) (r : Rel K ((w.at_ ρ3).keep D) env st σ H3) (hD : H1 D = none) : ExtS K (w.at_ ρ1) H1 ((w.at_ ρ3).keep D) H3 := by
  refine ⟨x.pre, fun a o h n m => ?_, fun a h => ?_, fun a o h => ?_, x.tups, fun _ h => .inl h⟩
  · obtain ⟨g1, g2⟩ := x.keep a o h n
    exact ⟨g1, g2, m⟩
  · rcases h with h | h
    · exact .inl h
    · exact .inr (by rw [h]; exact hD)
  · by_cases hr : a ∈ ρ1
    · obtain ⟨l, e⟩ := x.pre
      exact r.sto.there (a := a) (by show a ∈ ρ3; rw [e]; exact List.mem_append_left _ hr)
    · exact ⟨o, (x.keep a o h hr).1⟩
theorem noOwn_O {K : Ct} {w : Wd} {env : AEnv} {st : Sto} {σ : St} {H : Hp} {vs : List Nat} (r : Rel K w env st σ H) (h : noOwn env vs = true) : ∀ i ∈ vs, w.O[i]? = some none ∨ w.O[i]? = none := fun i hi => by
  cases q : w.O[i]? with
  | none => exact .inr rfl
  | some o =>
    cases o with
    | none => exact .inl rfl
    | some a =>
      obtain ⟨ds, _, e, _⟩ := r.own q
      have z := List.all_eq_true.mp h i hi
      rw [e] at z
      cases z
theorem comp_ok {K : Ct} {σ : St} {H : Hp} {Q : VK} (h : tF K W (compF fi tup is (own.map (·.2)) t f) σ H Q) : tLc (tI K W fi) (gC K.K tup is) (tT K WN t) (tD K WN f) (own.map (·.2)) σ H Q := by
  obtain ⟨w, env, st, r, p⟩ := h
  generalize hvs : own.map (·.2) = vs at p
  by_cases hc : noOwn env vs = true ∧ (∀ i ∈ is, i ∈ vs)
  · obtain ⟨hc1, hc2⟩ := hc
    refine ⟨w, env, st, r, ?_⟩
    have eF : compF fi tup is vs t f env st = (fi env st).bind fun items st => onlyOk (compL tup is vs t f env [] items st) := if_pos ⟨hc1, hc2⟩
    rw [eF] at p
    cases q : fi env st with
    | exc x st1 => rw [q] at p; exact p
    | bad => rw [q] at p; exact p
    | ok items st1 =>
      rw [q] at p
      intro ρ' H1 J h1 h2 It D hD
      have r1 : Rel K (w.at_ ρ') env st1 σ H1 := r.ext h2 h1
      obtain ⟨r2, _⟩ := r1.keepNew (vs := []) hD
      have fin0 : CFin K w H1 ρ' D env σ Q (compL tup is vs t f env [] items st1) := cfin_of r h2 hD p
      refine ⟨fun i m H' => m = items.length - i ∧ i ≤ items.length ∧ ∃ ρ2 st2 acc us, Rel K ((w.at_ ρ2).keep D) env st2 σ H' ∧ Ext K ρ' H1 ρ2 H' ∧ H' D = some (.lst us) ∧ Dens K ρ2 ((w.at_ ρ2).keep D).S H' us acc ∧ CFin K w H1 ρ' D env σ Q (compL tup is vs t f env acc (items.drop i) st2),
        ⟨items.length, rfl, Nat.zero_le _, ρ', st1, [], [], r2, Ext.new hD, upd_same, .nil, fin0⟩, ?_⟩
      rintro i m H' ⟨rfl, hi, ρ2, st2, acc, us, r', x', eD, tA, fin⟩
      have xS := ext_keep x' r' hD
      by_cases hlt : i < items.length
      · refine .inr ⟨It.goes _ H' i xS hlt, fun H2 => ∃ ρ2 st2 acc us, Rel K ((w.at_ ρ2).keep D) env st2 σ H2 ∧ Ext K ρ' H1 ρ2 H2 ∧ H2 D = some (.lst us) ∧ Dens K ρ2 ((w.at_ ρ2).keep D).S H2 us acc ∧ CFin K w H1 ρ' D env σ Q (compL tup is vs t f env acc (items.drop (i + 1)) st2),
          fun H2 z => ⟨items.length - (i + 1), by omega, rfl, hlt, z⟩, fun x H2 y => ?_⟩
        obtain ⟨d, e1, d1, r3, x3⟩ := It.yields _ env st2 σ H' i x H2 r' xS hlt y
        have x4 : Ext K ρ' H1 ρ2 H2 := x'.trans x3
        have eD2 : H2 D = some (.lst us) := (x3.keep D _ eD (r'.res D (.inr rfl)).2).1
        have tA2 : Dens K ρ2 ((w.at_ ρ2).keep D).S H2 us acc := lastsDs r' ⟨ρ2, rfl⟩ x3 tA
        have ed : items.drop i = d :: items.drop (i + 1) := by
          rw [List.drop_eq_getElem_cons hlt]
          congr 1
          rw [List.getElem?_eq_getElem hlt] at e1
          exact Option.some.inj e1
        rw [ed] at fin
        have nb : ¬ CFin K w H1 ρ' D env σ Q .bad := fun z => z
        cases eg : tgC tup is d with
        | none =>
          have fin : CFin K w H1 ρ' D env σ Q (match tgC tup is d with
            | some es => (t (putAll (wipeE env vs) is es) st2).bindN fun b st2 => if b = true then (f (putAll (wipeE env vs) is es) st2).bindN fun y st3 => (if acc.length < sizeLine then compL tup is vs t f env (acc ++ [y]) (items.drop (i + 1)) st3 else .bad) else compL tup is vs t f env acc (items.drop (i + 1)) st2
            | none => .bad) := fin
          rw [eg] at fin
          exact fin.elim
        | some es =>
          have fin : CFin K w H1 ρ' D env σ Q (match tgC tup is d with
            | some es => (t (putAll (wipeE env vs) is es) st2).bindN fun b st2 => if b = true then (f (putAll (wipeE env vs) is es) st2).bindN fun y st3 => (if acc.length < sizeLine then compL tup is vs t f env (acc ++ [y]) (items.drop (i + 1)) st3 else .bad) else compL tup is vs t f env acc (items.drop (i + 1)) st2
            | none => .bad) := fin
          rw [eg] at fin
          obtain ⟨xs, tx, go⟩ := gC_ok (w := (w.at_ ρ2).keep D) (σ := wipe σ vs) (H := H2) (Q := fun σ2 H2 => wipe σ2 vs = wipe σ vs ∧ tT K WN t σ2 H2 fun b H3 =>
            if b = true then tD K WN f σ2 H3 fun y H4 => ∃ acc, H4 D = some (.lst acc) ∧ acc.length < sizeLine ∧ ∃ ρ2 st2 acc' us, Rel K ((w.at_ ρ2).keep D) env st2 σ (upd H4 D (.lst (acc ++ [y]))) ∧ Ext K ρ' H1 ρ2 (upd H4 D (.lst (acc ++ [y]))) ∧ (upd H4 D (.lst (acc ++ [y]))) D = some (.lst us) ∧ Dens K ρ2 ((w.at_ ρ2).keep D).S (upd H4 D (.lst (acc ++ [y]))) us acc' ∧ CFin K w H1 ρ' D env σ Q (compL tup is vs t f env acc' (items.drop (i + 1)) st2)
            else ∃ ρ2 st2 acc us, Rel K ((w.at_ ρ2).keep D) env st2 σ H3 ∧ Ext K ρ' H1 ρ2 H3 ∧ H3 D = some (.lst us) ∧ Dens K ρ2 ((w.at_ ρ2).keep D).S H3 us acc ∧ CFin K w H1 ρ' D env σ Q (compL tup is vs t f env acc (items.drop (i + 1)) st2)) eg d1
          refine go ⟨by rw [wipe_putAll hc2, wipe_wipe], ?_⟩
          have rw1 := (r3.wipe vs hc1).putAll tx fun i hi => noOwn_O r3 hc1 i (hc2 i hi)
          refine ⟨(w.at_ ρ2).keep D, _, st2, rw1, (Post.bindN (Da := dnB) (P := CFin K w H1 ρ' D env σ Q) rw1 fin nb).mono ?_⟩
          rintro b H3 ⟨ρ3, st3, b', r4, x5, eb, fin2⟩
          cases (show b = b' from eb)
          have r4o : Rel K ((w.at_ ρ3).keep D) env st3 σ H3 := r3.ext (ρ' := ρ3) x5 r4.sto
          have eD3 : H3 D = some (.lst us) := (x5.keep D _ eD2 (r3.res D (.inr rfl)).2).1
          have tA3 : Dens K ρ3 ((w.at_ ρ3).keep D).S H3 us acc := lastsDs r3 ⟨ρ3, rfl⟩ x5 tA2
          cases b with
          | false =>
            rw [if_neg Bool.false_ne_true] at fin2 ⊢
            exact ⟨ρ3, st3, acc, us, r4o, x4.trans x5, eD3, tA3, fin2⟩
          | true =>
            rw [if_pos rfl] at fin2 ⊢
            refine ⟨(w.at_ ρ3).keep D, _, st3, r4, (Post.bindN (Da := Den) (P := CFin K w H1 ρ' D env σ Q) r4 fin2 nb).mono ?_⟩
            rintro y2 H4 ⟨ρ4, st4, d4, r5, x6, dy, fin3⟩
            have r5o : Rel K ((w.at_ ρ4).keep D) env st4 σ H4 := r4o.ext (ρ' := ρ4) x6 r5.sto
            have eD4 : H4 D = some (.lst us) := (x6.keep D _ eD3 (r4o.res D (.inr rfl)).2).1
            have tA4 : Dens K ρ4 ((w.at_ ρ4).keep D).S H4 us acc := lastsDs r4o ⟨ρ4, rfl⟩ x6 tA3
            by_cases hz : acc.length < sizeLine
            · rw [if_pos hz] at fin3
              have SD : ((w.at_ ρ4).keep D).S D := keep_S.mpr (.inr rfl)
              have nb2 : ∀ b, ¬ ((w.at_ ρ4).keep D).S b → b ≠ D := fun b n z => n (by rw [z]; exact SD)
              have hk : ∀ b o, H4 b = some o → ¬ ((w.at_ ρ4).keep D).S b → upd H4 D (.lst (us ++ [y2])) b = some o ∧ ¬ ((w.at_ ρ4).keep D).S b := fun b o e n => ⟨by rw [upd_ne (nb2 b n)]; exact e, n⟩
              refine ⟨us, eD4, by rw [tA4.length]; exact hz, ρ4, st4, acc ++ [d4], us ++ [y2], r5o.putKept (.inr rfl) eD4, ?_, upd_same, (tA4.append (.cons dy .nil)).gen hk (fun _ _ h => SqT.put eD4 h) (fun _ _ h => h), fin3⟩
              have x7 := (x4.trans x5).trans x6
              exact ⟨x7.pre, fun b o g n => by
                obtain ⟨g1, g2⟩ := x7.keep b o g n
                exact ⟨by rw [upd_ne (ne_of_none g hD)]; exact g1, g2⟩, fun b us2 g => SqT.put eD4 (x7.tups b us2 g)⟩
            · rw [if_neg hz] at fin3
              exact fin3.elim
      · have e : i = items.length := by omega
        subst e
        rw [List.drop_length] at fin
        exact .inl ⟨It.stops _ H' xS, fin ρ2 H' us r' x' eD tA⟩
  · have eF : compF fi tup is vs t f env st = .bad := if_neg hc
    rw [eF] at p
    exact p.elim
theorem pf_comp (hc : X.calm = true) (hN : X.N.Nodup) (hi : PI X tg iter (tI (XC X Γ) W fi)) (ok : BlkOk X.N X.env.scope scope own)
    (hg : ∀ (s : Shared) (H : Hp) (C : Addr) (cl : List (Str × Addr)) (fp : List Addr), PG (X.blk s H scope (compEnvC scope cl C X.env) fp) tg (gC X.K tup is)) (ht : ∀ (s : Shared) (H : Hp) (C : Addr) (cl : List (Str × Addr)) (fp : List Addr), PTs (X.blk s H scope (compEnvC scope cl C X.env) fp) ifs (tT (XC X Γ) WN t))
    (he : ∀ (s : Shared) (H : Hp) (C : Addr) (cl : List (Str × Addr)) (fp : List Addr), PE (X.blk s H scope (compEnvC scope cl C X.env) fp) elt (tD (XC X Γ) WN f)) (hs : ∀ x, foldedSetIterable iter X.env x = pure x := by intro _; rfl) :
    PE X (.ListComp elt [⟨tg, iter, ifs, 0⟩] scope pos) (tF (XC X Γ) W (compF fi tup is (own.map (·.2)) t f)) := peImp (pe_lc hc hN hi ok hg ht he hs) fun _ _ _ h => comp_ok h
end
end AM
namespace AM
open PySem PySem.Spec PyProof.Rows L2
def Wd.call (w : Wd) : Wd := ⟨w.ρ, fun a => w.R a ∨ some a ∈ w.O, []⟩
theorem call_S (w : Wd) (ρ : List Addr) : (w.call.at_ ρ).S = (w.at_ ρ).S := by
  funext a
  refine propext ⟨fun h => ?_, fun h => ?_⟩
  · rcases h with h | h | h
    · exact .inl h
    · exact .inr h
    · cases h
  · rcases h with h | h
    · exact .inl h
    · exact .inr (.inl h)
def spD (K : Ct) (F : DF) : Sp := fun vs H Q E => ∃ (w : Wd) (st : Sto) (ds : List D), w.O = [] ∧ StOk K w.ρ w.S H st ∧ (∀ a, w.R a → (∃ o, H a = some o) ∧ a ∉ w.ρ) ∧ Dens K w.ρ w.S H vs ds ∧
  Post Den K (fun c d _ H' => E c d H') w H [] (F ds st) Q
section
variable {K : Ct} {W : WX} {w : Wd} {env : AEnv} {st : Sto} {σ : St} {H : Hp} {Q : VK} {vs : List V} {ds : List D} {F : DF}
theorem Post.call {r : Res D} (h : Post Den K W w H σ r Q) : Post Den K (fun c d _ H' => W c d σ H') w.call H [] r Q := by
  cases r with
  | ok a st' => exact fun ρ' H' x h1 h2 h3 => h ρ' H' x (by rw [← call_S]; exact h1) h2 (by rw [← call_S]; exact h3)
  | exc e st' => exact fun ρ' H' d gs h1 h2 h3 h4 => h ρ' H' d gs (by rw [← call_S]; exact h1) h2 (by rw [← call_S]; exact h3) (by rw [← call_S]; exact h4)
  | bad => exact h
theorem sp_of (r : Rel K w env st σ H) (d : Dens K w.ρ w.S H vs ds) (p : Post Den K W w H σ (F ds st) Q) : spD K F vs H Q (fun c d H' => W c d σ H') := by
  have e : w.call.S = w.S := call_S w w.ρ
  refine ⟨w.call, st, ds, rfl, by rw [e]; exact r.sto, fun a h => ?_, by rw [e]; exact d, p.call⟩
  rcases h with h | h
  · exact r.res a h
  · exact ⟨r.thereS (.inr (.inr h)), (r.disO a h).1⟩
end
def runD (n N : Nat) (g : SF) : DF := fun ds st => if ds.length = n then (match g (ds.map Sl.sh ++ List.replicate (N - n) .un) st with
  | .nx _ st' => .ok .non st'
  | .rt d st' => .ok d st'
  | .exc e st' => .exc e st'
  | _ => .bad) else .bad
theorem start_get {N : List Str} {vs : List V} {i : Nat} {v : Option V} (h : (L2.start N vs)[i]? = some v) : (i < vs.length ∧ v = vs[i]?) ∨ (vs.length ≤ i ∧ v = none) := by
  unfold L2.start at h
  by_cases hi : i < vs.length
  · rw [List.getElem?_append_left (by simpa using hi), List.getElem?_map] at h
    refine .inl ⟨hi, ?_⟩
    rw [List.getElem?_eq_getElem hi] at h ⊢
    exact (Option.some.inj h).symm
  · rw [List.getElem?_append_right (by simpa using hi), List.getElem?_replicate] at h
    split at h
    · exact .inr ⟨by omega, (Option.some.inj h).symm⟩
    · cases h
theorem start_rel {K : Ct} {N : List Str} {n : Nat} {w : Wd} {st : Sto} {ds : List D} {vs : List V} {H : Hp} (hn : n ≤ N.length) (hO : w.O = []) (s : StOk K w.ρ w.S H st) (res : ∀ a, w.R a → (∃ o, H a = some o) ∧ a ∉ w.ρ) (d : Dens K w.ρ w.S H vs ds) (hl : ds.length = n) :
    Rel K ⟨w.ρ, w.R, List.replicate N.length none⟩ (ds.map Sl.sh ++ List.replicate (N.length - n) Sl.un) st (L2.start N vs) H := by
  have lv : vs.length = n := by rw [d.length, hl]
  have noO : ∀ (k : Nat) a, some a ∉ List.replicate k (none : Option Addr) := fun k a z => nomatch (List.mem_replicate.mp z).2
  have eS : (⟨w.ρ, w.R, List.replicate N.length none⟩ : Wd).S = w.S := by
    funext a
    refine propext ⟨fun h => ?_, fun h => ?_⟩
    · rcases h with h | h | h
      · exact .inl h
      · exact .inr (.inl h)
      · exact absurd h (noO _ a)
    · rcases h with h | h | h
      · exact .inl h
      · exact .inr (.inl h)
      · rw [hO] at h; cases h
  have lenE : (ds.map Sl.sh ++ List.replicate (N.length - n) Sl.un).length = N.length := by
    rw [List.length_append, List.length_map, List.length_replicate, hl]; omega
  refine ⟨by rw [eS]; exact s, res, ?_, by rw [lenE]; exact List.length_replicate, fun i v sl o h1 h2 h3 => ?_, fun i j a h1 _ => absurd (List.mem_of_getElem? h1) (noO _ a), fun a h => absurd h (noO _ a)⟩
  · rw [lenE]
    unfold L2.start
    rw [List.length_append, List.length_map, List.length_replicate]; omega
  · have eo : o = none := by
      have h3 : (List.replicate N.length (none : Option Addr))[i]? = some o := h3
      rw [List.getElem?_replicate] at h3
      split at h3
      · exact (Option.some.inj h3).symm
      · cases h3
    subst eo
    rcases start_get h1 with ⟨hi, ev⟩ | ⟨hi, ev⟩
    · obtain ⟨dd, e1, e2⟩ := d.getV (List.getElem?_eq_getElem hi)
      rw [List.getElem?_append_left (by rw [List.length_map, hl, ← lv]; exact hi), List.getElem?_map, e1] at h2
      cases (Option.some.inj h2)
      refine ⟨rfl, vs[i], by rw [ev]; exact List.getElem?_eq_getElem hi, ?_⟩
      show Den K w.ρ (⟨w.ρ, w.R, List.replicate N.length none⟩ : Wd).S H _ _
      rw [eS]
      exact e2
    · rw [List.getElem?_append_right (by rw [List.length_map, hl, ← lv]; exact hi), List.getElem?_replicate] at h2
      split at h2
      · cases (Option.some.inj h2)
        exact rfl
      · cases h2
theorem start_back {K : Ct} {n : Nat} {w w' : Wd} {H H' : Hp} (hO : w.O = []) (x : ExtS K ⟨w.ρ, w.R, List.replicate n none⟩ H w' H') : ∀ a, (w.at_ w'.ρ).S a → w'.S a ∨ H' a = none := fun a h => by
  rcases h with h | h | h
  · exact .inl (.inl h)
  · exact .inl (.inr (.inl (x.resK a h)))
  · have h : some a ∈ w.O := h
    rw [hO] at h; cases h
theorem body_ok {K : Ct} {N : List Str} {n : Nat} {g : SF} {vs : List V} {H : Hp} {Q : VK} {E : XK} (hn : n ≤ N.length) (h : spD K (runD n N.length g) vs H Q E) :
    tS K (fun c d _ H' => E c d H') g { nx := fun _ H' => Q .non H', rt := Q } (L2.start N vs) H := by
  obtain ⟨w, st, ds, hO, s, res, d, p⟩ := h
  unfold runD at p
  split at p
  · rename_i hl
    have noO : ∀ (k : Nat) a, some a ∉ List.replicate k (none : Option Addr) := fun k a z => nomatch (List.mem_replicate.mp z).2
    refine ⟨_, _, st, start_rel hn hO s res d hl, ?_⟩
    have ss : ∀ (w' : Wd) (H' : Hp) (st' : Sto), ExtS K ⟨w.ρ, w.R, List.replicate N.length none⟩ H w' H' → StOk K w'.ρ w'.S H' st' → StOk K w'.ρ (w.at_ w'.ρ).S H' st' := fun w' H' st' x q =>
      q.ext Ext.refl (start_back hO x) (fun a h => .inl h) fun _ _ => rfl
    cases q : g (ds.map Sl.sh ++ List.replicate (N.length - n) Sl.un) st with
    | nx e s1 =>
      rw [q] at p
      intro w' σ' H' r' x
      exact p w'.ρ H' .non (ss w' H' s1 x r'.sto) (x.toE (noO _)) .non
    | rt dd s1 =>
      rw [q] at p
      intro w' H' v s' x dv
      exact p w'.ρ H' v (ss w' H' s1 x s') (x.toE (noO _)) (dv.mono Ext.refl (start_back hO x) fun a h => .inl h)
    | exc e s1 =>
      rw [q] at p
      intro w' σ' H' dd gs s' x hx df
      exact p w'.ρ H' dd gs (ss w' H' s1 x s') (x.toE (noO _)) (hx.back (start_back hO x)) (df.mono Ext.refl (start_back hO x) fun a h => .inl h)
    | bk e s1 => rw [q] at p; exact p.elim
    | ct e s1 => rw [q] at p; exact p.elim
    | bad => rw [q] at p; exact p.elim
  · exact p.elim
theorem runD_len {K : Ct} {n N : Nat} {g : SF} {vs : List V} {H : Hp} {Q : VK} {E : XK} (h : spD K (runD n N g) vs H Q E) : vs.length = n := by
  obtain ⟨w, st, ds, _, _, _, d, p⟩ := h
  unfold runD at p
  split at p
  · rename_i hl
    rw [d.length, hl]
  · exact p.elim
structure Go (X : Cx) (W : WX) (k : Nat) : Prop where
  tk : L2N.Takes X W
  rm : Room k X.A
  po : PassesOwn (model X.prog X.w) X.A X.env X.xe
  calm : X.calm = true
  gd : X.A.guards = some []
structure FnB (P : Program) (w : World) (K : PySem.W.Frag) (mg : Str → Option Value) (base : Heap) (k : Nat) (f : Addr) (fd : FuncData) (ps : List Str) (sp : Sp) : Prop where
  len : ∀ vs H Q E, sp vs H Q E → vs.length = ps.length
  run : ∀ (A : Around) (outer : List Env) (s : Shared) (H : Hp) (args : Args) (us : List Value) (vs : List V) (Q : VK) (E : XK), Room k A → A.guards = some [] → Env0 P w K mg base A outer s H →
    BindsTo s fd args (ps.zip us) → Vals vs us → sp vs H Q E → codeAny (model P w) A (.call (.ref f) args) (CR (L2N.CX P w) outer P w H s Q E) s
def FnV (P : Program) (w : World) (K : PySem.W.Frag) (mg : Str → Option Value) (base : Heap) (k : Nat) (f : Addr) (sp : Sp) : Prop :=
  ∀ (A : Around) (outer : List Env) (s : Shared) (H : Hp) (us : List Value) (vs : List V) (Q : VK) (E : XK), Room k A → A.guards = some [] → Env0 P w K mg base A outer s H →
    Vals vs us → sp vs H Q E → codeAny (model P w) A (.call (.ref f) ⟨us, []⟩) (CR (L2N.CX P w) outer P w H s Q E) s
theorem go_of {P : Program} {w : World} {K : PySem.W.Frag} {mg : Str → Option Value} {base : Heap} {k : Nat} {f : Addr} {qual : Str} {scope : Scope} {cdv : Value} {N : List Str} {A : Around} {outer : List Env} {s : Shared} {H : Hp} {E : XK} (hr : Room k (A.deeper (envOfC qual scope s.heap.objs.size f cdv))) (hg : A.guards = some []) :
    Go (cxOf (L2N.CX P w) P w K mg base N qual scope f cdv A outer s H E) (fun c d _ H' => E c d H') k :=
  ⟨L2N.takes_of rfl rfl rfl rfl, hr, passes_of rfl, rfl, hg⟩
section
variable {P : Program} {w : World} {K : PySem.W.Frag} {mg : Str → Option Value} {base : Heap} {Γ : Nat → Addr} {k : Nat} {f : Addr} {x qual : Str} {params : Arguments} {body : List Stmt} {scope : Scope} {N ps : List Str} {fd : FuncData} {kws : List (Str × V)}
theorem def_ok (F : FunD K x qual params body scope [] kws f fd) (S : FnScope N ps scope) (g : SF)
    (hbody : ∀ (cdv : Value) (A : Around) (outer : List Env) (s : Shared) (H : Hp) (E : XK), Go (cxOf (L2N.CX P w) P w K mg base N qual scope f cdv A outer s H E) (fun c d _ H' => E c d H') k →
      PSs (cxOf (L2N.CX P w) P w K mg base N qual scope f cdv A outer s H E) body (tS ⟨K, Γ⟩ (fun c d _ H' => E c d H') g)) :
    FnB P w K mg base (k + 1) f fd ps (spD ⟨K, Γ⟩ (runD ps.length N.length g)) := by
  have hpl : ps.length ≤ N.length := by have := congrArg List.length S.pre; rw [List.length_take] at this; omega
  refine ⟨fun vs H Q E h => runD_len h, fun A outer s H args us vs Q E hr hg e0 hb rv hsp => ?_⟩
  obtain ⟨oc, od, dV, kV, doc, pm, an, cdv, ct, osl, rfl, lk, hcd, _, _⟩ := F.ex
  refine StX.run_bnd (G := fun xs H2 => xs = vs ∧ H2 = H) lk hcd S hr e0 (fun A' Ex Q' h => ?_) fun s2 H2 xs hx hr' => ?_
  · exact hb _ _ _ _ (h s H vs us e0 Un.refl rfl (fun _ _ z => z) rv (runD_len hsp) ⟨rfl, rfl⟩)
  · obtain ⟨rfl, rfl⟩ := hx
    exact ⟨_, hbody cdv A outer s2 H2 E (go_of hr' hg), body_ok hpl hsp⟩
end
def Cal (P : Program) (w : World) (K : PySem.W.Frag) (mg : Str → Option Value) (base : Heap) (Γ : Nat → Addr) (k : Nat) (v : Value) (ks : List Str) (F : DF) : Prop :=
  ∀ (X : Cx) (W : WX), X.prog = P → X.w = w → X.K = K → X.mg = mg → X.base = base → Room k X.A → X.A.guards = some [] → L2N.Takes X W → ∀ (pins : List (Addr × Obj)) (s : Shared) (σ : St) (H : Hp) (wd : Wd) (env : AEnv) (st : Sto) (us ws : List Value) (vs : List V) (ds : List D) (Q : VK),
    Inv X pins σ H s → Vals vs (us ++ ws) → ws.length = ks.length → Rel (XC X Γ) wd env st σ H → Dens (XC X Γ) wd.ρ wd.S H vs ds → Post Den (XC X Γ) W wd H σ (F ds st) Q →
    wpAny (model X.prog X.w) X.A (call v us (ks.zip ws)) (EP X pins σ Q) X.xe s
section
variable {P : Program} {w : World} {K : PySem.W.Frag} {mg : Str → Option Value} {base : Heap} {Γ : Nat → Addr} {j k : Nat} {f : Addr} {v : Value} {x qual : Str} {params : Arguments} {body : List Stmt} {scope : Scope} {N ps ks : List Str} {fd : FuncData} {kws : List (Str × V)} {F : DF}
theorem Cal.mono (c : Cal P w K mg base Γ j v ks F) (h : j ≤ k) : Cal P w K mg base Γ k v ks F := fun X W h1 h2 h3 h4 h5 hr => c X W h1 h2 h3 h4 h5 (hr.mono h)
theorem Cal.fn0 (g : FnV P w K mg base k f (spD ⟨K, Γ⟩ F)) : Cal P w K mg base Γ k (.ref f) [] F := by
  intro X W h1 h2 h3 h4 h5 hr hg tk pins s σ H wd env st us ws vs ds Q I rv hw rl d p
  subst h1 h2 h3 h4 h5
  have e : ws = [] := List.length_eq_zero_iff.mp hw
  subst e
  rw [List.append_nil] at rv
  refine wpAny_call (codeAny_mono (g X.A X.stack s H us vs Q (fun c d H' => W c d σ H') hr hg I.env0 rv (sp_of rl d p)) fun r s' hq => ?_)
  cases r with
  | error e => exact L2N.passAt tk σ pins H s e s' I hq
  | ok fl =>
    cases fl with
    | ret u => exact I.after hq
    | next => exact False.elim hq
    | brk => exact False.elim hq
    | cont => exact False.elim hq
theorem Cal.fnK (g : FnB P w K mg base k f fd ps (spD ⟨K, Γ⟩ F)) (π : {α : Type} → List α → List α) (hV : ∀ {vs us}, Vals vs us → Vals (π vs) (π us)) (hD : ∀ {K ρ S H vs ds}, Dens K ρ S H vs ds → Dens K ρ S H (π vs) (π ds))
    (hb : ∀ (s : Shared) (us ws : List Value), K.In s.heap → ws.length = ks.length → (π (us ++ ws)).length = ps.length → BindsTo s fd ⟨us, ks.zip ws⟩ (ps.zip (π (us ++ ws)))) : Cal P w K mg base Γ k (.ref f) ks (fun ds st => F (π ds) st) := by
  intro X W h1 h2 h3 h4 h5 hr hg tk pins s σ H wd env st us ws vs ds Q I rv hw rl d p
  subst h1 h2 h3 h4 h5
  have hsp := sp_of (F := F) rl (hD d) p
  have hl : (π (us ++ ws)).length = ps.length := by rw [← (hV rv).length]; exact g.len _ _ _ _ hsp
  refine wpAny_call (codeAny_mono (g.run X.A X.stack s H ⟨us, ks.zip ws⟩ (π (us ++ ws)) (π vs) Q (fun c d H' => W c d σ H') hr hg I.env0 (hb s us ws I.kIn hw hl) (hV rv) hsp) fun r s' hq => ?_)
  cases r with
  | error e => exact L2N.passAt tk σ pins H s e s' I hq
  | ok fl =>
    cases fl with
    | ret u => exact I.after hq
    | next => exact False.elim hq
    | brk => exact False.elim hq
    | cont => exact False.elim hq
theorem Cal.fn (D : FunD K x qual params body scope [] kws f fd) (g : FnB P w K mg base k f fd ps (spD ⟨K, Γ⟩ F))
    (h : ∀ (kV doc pm : Value) (an : Option Addr) (cdv ct : Value) (us : List Value), us.length = ps.length → bindArgs (PySem.W.fnOf x qual params body scope .none kV doc pm an cdv ct) ⟨us, []⟩ = pure (ps.zip us)) : Cal P w K mg base Γ k (.ref f) [] F :=
  Cal.fnK (ks := []) g (fun l => l) (fun h => h) (fun h => h) fun s us ws X hw hl => by
    have e : ws = [] := List.length_eq_zero_iff.mp hw
    subst e
    rw [List.append_nil] at hl ⊢
    exact FunD.bindsA D h s us hl
structure Kn (P : Program) (w : World) (K : PySem.W.Frag) (mg : Str → Option Value) (base : Heap) (Γ : Nat → Addr) (k : Nat) (x : Str) (ks : List Str) (F : DF) : Prop where
  ex : ∃ v, mg x = some v ∧ PySem.W.keepIn K v = true ∧ Cal P w K mg base Γ k v ks F
theorem Kn.mono (c : Kn P w K mg base Γ j x ks F) (h : j ≤ k) : Kn P w K mg base Γ k x ks F := let ⟨v, a, b, d⟩ := c.ex; ⟨v, a, b, d.mono h⟩
end
def dCall (F : DF) (fs : EFs) : EF := fun env st => (fs env st).bind F
section
variable {X : Cx} {Γ : Nat → Addr} {W : WX} {e o : Expr} {es : List Expr} {f fo : EF} {fs : EFs} {F : DF} {pos p apos : Pos} {j k : Nat} {x m : Str} {ks : List Str}
theorem pd_call (G : Go X W k) (c : Kn X.prog X.w X.K X.mg X.base Γ j x [] F) (ha : PA X (e :: es) (tDs (XC X Γ) W fs)) (hj : j ≤ k := by decide) (hg : Gl X x := by rfl) (hdb : (x == ("__debug__" : Str)) = false := by decide)
    (he : starEach (e :: es) X.env = (false, eval e X.env) :: starEach es X.env := by rfl) (hpl : (backTo pos (starEach es X.env)).any (·.1) = false := by rfl) :
    PE X (.Call (.Name x p) (e :: es) [] pos) (tD (XC X Γ) W (dCall F fs)) := by
  obtain ⟨v, hm, hk, c⟩ := c.ex
  refine ⟨fun pins s σ H Q I h => ?_⟩
  refine wpAny_Call_Name_kw (ld_glob I hg hm ?_ hdb)
  refine PySem.W.callWith_K (h₀ := X.base) I.ok.mod.kin hk (thn (ha.run pos pins s σ H _ I (t1 (Da := Dens) h)) fun us s1 ⟨vs, H1, I1, r, w, env, st, a, rl, d, p1⟩ => ⟨I1.kIn, ?_⟩) he hpl
  exact c X W rfl rfl rfl rfl rfl (G.rm.mono hj) G.gd G.tk pins s1 σ H1 w env st us [] vs a Q I1 (by rw [List.append_nil]; exact r) rfl rl d p1
end
end AM
namespace AM
open PySem PySem.Spec PyProof.Rows L2
mutual
def D.hb (n : Nat) : D → Bool
  | .tup ds => hbs n ds
  | .lst ds => hbs n ds
  | .fz ds => hbs n ds
  | .ins _ fs => hbF n fs
  | .hd m => decide (m < n)
  | .dic _ => true
  | .dk r => hbK n r
  | .exv _ _ _ fs => hbF n fs
  | .exx _ fs => hbF n fs
  | .pin _ _ _ ds => hbs n ds
  | .non => true
  | .bl _ => true
  | .int _ => true
  | .str _ => true
  | .ty _ => true
  | .cls _ => true
def hbs (n : Nat) : List D → Bool
  | [] => true
  | d :: ds => D.hb n d && hbs n ds
def hbF (n : Nat) : List (Str × D) → Bool
  | [] => true
  | (_, d) :: ds => D.hb n d && hbF n ds
def hbK (n : Nat) : List (Key × D) → Bool
  | [] => true
  | (_, d) :: ds => D.hb n d && hbK n ds
end
section
variable {K : Ct} {ρ l : List Addr} {S S' : Addr → Prop} {H : Hp}
end
theorem StOk.more {K : Ct} {ρ : List Addr} {S S' : Addr → Prop} {H H' : Hp} {st : Sto} {p : Addr} {c : Cell} (s : StOk K ρ S H st) (k : ∀ a o, H a = some o → H' a = some o) (hp : H p = none) (hS : ∀ a, S' a → S a ∨ H a = none) (hr : ∀ a, a ∈ ρ → S a)
    (hc : CellOk K (ρ ++ [p]) S' H' p c) (ht : ∀ a vs, SqT K.K H a vs → SqT K.K H' a vs) : StOk K (ρ ++ [p]) S' H' (st ++ [c]) ∧ Ext K ρ H (ρ ++ [p]) H' := by
  have np : p ∉ ρ := fun z => by
    obtain ⟨o, e⟩ := s.there z
    rw [hp] at e; cases e
  have x : Ext K ρ H (ρ ++ [p]) H' := ⟨⟨[p], rfl⟩, fun a o e n => ⟨k a o e, fun z => by
    rcases List.mem_append.mp z with z | z
    · exact n z
    · rw [List.mem_singleton.mp z, hp] at e; cases e⟩, ht⟩
  refine ⟨⟨by rw [List.length_append, List.length_append, s.len]; rfl, List.nodup_append.mpr ⟨s.nd, by simp, fun a h b h2 z => np (by rw [List.mem_singleton.mp h2] at z; rw [← z]; exact h)⟩, fun n a d h1 h2 => ?_⟩, x⟩
  by_cases hn : n < ρ.length
  · rw [List.getElem?_append_left hn] at h1
    rw [List.getElem?_append_left (by rw [← s.len]; exact hn)] at h2
    have q := s.cell n a d h1 h2
    cases d with
    | lst ds => obtain ⟨vs, z, t⟩ := q; exact ⟨vs, k _ _ z, t.mono x hS hr⟩
    | obj C fs => obtain ⟨dx, gs, z, t⟩ := q; exact ⟨dx, gs, k _ _ z, t.mono x hS hr⟩
    | dct r => obtain ⟨kvs, z, t⟩ := q; exact ⟨kvs, k _ _ z, t.mono x hS hr⟩
    | tab i q' =>
      obtain ⟨o, eo, _⟩ := CellOk.some q
      exact TabC.mono q ((k _ _ eo).trans eo.symm) x hS hr
  · rw [List.getElem?_append_right (by omega)] at h1
    rw [List.getElem?_append_right (by rw [← s.len]; omega), ← s.len] at h2
    cases q : n - ρ.length with
    | zero =>
      rw [q] at h1 h2
      cases h1; cases h2
      exact hc
    | succ m => rw [q] at h1; cases h1
section
variable {X : Cx} {Γ : Nat → Addr} {W : WX} {e o a b : Expr} {es : List Expr} {f fo fa fb : EF} {fs : EFs} {F : DF} {pos p apos : Pos} {j k : Nat} {x m : Str} {ks : List Str}
def dNew (f : AEnv → Sto → Res (List D)) : EF := fun env st => (f env st).bind fun ds st => .ok (.hd st.length) (st ++ [.lst ds])
theorem pd_new {f : AEnv → Sto → Res (List D)} (h : PE X e (tF (XC X Γ) W f)) : PE X e (tD (XC X Γ) W (dNew f)) := peImp h fun σ H Q ⟨w, env, st, r, p⟩ => ⟨w, env, st, r, by
  unfold dNew at p
  cases q : f env st with
  | ok ds st' =>
    rw [q] at p
    intro ρ' H' pp vs h1 h2 h3 h4
    have r1 := r.ext h2 h1
    have nS := r1.fresh h3
    have hS : ∀ a, (w.at_ (ρ' ++ [pp])).S a → (w.at_ ρ').S a ∨ H' a = none := fun a h => by
      rcases h with h | h
      · rcases List.mem_append.mp h with h | h
        · exact .inl (.inl h)
        · exact .inr (by rw [List.mem_singleton.mp h]; exact h3)
      · exact .inl (.inr h)
    have k1 : ∀ a o, H' a = some o → upd H' pp (.lst vs) a = some o := fun a o e => by rw [upd_ne (ne_of_none e h3)]; exact e
    have x1 : Ext (XC X Γ) ρ' H' (ρ' ++ [pp]) (upd H' pp (.lst vs)) := ⟨⟨[pp], rfl⟩, fun a o e n => ⟨k1 a o e, fun z => by
      rcases List.mem_append.mp z with z | z
      · exact n z
      · rw [List.mem_singleton.mp z, h3] at e; cases e⟩, fun _ _ h => SqT.upd h3 h⟩
    obtain ⟨s2, x2⟩ := r1.sto.more (c := .lst ds) (S' := (w.at_ (ρ' ++ [pp])).S) k1 h3 hS (fun a h => .inl h) ⟨vs, upd_same, h4.mono x1 hS fun a h => .inl h⟩ (fun _ _ h => SqT.upd h3 h)
    have p2 : Post Den (XC X Γ) W w H σ (.ok (.hd st'.length) (st' ++ [.lst ds])) Q := p
    exact p2 (ρ' ++ [pp]) _ (.ref pp) s2 (h2.trans x2) (.hd (by rw [List.getElem?_append_right (by rw [h1.len]; exact Nat.le_refl _), ← h1.len, Nat.sub_self]; rfl))
  | exc x st' => rw [q] at p; exact p
  | bad => rw [q] at p; exact p⟩
def fldOf (cs : List Nat) (f : Str) (d : D) (st : Sto) : Option D := match d with
  | .ins c fs => if cs.contains c = true then fs.lookup f else none
  | .hd n => match st[n]? with
    | some (.obj c fs) => if cs.contains c = true then fs.lookup f else none
    | _ => none
  | _ => none
def optR (o : Option D) (st : Sto) : Res D := match o with
  | some d => .ok d st
  | none => .bad
def dFld (cs : List Nat) (x : Str) (fo : EF) : EF := fun env st => (fo env st).bind fun d st => optR (fldOf cs x d st) st
def isC (c : Nat) (m : Str) (d : D) (st : Sto) : Bool := match d with
  | .ins c' fs => c' == c && (fs.lookup m).isNone
  | .hd n => match st[n]? with
    | some (.obj c' fs) => c' == c && (fs.lookup m).isNone
    | _ => false
  | _ => false
structure KnM (P : Program) (w : World) (K : PySem.W.Frag) (mg : Str → Option Value) (base : Heap) (Γ : Nat → Addr) (k : Nat) (c : Nat) (m : Str) (ks : List Str) (F : DF) : Prop where
  cl : Cls K (Γ c)
  ex : ∃ g, Meth K (Γ c) m g ∧ Cal P w K mg base Γ k (.ref g) ks F
def dMeth (c : Nat) (m : Str) (F : DF) (fo : EF) (fs : EFs) : EF := fun env st => (fo env st).bind fun d st1 => (if isC c m d st1 = true then fs env st1 else .bad).bind fun ds st2 => F (d :: ds) st2
structure KnP (P : Program) (w : World) (K : PySem.W.Frag) (mg : Str → Option Value) (base : Heap) (Γ : Nat → Addr) (k : Nat) (c : Nat) (f : Str) (F : DF) : Prop where
  cl : Cls K (Γ c)
  ex : ∃ p g, PropOf K (Γ c) f p g ∧ FnV P w K mg base k g (spD ⟨K, Γ⟩ F)
def isI (c : Nat) (d : D) (st : Sto) : Bool := match d with
  | .ins c' fs => c' == c
  | .hd n => match st[n]? with
    | some (.obj c' fs) => c' == c
    | _ => false
  | _ => false
def noX {α : Type} (r : Res α) : Res α := match r with
  | .exc _ _ => .bad
  | r => r
theorem Post.noX {α β : Type} {Da : DnT β α} {K : Ct} {W W' : WX} {w : Wd} {H : Hp} {σ : St} {Q : β → Hp → Prop} {r : Res α} (h : Post Da K W w H σ (AM.noX r) Q) : Post Da K W' w H σ r Q := by
  cases r with
  | ok a st => exact h
  | exc e st => exact h.elim
  | bad => exact h
def dProp (c : Nat) (F : DF) (fo : EF) : EF := fun env st => (fo env st).bind fun d st => if isI c d st = true then AM.noX (F [d] st) else .bad
end
end AM
namespace AM
open PySem PySem.Spec PyProof.Rows L2
theorem nodup_at {α : Type} : ∀ {l : List α} {i j : Nat} {a : α}, l.Nodup → l[i]? = some a → l[j]? = some a → i = j
  | [], _, _, _, _, h, _ => by simp at h
  | _ :: _, 0, 0, _, _, _, _ => rfl
  | b :: l, 0, j + 1, a, n, h1, h2 => by
    have h1 : b = a := by simpa using h1
    have h2 : l[j]? = some a := by simpa using h2
    exact absurd (List.mem_of_getElem? h2) (by rw [← h1]; exact (List.nodup_cons.mp n).1)
  | b :: l, i + 1, 0, a, n, h1, h2 => by
    have h2 : b = a := by simpa using h2
    have h1 : l[i]? = some a := by simpa using h1
    exact absurd (List.mem_of_getElem? h1) (by rw [← h2]; exact (List.nodup_cons.mp n).1)
  | b :: l, i + 1, j + 1, a, n, h1, h2 => by
    exact congrArg Nat.succ (nodup_at (a := a) (List.nodup_cons.mp n).2 (by simpa using h1) (by simpa using h2))
section
variable {K : Ct} {w : Wd} {env : AEnv} {st : Sto} {σ : St} {H : Hp}
theorem Rel.putCell {a : Addr} {n : Nat} {c : Cell} {o o' : HO} (r : Rel K w env st σ H) (hn : w.ρ[n]? = some a) (hs : n < st.length) (hH : H a = some o) (ho : ∀ u, o ≠ .tup u) (hf : ∀ q u, o ≠ .frz q u) (hc : ∀ H', ExtS K w H w H' → H' a = some o' → CellOk K w.ρ w.S H' a c) :
    Rel K w env (st.set n c) σ (upd H a o') ∧ ExtS K w H w (upd H a o') := by
  have hm : a ∈ w.ρ := List.mem_of_getElem? hn
  have tu : ∀ b us, SqT K.K H b us → SqT K.K (upd H a o') b us := fun b us q => by
    rcases q with (q | ⟨z, q⟩) | q
    · exact .inl (.inl (by rw [upd_ne (ne_of q hH (fun z => ho _ z.symm))]; exact q))
    · exact .inl (.inr ⟨z, by rw [upd_ne (ne_of q hH (fun z => hf _ _ z.symm))]; exact q⟩)
    · exact .inr q
  have X : ExtS K w H w (upd H a o') := ⟨⟨[], by simp⟩, fun b u h n1 m => ⟨by rw [upd_ne (fun z => n1 (by rw [z]; exact hm))]; exact h, n1, m⟩, fun b h => .inl h, fun b u h => by
    by_cases e : b = a
    · exact ⟨_, by rw [e]; exact upd_same⟩
    · exact ⟨u, by rw [upd_ne e]; exact h⟩, tu, fun _ h => h⟩
  have m : ∀ {v d}, Den K w.ρ w.S H v d → Den K w.ρ w.S (upd H a o') v d := fun h => h.monoS X
  refine ⟨⟨⟨by rw [List.length_set]; exact r.sto.len, r.sto.nd, fun k b e h1 h2 => ?_⟩, fun b q => ?_, r.len, r.lenO, fun j v' s o h1 h2 h3 => ?_, r.ndO, r.disO⟩, X⟩
  · rcases get_set h2 with ⟨rfl, rfl, _⟩ | ⟨hk, h2⟩
    · rw [hn] at h1; cases h1
      exact hc _ X upd_same
    · have nb : b ≠ a := fun z => hk (by
        subst z
        exact nodup_at r.sto.nd h1 hn)
      exact (r.sto.cell k b e h1 h2).monoS X (upd_ne nb)
  · obtain ⟨⟨u, e⟩, n1⟩ := r.res b q
    exact ⟨X.there b u e, n1⟩
  · have q := r.slot j v' s o h1 h2 h3
    cases s with
    | un => exact q
    | sh d' => obtain ⟨e, x, ex, dx⟩ := q; exact ⟨e, x, ex, m dx⟩
    | own ds' =>
      obtain ⟨b, us, e1, e2, e3, e4⟩ := q
      have nb : b ≠ a := fun z => (r.disO b (by rw [e1] at h3; exact List.mem_of_getElem? h3)).1 (by rw [z]; exact hm)
      exact ⟨b, us, e1, e2, by rw [upd_ne nb]; exact e3, e4.monoS X⟩
def putD (f : Str) (d : D) : List (Str × D) → List (Str × D)
  | [] => [(f, d)]
  | (g, e) :: r => if g = f then (g, d) :: r else (g, e) :: putD f d r
theorem DenF.put {ρ : List Addr} {S : Addr → Prop} {f : Str} {v : V} {d : D} (h : Den K ρ S H v d) : ∀ {gs : List (Str × V)} {fs : List (Str × D)}, DenF K ρ S H gs fs → DenF K ρ S H (putF f v gs) (putD f d fs)
  | _, _, .nil => .cons h .nil
  | _, _, .cons (f := g) (vs := gs) (ds := fs) q t => by
    unfold putF putD
    split
    · exact .cons h t
    · exact .cons q (DenF.put h t)
theorem DenF.len {ρ : List Addr} {S : Addr → Prop} : ∀ {gs : List (Str × V)} {fs : List (Str × D)}, DenF K ρ S H gs fs → gs.length = fs.length
  | _, _, .nil => rfl
  | _, _, .cons _ t => by rw [List.length_cons, List.length_cons, DenF.len t]
end
def putIx (o i d : D) (env : AEnv) (st : Sto) : SR := match o, i with
  | .hd n, .int k => (match st[n]? with
    | some (.lst ds) => (match ixN ds.length k with
      | some j => .nx env (st.set n (.lst (ds.set j d)))
      | none => .bad)
    | _ => .bad)
  | _, _ => .bad
def gIx (fo fi : EF) : GF := fun d env st => (fo env st).then fun o st1 => (fi env st1).then fun i st2 => putIx o i d env st2
def putFd (cs : List Nat) (f : Str) (o d : D) (env : AEnv) (st : Sto) : SR := match o with
  | .hd n => (match st[n]? with
    | some (.obj c fs) => if (cs.contains c && decide (fs.length < 1000)) = true then .nx env (st.set n (.obj c (putD f d fs))) else .bad
    | _ => .bad)
  | _ => .bad
def sFldD (cs : List Nat) (f : Str) (fo fv : EF) : SF := fun env st => (fv env st).then fun d st1 => (fo env st1).then fun o st2 => putFd cs f o d env st2
section
variable {X : Cx} {Γ : Nat → Addr} {W : WX} {e o i a b : Expr} {es : List Expr} {f fo fi fv fa fb : EF} {fs : EFs} {F : DF} {pos p apos : Pos} {j k : Nat} {x m : Str} {ks : List Str}
theorem pgd_ix (ho : PE X o (tD (XC X Γ) W fo)) (hi : PE X i (tD (XC X Γ) W fi))
    (ha : ∀ v, assign (.Subscript o i pos) X.env v = (holding [v] (eval o X.env) >>= fun ov => holding [v, ov] (eval i X.env) >>= fun iv => standAt pos >>= fun _ => holding [v, ov, iv] (setItem ov iv v) >>= fun _ => release [v, ov, iv] []) := by intro _; rfl) :
    PG X (.Subscript o i pos) (tgG (XC X Γ) W (gIx fo fi)) := by
  refine ⟨fun pins s σ H v u Q I rv h => (pg_sub ho hi set_list ha).run pins s σ H v u Q I rv ?_⟩
  obtain ⟨w, env, st, d, r, hd, p⟩ := h
  refine ⟨w, env, st, r, (Post.then (Da := Den) r p).mono ?_⟩
  rintro y H1 ⟨w1, st1, c, r1, x1, d1, p1⟩
  refine ⟨w1, env, st1, r1, (Post.then (Da := Den) r1 p1).mono ?_⟩
  rintro z H2 ⟨w2, st2, c2, r2, x2, d2, p2⟩
  have p2 : PostS (XC X Γ) W w2 H2 σ (putIx c c2 d env st2) { nx := Q, rt := fun _ _ => False } := p2
  have dc := d1.monoS x2
  have dd := (hd.monoS x1).monoS x2
  unfold putIx at p2
  split at p2
  · rename_i n kk _
    obtain ⟨q, eq, hn⟩ := DenB.hd (w := w2) dc.b
    have ei := DenB.int (w := w2) d2.b
    split at p2
    · rename_i ds es
      obtain ⟨vs, hq, t⟩ := r2.cellL hn es
      split at p2
      · rename_i jj hj
        have hj' : ixN vs.length kk = some jj := by rw [t.length]; exact hj
        refine ⟨q, vs, kk, jj, eq, ei, hq, hj', ?_⟩
        obtain ⟨r3, x3⟩ := r2.putCell (c := .lst (ds.set jj d)) (o' := .lst (vs.set jj v)) hn (List.getElem?_eq_some_iff.mp es).1 hq (fun u z => nomatch z) (fun a u z => nomatch z) fun H' X' e' => ⟨_, e', (t.monoS X').set jj (dd.monoS X')⟩
        exact p2 _ _ _ r3 x3
      · exact p2.elim
    · exact p2.elim
  · exact p2.elim
end
end AM
namespace AM
open PySem PySem.Spec PyProof.Rows L2
section
variable {P : Program} {w : World} {K : PySem.W.Frag} {mg : Str → Option Value} {base : Heap} {Γ : Nat → Addr} {j k c : Nat} {f : Addr} {F : DF}
end
end AM
namespace PySem.W
open PySem PySem.Calls PyProof.Rows Builtin
section
variable {prog : Program} {w : World} {A : Around} {E : Value → Shared → Prop} {s : Shared} {K : Frag} {x C f : Addr} {ox : Obj} {od : Option Obj} {b tb : Value}
end
end PySem.W
namespace AM
open PySem PySem.Spec PyProof.Rows L2
structure KnS (P : Program) (w : World) (K : PySem.W.Frag) (mg : Str → Option Value) (base : Heap) (Γ : Nat → Addr) (k : Nat) (c : Nat) (m : Str) (F : DF) : Prop where
  ex : ∃ g, PySem.W.findIn K (.ref (Γ c)) m = some (some (.ref g)) ∧ PySem.W.isFn K (.ref g) = true ∧ FnV P w K mg base k g (spD ⟨K, Γ⟩ F)
section
variable {X : Cx} {Γ : Nat → Addr} {W : WX} {e o a b : Expr} {es : List Expr} {f fo fa fb : EF} {fs : EFs} {F : DF} {pos p apos : Pos} {j k c : Nat} {x m : Str} {ks : List Str}
def dOwn2 (c : Nat) (F : DF) (fa fb : EF) : EF := fun env st => (fa env st).bind fun a st1 => (fb env st1).bind fun b st2 => if (isI c a st2 && isI c b st2) = true then F [a, b] st2 else .bad
def gTruC (c : Nat) (F : DF) (f : EF) : TF := fun env st => (f env st).bind fun d st => if isI c d st = true then (match F [d] st with
  | .ok (.bl b) st' => .ok b st'
  | _ => .bad) else .bad
structure ClsI (K : PySem.W.Frag) (C : Addr) : Prop where
  cl : Cls K C
  ha : PySem.W.findIn K (.ref C) "__class__" = some (some (.builtin "object.__class__"))
  hn : PySem.W.specialIn K (.builtin "object.__class__") "__get__" = some (some (.builtin "getset_descriptor.__get__"))
  htk : PySem.W.takesIn K (.builtin "object.__class__") = some true
  hm : PySem.W.mroIn K C (.type "object") = some true
end
end AM
namespace PySem
open Builtin
theorem am_enum_new {v : Value} {o : Obj} {H : Heap → Prop} (B : Begins v o H) :
    Meets (Builtin.«enumerate.__new__» ⟨[.type "enumerate", v], []⟩) (fun _ R s => H s.heap ∧
      R (.ok (.ret (.ref (s.heap.push o).objs.size))) { s with heap := (s.heap.push o).push { cls := .type "enumerate", data := .fields #[.none, .bool false, .ref s.heap.objs.size, rawInt 0, .none, .none] } }) := by
  refine Meets.of_wp fun prog w A R s hh => ?_
  obtain ⟨h1, h⟩ := hh
  obtain ⟨hp, g, d, tk, os⟩ := s
  have ty1 := sub_enumerate
  have begin_ : ∀ {A' : Around} {E : Value → Shared → Prop} {Q : Value → Shared → Prop}, Q (.ref hp.objs.size) ⟨hp.push o, g, d, tk, os⟩ → wpAny (model prog w) A' (pyIter v) Q E ⟨hp, g, d, tk, os⟩ := fun q => B.iter prog w _ _ _ _ h1 q
  wp_walk using begin_
  refine wpAny_stack_any fun stk => wpAny_pure ?_
  split
  · rename_i c _ _ _ _ _
    cases hc : (c == Value.type "enumerate") with
    | true =>
      wp_walk using begin_
      exact ⟨_, rfl, h⟩
    | false =>
      wp_walk using begin_
      exact ⟨_, rfl, h⟩
  · wp_walk using begin_
    exact ⟨_, rfl, h⟩
theorem am_enum {prog : Program} {w : World} {A : Around} {E : Value → Shared → Prop} {s : Shared} {v : Value} {o : Obj} {H : Heap → Prop} {Q : Value → Shared → Prop} (B : Begins v o H) (h1 : H s.heap)
    (h : ∀ h', IsEnum h' (s.heap.objs.size + 1) s.heap.objs.size 0 .none → h'.get? s.heap.objs.size = some o → (∀ b u, s.heap.get? b = some u → h'.get? b = some u) → Q (.ref (s.heap.objs.size + 1)) { s with heap := h' }) :
    wpAny (model prog w) A (call (.type "enumerate") [v]) Q E s := by
  refine callType_new F.called_enumerate (by decide) (F.typeCall_enumerate_1 _) (F.newCall_enumerate_1 _) (fun obj => F.args_object_init_2 obj _) F.entry_enumerate_new (am_enum_new B) ⟨h1, ?_⟩
  have z1 : (s.heap.push o).objs.size = s.heap.objs.size + 1 := Heap.size_push ..
  have at1 : ((s.heap.push o).push { cls := .type "enumerate", data := .fields #[.none, .bool false, .ref s.heap.objs.size, rawInt 0, .none, .none] }).get? (s.heap.push o).objs.size = some { cls := .type "enumerate", data := .fields #[.none, .bool false, .ref s.heap.objs.size, rawInt 0, .none, .none] } := Heap.get?_push_size _ rfl
  show _ ∧ _
  rw [z1] at at1 ⊢
  exact ⟨⟨_, at1, rfl⟩, h _ at1 (Heap.get?_push_of_some _ (Heap.get?_push_size _ B.free)) fun b u x => Heap.get?_push_of_some _ (Heap.get?_push_of_some _ x)⟩
end PySem
namespace AM
open PySem PySem.Spec PyProof.Rows L2
def IteT (K : PySem.W.Frag) (a : Addr) : It :=
  ⟨fun i H => ∃ us u, SqT K H a us ∧ us[i]? = some u, fun i H v H' => ∃ q u, v = .ref q ∧ H q = none ∧ H' = upd H q (.tup [.int (i : Nat), u]) ∧ ∀ us, SqT K H a us → us[i]? = some u, fun i H => ∃ us, SqT K H a us ∧ us.length ≤ i⟩
theorem turn_enumT {P : Program} {w : World} {K : PySem.W.Frag} {elts : List Expr} {kk : Nat} {tpos : Pos} (a e it : Addr) :
    Turn P w K (.Tuple elts kk tpos) (IteT K a) [e, it] e (fun i h => (∃ o, IsEnum h e it ((i : Nat) : Int) o) ∧ h.IsTupleIter it a i ∧ e ≠ it) where
  mem := List.mem_cons_self
  obj := fun i h st b hb => by
    obtain ⟨⟨o1, he⟩, ⟨o2, h2, _, d2⟩, _⟩ := st
    rcases List.mem_cons.mp hb with z | z
    · exact ⟨_, by rw [z]; exact he, fun v q => by cases q⟩
    · exact ⟨o2, by rw [List.mem_singleton.mp z]; exact h2, fun v q => by rw [d2] at q; cases q⟩
  keep := fun i h h' st k => by
    obtain ⟨⟨o1, he⟩, hi, ne⟩ := st
    exact ⟨⟨o1, k e List.mem_cons_self _ he⟩, hi.at fun o q => k it (List.mem_cons_of_mem _ List.mem_cons_self) o q, ne⟩
  item := by
    rintro X rfl rfl rfl hcalm i pins s σ H E I hf ⟨⟨o1, he⟩, hit, ne⟩ ⟨us, u, hq, hu⟩
    obtain ⟨its, rv, tp, _⟩ := I.tuple hq
    have ez : e < s.heap.objs.size := Heap.lt_size he
    have iz : it < s.heap.objs.size := let ⟨_, q, _⟩ := hit; Heap.lt_size q
    have nai : a ≠ it := fun z => by
      obtain ⟨o, ho, hcl, _⟩ := tp
      obtain ⟨o', ho', hcl', _⟩ := hit
      rw [z, ho'] at ho
      cases ho
      exact absurd (Value.type.inj (hcl.symm.trans hcl')) (by decide)
    have nae : a ≠ e := fun z => by
      obtain ⟨o, ho, hcl, _⟩ := tp
      rw [z, he] at ho
      cases ho
      exact absurd (Value.type.inj hcl) (by decide)
    have ilt : i < its.toArray.size := by
      rw [List.size_toArray, ← rv.length]
      exact (List.getElem?_eq_some_iff.mp hu).1
    refine wpAny_pyNext_enum_itemD (Draws.tuple (A := X.A.in1) (I.ok.hd hcalm) it a nai its.toArray) he ⟨hit, tp⟩ ilt ne (by simp [ne, Ne.symm nae]) fun y h' tk hy ho st' hT hz hk => ?_
    obtain ⟨y', hy', ry⟩ := rv.get hu
    have ey : y = y' := by
      have h1 : its.toArray[i]? = some y := hy
      rw [List.getElem?_toArray, hy'] at h1
      exact (Option.some.inj h1).symm
    subst ey
    refine ⟨_, rfl, wpAny_letOwnedTupleGo_enum (s := { s with heap := h', toks := tk + 1 }) ho fun h2 he2 sb => ?_⟩
    have keep2 : ∀ b, b ≠ e → h2.get? b = h'.get? b := fun b hb => sb.2 b hb
    have obj : ObjOk X.prog X.w (upd H s.heap.objs.size (.tup [.int (i : Nat), u])) h2 s.heap.objs.size (.tup [.int (i : Nat), u]) :=
      ⟨by show 2 ≤ sizeLine; decide, [.int i tk, y], .cons ⟨_, rfl⟩ (.cons ry .nil), ⟨_, (keep2 _ (Nat.ne_of_gt ez)).trans hT, rfl, _, rfl⟩⟩
    have J := I.turnedNew (t' := tk + 1) (ch := [e, it]) (h' := h2) (T := s.heap.objs.size) (ob := .tup [.int (i : Nat), u]) (fun b o hb q => by
      have n1 : b ≠ e := fun z => hb (by rw [z]; exact List.mem_cons_self)
      have n2 : b ≠ it := fun z => hb (by rw [z]; exact List.mem_cons_of_mem _ List.mem_cons_self)
      exact (keep2 b n1).trans (hk b o n1 n2 q)) hf (Nat.le_refl _) obj
    refine ⟨.ref s.heap.objs.size, _, J, rfl, ⟨_, u, rfl, I.hok.fresh (Nat.le_refl _), rfl, fun ws hw => by rw [I.tuple_inj hw hq]; exact hu⟩, ⟨⟨y, ?_⟩, st'.1.at fun o q => (keep2 it (Ne.symm ne)).trans q, ne⟩, fun b hb => ?_⟩
    · rw [show ((i + 1 : Nat) : Int) = (i : Int) + 1 by omega]
      exact he2
    · have bz : b < s.heap.objs.size := by
        rcases List.mem_cons.mp hb with z | z
        · rw [z]; exact ez
        · rw [List.mem_singleton.mp z]; exact iz
      rw [upd_ne (Nat.ne_of_lt bz)]
      exact (hf b hb).1
  done := by
    rintro X rfl rfl rfl hcalm i pins s σ H E I hf ⟨⟨o1, he⟩, hit, ne⟩ ⟨us, hq, hle⟩
    obtain ⟨its, rv, tp, _⟩ := I.tuple hq
    obtain ⟨f0, f1, f2, f3, f4, f5⟩ := hf it (List.mem_cons_of_mem _ List.mem_cons_self)
    have nai : a ≠ it := fun z => by
      obtain ⟨o, ho, hcl, _⟩ := tp
      obtain ⟨o', ho', hcl', _⟩ := hit
      rw [z, ho'] at ho
      cases ho
      exact absurd (Value.type.inj (hcl.symm.trans hcl')) (by decide)
    have hT : s.TypeIs (.ref e) "enumerate" := ⟨_, he, rfl⟩
    have hx : its.toArray[i]? = none := by
      rw [List.getElem?_toArray]
      exact List.getElem?_eq_none (by rw [← rv.length]; exact hle)
    have D : Draws X.prog X.w X.A.in1 it [it, a] i (fun _ _ => False) (fun j h => j = i ∧ h.IsTupleIter it a i ∧ h.IsTuple a its.toArray) := {
      live := fun _ _ st => let ⟨o, ho, _⟩ := st.2.1; ⟨o, ho⟩
      frame := fun _ _ _ st k => ⟨st.1, st.2.1.at fun o z => k it (by simp) o z, st.2.2.at fun o z => k a (by simp) o z⟩
      item := fun j s Q E hj st _ => absurd st.1 (Nat.ne_of_lt hj)
      done := fun s Q E st hE => wpAny_nextOf_tuple_end (I.ok.hd hcalm) st.2.1 st.2.2 hx hE }
    exact wpAny_pyNext_enum_endD D he ⟨rfl, hit, tp⟩ fun h' eb => ⟨rfl, I.turned (t' := s.toks) (fun b o hb q => eb b o hb q) f0 f1 f3 f4 f5⟩
  self := fun A i s Q E st h => let ⟨⟨_, he⟩, _⟩ := st; wpAny_pyIter_enum he h
def iEnumT (K : PySem.W.Frag) (t : TA) : TI := fun σ H R => t σ H fun vs H1 => ∃ a us, vs = [.ref a] ∧ SqT K H1 a us ∧ R (IteT K a) H1
section
variable {X : Cx} {Γ : Nat → Addr} {W : WX} {e tg : Expr} {t : TA} {f : EF} {pos p tpos : Pos} {elts : List Expr} {kk : Nat}
theorem pi_enumT (hm : X.mg "enumerate" = none) (ha : PA X [e] t) (hg : Gl X "enumerate" := by rfl) (hs : starEach [e] X.env = [(false, eval e X.env)] := by rfl) :
    PI X (.Tuple elts kk tpos) (.Call (.Name "enumerate" p) [e] [] pos) (iEnumT X.K t) := by
  refine ⟨fun pins s σ H R I h => ?_⟩
  refine Call_ (ld_blt I hg hm boot_enumerate (PyProof.Rows.callWith_type1 (thn (ha.run pos pins s σ H _ I h) fun ws s1 ⟨vs, H1, I1, r1, a, us, ev, hq, q⟩ => ?_) hs rfl))
  · subst ev
    cases r1 with
    | cons r rr =>
      cases rr
      cases r
      obtain ⟨its, rv, tp, _⟩ := I1.tuple hq
      refine am_enum (begins_tuple a its.toArray) tp fun h' he hit hk => wpAny_pyIter_enum he ?_
      have J : Inv X pins σ H1 { s1 with heap := h' } := I1.kept (t' := s1.toks) hk
      refine ⟨s1.heap.objs.size + 1, [s1.heap.objs.size + 1, s1.heap.objs.size], _, _, H1, rfl, J, turn_enumT a (s1.heap.objs.size + 1) s1.heap.objs.size, ⟨⟨.none, he⟩, ⟨_, hit, rfl, rfl⟩, Nat.succ_ne_self _⟩, fun b hb => ?_, q⟩
      have hle : s1.heap.objs.size ≤ b := by
        rcases List.mem_cons.mp hb with z | z
        · rw [z]; exact Nat.le_succ _
        · rw [List.mem_singleton.mp z]; exact Nat.le_refl _
      exact I1.fpOk hle (I1.hok.fresh hle)
end
def enm (ds : List D) : List D := ds.zipIdx.map fun p => .tup [.int (p.2 : Nat), p.1]
theorem enm_len (ds : List D) : (enm ds).length = ds.length := by unfold enm; rw [List.length_map, List.length_zipIdx]
theorem enm_get {ds : List D} {i : Nat} {d : D} (h : ds[i]? = some d) : (enm ds)[i]? = some (.tup [.int (i : Nat), d]) := by
  unfold enm
  rw [List.getElem?_map, List.getElem?_zipIdx, h]
  simp
section
variable {K : Ct} {w : Wd} {H : Hp} {a : Addr} {vs : List V} {ds : List D}
theorem new_pair {w' : Wd} {env : AEnv} {st : Sto} {σ : St} {H' : Hp} {i : Nat} {q : Addr} {u : V} {d : D} (r : Rel K w' env st σ H') (hq : H' q = none) (h : Den K w'.ρ w'.S H' u d) :
    Den K w'.ρ w'.S (upd H' q (.tup [.int (i : Nat), u])) (.ref q) (.tup [.int (i : Nat), d]) ∧ Rel K w' env st σ (upd H' q (.tup [.int (i : Nat), u])) ∧ Ext K w'.ρ H' w'.ρ (upd H' q (.tup [.int (i : Nat), u])) :=
  ⟨.tup (.inl (.inl upd_same)) (.cons (.int _) (.cons (h.new r hq) .nil)), r.new hq, Ext.new hq⟩
theorem iter_enumT (h : SqT K.K H a vs) (t : Dens K w.ρ w.S H vs ds) : Iter K w H (IteT K.K a) (enm ds) := by
  refine ⟨fun w' H' i x hi => ?_, fun w' H' x => ⟨vs, x.tups _ _ h, by rw [enm_len, t.length]; exact Nat.le_refl _⟩, fun w' env st σ H' i y H2 r x hi q => ?_⟩
  · have hv : i < vs.length := by rw [t.length, ← enm_len]; exact hi
    exact ⟨vs, vs[i], x.tups _ _ h, List.getElem?_eq_getElem hv⟩
  · obtain ⟨q, u, rfl, hq, rfl, hu⟩ := q
    obtain ⟨d, e1, e2⟩ := (t.monoS x).getV (hu vs (x.tups _ _ h))
    obtain ⟨a1, a2, a3⟩ := new_pair (i := i) r hq e2
    exact ⟨_, enm_get e1, a1, a2, a3⟩
theorem iter_enumL (k : ∀ w' H', ExtS K w H w' H' → SqL K.K H' a vs) (t : Dens K w.ρ w.S H vs ds) : Iter K w H (Ite K.K a) (enm ds) := by
  refine ⟨fun w' H' i x hi => ?_, fun w' H' x => ⟨vs, k w' H' x, by rw [enm_len, t.length]; exact Nat.le_refl _⟩, fun w' env st σ H' i y H2 r x hi q => ?_⟩
  · have hv : i < vs.length := by rw [t.length, ← enm_len]; exact hi
    exact ⟨vs, vs[i], k w' H' x, List.getElem?_eq_getElem hv⟩
  · obtain ⟨q, u, rfl, hq, rfl, hu⟩ := q
    obtain ⟨d, e1, e2⟩ := (t.monoS x).getV (hu vs (k w' H' x))
    obtain ⟨a1, a2, a3⟩ := new_pair (i := i) r hq e2
    exact ⟨_, enm_get e1, a1, a2, a3⟩
end
section
variable {X : Cx} {Γ : Nat → Addr} {W : WX} {e tg : Expr} {t : TA} {f : EF} {pos p tpos : Pos} {elts : List Expr} {kk : Nat}
def iEnm (f : EF) : IF := fun env st => (f env st).bind fun d st => match d with
  | .tup ds => .ok (enm ds) st
  | .lst ds => .ok (enm ds) st
  | _ => .bad
theorem pid_enum (hm : X.mg "enumerate" = none) (he : PE X e (tD (XC X Γ) W f)) (hg : Gl X "enumerate" := by rfl) (hst : starEach (e :: []) X.env = (false, eval e X.env) :: starEach [] X.env := by rfl) (hs : starEach [e] X.env = [(false, eval e X.env)] := by rfl) :
    PI X (.Tuple elts kk tpos) (.Call (.Name "enumerate" p) [e] [] pos) (tI (XC X Γ) W (iEnm f)) := by
  refine ⟨fun pins s σ H R I hh => ?_⟩
  obtain ⟨w, env, st, r, p⟩ := hh
  unfold iEnm at p
  have ha := pa_cons he pa_nil hst
  cases q : f env st with
  | ok d st1 =>
    rw [q] at p
    cases d with
    | tup ds =>
      refine (pi_enumT hm ha hg hs).run pins s σ H R I ⟨w, env, st, r, ?_⟩
      rw [q]
      intro ρ' H' x h1 h2 h3
      obtain ⟨a, vs, e1, hq, t⟩ := DenB.tup (w := w.at_ ρ') h3.b
      exact ⟨a, vs, by rw [e1], hq, p ρ' H' _ h1 h2 (iter_enumT hq t)⟩
    | lst ds =>
      refine (pi_enum hg hm ha hs).run pins s σ H R I ⟨w, env, st, r, ?_⟩
      rw [q]
      intro ρ' H' x h1 h2 h3
      cases h3 with
      | @lst a vs _ hq n t =>
        exact ⟨a, vs, rfl, SqL.of hq, p ρ' H' _ h1 h2 (iter_enumL (fun w' H2 x => SqL.of (x.keep a _ hq (fun z => n (.inl z)) fun z => n (.inr (.inr z))).1) t)⟩
    | _ => exact p.elim
  | exc x st1 =>
    rw [q] at p
    refine (pi_enumT hm ha hg hs).run pins s σ H R I ⟨w, env, st, r, ?_⟩
    rw [q]
    exact p
  | bad => rw [q] at p; exact p.elim
end
end AM
namespace AM
open PySem PySem.Spec PyProof.Rows L2
section
variable {X : Cx} {Γ : Nat → Addr} {W : WX} {e o a b : Expr} {es : List Expr} {f fo fa fb fe ff : EF} {fs : EFs} {F : DF} {pos p apos cpos : Pos} {j k : Nat} {x m : Str} {ks : List Str}
def keyD : D → Option Key
  | .int i => some (.inl i)
  | .str s => some (.inr s)
  | _ => none
inductive PDC (X : Cx) (pos : Pos) : List (Option Expr) → List Expr → List (Key × D) → List (TE × TE) → List (Key × V) → Prop where
  | nil : PDC X pos [] [] [] [] []
  | cons {k v : Expr} {ks : List (Option Expr)} {vs : List Expr} {r : List (Key × D)} {trs : List (TE × TE)} {kvs : List (Key × V)} {kk : Key} {d : D} {u : V} (hk : PE X k (tC (kV kk))) (hv : PE X v (tC u)) (hd : imV d = some u) (hr : PDC X pos ks vs r trs kvs) :
      PDC X pos (some k :: ks) (v :: vs) ((kk, d) :: r) ((tC (kV kk), tC u) :: trs) ((kk, u) :: kvs)
def valD (r : List (Key × D)) (k : Key) : Option D := (r.find? fun kv => decide (kv.1 = k)).map (·.2)
theorem PDC.val {pos : Pos} {ks : List (Option Expr)} {vs : List Expr} {r : List (Key × D)} {trs : List (TE × TE)} {kvs : List (Key × V)} (h : PDC X pos ks vs r trs kvs) (key : Key) :
    (valV kvs key = none ∧ valD r key = none) ∨ ∃ u d, valV kvs key = some u ∧ valD r key = some d ∧ imV d = some u := by
  induction h with
  | nil => exact .inl ⟨rfl, rfl⟩
  | @cons k v ks vs r trs kvs kk d u hk hv hd hr ih =>
    by_cases e : kk = key
    · exact .inr ⟨u, d, valV_pos (p := (kk, u)) e, by simp [valD, List.find?_cons, e], hd⟩
    · have e1 : valV ((kk, u) :: kvs) key = valV kvs key := valV_neg (p := (kk, u)) e
      have e2 : valD ((kk, d) :: r) key = valD r key := by simp [valD, List.find?_cons, e]
      rw [e1, e2]
      exact ih
def dDget (r : List (Key × D)) (fe ff : EF) : EF := fun env st => (fe env st).bind fun d st1 => (ff env st1).bind fun z st2 => match keyD d with
  | some k => .ok ((valD r k).getD z) st2
  | none => .bad
def oRepr : Op1 := fun a st => match a.py with
  | some (.list xs) => if (PyData.showable (.list xs) && decide ((PyData.shown (.list xs)).length ≤ sizeLine) && decide (PyData.depth (.list xs) ≤ 60)) = true then .ok (.str (PyData.shown (.list xs))) st else .bad
  | some (.tuple xs) => if (PyData.showable (.tuple xs) && decide ((PyData.shown (.tuple xs)).length ≤ sizeLine) && decide (PyData.depth (.tuple xs) ≤ 60)) = true then .ok (.str (PyData.shown (.tuple xs))) st else .bad
  | _ => .bad
mutual
theorem Dp.noDict {K : PySem.W.Frag} {H : Hp} : ∀ {v : V} {x : PyData}, Dp K H v x → x.hasDict = false
  | _, _, .non => by simp only [PyData.hasDict]
  | _, _, .bl _ => by simp only [PyData.hasDict]
  | _, _, .int _ => by simp only [PyData.hasDict]
  | _, _, .str _ => by simp only [PyData.hasDict]
  | _, _, .lst _ t => by simp only [PyData.hasDict]; exact DpAll.noDict t
  | _, _, .tup _ t => by simp only [PyData.hasDict]; exact DpAll.noDict t
theorem DpAll.noDict {K : PySem.W.Frag} {H : Hp} : ∀ {v : List V} {x : List PyData}, DpAll K H v x → PyData.hasDictAll x = false
  | _, _, .nil => by simp only [PyData.hasDictAll]
  | _, _, .cons h t => by simp only [PyData.hasDictAll, Dp.noDict h, DpAll.noDict t, Bool.or_false]
end
structure PKD (X : Cx) (Γ : Nat → Addr) (W : WX) (kws : List Keyword) (fs : EFs) : Prop where
  run : ∀ (pos : Pos) (pins : List (Addr × Obj)) (s : Shared) (σ : St) (H : Hp) (Q : List V → Hp → Prop), Inv X pins σ H s → tDs (XC X Γ) W fs σ H Q → wpAny (model X.prog X.w) X.A (evalAll ((backToKw pos (keywordEach kws X.env)).map (·.2))) (AP X pins σ Q) X.xe s
end
end AM
namespace AM
open PySem PySem.Spec PyProof.Rows L2
structure KnT (P : Program) (w : World) (K : PySem.W.Frag) (mg : Str → Option Value) (base : Heap) (Γ : Nat → Addr) (k : Nat) (c : Nat) (m : Str) (ks : List Str) (F : DF) : Prop where
  gat : PySem.W.specialIn K (.ref (Γ c)) "__getattribute__" = some (some (.builtin "type.__getattribute__"))
  ty : PySem.W.typeIn K (.ref (Γ c)) = some (.type "type")
  rd : PySem.W.readsIn K (Γ c) (.type "type") = true
  ex : ∃ p g rest, PySem.W.findCls K (.ref (Γ c)) (.type "type") m = some (.get (.builtin "staticmethod.__get__") (.ref p) .none (.ref (Γ c))) ∧ PySem.W.recIn K p "staticmethod" = some (.ref g :: rest) ∧ PySem.W.keepIn K (.ref g) = true ∧ Cal P w K mg base Γ k (.ref g) ks F
section
variable {X : Cx} {Γ : Nat → Addr} {W : WX} {e o a b : Expr} {es : List Expr} {f fo fa fb fe ff : EF} {fs : EFs} {F : DF} {pos p apos cpos : Pos} {j k c : Nat} {x m : Str} {ks : List Str}
theorem pe_cls (hm : X.mg x = some (.ref (Γ c))) (hg : Gl X x := by rfl) (hd : (x == ("__debug__" : Str)) = false := by decide) : PE X (.Name x pos) (tC (.ref (Γ c))) := pe_glob hg hm rfl hd
end
end AM
namespace AM
open PySem PySem.Spec PyProof.Rows L2
theorem no_takes {X : Cx} : L2N.Takes X WN := fun u s' x => by
  obtain ⟨_, _, _, _, _, _, _, _, _, _, _, _, _, _, _, _, z⟩ := x
  exact z.elim
section
variable {X : Cx} {Γ : Nat → Addr} {W : WX} {pos : Pos} {k : Nat} {x : Str}
theorem Go.blk (G : Go X W k) (s : Shared) (H : Hp) (scope : Scope) (cenv : Env) (fp : List Addr) : Go (X.blk s H scope cenv fp) WN k := ⟨no_takes, G.rm, PassesOwn.never, G.calm, G.gd⟩
theorem pd_gint {i : Int} (h : ∃ t, X.mg x = some (.int i t)) (hg : Gl X x := by rfl) (hd : (x == ("__debug__" : Str)) = false := by decide) : PE X (.Name x pos) (tD (XC X Γ) W (dC (.int i))) := by
  obtain ⟨t, h⟩ := h
  exact pd_glob (v := .int i) h ⟨t, rfl⟩ (fun _ _ _ => .int i) hg hd
end
end AM
namespace AM
open PySem PySem.Spec PyProof.Rows L2
structure At0 (K : PySem.W.Frag) (mg mb : Str → Option Value) (s : Shared) : Prop where
  kin : K.In s.heap
  glo : s.heap.Ns mainGlobals mg
  blt : s.heap.Ns builtinsNs mb
  mbs : ∀ x : Str, x ≠ "__name__" → mb x = bootBuiltins x
  lim : s.heap.NoLimit
  gen : s.gens = #[]
abbrev Says1 (s : Shared) (r : Result) (s' : Shared) : Prop := r = .ok (.ret (.bool true)) ∧ OldK s.heap s'.heap ∧ s'.os = s.os ∧ AllBare s'.gens
section
variable {P : Program} {w : World} {K : PySem.W.Frag} {mg mb : Str → Option Value} {Γ : Nat → Addr} {k : Nat} {fa a : Addr} {fd : FuncData} {x : Str} {F : DF} {s : Shared} {vs : List Value} {ns : List Int}
theorem end_at (z : At0 K mg mb s) (ha : s.heap.get? a = some { cls := .type "list", data := .seq vs.toArray }) (hr : Room k callerA) (hF : ∀ base : Heap, K.In base → base.Ns mainGlobals mg → FnB P w K mg base k fa fd [x] (spD ⟨K, Γ⟩ F))
    (hb : ∀ (s : Shared) (u : Value), BindsTo s fd ⟨[u], []⟩ [(x, u)]) (ans : ∃ st, F [.fz (ns.map D.int)] [] = .ok (.bl true) st)
    (H : Hp) (one : ∀ b o, H b = some o → b = a ∧ K.lookup a = none ∧ ∃ u, o = .frz { cls := .type "list", data := .seq vs.toArray } u) (hok : HOk P w H s.heap) (sc : SqF K H (fun _ => False) a (ns.map V.int)) :
    codeAny (model P w) callerA (.call (.ref fa) ⟨[.ref a], []⟩) (Says1 s) s := by
  have low : ∀ b o, s.heap.get? b = some o → H b = none → (hidT s.heap H).get? b = some o := fun b o e n => hidT_get e n
  -- a dict is not the script
  have dictFree : ∀ {b : Addr} {o : Obj} {es : Array DictEntry} {ep : Nat}, s.heap.get? b = some o → o.data = .dict es ep → H b = none := fun {b o es ep} e q => by
    cases h : H b with
    | none => rfl
    | some u =>
      obtain ⟨eb, _, _⟩ := one b u h
      rw [eb, ha] at e
      rw [← Option.some.inj e] at q
      cases q
  have ns1 : ∀ {b : Addr} {m : Str → Option Value}, s.heap.Ns b m → (hidT s.heap H).Ns b m := fun {b m} h => by
    obtain ⟨o, es, ep, e, q, rest⟩ := h
    exact ⟨o, es, ep, low b o e (dictFree e q), q, rest⟩
  have kin : K.In (hidT s.heap H) := fun b o e => low b o (z.kin b o e) (by
    cases h : H b with
    | none => rfl
    | some u =>
      obtain ⟨eb, hk, _⟩ := one b u h
      rw [eb, hk] at e
      cases e)
  obtain ⟨mc, c1, c2⟩ := z.lim
  have e0 : Env0 P w K mg (hidT s.heap H) callerA [] s H := {
    frames := rfl
    mod := ⟨kin, ns1 z.glo, ⟨mb, ns1 z.blt, z.mbs⟩, mc, ns1 c1, c2⟩
    bs := fun b o e => of_hidT e
    bsz := Nat.le_of_eq (hidT_size _ _)
    funs := trivial
    frf := fun b hb => by cases hb
    hok := hok
    bare := .of_eq z.gen }
  obtain ⟨st, ea⟩ := ans
  have sp : spD ⟨K, Γ⟩ F [.ref a] H (fun v _ => v = .bl true) (fun _ _ _ => False) := by
    have numL : ∀ is : List Int, Dens ⟨K, Γ⟩ [] (⟨[], fun _ => False, []⟩ : Wd).S H (is.map V.int) (is.map D.int) := fun is => by
      induction is with
      | nil => exact .nil
      | cons i is ih => exact .cons (.int i) ih
    have noS : ∀ b, ¬ (⟨[], fun _ => False, []⟩ : Wd).S b := fun b h => by
      rcases h with h | h | h
      · cases h
      · exact h
      · cases h
    refine ⟨⟨[], fun _ => False, []⟩, [], [.fz (ns.map D.int)], rfl, ⟨rfl, List.nodup_nil, fun n b c h _ => by simp at h⟩, fun b h => h.elim, .cons (.fz (sc.imp fun o e _ => ⟨e, noS a⟩) (numL ns)) .nil, ?_⟩
    rw [ea]
    intro ρ' H' v h1 h2 h3
    cases h3
    rfl
  refine codeAny_mono ((hF _ kin (ns1 z.glo)).run callerA [] s H ⟨[.ref a], []⟩ [.ref a] [.ref a] _ _ hr rfl e0 (hb s (.ref a)) (.cons rfl .nil) sp) fun r s' h => ?_
  cases r with
  | error er =>
    obtain ⟨_, _, _, _, _, _, _, _, _, _, _, _, h⟩ := h
    exact h.elim
  | ok fl =>
    cases fl with
    | next => exact h.elim
    | brk => exact h.elim
    | cont => exact h.elim
    | ret u =>
      obtain ⟨v, H', os, bare, un, hok', rv, q⟩ := h
      subst q
      cases rv
      have nof : ∀ b : Addr, b ∉ frs ([] : List Env) := fun b hb => by cases hb
      refine ⟨rfl, OldK.of_keep fun b o e => ?_, os, bare⟩
      cases h : H b with
      | none => exact un.keep b o e h (nof b) (by simp)
      | some u =>
        obtain ⟨eb, _, y, eo⟩ := one b u h
        rw [eo] at h
        obtain ⟨g1, _⟩ := hok' b _ (un.frzs b _ y h)
        rw [eb, ha] at e
        rw [g1, ← Option.some.inj e]
theorem end_call (z : At0 K mg mb s) (ha : s.heap.get? a = some { cls := .type "list", data := .seq vs.toArray }) (hi : IntsAre vs ns) (hl : ns.length ≤ sizeLine) (hr : Room k callerA) (hF : ∀ base : Heap, K.In base → base.Ns mainGlobals mg → FnB P w K mg base k fa fd [x] (spD ⟨K, Γ⟩ F))
    (hb : ∀ (s : Shared) (u : Value), BindsTo s fd ⟨[u], []⟩ [(x, u)]) (ans : ∃ st, F [.fz (ns.map D.int)] [] = .ok (.bl true) st) : codeAny (model P w) callerA (.call (.ref fa) ⟨[.ref a], []⟩) (Says1 s) s := by
  have vv : Vals (ns.map V.int) vs := vals_ints hi
  cases hk : K.lookup a with
  | some o =>
    have e := z.kin a o hk
    rw [ha] at e
    have eo := Option.some.inj e
    refine end_at z ha hr hF hb ans (fun _ => none) (fun b o h => by cases h) (fun b o h => by cases h) (.inr (.inr ⟨o, vs.toArray, 0, hk, ?_, ?_, ?_, ?_, by simpa using vv⟩))
    · rw [← eo]
    · rw [← eo]
    · rw [← eo]
    · rw [List.size_toArray, hi.length]; exact hl
  | none =>
    have at1 : ∀ {b : Addr} {u : HO}, upd (fun _ => none) a (.frz { cls := .type "list", data := .seq vs.toArray } (.lst (ns.map V.int))) b = some u → b = a ∧ u = .frz { cls := .type "list", data := .seq vs.toArray } (.lst (ns.map V.int)) := fun {b u} h => by
      by_cases eb : b = a
      · rw [eb, upd_same] at h
        exact ⟨eb, (Option.some.inj h).symm⟩
      · rw [upd_ne eb] at h
        cases h
    refine end_at z ha hr hF hb ans (upd (fun _ => none) a (.frz { cls := .type "list", data := .seq vs.toArray } (.lst (ns.map V.int)))) (fun b o h => ⟨(at1 h).1, hk, _, (at1 h).2⟩) (fun b o h => ?_) (.inl ⟨_, upd_same, fun z => z⟩)
    obtain ⟨rfl, rfl⟩ := at1 h
    exact ⟨ha, by rw [List.length_map]; exact hl, vs, _, vv, ha⟩
theorem law_end {l : PySem.W.OpenLaw} {n k : Nat} {q : Program} {loose : List Str} {XP : (Str → Option Value) → Heap → Prop} {YP : World → Heap → Prop} {d : DefRec} {x : Str}
    (hn : l.most = some n) (hz : n ≤ sizeLine) (hdf : d.params.defaults = []) (hr : Room k callerA)
    (F : ∀ (w : World) (mg : Str → Option Value) (fa : Addr) (h : Heap), YP w h → h.Ns mainGlobals mg → mg d.name = some (.ref fa) →
      ∃ (K : PySem.W.Frag) (Γ : Nat → Addr) (fd : FuncData) (G : DF), K.In h ∧ (∀ (s : Shared) (u : Value), BindsTo s fd ⟨[u], []⟩ [(x, u)]) ∧ (∀ ns : List Int, ns.length ≤ n → ∃ st, G [.fz (ns.map D.int)] [] = .ok (.bl true) st) ∧
        ∀ base : Heap, K.In base → base.Ns mainGlobals mg → FnB l.prog w K mg base k fa fd [x] (spD ⟨K, Γ⟩ G)) :
    PySem.W.WalkO q loose XP YP l.row.toRowW d [] (fun f vs => PySem.call f vs) := by
  refine Att.attach_call hn hdf fun w s₀ s₁ mg mb fa o pm cd doc a vs ns G Y ho hd hcd hmg hobj hints hlen hg => ?_
  obtain ⟨K, Γ, fd, DG, kin, hb, ans, hF⟩ := F w mg fa _ Y G.T.g hmg
  exact end_call ⟨kin, G.T.g, G.T.b, G.T.builtins, G.T.nolimit, hg⟩ hobj hints (Nat.le_trans hlen hz) hr hF hb (ans ns hlen)
end
end AM
namespace AM
open PySem PySem.Spec PyProof.Rows L2 He
section
variable {P : Program} {w : World} {K : PySem.W.Frag} {mg : Str → Option Value} {base : Heap} {Γ : Nat → Addr} {k c : Nat} {x m f : Str} {F : DF} {ks : List Str}
theorem own_ok (h : (Fx.own x m).ok K = true) : PySem.W.noSeq K (ga K x) = true ∧ PySem.W.fnIn K (ma K (ga K x) m) = true := ba h
theorem prop_ok (h : (Fx.prop x f).ok K = true) : Cls K (ga K x) ∧ PropOf K (ga K x) f (ma K (ga K x) f) (pfA K (ga K x) f) := by
  obtain ⟨c1, h⟩ := ba h
  obtain ⟨c2, h⟩ := ba h
  obtain ⟨c3, h⟩ := ba h
  obtain ⟨c4, c5⟩ := ba h
  refine ⟨cls_ok c1, eqO_ok c2, eqO_ok c3, of_decide_eq_true c4, ?_⟩
  unfold pfA
  split at c5
  · rename_i g r e
    exact ⟨r, by rw [e]⟩
  · cases c5
inductive RowsV (K : PySem.W.Frag) : List V → List (Str ⊕ List Str) → Prop
  | nil : RowsV K [] []
  | str {z : Str} {vs : List V} {zs : List (Str ⊕ List Str)} : RowsV K vs zs → RowsV K (.str z :: vs) (.inl z :: zs)
  | tup {b : Addr} {l : List Str} {vs : List V} {zs : List (Str ⊕ List Str)} : (∀ H, SqT K H b (l.map V.str)) → RowsV K vs zs → RowsV K (.ref b :: vs) (.inr l :: zs)
theorem KnP.of (e : Γ c = ga K x) (h : (Fx.prop x f).ok K = true) (g : FnV P w K mg base k (pfA K (ga K x) f) (spD ⟨K, Γ⟩ F)) : KnP P w K mg base Γ k c f F := by
  obtain ⟨h1, h2⟩ := prop_ok h
  rw [← e] at h1 h2 g
  exact ⟨h1, _, _, h2, g⟩
theorem KnT.of (e : Γ c = ga K x) (h : (Fx.stat x m).ok K = true) (g : Cal P w K mg base Γ k (.ref (sfA K (ga K x) m)) ks F) : KnT P w K mg base Γ k c m ks F := by
  obtain ⟨c1, h⟩ := ba h
  obtain ⟨c2, h⟩ := ba h
  obtain ⟨c3, h⟩ := ba h
  obtain ⟨c4, c5⟩ := ba h
  obtain ⟨h1, rest, h2⟩ := He5.wrapB_ok c4
  have e1 := eqO_ok c1
  have e2 : PySem.W.typeIn K (.ref (ga K x)) = some (.type "type") := of_decide_eq_true c2
  refine ⟨by rw [e]; exact e1, by rw [e]; exact e2, by rw [e]; exact c3, ma K (ga K x) m, sfA K (ga K x) m, rest, by rw [e]; exact h1, h2, c5, g⟩
theorem KnM.of (e : Γ c = ga K x) (h1 : (Fa.cls x).ok K = true) (h : (Fa.meth x m).ok K = true) (g : Cal P w K mg base Γ k (.ref (ma K (ga K x) m)) ks F) : KnM P w K mg base Γ k c m ks F :=
  ⟨by rw [e]; exact cls_ok h1, _, by rw [e]; exact meth_ok h, g⟩
theorem KnS.of (e : Γ c = ga K x) (h : (Fa.meth x m).ok K = true) (g : FnV P w K mg base k (ma K (ga K x) m) (spD ⟨K, Γ⟩ F)) : KnS P w K mg base Γ k c m F := by
  have q := meth_ok h
  exact ⟨_, by rw [e]; exact q.at_, q.fn, g⟩
theorem FnB.v {fd : FuncData} {fa : Addr} {y qual : Str} {params : Arguments} {body : List Stmt} {scope : Scope} {kws : List (Str × V)} {ps : List Str} (D : FunD K y qual params body scope [] kws fa fd) (g : FnB P w K mg base k fa fd ps (spD ⟨K, Γ⟩ F))
    (h : ∀ (kV doc pm : Value) (an : Option Addr) (cdv ct : Value) (us : List Value), us.length = ps.length → bindArgs (PySem.W.fnOf y qual params body scope .none kV doc pm an cdv ct) ⟨us, []⟩ = pure (ps.zip us)) : FnV P w K mg base k fa (spD ⟨K, Γ⟩ F) :=
  fun A outer s H us vs Q E hr hg e0 rv hsp => g.run A outer s H ⟨us, []⟩ us vs Q E hr hg e0 (FunD.bindsA D h s us (by rw [← rv.length]; exact g.len _ _ _ _ hsp)) rv hsp
theorem FnV.mono {j : Nat} {fa : Addr} {sp : Sp} (g : FnV P w K mg base j fa sp) (h : j ≤ k) : FnV P w K mg base k fa sp := fun A outer s H us vs Q E hr => g A outer s H us vs Q E (hr.mono h)
end
section
variable {fa : List Fa} {fn : List He5.DefA} {ex : List Fx} {K : PySem.W.Frag}
theorem SaysM.alls (c : SaysM fa fn ex K) : (∀ f ∈ fa, f.ok K = true) ∧ (∀ d ∈ fn, d.ok K = true) ∧ ∀ f ∈ ex, f.ok K = true := by
  have c1 : ((fa.all fun f => f.ok K) && ((fn.all fun d => d.ok K) && ex.all fun f => f.ok K)) = true := congrArg (fun z : He.AlD => z.1) c
  obtain ⟨h1, h2⟩ := ba c1
  obtain ⟨h2, h3⟩ := ba h2
  exact ⟨List.all_eq_true.mp h1, List.all_eq_true.mp h2, List.all_eq_true.mp h3⟩
theorem SaysM.fact (c : SaysM fa fn ex K) (i : Nat) {f : Fa} (h : fa[i]? = some f := by rfl) : f.ok K = true := c.alls.1 f (List.mem_of_getElem? h)
theorem SaysM.more (c : SaysM fa fn ex K) (i : Nat) {f : Fx} (h : ex[i]? = some f := by rfl) : f.ok K = true := c.alls.2.2 f (List.mem_of_getElem? h)
theorem SaysM.def_ (c : SaysM fa fn ex K) (i : Nat) {d : He5.DefA} (h : fn[i]? = some d := by rfl) : ∃ fd, FunD K d.name d.qual d.params d.body d.scope (d.dvs K) (d.kws K) (d.at_ K) fd := by
  have e2 : (fn.map fun d => He5.fnA K (d.at_ K)) = fn.map He5.DefA.val := congrArg (fun z : He.AlD => z.2) c
  have e3 : (fn.map fun d => He5.fnA K (d.at_ K))[i]? = (fn.map He5.DefA.val)[i]? := congrArg (fun l => l[i]?) e2
  rw [List.getElem?_map, List.getElem?_map, h] at e3
  exact He5.DefA.funD (Option.some.inj e3) (c.alls.2.1 d (List.mem_of_getElem? h))
end
end AM
namespace AM
open PySem PySem.Spec PyProof.Rows L2
section
variable {X : Cx} {Γ : Nat → Addr} {W : WX} {pos : Pos} {k i n : Nat} {x : Str} {K : PySem.W.Frag} {is : List Nat} {es : List Expr} {e : Expr}
theorem pgc_name (hN : X.N.Nodup) (hi : X.N[i]? = some x := by rfl) (hx : Loc X.env.scope x := by first | exact Or.inl rfl | exact Or.inr rfl) (hf : X.fn x = true ∨ X.env.scope.names.lookup x = some .local := by first | exact .inl rfl | exact .inr rfl) : PG X (.Name x pos) (gC X.K false [i]) := pg_name hN hi hx hf
end
end AM
namespace AM
open PySem PySem.Spec PyProof.Rows L2
def FnNi (P : Program) (w : World) (K : PySem.W.Frag) (mg : Str → Option Value) (base : Heap) (Γ : Nat → Addr) (k : Nat) (g : Addr) (T : List D → Sto → Prop) : Prop :=
  ∀ (A : Around) (outer : List Env) (s : Shared) (H : Hp) (us : List Value) (vs : List V) (wd : Wd) (st : Sto) (ds : List D), Room k A → A.guards = some [] → Env0 P w K mg base A outer s H → Vals vs us →
    wd.O = [] → StOk ⟨K, Γ⟩ wd.ρ wd.S H st → (∀ a, wd.R a → (∃ o, H a = some o) ∧ a ∉ wd.ρ) → Dens ⟨K, Γ⟩ wd.ρ wd.S H vs ds → T ds st →
    codeAny (model P w) A (.call (.ref g) ⟨us, []⟩) (fun r s' => r = .ok (.ret .notImplemented) ∧ s'.os = s.os ∧ AllBare s'.gens ∧ ∃ ρ' H', StOk ⟨K, Γ⟩ ρ' (wd.at_ ρ').S H' st ∧ Ext ⟨K, Γ⟩ wd.ρ H ρ' H' ∧ Un (frs outer) [] H H' s.heap s'.heap ∧ HOk P w H' s'.heap) s
section
variable {P : Program} {w : World} {K : PySem.W.Frag} {mg : Str → Option Value} {base : Heap} {Γ : Nat → Addr} {k : Nat} {f : Addr} {x qual : Str} {params : Arguments} {scope : Scope} {N ps : List Str} {fd : FuncData} {kws : List (Str × V)} {c : Expr} {rest : List Stmt} {p1 p2 p3 : Pos}
end
structure KnNi (P : Program) (w : World) (K : PySem.W.Frag) (mg : Str → Option Value) (base : Heap) (Γ : Nat → Addr) (k : Nat) (c : Nat) (T : List D → Sto → Prop) : Prop where
  sub : PySem.W.subIn K (.type "str") (.ref (Γ c)) = some false
  ex : ∃ g, PySem.W.findIn K (.ref (Γ c)) "__eq__" = some (some (.ref g)) ∧ PySem.W.isFn K (.ref g) = true ∧ FnNi P w K mg base Γ k g T
end AM
namespace AM
open PySem PySem.Spec PyProof.Rows L2
def sPar (i j : Nat) (fs : EFs) : SF := fun env st => (fs env st).then fun ds st1 => match ds with
  | [d, e] => .nx ((env.set i (.sh d)).set j (.sh e)) st1
  | _ => .bad
end AM
namespace AM
open PySem PySem.Spec PyProof.Rows L2
end AM
namespace AM
open PySem PySem.Spec PyProof.Rows L2
section
variable {tup : Bool} {is vs : List Nat} {t : TF} {f : EF} {env : AEnv} {fi : IF} {st st' : Sto}
theorem compL_yes {acc ds : List D} {d y : D} {es : List D} {s1 s2 s3 : Sto} (e1 : tgC tup is d = some es) (e2 : t (putAll (wipeE env vs) is es) s1 = .ok true s2) (e3 : f (putAll (wipeE env vs) is es) s2 = .ok y s3) (hz : acc.length < sizeLine) :
    compL tup is vs t f env acc (d :: ds) s1 = compL tup is vs t f env (acc ++ [y]) ds s3 := by
  rw [compL, e1]
  simp only [e2, e3, Res.bindN, if_true, if_pos hz]
theorem compL_any (I : Sto → Prop) (P : D → Prop) : ∀ (ds acc : List D) (st : Sto), I st → (∀ d ∈ ds, ∀ st, I st → ∃ es y st', tgC tup is d = some es ∧ t (putAll (wipeE env vs) is es) st = .ok true st ∧ f (putAll (wipeE env vs) is es) st = .ok y st' ∧ P y ∧ I st') → acc.length + ds.length ≤ sizeLine →
    ∃ ys st', compL tup is vs t f env acc ds st = .ok (acc ++ ys) st' ∧ ys.length = ds.length ∧ (∀ y ∈ ys, P y) ∧ I st'
  | [], acc, st, hI, _, _ => ⟨[], st, by unfold compL; simp, rfl, (fun y hy => by simp at hy), hI⟩
  | d :: ds, acc, st, hI, h, hz => by
    obtain ⟨es, y, s1, e1, e2, e3, hy, h1⟩ := h d List.mem_cons_self st hI
    have hz' : acc.length + (ds.length + 1) ≤ sizeLine := hz
    obtain ⟨ys, s2, g1, g2, g3, g4⟩ := compL_any I P ds (acc ++ [y]) s1 h1 (fun d hd => h d (List.mem_cons_of_mem _ hd)) (by rw [List.length_append, List.length_singleton]; omega)
    refine ⟨y :: ys, s2, ?_, by rw [List.length_cons, List.length_cons, g2], fun z hz => ?_, g4⟩
    · rw [compL_yes e1 e2 e3 (by omega), g1, List.append_assoc]
      rfl
    · rcases List.mem_cons.mp hz with rfl | hz
      · exact hy
      · exact g3 z hz
theorem compF_any {items : List D} (I : Sto → Prop) (P : D → Prop) (ho : noOwn env vs = true) (hi : ∀ i ∈ is, i ∈ vs) (e : fi env st = .ok items st') (hI : I st') (h : ∀ d ∈ items, ∀ st, I st → ∃ es y st2, tgC tup is d = some es ∧ t (putAll (wipeE env vs) is es) st = .ok true st ∧ f (putAll (wipeE env vs) is es) st = .ok y st2 ∧ P y ∧ I st2)
    (hz : items.length ≤ sizeLine) : ∃ ys st2, compF fi tup is vs t f env st = .ok ys st2 ∧ ys.length = items.length ∧ (∀ y ∈ ys, P y) ∧ I st2 := by
  obtain ⟨ys, s2, g1, g2, g3, g4⟩ := compL_any (tup := tup) (is := is) (vs := vs) (t := t) (f := f) (env := env) I P items [] st' hI h (by simpa using hz)
  refine ⟨ys, s2, ?_, g2, g3, g4⟩
  unfold compF
  rw [if_pos ⟨ho, hi⟩, e]
  show onlyOk (compL tup is vs t f env [] items st') = _
  rw [g1]
  rfl
end
theorem blsD_map (ys : List Bool) : blsD (ys.map D.bl) = some ys := by
  induction ys with
  | nil => rfl
  | cons y ys ih => rw [List.map_cons]; unfold blsD; rw [ih]; rfl
theorem sizeLine_val : sizeLine = 16777216 := sizeLine_eq
end AM
namespace AM
open PySem PySem.Spec PyProof.Rows L2
section
variable {α β : Type}
@[simp] theorem ev_bind_ok (a : α) (st : Sto) (k : α → Sto → Res β) : (Res.ok a st).bind k = k a st := rfl
@[simp] theorem ev_bind_exc (e : Exn) (st : Sto) (k : α → Sto → Res β) : (Res.exc e st : Res α).bind k = .exc e st := rfl
@[simp] theorem ev_bind_bad (k : α → Sto → Res β) : (Res.bad : Res α).bind k = .bad := rfl
@[simp] theorem ev_then_ok (a : α) (st : Sto) (k : α → Sto → SR) : (Res.ok a st).then k = k a st := rfl
@[simp] theorem ev_then_exc (e : Exn) (st : Sto) (k : α → Sto → SR) : (Res.exc e st : Res α).then k = .exc e st := rfl
@[simp] theorem ev_then_bad (k : α → Sto → SR) : (Res.bad : Res α).then k = .bad := rfl
@[simp] theorem ev_sb_nx (env : AEnv) (st : Sto) (k : AEnv → Sto → SR) : (SR.nx env st).bind k = k env st := rfl
@[simp] theorem ev_sb_rt (d : D) (st : Sto) (k : AEnv → Sto → SR) : (SR.rt d st).bind k = .rt d st := rfl
@[simp] theorem ev_sb_bk (env : AEnv) (st : Sto) (k : AEnv → Sto → SR) : (SR.bk env st).bind k = .bk env st := rfl
@[simp] theorem ev_sb_ct (env : AEnv) (st : Sto) (k : AEnv → Sto → SR) : (SR.ct env st).bind k = .ct env st := rfl
@[simp] theorem ev_sb_exc (e : Exn) (st : Sto) (k : AEnv → Sto → SR) : (SR.exc e st).bind k = .exc e st := rfl
@[simp] theorem ev_on_nx (env : AEnv) (st : Sto) : onlyNx (SR.nx env st) = .nx env st := rfl
@[simp] theorem ev_gNm (i : Nat) (d : D) (env : AEnv) (st : Sto) : gNm i d env st = .nx (env.set i (.sh d)) st := rfl
@[simp] theorem ev_gNilD (env : AEnv) (st : Sto) : gNilD [] env st = .nx env st := rfl
@[simp] theorem ev_gConsD (g : GF) (gs : GFs) (d : D) (ds : List D) (env : AEnv) (st : Sto) : gConsD g gs (d :: ds) env st = (onlyNx (g d env st)).bind fun env st => gs ds env st := rfl
@[simp] theorem ev_gTupD (n : Nat) (gs : GFs) (ds : List D) (env : AEnv) (st : Sto) : gTupD n gs (.tup ds) env st = if ds.length = n then gs ds env st else .bad := rfl
end
section
variable (env : AEnv) (st : Sto)
theorem ev_dVar (i : Nat) : dVar i env st = (match env[i]? with
  | some (.sh d) => .ok d st
  | _ => .bad) := rfl
@[simp] theorem ev_dVar0 (d : D) (r : AEnv) : dVar 0 (.sh d :: r) st = .ok d st := rfl
@[simp] theorem ev_dVarS (i : Nat) (s : Sl) (r : AEnv) : dVar (i + 1) (s :: r) st = dVar i r st := by
  rw [ev_dVar, ev_dVar, List.getElem?_cons_succ]
@[simp] theorem ev_dOwn0 (d : List D) (r : AEnv) : dOwn 0 (.own d :: r) st = .ok (.lst d) st := rfl
@[simp] theorem ev_dOwn0' (d : D) (r : AEnv) : dOwn 0 (.sh d :: r) st = .ok d st := rfl
@[simp] theorem ev_dOwnS (i : Nat) (s : Sl) (r : AEnv) : dOwn (i + 1) (s :: r) st = dOwn i r st := by
  unfold dOwn
  rw [List.getElem?_cons_succ]
@[simp] theorem ev_dC (d : D) : dC d env st = .ok d st := rfl
@[simp] theorem ev_dOp2 (k : Op2) (f g : EF) : dOp2 k f g env st = (f env st).bind fun a st1 => (g env st1).bind fun b st2 => k a b st2 := rfl
@[simp] theorem ev_dOp1 (k : Op1) (f : EF) : dOp1 k f env st = (f env st).bind fun d st => k d st := rfl
@[simp] theorem ev_gTru (f : EF) : gTru f env st = (f env st).bind fun d st => bOf (truD d) st := rfl
@[simp] theorem ev_gBl (f : EF) : gBl f env st = (f env st).bind fun d st => match d with
  | .bl b => .ok b st
  | _ => .bad := rfl
@[simp] theorem ev_dChain (k k' : Op2) (fa fb fc : EF) : dChain k k' fa fb fc env st = (fa env st).bind fun a st1 => (fb env st1).bind fun b st2 => (k a b st2).bind fun r st3 => match r with
  | .bl true => (fc env st3).bind fun c st4 => k' b c st4
  | .bl false => .ok (.bl false) st3
  | _ => .bad := rfl
@[simp] theorem ev_gAnd (g h : TF) : gAnd g h env st = (g env st).bind fun b st => if b = true then h env st else .ok false st := rfl
@[simp] theorem ev_gOr (g h : TF) : gOr g h env st = (g env st).bind fun b st => if b = true then .ok true st else h env st := rfl
@[simp] theorem ev_gNot (g : TF) : gNot g env st = (g env st).bind fun b st => .ok (!b) st := rfl
@[simp] theorem ev_dAnd (f g : EF) : dAnd f g env st = (f env st).bind fun d st => match d with
  | .bl true => g env st
  | .bl false => .ok (.bl false) st
  | _ => .bad := rfl
@[simp] theorem ev_dOr (f g : EF) : dOr f g env st = (f env st).bind fun d st => match d with
  | .bl true => .ok (.bl true) st
  | .bl false => g env st
  | _ => .bad := rfl
@[simp] theorem ev_dNot (f : EF) : dNot f env st = (f env st).bind fun d st => match d with
  | .bl b => .ok (.bl (!b)) st
  | _ => .bad := rfl
@[simp] theorem ev_dIf (g : TF) (f h : EF) : dIf g f h env st = (g env st).bind fun b st => if b = true then f env st else h env st := rfl
@[simp] theorem ev_dNeg (f : EF) : dNeg f env st = (f env st).bind fun d st => match d with
  | .int i => .ok (.int (-i)) st
  | _ => .bad := rfl
@[simp] theorem ev_dNil : dNil env st = .ok [] st := rfl
@[simp] theorem ev_dCons (f : EF) (fs : EFs) : dCons f fs env st = (f env st).bind fun d st1 => (fs env st1).bind fun ds st2 => .ok (d :: ds) st2 := rfl
@[simp] theorem ev_dTup (fs : EFs) : dTup fs env st = (fs env st).bind fun ds st => if ds.length ≤ sizeLine then .ok (.tup ds) st else .bad := rfl
@[simp] theorem ev_dLst (fs : EFs) : dLst fs env st = (fs env st).bind fun ds st => if ds.length ≤ sizeLine then .ok (.lst ds) st else .bad := rfl
@[simp] theorem ev_dLstF (fs : EFs) : dLstF fs env st = (fs env st).bind fun ds st => if ds.length ≤ sizeLine then .ok ds st else .bad := rfl
@[simp] theorem ev_oNo : oNo env st = .ok none st := rfl
@[simp] theorem ev_oSo (f : EF) : oSo f env st = (f env st).bind fun d st => match d with
  | .int i => .ok (some i) st
  | _ => .bad := rfl
@[simp] theorem ev_dSl (f : EF) (lo hi : OF) : dSl f lo hi env st = (f env st).bind fun d st1 => (lo env st1).bind fun l st2 => (hi env st2).bind fun h st3 => oSl d l h st3 := rfl
@[simp] theorem ev_dM1 (k : SOp1) (fa fb : EF) : dM1 k fa fb env st = (fa env st).bind (kM1 k fb env) := rfl
@[simp] theorem ev_kM1 (k : SOp1) (fb : EF) (s : Str) : kM1 k fb env (.str s) st = (fb env st).bind fun b st2 => k s b st2 := rfl
@[simp] theorem ev_dM0 (k : SOp0) (fa : EF) : dM0 k fa env st = (fa env st).bind (kM0 k) := rfl
@[simp] theorem ev_kM0 (k : SOp0) (s : Str) : kM0 k (.str s) st = k s st := rfl
@[simp] theorem ev_dJs0 (acc : Str) : dJs [] acc env st = .ok (.str acc) st := rfl
@[simp] theorem ev_dJs (f : EF) (fs : List EF) (acc : Str) : dJs (f :: fs) acc env st = (f env st).bind (kJ acc (dJs fs) env) := rfl
@[simp] theorem ev_kJ (acc : Str) (k : Str → AEnv → Sto → Res D) (y : Str) : kJ acc k env (.str y) st = if (acc ++ y).length ≤ sizeLine then k (acc ++ y) env st else .bad := rfl
@[simp] theorem ev_sSeq (g h : SF) : sSeq g h env st = (g env st).bind h := rfl
@[simp] theorem ev_sPass : sPass env st = .nx env st := rfl
@[simp] theorem ev_sRet (f : EF) : sRet f env st = (f env st).then fun d st => .rt d st := rfl
@[simp] theorem ev_sExpr (f : EF) : sExpr f env st = (f env st).then fun _ st => .nx env st := rfl
@[simp] theorem ev_sIf (t : TF) (g h : SF) : sIf t g h env st = (t env st).then fun b st => if b = true then g env st else h env st := rfl
@[simp] theorem ev_sSet (i : Nat) (f : EF) : sSet i f env st = (f env st).then fun d st => .nx (env.set i (.sh d)) st := rfl
@[simp] theorem ev_sAsg (f : EF) (g : GF) : sAsg f g env st = (f env st).then fun d st => onlyNx (g d env st) := rfl
@[simp] theorem ev_dF (f : AEnv → Sto → Res (List D)) : dF f env st = (f env st).bind fun ds st => .ok (.lst ds) st := rfl
@[simp] theorem ev_sOwn (i : Nat) (f : AEnv → Sto → Res (List D)) : sOwn i f env st = (f env st).then fun ds st => .nx (env.set i (.own ds)) st := rfl
@[simp] theorem ev_iSeq (f : EF) : iSeq f env st = (f env st).bind itemsD := rfl
theorem iRan_ok {f : EF} {env : AEnv} {st st' : Sto} {j : Int} (e : f env st = .ok (.int j) st') (h : okR j = true) : iRan f env st = .ok (rng 0 j.toNat) st' := by
  unfold iRan
  rw [e]
  exact if_pos h
theorem okR_of {j : Int} (h1 : -100000000 ≤ j) (h2 : j ≤ 100000000) : okR j = true := by
  unfold okR
  rw [Bool.and_eq_true, decide_eq_true_eq, decide_eq_true_eq]
  exact ⟨by omega, by omega⟩
@[simp] theorem ev_iEnm (f : EF) : iEnm f env st = (f env st).bind fun d st => match d with
  | .tup ds => .ok (enm ds) st
  | .lst ds => .ok (enm ds) st
  | _ => .bad := rfl
@[simp] theorem ev_dCall (F : DF) (fs : EFs) : dCall F fs env st = (fs env st).bind F := rfl
@[simp] theorem ev_dNew (f : AEnv → Sto → Res (List D)) : dNew f env st = (f env st).bind fun ds st => .ok (.hd st.length) (st ++ [.lst ds]) := rfl
@[simp] theorem ev_dFld (cs : List Nat) (x : Str) (fo : EF) : dFld cs x fo env st = (fo env st).bind fun d st => optR (fldOf cs x d st) st := rfl
@[simp] theorem ev_dProp (c : Nat) (F : DF) (fo : EF) : dProp c F fo env st = (fo env st).bind fun d st => if isI c d st = true then AM.noX (F [d] st) else .bad := rfl
@[simp] theorem ev_dOwn2 (c : Nat) (F : DF) (fa fb : EF) : dOwn2 c F fa fb env st = (fa env st).bind fun a st1 => (fb env st1).bind fun b st2 => if (isI c a st2 && isI c b st2) = true then F [a, b] st2 else .bad := rfl
@[simp] theorem ev_gTruC (c : Nat) (F : DF) (f : EF) : gTruC c F f env st = (f env st).bind fun d st => if isI c d st = true then (match F [d] st with
  | .ok (.bl b) st' => .ok b st'
  | _ => .bad) else .bad := rfl
@[simp] theorem ev_dDget (r : List (Key × D)) (fe ff : EF) : dDget r fe ff env st = (fe env st).bind fun d st1 => (ff env st1).bind fun z st2 => match keyD d with
  | some k => .ok ((valD r k).getD z) st2
  | none => .bad := rfl
@[simp] theorem ev_sPar (i j : Nat) (fs : EFs) : sPar i j fs env st = (fs env st).then fun ds st1 => match ds with
  | [d, e] => .nx ((env.set i (.sh d)).set j (.sh e)) st1
  | _ => .bad := rfl
@[simp] theorem ev_sFldD (cs : List Nat) (f : Str) (fo fv : EF) : sFldD cs f fo fv env st = (fv env st).then fun d st1 => (fo env st1).then fun o st2 => putFd cs f o d env st2 := rfl
@[simp] theorem ev_gIx (fo fi : EF) (d : D) : gIx fo fi d env st = (fo env st).then fun o st1 => (fi env st1).then fun i st2 => putIx o i d env st2 := rfl
@[simp] theorem ev_tYesD : tYesD env st = .ok true st := rfl
@[simp] theorem ev_tyL (b : Bool) : bOf (some b) st = .ok b st := rfl
@[simp] theorem ev_oOf (b : Bool) : oOf (some b) st = .ok (.bl b) st := rfl
@[simp] theorem ev_truBl (b : Bool) : truD (.bl b) = some b := rfl
@[simp] theorem ev_optR (d : D) : optR (some d) st = .ok d st := rfl
@[simp] theorem ev_int_tup (ds : List D) : itemsD (.tup ds) st = .ok ds st := rfl
@[simp] theorem ev_int_lst (ds : List D) : itemsD (.lst ds) st = .ok ds st := rfl
@[simp] theorem ev_int_fz (ds : List D) : itemsD (.fz ds) st = .ok ds st := rfl
@[simp] theorem ev_int_str (s : Str) : itemsD (.str s) st = .ok (signs s) st := rfl
@[simp] theorem ev_len_tup (ds : List D) : oLen (.tup ds) st = .ok (.int ds.length) st := rfl
@[simp] theorem ev_len_lst (ds : List D) : oLen (.lst ds) st = .ok (.int ds.length) st := rfl
@[simp] theorem ev_len_fz (ds : List D) : oLen (.fz ds) st = .ok (.int ds.length) st := rfl
@[simp] theorem ev_add (i j : Int) : oAdd (.int i) (.int j) st = .ok (.int (i + j)) st := rfl
@[simp] theorem ev_sub (i j : Int) : oSub (.int i) (.int j) st = .ok (.int (i - j)) st := rfl
@[simp] theorem ev_lt (i j : Int) : oLt (.int i) (.int j) st = .ok (.bl (decide (i < j))) st := rfl
@[simp] theorem ev_le (i j : Int) : oLe (.int i) (.int j) st = .ok (.bl (decide (i ≤ j))) st := rfl
@[simp] theorem ev_gt (i j : Int) : oGt (.int i) (.int j) st = .ok (.bl (decide (j < i))) st := rfl
@[simp] theorem ev_ge (i j : Int) : oGe (.int i) (.int j) st = .ok (.bl (decide (j ≤ i))) st := rfl
@[simp] theorem ev_abs (i : Int) : oAbs (.int i) st = .ok (.int (if i < 0 then -i else i)) st := rfl
@[simp] theorem ev_max (i j : Int) : oMax (.int i) (.int j) st = .ok (.int (if j > i then j else i)) st := rfl
@[simp] theorem ev_min (i j : Int) : oMin (.int i) (.int j) st = .ok (.int (if j < i then j else i)) st := rfl
@[simp] theorem ev_tupT1 (ds : List D) : oTupT (.tup ds) st = .ok (.tup ds) st := rfl
@[simp] theorem ev_tupT2 (ds : List D) : oTupT (.lst ds) st = .ok (.tup ds) st := rfl
@[simp] theorem ev_isNon (d : D) : oIs d .non st = .ok (.bl d.isNon) st := rfl
@[simp] theorem ev_isNotNon (d : D) : oIsNot d .non st = .ok (.bl (!d.isNon)) st := rfl
end
@[simp] theorem truD_int (i : Int) : truD (.int i) = some (i != 0) := rfl
@[simp] theorem ev_eqI (i j : Int) (st : Sto) : oEq (.int i) (.int j) st = .ok (.bl (i == j)) st := rfl
@[simp] theorem ev_neI (i j : Int) (st : Sto) : oNe (.int i) (.int j) st = .ok (.bl (!(i == j))) st := rfl
theorem runD_rt {n N : Nat} {g : SF} {ds : List D} {st st' : Sto} {d : D} (hl : ds.length = n) (h : g (ds.map Sl.sh ++ List.replicate (N - n) .un) st = .rt d st') : runD n N g ds st = .ok d st' := by
  unfold runD
  rw [if_pos hl, h]
end AM
namespace AM
open PySem PySem.Spec PyProof.Rows L2 TL
def asc (l : List Nat) : Bool := l.all fun c => decide (c < 0x110000)
theorem strOk_mk {a : List Nat} (h : asc a = true) : PyData.strOk (mk a) = true := by
  unfold PyData.strOk mk
  rw [List.all_toArray]
  exact h
theorem ev_lenS {a : List Nat} (h : a.length ≤ 16777216) (st : Sto) : oLen (.str (mk a)) st = .ok (.int a.length) st := by
  unfold oLen
  show (if (mk a).length ≤ sizeLine then _ else _) = _
  rw [mk_len, if_pos (by rw [sizeLine_val]; exact h)]
def numI (i : Int) : List Nat := tl (Str.ofString (toString i))
mutual
def shL : PyData → Nat
  | .none => 4
  | .bool _ => 5
  | .int i => i.natAbs.log2 + 2
  | .str x => 10 * x.length + 2
  | .list xs => shLs xs + 3
  | .tuple xs => shLs xs + 3
  | .dict _ => 0
def shLs : List PyData → Nat
  | [] => 0
  | x :: xs => shL x + 2 + shLs xs
end
mutual
theorem shL_ok : ∀ d : PyData, d.canLay0 = true → (PyData.shown d).length ≤ shL d
  | .none, _ => by simp only [PyData.shown, shL]; decide
  | .bool b, _ => by cases b <;> simp only [PyData.shown, shL] <;> decide
  | .int i, _ => by
    simp only [PyData.shown, shL]
    have := PySem.int_text_length_le (a := i) (k := i.natAbs.log2 + 1) (by omega) (by omega)
    have e : (Str.ofString (toString i)).length = (toString i).length := by
      rw [len_tl, tl_ofString, List.length_map]
      rfl
    rw [e]
    omega
  | .str x, h => by
    simp only [PyData.shown, shL]
    refine PySem.StrLaws.reprText_len x fun c hc => ?_
    have h' : PyData.strOk x = true := by simpa [PyData.canLay0] using h
    unfold PyData.strOk at h'
    rw [Array.all_eq_true_iff_forall_mem] at h'
    have := of_decide_eq_true (h' c (Array.mem_toList_iff.mp hc))
    omega
  | .list xs, h => by
    simp only [PyData.shown, shL]
    have := listText_len_le (PyData.shownAll xs)
    have h2 := shLs_ok xs (by simpa [PyData.canLay0] using h)
    omega
  | .tuple xs, h => by
    simp only [PyData.shown, shL]
    have := tupleText_len_le (PyData.shownAll xs)
    have h2 := shLs_ok xs (by simpa [PyData.canLay0] using h)
    omega
  | .dict _, h => by simp [PyData.canLay0] at h
theorem shLs_ok : ∀ ds : List PyData, PyData.canLayAll0 ds = true → ((PyData.shownAll ds).map (·.length)).sum + 2 * (PyData.shownAll ds).length ≤ shLs ds
  | [], _ => by simp [PyData.shownAll, shLs]
  | d :: ds, h => by
    simp only [PyData.canLayAll0, Bool.and_eq_true] at h
    have h1 := shL_ok d h.1
    have h2 := shLs_ok ds h.2
    simp only [PyData.shownAll, shLs, List.map_cons, List.sum_cons, List.length_cons]
    omega
end
def shD (d : D) : Bool := match d.py with
  | some x => SeqAt.shaped x
  | none => false
end AM
namespace AM
open PySem PySem.Spec PyProof.Rows L2 TL
theorem ev_mulL {i : Int} (h : small64 i = true) (j : Int) (st : Sto) : oMul (.int i) (.int j) st = .ok (.int (i * j)) st := by
  show (if (small64 i || small64 j) = true then _ else _) = _
  rw [h]; rfl
theorem ev_mulR {j : Int} (h : small64 j = true) (i : Int) (st : Sto) : oMul (.int i) (.int j) st = .ok (.int (i * j)) st := by
  show (if (small64 i || small64 j) = true then _ else _) = _
  rw [h, Bool.or_true]; rfl
theorem ev_mod {i j : Int} (h : 0 < j) (st : Sto) : oMod (.int i) (.int j) st = .ok (.int (i % j)) st := by
  show (if 0 < j then _ else _) = _
  rw [if_pos h]
theorem ev_div {i j : Int} (h : 0 < j) (h2 : j < 1073741824) (st : Sto) : oDiv (.int i) (.int j) st = .ok (.int (i / j)) st := by
  show (if 0 < j ∧ j < 1073741824 then _ else _) = _
  rw [if_pos ⟨h, h2⟩]
theorem ev_divmodW {i j : Int} (h : 0 < j) (h2 : j.natAbs.log2 < 9000) (st : Sto) : oDivmod (.int i) (.int j) st = .ok (.tup [.int (i / j), .int (i % j)]) st := by
  show (if 0 < j ∧ j.natAbs.log2 < 9000 then _ else _) = _
  rw [if_pos ⟨h, h2⟩]
theorem ev_divmod {i j : Int} (h : 0 < j) (h2 : j < 1073741824) (st : Sto) : oDivmod (.int i) (.int j) st = .ok (.tup [.int (i / j), .int (i % j)]) st := by
  have z : j.natAbs.log2 < 30 := (Nat.log2_lt (by omega)).mpr (by have e : (2 : Nat) ^ 30 = 1073741824 := by decide
                                                                  rw [e]; omega)
  exact ev_divmodW h (by omega) st
@[simp] theorem ev_intI (i : Int) (st : Sto) : oIntT (.int i) st = .ok (.int i) st := rfl
theorem ev_ixHd {n : Nat} {st : Sto} {ds : List D} {i : Int} {d : D} (h : st[n]? = some (.lst ds)) (e : atI ds i = some d) : oIx (.hd n) (.int i) st = .ok d st := by
  unfold oIx
  simp only [h]
  rw [e]; rfl
theorem ev_ixL {ds : List D} {i : Int} {d : D} (e : atI ds i = some d) (st : Sto) : oIx (.lst ds) (.int i) st = .ok d st := by
  unfold oIx
  simp only
  rw [e]; rfl
theorem ev_ixF {ds : List D} {i : Int} {d : D} (e : atI ds i = some d) (st : Sto) : oIx (.fz ds) (.int i) st = .ok d st := by
  unfold oIx
  simp only
  rw [e]; rfl
theorem atI_pos {ds : List D} {i : Int} (h0 : 0 ≤ i) (h1 : i < ds.length) : atI ds i = ds[i.toNat]? := by
  unfold atI ixN
  rw [if_pos h0, if_pos h1]
  rfl
theorem atI_nat {ds : List D} {i : Int} (h0 : 0 ≤ i) (h1 : i < ds.length) : ∃ d, atI ds i = some d ∧ d ∈ ds := by
  have hi : i.toNat < ds.length := by omega
  refine ⟨ds[i.toNat], ?_, List.getElem_mem hi⟩
  rw [atI_pos h0 h1]
  exact List.getElem?_eq_getElem hi
theorem all_ok {f : IF} {env : AEnv} {st st' : Sto} {bs : List Bool} (e : f env st = .ok (bs.map D.bl) st') : dOp1 oAll (dF f) env st = .ok (.bl (bs.all id)) st' := by
  show ((f env st).bind fun ds st => Res.ok (D.lst ds) st).bind oAll = _
  rw [e]
  show oOf ((blsD (bs.map D.bl)).map fun bs => bs.all id) st' = _
  rw [blsD_map]
  rfl
theorem any_ok {f : IF} {env : AEnv} {st st' : Sto} {bs : List Bool} (e : f env st = .ok (bs.map D.bl) st') : dOp1 oAny (dF f) env st = .ok (.bl (bs.any id)) st' := by
  show ((f env st).bind fun ds st => Res.ok (D.lst ds) st).bind oAny = _
  rw [e]
  show oOf ((blsD (bs.map D.bl)).map fun bs => bs.any id) st' = _
  rw [blsD_map]
  rfl
inductive JsOk (env : AEnv) (st : Sto) : List EF → List (List Nat) → Prop where
  | nil : JsOk env st [] []
  | cons {f : EF} {y : List Nat} {fs : List EF} {ys : List (List Nat)} (h : f env st = .ok (.str (mk y)) st) (r : JsOk env st fs ys) : JsOk env st (f :: fs) (y :: ys)
def sipF : DF := runD 2 3 (sSeq (sAsg (dOp2 oMod (dOp1 oIntT (dOp2 oAdd (dOp2 oMul (dOp2 oIx (dVar 0) (dC (.int 0))) (dC (.int 48271))) (dC (.int 11)))) (dC (.int 2147483629))) (gIx (dVar 0) (dC (.int 0)))) (sSeq (sIf (gBl (dOp2 oGt (dOp2 oIx (dVar 0) (dC (.int 1))) (dC (.int 0)))) (sSeq (sAsg (dOp2 oDivmod (dOp2 oIx (dVar 0) (dC (.int 1))) (dVar 1)) (gTupD 2 (gConsD (gIx (dVar 0) (dC (.int 1))) (gConsD (gNm 2) gNilD)))) (sRet (dVar 2))) sPass) (sRet (dOp2 oMod (dOp1 oIntT (dOp2 oDiv (dOp2 oIx (dVar 0) (dC (.int 0))) (dC (.int 1021)))) (dVar 1)))))
def pickF : DF := runD 2 2 (sRet (dOp2 oIx (dVar 1) (dCall sipF (dCons (dVar 0) (dCons (dOp1 oLen (dVar 1)) dNil)))))
def cupF : DF := runD 2 4 (sSeq (sSet 2 (dIf (gBl (dOp2 oLt (dVar 1) (dOp1 oLen (dVar 0)))) (dOp2 oIx (dVar 0) (dVar 1)) (dOp2 oAdd (dOp2 oMul (dC (.int 7919)) (dVar 1)) (dC (.int 104729))))) (sSeq (sFor (iSeq (dIf (gBl (dOp2 oGe (dVar 1) (dOp1 oLen (dVar 0)))) (dSl (dVar 0) oNo (oSo (dC (.int 2)))) (dLst dNil))) (gNm 3) (sSet 2 (dOp2 oMod (dOp1 oIntT (dOp2 oAdd (dOp2 oMul (dVar 2) (dC (.int 31))) (dVar 3))) (dC (.int 1000000007))))) (sRet (dNew (dLstF (dCons (dOp2 oMod (dOp1 oIntT (dOp2 oAdd (dOp2 oAdd (dOp2 oMul (dVar 2) (dC (.int 4099))) (dOp2 oMul (dC (.int 271)) (dVar 1))) (dC (.int 17)))) (dC (.int 2147483629))) (dCons (dIf (gOr (gBl (dOp2 oLt (dVar 2) (dC (.int 0)))) (gBl (dOp2 oGe (dVar 2) (dOp2 oPow (dC (.int 10)) (dC (.int 18)))))) (dOp1 oAbs (dVar 2)) (dC (.int 0))) dNil)))))))
def Cup (h : Nat) (st : Sto) : Prop := ∃ a b : Int, st[h]? = some (.lst [.int a, .int b])
def Mv (h : Nat) (st st' : Sto) : Prop := Cup h st' ∧ ∃ a b : Int, st' = st.set h (.lst [.int a, .int b])
theorem Cup.lt {h : Nat} {st : Sto} (c : Cup h st) : h < st.length := by
  obtain ⟨a, b, e⟩ := c
  exact (List.getElem?_eq_some_iff.mp e).1
theorem Mv.len {h : Nat} {st st' : Sto} (m : Mv h st st') : st'.length = st.length := by
  obtain ⟨_, a, b, rfl⟩ := m
  exact List.length_set
theorem Mv.of {h : Nat} {st : Sto} (c : h < st.length) (a b : Int) : Mv h st (st.set h (.lst [.int a, .int b])) :=
  ⟨⟨a, b, by rw [List.getElem?_set_self c]⟩, a, b, rfl⟩
theorem Mv.refl {h : Nat} {st : Sto} (c : Cup h st) : Mv h st st := by
  obtain ⟨a, b, e⟩ := c
  refine ⟨⟨a, b, e⟩, a, b, ?_⟩
  obtain ⟨h1, h2⟩ := List.getElem?_eq_some_iff.mp e
  rw [← h2, List.set_getElem_self]
theorem Mv.trans {h : Nat} {s1 s2 s3 : Sto} (a : Mv h s1 s2) (b : Mv h s2 s3) : Mv h s1 s3 := by
  obtain ⟨c, x, y, rfl⟩ := b
  obtain ⟨_, x', y', rfl⟩ := a
  exact ⟨c, x, y, List.set_set ..⟩
theorem sip_ok {h : Nat} {st : Sto} {m : Int} (c : Cup h st) (h0 : 0 < m) (h1 : m < 1073741824) : ∃ (r : Int) (st' : Sto), sipF [.hd h, .int m] st = .ok (.int r) st' ∧ 0 ≤ r ∧ r < m ∧ Mv h st st' := by
  obtain ⟨a, b, e⟩ := c
  have hl : h < st.length := (List.getElem?_eq_some_iff.mp e).1
  let a' := (a * 48271 + 11) % 2147483629
  have e1 : (st.set h (.lst [.int a', .int b]))[h]? = some (.lst [.int a', .int b]) := by rw [List.getElem?_set_self hl]
  have s1 : putIx (.hd h) (.int 0) (.int a') [.sh (.hd h), .sh (.int m), .un] st = .nx [.sh (.hd h), .sh (.int m), .un] (st.set h (.lst [.int a', .int b])) := by
    unfold putIx
    simp only [e]
    rfl
  by_cases hb : 0 < b
  · refine ⟨b % m, (st.set h (.lst [.int a', .int b])).set h (.lst [.int a', .int (b / m)]), ?_, Int.emod_nonneg _ (by omega), Int.emod_lt_of_pos _ h0, (Mv.of hl a' b).trans (Mv.of (by rw [List.length_set]; exact hl) a' (b / m))⟩
    have s2 : putIx (.hd h) (.int 1) (.int (b / m)) [.sh (.hd h), .sh (.int m), .un] (st.set h (.lst [.int a', .int b])) = .nx [.sh (.hd h), .sh (.int m), .un] ((st.set h (.lst [.int a', .int b])).set h (.lst [.int a', .int (b / m)])) := by
      unfold putIx
      simp only [e1]
      rfl
    unfold sipF
    refine runD_rt rfl ?_
    simp [ev_ixHd e (i := 0) (d := .int a) rfl, ev_mulR (j := 48271) rfl, ev_mod]
    rw [s1]
    simp [ev_ixHd e1 (i := 1) (d := .int b) rfl, hb, ev_divmod h0 h1]
    rw [s2]
    simp
  · refine ⟨a' / 1021 % m, st.set h (.lst [.int a', .int b]), ?_, Int.emod_nonneg _ (by omega), Int.emod_lt_of_pos _ h0, Mv.of hl a' b⟩
    unfold sipF
    refine runD_rt rfl ?_
    simp [ev_ixHd e (i := 0) (d := .int a) rfl, ev_mulR (j := 48271) rfl, ev_mod]
    rw [s1]
    simp [ev_ixHd e1 (i := 1) (d := .int b) rfl, ev_ixHd e1 (i := 0) (d := .int a') rfl, hb, ev_div, ev_mod h0]
theorem pick_ok {h : Nat} {st : Sto} {ds : List D} (c : Cup h st) (h0 : 0 < ds.length) (h1 : ds.length < 1073741824) : ∃ d st', pickF [.hd h, .lst ds] st = .ok d st' ∧ d ∈ ds ∧ Mv h st st' := by
  obtain ⟨r, st', e, g0, g1, g2⟩ := sip_ok (m := ds.length) c (by omega) (by omega)
  obtain ⟨d, e2, e3⟩ := atI_nat g0 g1
  refine ⟨d, st', ?_, e3, g2⟩
  unfold pickF
  refine runD_rt rfl ?_
  simp [e, ev_ixL e2]
theorem cup_ok {ns : List Int} {i : Int} (h0 : 0 ≤ i) (hi : i < 64) (st : Sto) : ∃ a b : Int, cupF [.fz (ns.map D.int), .int i] st = .ok (.hd st.length) (st ++ [.lst [.int a, .int b]]) := by
  have hs : small64 i = true := by simp [small64]; omega
  unfold cupF
  have key : ∀ (x : Int) (y : Sl) (st : Sto), ∃ a b : Int, (sRet (dNew (dLstF (dCons (dOp2 oMod (dOp1 oIntT (dOp2 oAdd (dOp2 oAdd (dOp2 oMul (dVar 2) (dC (.int 4099))) (dOp2 oMul (dC (.int 271)) (dVar 1))) (dC (.int 17)))) (dC (.int 2147483629))) (dCons (dIf (gOr (gBl (dOp2 oLt (dVar 2) (dC (.int 0)))) (gBl (dOp2 oGe (dVar 2) (dOp2 oPow (dC (.int 10)) (dC (.int 18)))))) (dOp1 oAbs (dVar 2)) (dC (.int 0))) dNil)))) : SF) [.sh (.fz (ns.map D.int)), .sh (.int i), .sh (.int x), y] st = .rt (.hd st.length) (st ++ [.lst [.int a, .int b]]) := by
    intro x y st
    have e10 : ∀ st, oPow (.int 10) (.int 18) st = .ok (.int (10 ^ 18)) st := fun st => rfl
    by_cases hx : x < 0 ∨ 10 ^ 18 ≤ x
    · refine ⟨(x * 4099 + 271 * i + 17) % 2147483629, (if x < 0 then -x else x), ?_⟩
      simp [ev_mulR (j := 4099) rfl, ev_mulL (i := 271) rfl, ev_mod, e10]
      by_cases h1 : x < 0
      · simp [h1, sizeLine_val]
      · have h2 : 10 ^ 18 ≤ x := hx.resolve_left h1
        simp [h1, h2, sizeLine_val]
        simp at h2
        simp [h2]
    · refine ⟨(x * 4099 + 271 * i + 17) % 2147483629, 0, ?_⟩
      simp [ev_mulR (j := 4099) rfl, ev_mulL (i := 271) rfl, ev_mod, e10]
      have h1 : ¬ x < 0 := fun h => hx (Or.inl h)
      have h2 : ¬ 10 ^ 18 ≤ x := fun h => hx (Or.inr h)
      simp at h2
      simp [h1, h2, sizeLine_val]
      have h3 : ¬ 1000000000000000000 ≤ x := by omega
      simp [h3]
  have fin : ∀ {g : SF} {x : Int} {y : Sl} {st : Sto} {e0 : AEnv}, g e0 st = .nx [.sh (.fz (ns.map D.int)), .sh (.int i), .sh (.int x), y] st → ∃ a b : Int, (sSeq g (sRet (dNew (dLstF (dCons (dOp2 oMod (dOp1 oIntT (dOp2 oAdd (dOp2 oAdd (dOp2 oMul (dVar 2) (dC (.int 4099))) (dOp2 oMul (dC (.int 271)) (dVar 1))) (dC (.int 17)))) (dC (.int 2147483629))) (dCons (dIf (gOr (gBl (dOp2 oLt (dVar 2) (dC (.int 0)))) (gBl (dOp2 oGe (dVar 2) (dOp2 oPow (dC (.int 10)) (dC (.int 18)))))) (dOp1 oAbs (dVar 2)) (dC (.int 0))) dNil)))))) e0 st = .rt (.hd st.length) (st ++ [.lst [.int a, .int b]]) := by
    intro g x y st e0 hg
    obtain ⟨a, b, e⟩ := key x y st
    refine ⟨a, b, ?_⟩
    rw [ev_sSeq, hg]
    exact e
  by_cases hl : i < ns.length
  · have hi : i.toNat < ns.length := by omega
    have ex : atI (ns.map D.int) i = some (.int ns[i.toNat]) := by
      rw [atI_pos h0 (by rw [List.length_map]; exact hl), List.getElem?_map, List.getElem?_eq_getElem hi]
      rfl
    obtain ⟨a, b, e⟩ := fin (x := ns[i.toNat]) (y := .un) (st := st) (g := sFor (iSeq (dIf (gBl (dOp2 oGe (dVar 1) (dOp1 oLen (dVar 0)))) (dSl (dVar 0) oNo (oSo (dC (.int 2)))) (dLst dNil))) (gNm 3) (sSet 2 (dOp2 oMod (dOp1 oIntT (dOp2 oAdd (dOp2 oMul (dVar 2) (dC (.int 31))) (dVar 3))) (dC (.int 1000000007))))) (e0 := [.sh (.fz (ns.map D.int)), .sh (.int i), .sh (.int ns[i.toNat]), .un]) (by
      have hn : ¬ (ns.length : Int) ≤ i := by omega
      unfold sFor
      simp [hn]
      rfl)
    refine ⟨a, b, runD_rt rfl ?_⟩
    rw [ev_sSeq]
    simp [hl, ev_ixF ex]
    exact e
  · have hs2 : ∀ (x : Int) (l : List Int) (y : Sl) (st : Sto), ∃ (x' : Int) (y' : Sl), forL (gNm 3) (sSet 2 (dOp2 oMod (dOp1 oIntT (dOp2 oAdd (dOp2 oMul (dVar 2) (dC (.int 31))) (dVar 3))) (dC (.int 1000000007)))) (l.map D.int) [.sh (.fz (ns.map D.int)), .sh (.int i), .sh (.int x), y] st = .nx [.sh (.fz (ns.map D.int)), .sh (.int i), .sh (.int x'), y'] st := by
      intro x l
      induction l generalizing x with
      | nil => exact fun y st => ⟨x, y, rfl⟩
      | cons n l ih =>
        intro y st
        obtain ⟨x', y', e⟩ := ih ((x * 31 + n) % 1000000007) (.sh (.int n)) st
        refine ⟨x', y', ?_⟩
        rw [List.map_cons]
        unfold forL
        simp [ev_mulR (j := 31) rfl, ev_mod]
        exact e
    obtain ⟨x', y', e2⟩ := hs2 (7919 * i + 104729) (cutL ns none (some 2)) .un st
    obtain ⟨a, b, e⟩ := fin (x := x') (y := y') (st := st) (g := sFor (iSeq (dIf (gBl (dOp2 oGe (dVar 1) (dOp1 oLen (dVar 0)))) (dSl (dVar 0) oNo (oSo (dC (.int 2)))) (dLst dNil))) (gNm 3) (sSet 2 (dOp2 oMod (dOp1 oIntT (dOp2 oAdd (dOp2 oMul (dVar 2) (dC (.int 31))) (dVar 3))) (dC (.int 1000000007))))) (e0 := [.sh (.fz (ns.map D.int)), .sh (.int i), .sh (.int (7919 * i + 104729)), .un]) (by
      have hn : (ns.length : Int) ≤ i := by omega
      have ec : ∀ st, oSl (.fz (ns.map D.int)) none (some 2) st = .ok (.lst ((cutL ns none (some 2)).map D.int)) st := fun st => by
        unfold oSl cutL
        simp only [List.length_map, List.map_take, List.map_drop]
      unfold sFor
      simp [hn, ec]
      exact e2)
    refine ⟨a, b, runD_rt rfl ?_⟩
    rw [ev_sSeq]
    simp [hl, ev_mulL (i := 7919) rfl]
    exact e
end AM
namespace AM
open PySem PySem.Spec PyProof.Rows L2 TL
def ShN : Nat → D → Prop
  | n, d => (match d with
    | .non => True
    | .bl _ => True
    | .int _ => True
    | .str s => PyData.strOk s = true
    | .tup ds => (match n with
      | 0 => False
      | m + 1 => ∀ e ∈ ds, ShN m e)
    | .lst ds => (match n with
      | 0 => False
      | m + 1 => ∀ e ∈ ds, ShN m e)
    | _ => False)
theorem ShN.tup {n : Nat} {ds : List D} (h : ∀ e ∈ ds, ShN n e) : ShN (n + 1) (.tup ds) := by unfold ShN; exact h
theorem ShN.lst {n : Nat} {ds : List D} (h : ∀ e ∈ ds, ShN n e) : ShN (n + 1) (.lst ds) := by unfold ShN; exact h
theorem ShN.int (n : Nat) (i : Int) : ShN n (.int i) := by unfold ShN; trivial
theorem ShN.str {n : Nat} {a : List Nat} (h : asc a = true) : ShN n (.str (mk a)) := by unfold ShN; exact strOk_mk h
def PB (s : Str) : Prop := ∀ c ∈ tl s, c < 0x110000
theorem pb_ok {s : Str} : PB s ↔ PyData.strOk s = true := by
  unfold PB PyData.strOk tl
  rw [Array.all_eq_true_iff_forall_mem]
  constructor
  · intro h c hc
    exact decide_eq_true (h c (Array.mem_toList_iff.mpr hc))
  · intro h c hc
    exact of_decide_eq_true (h c (Array.mem_toList_iff.mp hc))
theorem pb_app {a b : Str} (ha : PB a) (hb : PB b) : PB (a ++ b) := by
  intro c hc
  rw [tl_append, List.mem_append] at hc
  exact hc.elim (ha c) (hb c)
theorem char_lt (ch : Char) : ch.toNat < 0x110000 := by
  have h := ch.valid
  show ch.val.toNat < _
  rcases h with h | h
  · have : ch.val.toNat < 0xd800 := h
    omega
  · exact h.2
theorem pb_of (s : String) : PB (Str.ofString s) := by
  intro c hc
  rw [tl_ofString] at hc
  obtain ⟨ch, _, rfl⟩ := List.mem_map.mp hc
  exact char_lt ch
theorem pb_join {y : Str} (hy : PB y) : ∀ ts : List Str, (∀ t ∈ ts, PB t) → PB (Str.join y ts) := by
  intro ts h c hc
  rw [tl_join] at hc
  have : ∀ {ps : List (List Nat)}, c ∈ joinL (tl y) ps → c ∈ tl y ∨ ∃ p ∈ ps, c ∈ p := by
    intro ps
    induction ps with
    | nil => intro h; simp [joinL] at h
    | cons p ps ih =>
      cases ps with
      | nil => intro h; exact Or.inr ⟨p, List.mem_cons_self, h⟩
      | cons q r =>
        intro h
        rw [joinL, List.mem_append, List.mem_append] at h
        rcases h with h | h | h
        · exact Or.inr ⟨p, List.mem_cons_self, h⟩
        · exact Or.inl h
        · rcases ih h with h | ⟨x, hx, hc⟩
          · exact Or.inl h
          · exact Or.inr ⟨x, List.mem_cons_of_mem _ hx, hc⟩
  rcases this hc with h1 | ⟨p, hp, h1⟩
  · exact hy c h1
  · obtain ⟨t, ht, rfl⟩ := List.mem_map.mp hp
    exact h t ht c h1
theorem pb_char {q c : Nat} (hc : c < 0x110000) : ∀ x ∈ Builtin.Str.reprChar q c, x < 0x110000 := by
  intro x hx
  have hex : ∀ n, x ∈ (List.replicate (n - ((Nat.toDigits 16 c).map Char.toNat).length) 48 ++ (Nat.toDigits 16 c).map Char.toNat) → x < 0x110000 := by
    intro n h
    rcases List.mem_append.mp h with h | h
    · rw [List.eq_of_mem_replicate h]; decide
    · obtain ⟨ch, _, rfl⟩ := List.mem_map.mp h
      exact char_lt ch
  unfold Builtin.Str.reprChar at hx
  simp only at hx
  split at hx
  · simp at hx; omega
  · split at hx
    · simp at hx; omega
    · split at hx
      · simp at hx; omega
      · split at hx
        · simp at hx; omega
        · split at hx
          · simp at hx; omega
          · split at hx
            · rcases List.mem_append.mp hx with h | h
              · simp at h; omega
              · exact hex 2 h
            · split at hx
              · rcases List.mem_append.mp hx with h | h
                · simp at h; omega
                · exact hex 4 h
              · rcases List.mem_append.mp hx with h | h
                · simp at h; omega
                · exact hex 8 h
theorem pb_repr {x : Str} (h : PB x) : PB (reprText x) := by
  have hq : reprQuote x < 0x110000 := by unfold reprQuote; split <;> decide
  have key : ∀ (l : List Nat) (acc : Array Nat), (∀ c ∈ l, c < 0x110000) → (∀ c ∈ acc.toList, c < 0x110000) → ∀ c ∈ (l.foldl (fun out c => out ++ (Builtin.Str.reprChar (reprQuote x) c).toArray) acc).toList, c < 0x110000 := by
    intro l
    induction l with
    | nil => exact fun acc _ h => h
    | cons a l ih =>
      intro acc h1 h2
      refine ih _ (fun c hc => h1 c (List.mem_cons_of_mem _ hc)) ?_
      intro c hc
      rw [Array.toList_append, List.mem_append] at hc
      rcases hc with hc | hc
      · exact h2 c hc
      · exact pb_char (h1 a List.mem_cons_self) c (by simpa using hc)
  intro c hc
  unfold reprText tl at hc
  simp only [Array.toList_push, List.mem_append, List.mem_singleton] at hc
  rcases hc with hc | hc
  · rw [← Array.foldl_toList] at hc
    exact key x.cps.toList _ h (by simp; exact hq) c hc
  · rw [hc]; exact hq
mutual
theorem pb_shown : ∀ d : PyData, d.canLay0 = true → PB (PyData.shown d)
  | .none, _ => by simp only [PyData.shown]; exact pb_of _
  | .bool b, _ => by cases b <;> simp only [PyData.shown] <;> exact pb_of _
  | .int i, _ => by simp only [PyData.shown]; exact pb_of _
  | .str x, h => by
    simp only [PyData.shown]
    exact pb_repr (pb_ok.mpr (by simpa [PyData.canLay0] using h))
  | .list xs, h => by
    simp only [PyData.shown]
    rw [listText_eq_join]
    exact pb_app (pb_app (pb_of _) (pb_join (pb_of _) _ (pb_shownAll xs (by simpa [PyData.canLay0] using h)))) (pb_of _)
  | .tuple xs, h => by
    simp only [PyData.shown]
    unfold tupleText
    refine pb_app (pb_app (pb_of _) (pb_join (pb_of _) _ (pb_shownAll xs (by simpa [PyData.canLay0] using h)))) ?_
    exact pb_of _
  | .dict _, h => by simp [PyData.canLay0] at h
theorem pb_shownAll : ∀ ds : List PyData, PyData.canLayAll0 ds = true → ∀ t ∈ PyData.shownAll ds, PB t
  | [], _, t, ht => by simp [PyData.shownAll] at ht
  | d :: ds, h, t, ht => by
    simp only [PyData.canLayAll0, Bool.and_eq_true] at h
    simp only [PyData.shownAll, List.mem_cons] at ht
    rcases ht with rfl | ht
    · exact pb_shown d h.1
    · exact pb_shownAll ds h.2 t ht
end
end AM
namespace AM
open PySem PySem.Spec PyProof.Rows L2 TL
inductive Wx {α : Type} : Res α → (α → Sto → Prop) → Prop where
  | mk {a : α} {st : Sto} {P : α → Sto → Prop} (h : P a st) : Wx (.ok a st) P
inductive Ws : SR → (AEnv → Sto → Prop) → (D → Sto → Prop) → Prop where
  | nx {e : AEnv} {s : Sto} {N : AEnv → Sto → Prop} {T : D → Sto → Prop} (h : N e s) : Ws (.nx e s) N T
  | rt {d : D} {s : Sto} {N : AEnv → Sto → Prop} {T : D → Sto → Prop} (h : T d s) : Ws (.rt d s) N T
def En (N : AEnv → Sto → Prop) (E : AEnv) (s : Sto) : Prop := N E s
section
variable {α β : Type} {P : α → Sto → Prop} {Q : β → Sto → Prop} {V : D → Sto → Prop} {B : Bool → Sto → Prop} {Ls : List D → Sto → Prop} {N : AEnv → Sto → Prop} {T : D → Sto → Prop} {env : AEnv} {st st' : Sto} {f g fa fb fc : EF} {t t2 : TF} {fs : EFs} {F : DF} {k k' : Op2} {k1 : Op1} {d : D} {ds : List D} {i j : Nat} {u v : SF}
theorem en_of {E E0 : AEnv} (e : E = E0) (h : N E0 st) : En N E st := by
  subst e
  exact h
theorem wx_eq {r : Res α} {a : α} (e : r = .ok a st) (h : P a st) : Wx r P := by rw [e]; exact .mk h
theorem wx_ex {r : Res α} (h : Wx r P) : ∃ a st, r = .ok a st ∧ P a st := by
  cases h with
  | mk h => exact ⟨_, _, rfl, h⟩
theorem wx_mono {r : Res α} {P' : α → Sto → Prop} (h : Wx r P) (i : ∀ a s, P a s → P' a s) : Wx r P' := by
  cases h with
  | mk h => exact .mk (i _ _ h)
theorem wx_bind {r : Res α} {h : α → Sto → Res β} (e : Wx r fun a s => Wx (h a s) Q) : Wx (r.bind h) Q := by
  cases e with
  | mk e => exact e
theorem ws_then {r : Res α} {h : α → Sto → SR} (e : Wx r fun a s => Ws (h a s) N T) : Ws (r.then h) N T := by
  cases e with
  | mk e => exact e
theorem ws_bind {r : SR} {h : AEnv → Sto → SR} (e : Ws r (fun a s => Ws (h a s) N T) T) : Ws (r.bind h) N T := by
  cases e with
  | nx e => exact e
  | rt e => exact .rt e
theorem ws_onx {r : SR} (e : Ws r N fun _ _ => False) : Ws (onlyNx r) N T := by
  cases e with
  | nx e => exact .nx e
  | rt e => exact e.elim
theorem ws_rt (h : T d st) : Ws (.rt d st) N T := .rt h
theorem wx_run {n M : Nat} (hl : ds.length = n) (h : En (fun E s => Ws (u E s) (fun _ s => V .non s) V) (ds.map Sl.sh ++ List.replicate (M - n) .un) st) : Wx (runD n M u ds st) V := by
  unfold runD
  rw [if_pos hl]
  have h : Ws (u (ds.map Sl.sh ++ List.replicate (M - n) .un) st) (fun _ s => V .non s) V := h
  generalize u (ds.map Sl.sh ++ List.replicate (M - n) .un) st = q at h
  cases h with
  | nx h => exact .mk h
  | rt h => exact .mk h
theorem wx_dVar (e : env[i]? = some (.sh d)) (h : V d st) : Wx (dVar i env st) V := by
  have q : dVar i env st = .ok d st := by unfold dVar; rw [e]
  rw [q]; exact .mk h
theorem wx_dOwn (e : env[i]? = some (.own ds)) (h : V (.lst ds) st) : Wx (dOwn i env st) V := by
  have q : dOwn i env st = .ok (.lst ds) st := by unfold dOwn; rw [e]
  rw [q]; exact .mk h
theorem wx_dOwn' (e : env[i]? = some (.sh d)) (h : V d st) : Wx (dOwn i env st) V := by
  have q : dOwn i env st = .ok d st := by unfold dOwn; rw [e]
  rw [q]; exact .mk h
theorem wx_dC (h : V d st) : Wx (dC d env st) V := .mk h
theorem wx_dOp2 (h : Wx (fa env st) fun a s => Wx (fb env s) fun b s => Wx (k a b s) V) : Wx (dOp2 k fa fb env st) V := wx_bind (wx_mono h fun a s h => wx_bind h)
theorem wx_dOp1 (h : Wx (fa env st) fun a s => Wx (k1 a s) V) : Wx (dOp1 k1 fa env st) V := wx_bind h
theorem wx_gTru (h : Wx (fa env st) fun a s => ∃ b, truD a = some b ∧ B b s) : Wx (gTru fa env st) B := wx_bind (wx_mono h fun a s ⟨b, e, h⟩ => by rw [e]; exact .mk h)
theorem wx_gBl (h : Wx (fa env st) fun a s => ∃ b, a = .bl b ∧ B b s) : Wx (gBl fa env st) B := wx_bind (wx_mono h fun a s ⟨b, e, h⟩ => by subst e; exact .mk h)
theorem wx_dChain (h : Wx (fa env st) fun a s => Wx (fb env s) fun b s => Wx (k a b s) fun r s => ∃ c, r = .bl c ∧ (c = true → Wx (fc env s) fun c s => Wx (k' b c s) V) ∧ (c = false → V (.bl false) s)) : Wx (dChain k k' fa fb fc env st) V :=
  wx_bind (wx_mono h fun a s h => wx_bind (wx_mono h fun b s h => wx_bind (wx_mono h fun r s ⟨c, e, h1, h2⟩ => by
    subst e
    cases c with
    | true => exact wx_bind (h1 rfl)
    | false => exact .mk (h2 rfl))))
theorem wx_gAnd (h : Wx (t env st) fun b s => (b = true → Wx (t2 env s) B) ∧ (b = false → B false s)) : Wx (gAnd t t2 env st) B := wx_bind (wx_mono h fun b s ⟨h1, h2⟩ => by
  cases b with
  | true => exact h1 rfl
  | false => exact .mk (h2 rfl))
theorem wx_gOr (h : Wx (t env st) fun b s => (b = true → B true s) ∧ (b = false → Wx (t2 env s) B)) : Wx (gOr t t2 env st) B := wx_bind (wx_mono h fun b s ⟨h1, h2⟩ => by
  cases b with
  | true => exact .mk (h1 rfl)
  | false => exact h2 rfl)
theorem wx_gNot (h : Wx (t env st) fun b s => B (!b) s) : Wx (gNot t env st) B := wx_bind (wx_mono h fun _ _ h => .mk h)
theorem wx_dAnd (h : Wx (f env st) fun d s => ∃ b, d = .bl b ∧ (b = true → Wx (g env s) V) ∧ (b = false → V (.bl false) s)) : Wx (dAnd f g env st) V := wx_bind (wx_mono h fun d s ⟨b, e, h1, h2⟩ => by
  subst e
  cases b with
  | true => exact h1 rfl
  | false => exact .mk (h2 rfl))
theorem wx_dOr (h : Wx (f env st) fun d s => ∃ b, d = .bl b ∧ (b = true → V (.bl true) s) ∧ (b = false → Wx (g env s) V)) : Wx (dOr f g env st) V := wx_bind (wx_mono h fun d s ⟨b, e, h1, h2⟩ => by
  subst e
  cases b with
  | true => exact .mk (h1 rfl)
  | false => exact h2 rfl)
theorem wx_dNot (h : Wx (f env st) fun d s => ∃ b, d = .bl b ∧ V (.bl (!b)) s) : Wx (dNot f env st) V := wx_bind (wx_mono h fun d s ⟨b, e, h⟩ => by subst e; exact .mk h)
theorem wx_dIf (h : Wx (t env st) fun b s => (b = true → Wx (f env s) V) ∧ (b = false → Wx (g env s) V)) : Wx (dIf t f g env st) V := wx_bind (wx_mono h fun b s ⟨h1, h2⟩ => by
  cases b with
  | true => exact h1 rfl
  | false => exact h2 rfl)
theorem wx_dNeg (h : Wx (f env st) fun d s => ∃ n, d = .int n ∧ V (.int (-n)) s) : Wx (dNeg f env st) V := wx_bind (wx_mono h fun d s ⟨b, e, h⟩ => by subst e; exact .mk h)
theorem wx_dNil (h : Ls [] st) : Wx (dNil env st) Ls := .mk h
theorem wx_dCons (h : Wx (f env st) fun d s => Wx (fs env s) fun ds s => Ls (d :: ds) s) : Wx (dCons f fs env st) Ls := wx_bind (wx_mono h fun d s h => wx_bind (wx_mono h fun _ _ h => .mk h))
theorem wx_dTup (h : Wx (fs env st) fun ds s => ds.length ≤ 16777216 ∧ V (.tup ds) s) : Wx (dTup fs env st) V := wx_bind (wx_mono h fun ds s ⟨h1, h2⟩ => by rw [← sizeLine_val] at h1; rw [if_pos h1]; exact .mk h2)
theorem wx_dLst (h : Wx (fs env st) fun ds s => ds.length ≤ 16777216 ∧ V (.lst ds) s) : Wx (dLst fs env st) V := wx_bind (wx_mono h fun ds s ⟨h1, h2⟩ => by rw [← sizeLine_val] at h1; rw [if_pos h1]; exact .mk h2)
theorem wx_dLstF (h : Wx (fs env st) fun ds s => ds.length ≤ 16777216 ∧ Ls ds s) : Wx (dLstF fs env st) Ls := wx_bind (wx_mono h fun ds s ⟨h1, h2⟩ => by rw [← sizeLine_val] at h1; rw [if_pos h1]; exact .mk h2)
theorem wx_dF {fi : IF} (h : Wx (fi env st) fun ds s => V (.lst ds) s) : Wx (dF fi env st) V := wx_bind (wx_mono h fun _ _ h => .mk h)
theorem wx_dCall (h : Wx (fs env st) fun ds s => Wx (F ds s) V) : Wx (dCall F fs env st) V := wx_bind h
theorem wx_oNo {O : Option Int → Sto → Prop} (h : O none st) : Wx (oNo env st) O := .mk h
theorem wx_oSo {O : Option Int → Sto → Prop} (h : Wx (f env st) fun d s => ∃ n, d = .int n ∧ O (some n) s) : Wx (oSo f env st) O := wx_bind (wx_mono h fun d s ⟨b, e, h⟩ => by subst e; exact .mk h)
theorem wx_dSl {lo hi : OF} (h : Wx (f env st) fun d s => Wx (lo env s) fun l s => Wx (hi env s) fun h s => Wx (oSl d l h s) V) : Wx (dSl f lo hi env st) V := wx_bind (wx_mono h fun d s h => wx_bind (wx_mono h fun d s h => wx_bind h))
theorem wx_dM1 {q : SOp1} (h : Wx (fa env st) fun a s => ∃ z, a = .str z ∧ Wx (fb env s) fun b s => Wx (q z b s) V) : Wx (dM1 q fa fb env st) V := wx_bind (wx_mono h fun a s ⟨z, e, h⟩ => by subst e; exact wx_bind h)
theorem wx_dM0 {q : SOp0} (h : Wx (fa env st) fun a s => ∃ z, a = .str z ∧ Wx (q z s) V) : Wx (dM0 q fa env st) V := wx_bind (wx_mono h fun a s ⟨z, e, h⟩ => by subst e; exact h)
theorem wx_dFld {cs : List Nat} {x : Str} (h : Wx (f env st) fun d s => ∃ e, fldOf cs x d s = some e ∧ V e s) : Wx (dFld cs x f env st) V := wx_bind (wx_mono h fun d s ⟨b, e, h⟩ => by rw [e]; exact .mk h)
theorem wx_dProp {c : Nat} (h : Wx (f env st) fun d s => isI c d s = true ∧ Wx (F [d] s) V) : Wx (dProp c F f env st) V := wx_bind (wx_mono h fun d s ⟨e, h⟩ => by
  rw [if_pos e]
  obtain ⟨a, s2, q, h⟩ := wx_ex h
  rw [q]; exact .mk h)
theorem wx_dOwn2 {c : Nat} (h : Wx (fa env st) fun a s => Wx (fb env s) fun b s => (isI c a s && isI c b s) = true ∧ Wx (F [a, b] s) V) : Wx (dOwn2 c F fa fb env st) V := wx_bind (wx_mono h fun a s h => wx_bind (wx_mono h fun b s ⟨e, h⟩ => by rw [if_pos e]; exact h))
theorem wx_gTruC {c : Nat} (h : Wx (f env st) fun d s => isI c d s = true ∧ Wx (F [d] s) fun r s => ∃ b, r = .bl b ∧ B b s) : Wx (gTruC c F f env st) B := wx_bind (wx_mono h fun d s ⟨e, h⟩ => by
  rw [if_pos e]
  obtain ⟨a, s2, e1, b, rfl, hb⟩ := wx_ex h
  rw [e1]; exact .mk hb)
theorem wx_iSeq (h : Wx (f env st) fun d s => Wx (itemsD d s) Ls) : Wx (iSeq f env st) Ls := wx_bind h
def okRb (n : Int) : Bool := decide (-100000000 ≤ n) && decide (n ≤ 100000000)
theorem okRb_iff {n : Int} : okRb n = true ↔ -100000000 ≤ n ∧ n ≤ 100000000 := by simp [okRb]
theorem okRb_of {n : Int} (h1 : -100000000 ≤ n) (h2 : n ≤ 100000000) : okRb n = true := okRb_iff.mpr ⟨h1, h2⟩
theorem wx_iRan (h : Wx (f env st) fun d s => ∃ n, d = .int n ∧ okRb n = true ∧ Ls (rng 0 n.toNat) s) : Wx (iRan f env st) Ls := by
  obtain ⟨d, s, e, n, rfl, h1, h⟩ := wx_ex h
  have ⟨h1, h2⟩ := okRb_iff.mp h1
  rw [iRan_ok e (okR_of h1 h2)]
  exact .mk h
theorem ws_sSeq (h : Ws (u env st) (fun e s => Ws (v e s) N T) T) : Ws (sSeq u v env st) N T := ws_bind h
theorem ws_sPass (h : N env st) : Ws (sPass env st) N T := .nx h
theorem ws_sRet (h : Wx (f env st) T) : Ws (sRet f env st) N T := ws_then (wx_mono h fun _ _ h => .rt h)
theorem ws_sExpr (h : Wx (f env st) fun _ s => N env s) : Ws (sExpr f env st) N T := ws_then (wx_mono h fun _ _ h => .nx h)
theorem ws_sSet (h : Wx (f env st) fun d s => En N (env.set i (.sh d)) s) : Ws (sSet i f env st) N T := ws_then (wx_mono h fun _ _ h => .nx h)
theorem ws_sOwn {fi : IF} (h : Wx (fi env st) fun ds s => En N (env.set i (.own ds)) s) : Ws (sOwn i fi env st) N T := ws_then (wx_mono h fun _ _ h => .nx h)
theorem ws_sIf (h : Wx (t env st) fun b s => (b = true → Ws (u env s) N T) ∧ (b = false → Ws (v env s) N T)) : Ws (sIf t u v env st) N T := ws_then (wx_mono h fun b s ⟨h1, h2⟩ => by
  cases b with
  | true => exact h1 rfl
  | false => exact h2 rfl)
theorem ws_sAsg {g : GF} (h : Wx (f env st) fun d s => Ws (g d env s) N fun _ _ => False) : Ws (sAsg f g env st) N T := ws_then (wx_mono h fun d s h => ws_onx h)
theorem ws_sPar (h : Wx (fs env st) fun ds s => ∃ d e, ds = [d, e] ∧ En N ((env.set i (.sh d)).set j (.sh e)) s) : Ws (sPar i j fs env st) N T := ws_then (wx_mono h fun ds s ⟨d, e, q, h⟩ => by subst q; exact .nx h)
theorem ws_gNm (h : En N (env.set i (.sh d)) st) : Ws (gNm i d env st) N T := .nx h
theorem ws_gTup {n : Nat} {gs : GFs} (hn : ds.length = n) (h : Ws (gs ds env st) N T) : Ws (gTupD n gs (.tup ds) env st) N T := by
  rw [ev_gTupD, if_pos hn]; exact h
theorem ws_gNil (h : N env st) : Ws (gNilD [] env st) N T := .nx h
theorem ws_gCons {g : GF} {gs : GFs} (h : Ws (g d env st) (fun e s => Ws (gs ds e s) N T) fun _ _ => False) : Ws (gConsD g gs (d :: ds) env st) N T := ws_bind (ws_onx h)
theorem ws_sApp (e : env[i]? = some (.own ds)) (h : Wx (f env st) fun d s => ds.length < 16777216 ∧ En N (env.set i (.own (ds ++ [d]))) s) : Ws (sApp i f env st) N T := by
  unfold sApp
  rw [e]
  exact ws_then (wx_mono h fun d s ⟨h1, h2⟩ => by rw [← sizeLine_val] at h1; rw [if_pos h1]; exact .nx h2)
theorem ws_frz (e : env[i]? = some (.own ds)) (h : En (fun E s => Ws (u E s) N T) (env.set i (.sh (.lst ds))) st) : Ws (frz i u env st) N T := by
  unfold frz
  rw [e]; exact h
theorem ws_frz' (e : env[i]? = some (.sh d)) (h : Ws (u env st) N T) : Ws (frz i u env st) N T := by
  unfold frz
  rw [e]; exact h
theorem ws_sFor {fi : IF} {g : GF} {h : SF} (e : Wx (fi env st) fun items s => Ws (forL g h items env s) N T) : Ws (sFor fi g h env st) N T := by
  unfold sFor
  exact ws_then e
end
end AM
namespace AM
open PySem PySem.Spec PyProof.Rows L2 TL
section
variable {V : D → Sto → Prop} {B : Bool → Sto → Prop} {Ls : List D → Sto → Prop} {st : Sto} {X Y : Prop}
theorem and_t (h : X) : ((true = true) → X) ∧ ((true = false) → Y) := ⟨fun _ => h, fun e => by cases e⟩
theorem and_f (h : Y) : ((false = true) → X) ∧ ((false = false) → Y) := ⟨fun e => (by cases e), fun _ => h⟩
theorem and_nT (h : Y) : (((!true) = true) → X) ∧ (((!true) = false) → Y) := and_f h
theorem and_nF (h : X) : (((!false) = true) → X) ∧ (((!false) = false) → Y) := and_t h
theorem and_dt {c : Prop} [Decidable c] (hc : c) (h : X) : ((decide c = true) → X) ∧ ((decide c = false) → Y) := by rw [decide_eq_true hc]; exact and_t h
theorem and_df {c : Prop} [Decidable c] (hc : ¬ c) (h : Y) : ((decide c = true) → X) ∧ ((decide c = false) → Y) := by rw [decide_eq_false hc]; exact and_f h
theorem and_nt {c : Prop} [Decidable c] (hc : c) (h : Y) : (((!decide c) = true) → X) ∧ (((!decide c) = false) → Y) := by rw [decide_eq_true hc]; exact and_f h
theorem and_nf {c : Prop} [Decidable c] (hc : ¬ c) (h : X) : (((!decide c) = true) → X) ∧ (((!decide c) = false) → Y) := by rw [decide_eq_false hc]; exact and_t h
theorem wi_add {i j : Int} (h : V (.int (i + j)) st) : Wx (oAdd (.int i) (.int j) st) V := .mk h
theorem wi_sub {i j : Int} (h : V (.int (i - j)) st) : Wx (oSub (.int i) (.int j) st) V := .mk h
theorem wi_lt {i j : Int} (h : V (.bl (decide (i < j))) st) : Wx (oLt (.int i) (.int j) st) V := .mk h
theorem wi_le {i j : Int} (h : V (.bl (decide (i ≤ j))) st) : Wx (oLe (.int i) (.int j) st) V := .mk h
theorem wi_gt {i j : Int} (h : V (.bl (decide (j < i))) st) : Wx (oGt (.int i) (.int j) st) V := .mk h
theorem wi_ge {i j : Int} (h : V (.bl (decide (j ≤ i))) st) : Wx (oGe (.int i) (.int j) st) V := .mk h
theorem wi_eq {i j : Int} (h : V (.bl (decide (i = j))) st) : Wx (oEq (.int i) (.int j) st) V := .mk h
theorem wi_ne {i j : Int} (h : V (.bl (!decide (i = j))) st) : Wx (oNe (.int i) (.int j) st) V := .mk h
theorem wi_max {i j : Int} (h : V (.int (if j > i then j else i)) st) : Wx (oMax (.int i) (.int j) st) V := .mk h
theorem wi_min {i j : Int} (h : V (.int (if j < i then j else i)) st) : Wx (oMin (.int i) (.int j) st) V := .mk h
theorem wi_lenT {ds : List D} (h : V (.int ds.length) st) : Wx (oLen (.tup ds) st) V := .mk h
theorem wi_lenL {ds : List D} (h : V (.int ds.length) st) : Wx (oLen (.lst ds) st) V := .mk h
theorem wi_lenF {ds : List D} (h : V (.int ds.length) st) : Wx (oLen (.fz ds) st) V := .mk h
theorem wi_itT {ds : List D} (h : Ls ds st) : Wx (itemsD (.tup ds) st) Ls := .mk h
theorem wi_itL {ds : List D} (h : Ls ds st) : Wx (itemsD (.lst ds) st) Ls := .mk h
theorem wi_itF {ds : List D} (h : Ls ds st) : Wx (itemsD (.fz ds) st) Ls := .mk h
theorem wi_itS {a : List Nat} (h : Ls (a.map fun c => .str (mk [c])) st) : Wx (itemsD (.str (mk a)) st) Ls := .mk h
theorem wi_tupL {ds : List D} (h : V (.tup ds) st) : Wx (oTupT (.lst ds) st) V := .mk h
theorem wi_tupT {ds : List D} (h : V (.tup ds) st) : Wx (oTupT (.tup ds) st) V := .mk h
theorem wi_isN {d : D} (h : V (.bl d.isNon) st) : Wx (oIs d .non st) V := .mk h
theorem wi_isNN {d : D} (h : V (.bl (!d.isNon)) st) : Wx (oIsNot d .non st) V := .mk h
theorem wi_len {a : List Nat} (hz : a.length ≤ 16777216) (h : V (.int a.length) st) : Wx (oLen (.str (mk a)) st) V := wx_eq (ev_lenS hz st) h
theorem wi_intT {i : Int} (h : V (.int i) st) : Wx (oIntT (.int i) st) V := .mk h
theorem wi_inM {c : Nat} {z : List Nat} (h : V (.bl (decide (c ∈ z))) st) : Wx (oIn (.str (mk [c])) (.str (mk z)) st) V := .mk h
theorem wi_notInM {c : Nat} {z : List Nat} (h : V (.bl (!decide (c ∈ z))) st) : Wx (oNotIn (.str (mk [c])) (.str (mk z)) st) V := .mk h
theorem wx_all {fi : IF} {env : AEnv} (h : Wx (fi env st) fun ds s => ∃ bs : List Bool, ds = bs.map D.bl ∧ V (.bl (bs.all id)) s) : Wx (dOp1 oAll (dF fi) env st) V := by
  obtain ⟨ds, s, e, bs, rfl, h⟩ := wx_ex h
  exact wx_eq (all_ok e) h
theorem wx_any {fi : IF} {env : AEnv} (h : Wx (fi env st) fun ds s => ∃ bs : List Bool, ds = bs.map D.bl ∧ V (.bl (bs.any id)) s) : Wx (dOp1 oAny (dF fi) env st) V := by
  obtain ⟨ds, s, e, bs, rfl, h⟩ := wx_ex h
  exact wx_eq (any_ok e) h
theorem wx_compS {tup : Bool} {is vs : List Nat} {fi : IF} {f : EF} {env : AEnv} (I : Sto → Prop) (P : D → Prop) (ho : noOwn env vs = true) (hi : ∀ i ∈ is, i ∈ vs)
    (h : Wx (fi env st) fun ds s => ds.length ≤ 16777216 ∧ I s ∧ (∀ d ∈ ds, ∀ s, I s → ∃ es, tgC tup is d = some es ∧ En (fun E s => Wx (f E s) fun y s2 => P y ∧ I s2) (putAll (wipeE env vs) is es) s) ∧ (∀ ys s2, ys.length = ds.length → (∀ y ∈ ys, P y) → I s2 → Ls ys s2)) :
    Wx (compF fi tup is vs tYesD f env st) Ls := by
  obtain ⟨ds, s, e, hz, h0, h1, h2⟩ := wx_ex h
  obtain ⟨ys, s2, g1, g2, g3, g4⟩ := compF_any (tup := tup) (is := is) (vs := vs) (t := tYesD) I P ho hi e h0 (fun d hd s hs => by
    obtain ⟨es, e1, hw⟩ := h1 d hd s hs
    obtain ⟨y, s2, e2, hy, hs2⟩ := wx_ex hw
    exact ⟨es, y, s2, e1, rfl, e2, hy, hs2⟩) (by rw [sizeLine_val]; exact hz)
  exact wx_eq g1 (h2 ys s2 g2 g3 g4)
end
end AM
namespace AM
open PySem PySem.Spec PyProof.Rows L2 TL
def Rp (n k : Nat) (d : D) : Prop := ∃ x, d.py = some x ∧ x.canLay0 = true ∧ x.depth ≤ n ∧ PyData.showable x = true ∧ shL x ≤ k
theorem Rp.mono {n k n' k' : Nat} {d : D} (h : Rp n k d) (hn : n ≤ n') (hk : k ≤ k') : Rp n' k' d := by
  obtain ⟨x, h1, h2, h3, h4, h5⟩ := h
  exact ⟨x, h1, h2, Nat.le_trans h3 hn, h4, Nat.le_trans h5 hk⟩
theorem Rp.non : Rp 0 4 .non := ⟨.none, by unfold D.py; rfl, by simp [PyData.canLay0], by simp [PyData.depth], by simp [PyData.showable], by simp [shL]⟩
theorem Rp.bl (b : Bool) : Rp 0 5 (.bl b) := ⟨.bool b, by unfold D.py; rfl, by simp [PyData.canLay0], by simp [PyData.depth], by simp [PyData.showable], by simp [shL]⟩
theorem Rp.int {i : Int} {k : Nat} (h : i.natAbs < 2 ^ k) (hk : k < 1920) : Rp 0 (k + 2) (.int i) := by
  have hl : i.natAbs.log2 ≤ k := by
    by_cases h0 : i.natAbs = 0
    · rw [h0]; exact Nat.zero_le _
    · exact Nat.le_of_lt ((Nat.log2_lt h0).mpr h)
  exact ⟨.int i, by unfold D.py; rfl, by simp [PyData.canLay0], by simp [PyData.depth], by simp [PyData.showable]; omega, by simp [shL]; omega⟩
theorem Rp.str {a : List Nat} (h : asc a = true) : Rp 0 (10 * a.length + 2) (.str (mk a)) := ⟨.str (mk a), by unfold D.py; rfl, by simpa [PyData.canLay0] using strOk_mk h, by simp [PyData.depth], by simp [PyData.showable], by simp [shL, mk_len]⟩
theorem Rp.all {n k : Nat} : ∀ ds : List D, (∀ d ∈ ds, Rp n k d) → ∃ xs, pyL ds = some xs ∧ PyData.canLayAll0 xs = true ∧ PyData.depthAll xs ≤ n ∧ PyData.showableAll xs = true ∧ shLs xs ≤ ds.length * (k + 2)
  | [], _ => ⟨[], by unfold pyL; rfl, by simp [PyData.canLayAll0], by simp [PyData.depthAll], by simp [PyData.showableAll], by simp [shLs]⟩
  | d :: ds, h => by
    obtain ⟨x, e1, e2, e3, e4, e5⟩ := h d List.mem_cons_self
    obtain ⟨xs, f1, f2, f3, f4, f5⟩ := Rp.all ds fun d hd => h d (List.mem_cons_of_mem _ hd)
    refine ⟨x :: xs, by unfold pyL; rw [e1, f1], by simp [PyData.canLayAll0, e2, f2], ?_, by simp [PyData.showableAll, e4, f4], ?_⟩
    · simp only [PyData.depthAll]; omega
    · simp only [shLs, List.length_cons, Nat.succ_mul]; omega
theorem Rp.tup {n k m : Nat} {ds : List D} (h : ∀ d ∈ ds, Rp n k d) (hm : ds.length ≤ m) : Rp (n + 1) (m * (k + 2) + 3) (.tup ds) := by
  obtain ⟨xs, f1, f2, f3, f4, f5⟩ := Rp.all ds h
  have : ds.length * (k + 2) ≤ m * (k + 2) := Nat.mul_le_mul_right _ hm
  exact ⟨.tuple xs, by unfold D.py; rw [f1]; rfl, by simpa [PyData.canLay0] using f2, by simp only [PyData.depth]; omega, by simpa [PyData.showable] using f4, by simp only [shL]; omega⟩
theorem Rp.lst {n k m : Nat} {ds : List D} (h : ∀ d ∈ ds, Rp n k d) (hm : ds.length ≤ m) : Rp (n + 1) (m * (k + 2) + 3) (.lst ds) := by
  obtain ⟨xs, f1, f2, f3, f4, f5⟩ := Rp.all ds h
  have : ds.length * (k + 2) ≤ m * (k + 2) := Nat.mul_le_mul_right _ hm
  exact ⟨.list xs, by unfold D.py; rw [f1]; rfl, by simpa [PyData.canLay0] using f2, by simp only [PyData.depth]; omega, by simpa [PyData.showable] using f4, by simp only [shL]; omega⟩
theorem Rp.sh {n k : Nat} {d : D} (h : Rp n k d) (hn : n ≤ 64) : shD d = true := by
  obtain ⟨x, e1, e2, e3, _⟩ := h
  unfold shD
  rw [e1]
  show SeqAt.shaped x = true
  unfold SeqAt.shaped
  rw [e2]
  exact decide_eq_true (Nat.le_trans e3 hn)
theorem Rp.repr {n k : Nat} {ds : List D} (h : Rp n k (.lst ds)) (hn : n ≤ 60) (hk : k ≤ 16777216) : ∃ s, (∀ st, oRepr (.lst ds) st = .ok (.str s) st) ∧ PyData.strOk s = true := by
  obtain ⟨x, e1, e2, e3, e4, e5⟩ := h
  have hl : ∃ xs, x = .list xs := by
    unfold D.py at e1
    cases hp : pyL ds with
    | none => rw [hp] at e1; simp at e1
    | some xs => rw [hp] at e1; exact ⟨xs, (Option.some.inj e1).symm⟩
  obtain ⟨xs, rfl⟩ := hl
  have h3 := shL_ok _ e2
  refine ⟨PyData.shown (.list xs), fun st => ?_, pb_ok.mp (pb_shown _ e2)⟩
  unfold oRepr
  rw [e1]
  show (if (PyData.showable (.list xs) && decide ((PyData.shown (.list xs)).length ≤ sizeLine) && decide (PyData.depth (.list xs) ≤ 60)) = true then _ else _) = _
  rw [if_pos]
  rw [e4, decide_eq_true (show (PyData.shown (.list xs)).length ≤ sizeLine by rw [sizeLine_val]; omega), decide_eq_true (by omega)]
  rfl
end AM
namespace AM
open PySem PySem.Spec PyProof.Rows L2 TL
local macro_rules | `(tactic| walk_at "en") => `(tactic| ((try simp only [List.map_cons, List.map_nil, List.replicate, List.replicate_zero, List.replicate_succ, List.cons_append, List.nil_append, List.set_cons_zero, List.set_cons_succ, Nat.reduceSub, Nat.reduceAdd, List.reduceReplicate, AM.putAll, AM.wipeE, List.foldl_cons, List.foldl_nil, List.zip_cons_cons, List.zip_nil_left, List.zip_nil_right]); with_unfolding_all rfl))
local macro_rules | `(tactic| walk_at "wp") => `(tactic| repeat' (with_reducible first
  | refine wx_dVar (by with_unfolding_all rfl) ?_ | refine wx_dC ?_ | refine wx_dOp2 ?_ | refine wx_all ?_ | refine wx_any ?_ | refine wx_dOp1 ?_ | refine wx_gBl ?_ | refine wx_gTru ?_ | refine wx_dCall ?_ | refine wx_dCons ?_ | refine wx_dNil ?_
  | refine en_of (by walk_at "en") ?_ | refine ws_sSeq ?_ | refine ws_sIf ?_ | refine ws_sRet ?_ | refine ws_sSet ?_ | refine ws_sAsg ?_ | refine ws_sPass ?_ | refine ws_sExpr ?_ | refine ws_sOwn ?_ | refine ws_sFor ?_ | refine ws_sPar ?_
  | refine ws_gNm ?_ | refine ws_gTup (by with_unfolding_all rfl) ?_ | refine ws_gNil ?_ | refine ws_gCons ?_
  | refine wx_dOwn (by with_unfolding_all rfl) ?_ | refine wx_dOwn' (by with_unfolding_all rfl) ?_ | refine ws_frz (by with_unfolding_all rfl) ?_ | refine ws_frz' (by with_unfolding_all rfl) ?_ | refine ws_sApp (by with_unfolding_all rfl) ?_
  | refine wx_dChain ?_ | refine wx_gAnd ?_ | refine wx_gOr ?_ | refine wx_gNot ?_ | refine wx_dAnd ?_ | refine wx_dOr ?_ | refine wx_dNot ?_ | refine wx_dIf ?_ | refine wx_dNeg ?_
  | refine wx_dTup ?_ | refine wx_dLst ?_ | refine wx_dLstF ?_ | refine wx_dF ?_ | refine wx_oNo ?_ | refine wx_oSo ?_ | refine wx_dSl ?_ | refine wx_dM1 ?_ | refine wx_dM0 ?_ | refine wx_dFld ?_ | refine wx_dProp ?_ | refine wx_dOwn2 ?_ | refine wx_gTruC ?_ | refine wx_iSeq ?_ | refine wx_iRan ?_
  | refine wi_add ?_ | refine wi_sub ?_ | refine wi_lt ?_ | refine wi_le ?_ | refine wi_gt ?_ | refine wi_ge ?_ | refine wi_eq ?_ | refine wi_ne ?_ | refine wi_max ?_ | refine wi_min ?_ | refine wi_lenT ?_ | refine wi_lenL ?_ | refine wi_lenF ?_
  | refine wi_itT ?_ | refine wi_itL ?_ | refine wi_itF ?_ | refine wi_itS ?_ | refine wi_tupL ?_ | refine wi_tupT ?_ | refine wi_isN ?_ | refine wi_isNN ?_ | refine wi_intT ?_ | refine wi_inM ?_ | refine wi_notInM ?_
  | refine and_t ?_ | refine and_f ?_ | refine and_nT ?_ | refine and_nF ?_
  | refine Exists.intro _ (And.intro rfl ?_)
  | refine And.intro (Nat.le_of_ble_eq_true (by with_unfolding_all rfl)) ?_ | refine And.intro (show okRb _ = true by with_unfolding_all rfl) ?_))
section
theorem all_true {ys : List D} (h : ∀ y ∈ ys, y = .bl true) : ∃ bs : List Bool, ys = bs.map D.bl ∧ bs.all id = true := by
  refine ⟨List.replicate ys.length true, ?_, by simp⟩
  rw [List.map_replicate]
  exact List.eq_replicate_iff.mpr ⟨rfl, h⟩
theorem rng_mem {a : Int} {n : Nat} {d : D} (h : d ∈ rng a n) : ∃ i : Nat, i < n ∧ d = .int (a + i) := by
  unfold rng at h
  obtain ⟨i, hi, rfl⟩ := List.mem_map.mp h
  exact ⟨i, List.mem_range.mp hi, rfl⟩
theorem rng_length (a : Int) (n : Nat) : (rng a n).length = n := by unfold rng; simp
theorem cup_new (st : Sto) (a b : Int) : Cup st.length (st ++ [.lst [.int a, .int b]]) := ⟨a, b, by simp⟩
theorem wx_lawAll {R : DF} {ns : List Int} {M : Int} {k : Nat} {env : AEnv} {st : Sto} {V : D → Sto → Prop} (hn : ns.length ≤ 63) (hM : M ≤ 60) (h0 : env[0]? = some (.sh (.fz (ns.map D.int)))) (hk : k < env.length) (hk0 : 0 < k) (ho : noOwn env [k] = true)
    (hR : ∀ (h : Nat) (st : Sto), Cup h st → Wx (R [.hd h] st) fun d s => d = .bl true ∧ Mv h st s) (hV : ∀ s, V (.bl true) s) :
    Wx (dOp1 oAll (dF (compF (iRan (dOp2 oMax (dC (.int 2)) (dOp2 oMin (dOp1 oLen (dVar 0)) (dC (.int M))))) false [k] [k] tYesD (dCall R (dCons (dCall cupF (dCons (dVar 0) (dCons (dVar k) dNil))) dNil)))) env st) V := by
  walk_at "wp"
  refine wx_compS (fun _ => True) (fun y => y = .bl true) ho (by simp) ?_
  refine wx_iRan (wx_dOp2 (wx_dC (wx_dOp2 (wx_dOp1 (wx_dVar h0 (wi_lenF ?_))))))
  rw [List.length_map]
  refine wx_dC (wi_min (wi_max ⟨_, rfl, okRb_of (by split <;> split <;> omega) (by split <;> split <;> omega), ?_⟩))
  refine ⟨by rw [rng_length]; split <;> split <;> omega, trivial, fun d hd s _ => ⟨[d], rfl, ?_⟩, fun ys s2 _ hy _ => ?_⟩
  · obtain ⟨i, hi, rfl⟩ := rng_mem hd
    have hi : i < 64 := by
      revert hi
      split <;> split <;> omega
    have e0 : ((env.set k .un).set k (.sh (.int (0 + (i : Int)))))[0]? = some (.sh (.fz (ns.map D.int))) := by
      rw [List.getElem?_set_ne (by omega), List.getElem?_set_ne (by omega)]
      exact h0
    have e1 : ((env.set k .un).set k (.sh (.int (0 + (i : Int)))))[k]? = some (.sh (.int (0 + (i : Int)))) := by
      rw [List.getElem?_set_self (by rw [List.length_set]; exact hk)]
    obtain ⟨a, b, e⟩ := cup_ok (ns := ns) (i := 0 + (i : Int)) (by omega) (by omega) s
    show Wx (dCall R (dCons (dCall cupF (dCons (dVar 0) (dCons (dVar k) dNil))) dNil) ((env.set k .un).set k (.sh (.int (0 + (i : Int))))) s) _
    refine wx_dCall (wx_dCons (wx_dCall (wx_dCons (wx_dVar e0 (wx_dCons (wx_dVar e1 (wx_dNil (wx_eq e (wx_dNil ?_)))))))))
    exact wx_mono (hR _ _ (cup_new s a b)) fun d s h => ⟨h.1, trivial⟩
  · obtain ⟨bs, e1, e2⟩ := all_true hy
    refine ⟨bs, e1, ?_⟩
    rw [e2]
    exact hV _
end
end AM
namespace HT
open PySem PyProof.Rows
section
open PySem.SeqAt
open PySem.AutoSeq1 (wpAny_loadPart')
open PySem.MeetsSeq PySem.MeetsSeq2 PySem.MeetsSeq3
variable {prog : Program} {w : World} {A : Around} {E : Value → Shared → Prop} {s : Shared}
end
end HT
namespace AM
open PySem PySem.Spec PyProof.Rows L2 TL
def oRev : Op1 := fun a st => match a with
  | .tup ds => .ok (.tup ds.reverse) st
  | .lst ds => .ok (.lst ds.reverse) st
  | .str s => if s.length ≤ sizeLine then .ok (.str (mk s.cps.toList.reverse)) st else .bad
  | _ => .bad
section
variable {X : Cx} {Γ : Nat → Addr} {W : WX} {e : Expr} {f : EF} {pos : Pos}
end
end AM
namespace AM
open PySem PySem.Spec PyProof.Rows L2 TL
section
variable {X : Cx} {Γ : Nat → Addr} {W : WX} {e o : Expr} {es : List Expr} {f fo : EF} {fs : EFs} {F : DF} {pos p apos : Pos} {j k c : Nat} {x m : Str} {ks : List Str}
end
def permL (is : List Nat) {α : Type} (l : List α) : List α := if l.length = is.length then is.filterMap (l[·]?) else l
theorem Vals.at {vs : List V} {us : List Value} (h : Vals vs us) (i : Nat) : (vs[i]? = none ∧ us[i]? = none) ∨ ∃ v u, vs[i]? = some v ∧ us[i]? = some u ∧ RelV v u := by
  induction h generalizing i with
  | nil => exact .inl ⟨rfl, rfl⟩
  | @cons v u vs us h t ih =>
    cases i with
    | zero => exact .inr ⟨v, u, rfl, rfl, h⟩
    | succ i => exact ih i
theorem Dens.at {K : Ct} {ρ : List Addr} {S : Addr → Prop} {H : Hp} {vs : List V} {ds : List D} (h : Dens K ρ S H vs ds) (i : Nat) : (vs[i]? = none ∧ ds[i]? = none) ∨ ∃ v d, vs[i]? = some v ∧ ds[i]? = some d ∧ Den K ρ S H v d := by
  cases e : ds[i]? with
  | none =>
    refine .inl ⟨?_, rfl⟩
    rw [List.getElem?_eq_none_iff] at e ⊢
    rw [h.length]
    exact e
  | some d =>
    obtain ⟨v, e1, e2⟩ := h.get e
    exact .inr ⟨v, d, e1, rfl, e2⟩
def kwD (is : List Nat) (F : DF) : DF := fun ds st => F (permL is ds) st
end AM
namespace KP
open PySem PySem.Spec PyProof.Rows L2 AM
abbrev cWrongValue : Nat := 0
abbrev cNotAWinding : Nat := 1
abbrev cInvalidText : Nat := 2
abbrev cInvalidRounds : Nat := 3
abbrev cInvalidPegs : Nat := 4
abbrev cInvalidPeg : Nat := 5
abbrev cInvalidPlace : Nat := 6
abbrev cInvalidFactor : Nat := 7
abbrev cInvalidWord : Nat := 8
abbrev cInvalidTimes : Nat := 9
abbrev cInvalidWish : Nat := 10
abbrev cInvalidName : Nat := 11
abbrev cInvalidClaim : Nat := 12
abbrev cInvalidIndex : Nat := 13
abbrev cInvalidLine : Nat := 14
abbrev cInvalidBlocks : Nat := 15
abbrev cInvalidLots : Nat := 16
abbrev cInvalidWishes : Nat := 17
abbrev cInvalidChanges : Nat := 18
abbrev cInvalidDeeds : Nat := 19
abbrev cWrongName : Nat := 20
abbrev cUnknownName : Nat := 21
abbrev cInUse : Nat := 22
abbrev cNoAnswer : Nat := 23
abbrev cTooMany : Nat := 24
abbrev cTooGreat : Nat := 25
abbrev cPegOut : Nat := 26
abbrev cPegIn : Nat := 27
abbrev cBroken : Nat := 28
abbrev cNothingToUndo : Nat := 29
end KP
namespace KP
open PySem PySem.Spec PyProof.Rows L2 AM KP
end KP
namespace KL
open PySem PySem.Spec PyProof.Rows L2 AM KP
def F_law_cup (U : List Nat) : DF := runD 2 4 (sSeq (sSet 2 (dIf (gBl (dOp2 oLt (dVar 1) (dOp1 oLen (dVar 0)))) (dOp2 oIx (dVar 0) (dVar 1)) (dOp2 oAdd (dOp2 oMul (dC (.int 7919)) (dVar 1)) (dC (.int 104729))))) (sSeq (sFor (iSeq (dIf (gBl (dOp2 oGe (dVar 1) (dOp1 oLen (dVar 0)))) (dSl (dVar 0) oNo (oSo (dC (.int 2)))) (dLst dNil))) (gNm 3) (sSet 2 (dOp2 oMod (dOp1 oIntT (dOp2 oAdd (dOp2 oMul (dVar 2) (dC (.int 31))) (dVar 3))) (dC (.int 1000000007))))) (sRet (dNew (dLstF (dCons (dOp2 oMod (dOp1 oIntT (dOp2 oAdd (dOp2 oAdd (dOp2 oMul (dVar 2) (dC (.int 4099))) (dOp2 oMul (dC (.int 271)) (dVar 1))) (dC (.int 17)))) (dC (.int 2147483629))) (dCons (dIf (gOr (gBl (dOp2 oLt (dVar 2) (dC (.int 0)))) (gBl (dOp2 oGe (dVar 2) (dOp2 oPow (dC (.int 10)) (dC (.int 18)))))) (dOp1 oAbs (dVar 2)) (dC (.int 0))) dNil)))))))
def F_law_sip (U : List Nat) : DF := runD 2 3 (sSeq (sAsg (dOp2 oMod (dOp1 oIntT (dOp2 oAdd (dOp2 oMul (dOp2 oIx (dVar 0) (dC (.int 0))) (dC (.int 48271))) (dC (.int 11)))) (dC (.int 2147483629))) (gIx (dVar 0) (dC (.int 0)))) (sSeq (sIf (gBl (dOp2 oGt (dOp2 oIx (dVar 0) (dC (.int 1))) (dC (.int 0)))) (sSeq (sAsg (dOp2 oDivmod (dOp2 oIx (dVar 0) (dC (.int 1))) (dVar 1)) (gTupD 2 (gConsD (gIx (dVar 0) (dC (.int 1))) (gConsD (gNm 2) gNilD)))) (sRet (dVar 2))) sPass) (sRet (dOp2 oMod (dOp1 oIntT (dOp2 oDiv (dOp2 oIx (dVar 0) (dC (.int 0))) (dC (.int 1021)))) (dVar 1)))))
def F_law_pick (U : List Nat) : DF := runD 2 2 (sRet (dOp2 oIx (dVar 1) (dCall (F_law_sip U) (dCons (dVar 0) (dCons (dOp1 oLen (dVar 1)) dNil)))))
end KL
namespace KP
open PySem PySem.Spec PyProof.Rows L2 AM KL KP
end KP
namespace KL
open PySem PySem.Spec PyProof.Rows L2 AM KL KP
end KL
namespace AM
open PySem PySem.Spec PyProof.Rows L2 TL
section
variable {V : D → Sto → Prop} {Ls : List D → Sto → Prop} {st : Sto} {env : AEnv}
theorem wi_revL {ds : List D} (h : V (.lst ds.reverse) st) : Wx (oRev (.lst ds) st) V := .mk h
theorem wi_revT {ds : List D} (h : V (.tup ds.reverse) st) : Wx (oRev (.tup ds) st) V := .mk h
theorem wi_slT {ds : List D} {lo hi : Option Int} (h : V (.tup (cutL ds lo hi)) st) : Wx (oSl (.tup ds) lo hi st) V := .mk h
theorem wi_slL {ds : List D} {lo hi : Option Int} (h : V (.lst (cutL ds lo hi)) st) : Wx (oSl (.lst ds) lo hi st) V := .mk h
theorem wi_abs {i : Int} (h : V (.int (if i < 0 then -i else i)) st) : Wx (oAbs (.int i) st) V := .mk h
def rowOf (d : D) : Option (List D) := match d with
  | .lst ds => some ds
  | .tup ds => some ds
  | _ => none
theorem wx_iEnmL {f : EF} (h : Wx (f env st) fun d s => ∃ ds, rowOf d = some ds ∧ Ls (enm ds) s) : Wx (iEnm f env st) Ls := wx_bind (wx_mono h fun d s ⟨ds, e, h⟩ => by
  cases d with
  | lst es => cases e; exact .mk h
  | tup es => cases e; exact .mk h
  | _ => cases e)
theorem wx_dMeth {c : Nat} {m : Str} {F : DF} {fo : EF} {fs : EFs} (h : Wx (fo env st) fun d s => isC c m d s = true ∧ Wx (fs env s) fun ds s => Wx (F (d :: ds) s) V) : Wx (dMeth c m F fo fs env st) V :=
  wx_bind (wx_mono h fun d s ⟨e, h⟩ => by rw [if_pos e]; exact wx_bind h)
theorem wx_kwD {is : List Nat} {F : DF} {ds es : List D} (e : permL is ds = es) (h : Wx (F es st) V) : Wx (kwD is F ds st) V := by
  unfold kwD
  rw [e]
  exact h
end
end AM
namespace KW
def bar (c : Nat) : Nat := c ^^^ 32
theorem bar_bar (c : Nat) : bar (bar c) = c := by unfold bar; rw [Nat.xor_assoc, Nat.xor_self, Nat.xor_zero]
def Tight : List Nat → Prop
  | a :: b :: r => b ≠ bar a ∧ Tight (b :: r)
  | _ => True
def decTight : (l : List Nat) → Decidable (Tight l)
  | [] => isTrue trivial
  | [_] => isTrue trivial
  | a :: b :: r => @instDecidableAnd (b ≠ bar a) (Tight (b :: r)) _ (decTight (b :: r))
instance : DecidablePred Tight := decTight
@[simp] theorem tight_nil : Tight [] := trivial
@[simp] theorem tight_one (a : Nat) : Tight [a] := trivial
@[simp] theorem tight_cons2 (a b : Nat) (r : List Nat) : Tight (a :: b :: r) ↔ b ≠ bar a ∧ Tight (b :: r) := Iff.rfl
theorem Tight.tail {a : Nat} {r : List Nat} (h : Tight (a :: r)) : Tight r := by
  cases r with
  | nil => trivial
  | cons b r => exact h.2
theorem tight_append {x y : List Nat} : Tight (x ++ y) ↔ Tight x ∧ Tight y ∧ ∀ a b, x.getLast? = some a → y.head? = some b → b ≠ bar a := by
  induction x with
  | nil => simp
  | cons a x ih =>
    cases x with
    | nil =>
      cases y with
      | nil => simp
      | cons b y =>
        simp only [List.cons_append, List.nil_append, tight_cons2, tight_one, true_and, List.getLast?_singleton, List.head?_cons, Option.some.injEq]
        constructor
        · rintro ⟨h1, h2⟩
          refine ⟨h2, ?_⟩
          rintro _ _ rfl rfl
          exact h1
        · rintro ⟨h1, h2⟩
          exact ⟨h2 _ _ rfl rfl, h1⟩
    | cons c x =>
      simp only [List.cons_append, tight_cons2] at ih ⊢
      rw [ih, List.getLast?_cons_cons, and_assoc]
theorem Tight.left {x y : List Nat} (h : Tight (x ++ y)) : Tight x := (tight_append.mp h).1
theorem Tight.right {x y : List Nat} (h : Tight (x ++ y)) : Tight y := (tight_append.mp h).2.1
def inv (w : List Nat) : List Nat := (w.map bar).reverse
@[simp] theorem inv_nil : inv [] = [] := rfl
@[simp] theorem inv_length (w : List Nat) : (inv w).length = w.length := by simp [inv]
theorem inv_cons (a : Nat) (x : List Nat) : inv (a :: x) = inv x ++ [bar a] := by simp [inv]
@[simp] theorem inv_inv (w : List Nat) : inv (inv w) = w := by
  unfold inv
  rw [List.map_reverse, List.reverse_reverse, List.map_map]
  have : bar ∘ bar = id := funext bar_bar
  rw [this, List.map_id]
def push (s : List Nat) (c : Nat) : List Nat := match s with
  | [] => [c]
  | x :: r => if x = bar c then r else c :: x :: r
def redS (s w : List Nat) : List Nat := w.foldl push s
def red (w : List Nat) : List Nat := (redS [] w).reverse
def TS (s : List Nat) : Prop := Tight s
theorem ts_nil : TS [] := trivial
theorem TS.push {s : List Nat} (h : TS s) (c : Nat) : TS (push s c) := by
  unfold KW.push
  cases s with
  | nil => trivial
  | cons x r =>
    simp only
    split
    · exact h.tail
    · rename_i hx
      exact ⟨hx, h⟩
theorem TS.redS {s : List Nat} (h : TS s) (w : List Nat) : TS (redS s w) := by
  induction w generalizing s with
  | nil => exact h
  | cons a w ih => exact ih (h.push a)
theorem push_bar {s : List Nat} (h : TS s) (c : Nat) : push (push s c) (bar c) = s := by
  cases s with
  | nil => simp [push, bar_bar]
  | cons x r =>
    by_cases hx : x = bar c
    · subst hx
      have e : push (bar c :: r) c = r := by simp [push]
      rw [e]
      cases r with
      | nil => rfl
      | cons y r =>
        have hy : y ≠ bar (bar c) := h.1
        unfold push
        simp [hy]
    · have e : push (x :: r) c = c :: x :: r := by simp [push, hx]
      rw [e]
      unfold push
      simp [bar_bar]
theorem redS_append (s x y : List Nat) : redS s (x ++ y) = redS (redS s x) y := List.foldl_append
theorem redS_cons (s : List Nat) (a : Nat) (x : List Nat) : redS s (a :: x) = redS (push s a) x := rfl
theorem redS_inv {s : List Nat} (h : TS s) (w : List Nat) : redS (redS s w) (inv w) = s := by
  induction w generalizing s with
  | nil => rfl
  | cons a w ih =>
    rw [inv_cons, redS_append]
    show push (redS (redS (push s a) w) (inv w)) (bar a) = s
    rw [ih (h.push a)]
    exact push_bar h a
theorem redS_tight {s w : List Nat} (h : Tight w) (hm : ∀ a b, s.head? = some a → w.head? = some b → b ≠ bar a) : redS s w = w.reverse ++ s := by
  induction w generalizing s with
  | nil => rfl
  | cons b w ih =>
    rw [redS_cons]
    have e : push s b = b :: s := by
      cases s with
      | nil => rfl
      | cons a r =>
        have : a ≠ bar b := fun e => hm a b rfl rfl (by rw [e, bar_bar])
        simp [push, this]
    rw [e, ih h.tail, List.reverse_cons, List.append_assoc]
    · rfl
    · intro x y hx hy
      simp at hx
      subst hx
      cases w with
      | nil => simp at hy
      | cons c w => simp at hy; subst hy; exact h.1
theorem red_tight {w : List Nat} (h : Tight w) : red w = w := by
  unfold red
  rw [redS_tight h (by simp)]
  simp
theorem tight_reverse {w : List Nat} (h : Tight w) : Tight w.reverse := by
  induction w with
  | nil => trivial
  | cons a w ih =>
    rw [List.reverse_cons, tight_append]
    refine ⟨ih h.tail, trivial, fun x y hx hy => ?_⟩
    simp at hy
    subst hy
    cases w with
    | nil => simp at hx
    | cons b w =>
      simp at hx
      subst hx
      intro e
      exact h.1 (by rw [e, bar_bar])
theorem tight_red (w : List Nat) : Tight (red w) := by
  have : TS (redS [] w) := TS.redS ts_nil w
  exact tight_reverse this
theorem red_red (w : List Nat) : red (red w) = red w := red_tight (tight_red w)
theorem redS_red {s : List Nat} (h : TS s) (w : List Nat) : redS s (red w) = redS s w := by
  have key : ∀ (r : List Nat) (n : Nat), r.length = n → redS s (redS [] r).reverse = redS s r := by
    intro r n
    induction n generalizing r with
    | zero => intro e; rw [List.length_eq_zero_iff.mp e]; rfl
    | succ n ih =>
      intro e
      have hr : r ≠ [] := fun z => by rw [z] at e; simp at e
      obtain ⟨x, c, rfl⟩ : ∃ x c, r = x ++ [c] := ⟨r.dropLast, r.getLast hr, (List.dropLast_concat_getLast hr).symm⟩
      have ex : x.length = n := by simpa using e
      have i := ih x ex
      have ht : TS (redS [] x) := TS.redS ts_nil x
      rw [redS_append, redS_append, ← i]
      cases q : redS [] x with
      | nil => rfl
      | cons y t =>
        show redS s (push (y :: t) c).reverse = push (redS s (y :: t).reverse) c
        by_cases hy : y = bar c
        · have e1 : push (y :: t) c = t := by simp [push, hy]
          rw [e1, List.reverse_cons, redS_append]
          show redS s t.reverse = push (push (redS s t.reverse) y) c
          rw [hy]
          have := push_bar (h.redS t.reverse) (bar c)
          rw [bar_bar] at this
          exact this.symm
        · have e1 : push (y :: t) c = c :: y :: t := by simp [push, hy]
          rw [e1, List.reverse_cons, redS_append]
          rfl
  exact key w _ rfl
def E (x y : List Nat) : Prop := red x = red y
theorem E.refl (x : List Nat) : E x x := rfl
theorem E.symm {x y : List Nat} (h : E x y) : E y x := Eq.symm h
theorem E.trans {x y z : List Nat} (a : E x y) (b : E y z) : E x z := Eq.trans a b
theorem E.of_eq {x y : List Nat} (h : x = y) : E x y := by rw [h]; exact E.refl y
theorem E.stack {x y : List Nat} (h : E x y) {s : List Nat} (hs : TS s) : redS s x = redS s y := by
  rw [← redS_red hs x, ← redS_red hs y, h]
theorem E.red (x : List Nat) : E (KW.red x) x := red_red x
theorem E.append {x y u v : List Nat} (a : E x y) (b : E u v) : E (x ++ u) (y ++ v) := by
  unfold E KW.red
  rw [redS_append, redS_append, a.stack ts_nil, b.stack (TS.redS ts_nil y)]
theorem E.left {u v : List Nat} (x : List Nat) (b : E u v) : E (x ++ u) (x ++ v) := (E.refl x).append b
theorem E.right {x y : List Nat} (a : E x y) (u : List Nat) : E (x ++ u) (y ++ u) := a.append (E.refl u)
theorem E.inv_r (w : List Nat) : E (w ++ inv w) [] := by
  unfold E KW.red
  rw [redS_append, redS_inv ts_nil]
  rfl
theorem E.inv_l (w : List Nat) : E (inv w ++ w) [] := by
  have := E.inv_r (inv w)
  rwa [inv_inv] at this
theorem E.pair (x y : List Nat) (a : Nat) : E (x ++ a :: bar a :: y) (x ++ y) := by
  have h : E ([a] ++ inv [a] ++ y) y := (E.inv_r [a]).right y
  exact E.left x h
theorem E.inv {x y : List Nat} (h : E x y) : E (inv x) (inv y) := by
  -- inv x ~ inv x y inv y ~ inv x x inv y ~ inv y
  have h1 : E (KW.inv x ++ (y ++ KW.inv y)) (KW.inv x) := by
    have := E.left (KW.inv x) (E.inv_r y)
    rwa [List.append_nil] at this
  have h2 : E (KW.inv x ++ (y ++ KW.inv y)) (KW.inv y) := by
    have a : E (KW.inv x ++ y ++ KW.inv y) (KW.inv x ++ x ++ KW.inv y) := ((E.left (KW.inv x) h.symm)).right _
    rw [← List.append_assoc]
    exact a.trans ((E.inv_l x).right _)
  exact h1.symm.trans h2
def rep (w : List Nat) (n : Nat) : List Nat := (List.replicate n w).flatten
@[simp] theorem rep_zero (w : List Nat) : rep w 0 = [] := rfl
theorem rep_succ (w : List Nat) (n : Nat) : rep w (n + 1) = w ++ rep w n := by simp [rep, List.replicate_succ]
theorem rep_one (w : List Nat) : rep w 1 = w := by rw [rep_succ, rep_zero, List.append_nil]
theorem rep_length (w : List Nat) (n : Nat) : (rep w n).length = n * w.length := by
  induction n with
  | zero => simp
  | succ n ih => rw [rep_succ, List.length_append, ih, Nat.succ_mul, Nat.add_comm]
@[simp] theorem rep_nil (n : Nat) : rep [] n = [] := by
  have := rep_length [] n
  simpa using this
theorem E.rep {x y : List Nat} (h : E x y) (n : Nat) : E (rep x n) (rep y n) := by
  induction n with
  | zero => exact E.refl _
  | succ n ih => rw [rep_succ, rep_succ]; exact h.append ih
def wpow (w : List Nat) (k : Int) : List Nat := if 0 ≤ k then rep w k.toNat else rep (inv w) (-k).toNat
theorem wpow_nat (w : List Nat) (n : Nat) : wpow w n = rep w n := by simp [wpow]
@[simp] theorem wpow_zero (w : List Nat) : wpow w 0 = [] := by simp [wpow]
@[simp] theorem wpow_one (w : List Nat) : wpow w 1 = w := by
  have := wpow_nat w 1
  rw [rep_one] at this
  exact this
theorem E.wpow {x y : List Nat} (h : E x y) (k : Int) : E (wpow x k) (wpow y k) := by
  unfold KW.wpow
  split
  · exact h.rep _
  · exact h.inv.rep _
end KW
namespace KW
structure It where
  w : List Nat
  p : Int
  q : Int
deriving DecidableEq
abbrev Row := List It
def It.at_ (n : Int) (t : It) : List Nat := wpow t.w (t.p * n + t.q)
def val (n : Int) (r : Row) : List Nat := (r.map (It.at_ n)).flatten
@[simp] theorem val_nil (n : Int) : val n [] = [] := rfl
inductive Stp where
  | out (i : Nat) | turn (i : Nat) | join (i : Nat) | split (i : Nat) (a b : Int) | cut (i : Nat) (k : Int) | glue (i : Nat) | undo (i : Nat) (k : Int) | back (i : Nat) (k : Int) | opn (i : Nat) (k : Int) | root (i : Nat) (r : Int)
deriving DecidableEq
def Stp.i : Stp → Nat
  | .out i => i | .turn i => i | .join i => i | .split i _ _ => i | .cut i _ => i | .glue i => i | .undo i _ => i | .back i _ => i | .opn i _ => i | .root i _ => i
def Stp.pair : Stp → Bool
  | .join _ => true | .glue _ => true | .back _ _ => true | _ => false
end KW
namespace KP
open PySem PySem.Spec PyProof.Rows L2 AM TL
variable {U : List Nat}
def LET : List Nat := [97, 98, 99, 100, 101, 102, 65, 66, 67, 68, 69, 70]
end KP
namespace KP
open PySem PySem.Spec PyProof.Rows L2 AM TL
variable {U : List Nat}
def fac (p : Int) : List Nat := if p = 1 then [] else if p = -1 then [45] else numI p
def ovr (q : Int) : List Nat := if q = 0 then [] else if q < 0 then numI q else 43 :: numI q
def pw (p q : Int) : List Nat := if p = 0 then numI q else fac p ++ 110 :: ovr q
def txt (w : List Nat) (p q : Int) : List Nat := w ++ 94 :: pw p q
theorem small {p : Int} {n : Nat} (h1 : -(n : Int) ≤ p) (h2 : p ≤ n) (hn : n < 10 ^ 3) : p.natAbs < 10 ^ 500 := by
  have : p.natAbs < 10 ^ 3 := by omega
  exact Nat.lt_trans this (by decide)
abbrev Bk := List Nat × Int × Int
def tx (b : Bk) : List Nat := txt b.1 b.2.1 b.2.2
end KP
namespace KP
open PySem PySem.Spec PyProof.Rows L2 AM TL
local macro_rules | `(tactic| walk_at "en") => `(tactic| ((try simp only [List.map_cons, List.map_nil, List.replicate, List.replicate_zero, List.replicate_succ, List.cons_append, List.nil_append, List.set_cons_zero, List.set_cons_succ, Nat.reduceSub, Nat.reduceAdd, List.reduceReplicate, AM.putAll, AM.wipeE, List.foldl_cons, List.foldl_nil, List.zip_cons_cons, List.zip_nil_left, List.zip_nil_right]); with_unfolding_all rfl))
local macro_rules | `(tactic| walk_at "wp") => `(tactic| repeat' (with_reducible first
  | refine wx_dVar (by with_unfolding_all rfl) ?_ | refine wx_dC ?_ | refine wx_dOp2 ?_ | refine wx_all ?_ | refine wx_any ?_ | refine wx_dOp1 ?_ | refine wx_gBl ?_ | refine wx_gTru ?_ | refine wx_dCall ?_ | refine wx_dCons ?_ | refine wx_dNil ?_
  | refine en_of (by walk_at "en") ?_ | refine ws_sSeq ?_ | refine ws_sIf ?_ | refine ws_sRet ?_ | refine ws_sSet ?_ | refine ws_sAsg ?_ | refine ws_sPass ?_ | refine ws_sExpr ?_ | refine ws_sOwn ?_ | refine ws_sFor ?_ | refine ws_sPar ?_
  | refine ws_gNm ?_ | refine ws_gTup (by with_unfolding_all rfl) ?_ | refine ws_gNil ?_ | refine ws_gCons ?_
  | refine wx_dOwn (by with_unfolding_all rfl) ?_ | refine wx_dOwn' (by with_unfolding_all rfl) ?_ | refine ws_frz (by with_unfolding_all rfl) ?_ | refine ws_frz' (by with_unfolding_all rfl) ?_ | refine ws_sApp (by with_unfolding_all rfl) ?_
  | refine wx_dChain ?_ | refine wx_gAnd ?_ | refine wx_gOr ?_ | refine wx_gNot ?_ | refine wx_dAnd ?_ | refine wx_dOr ?_ | refine wx_dNot ?_ | refine wx_dIf ?_ | refine wx_dNeg ?_
  | refine wx_dTup ?_ | refine wx_dLst ?_ | refine wx_dLstF ?_ | refine wx_dF ?_ | refine wx_oNo ?_ | refine wx_oSo ?_ | refine wx_dSl ?_ | refine wx_dM1 ?_ | refine wx_dM0 ?_ | refine wx_dFld ?_ | refine wx_dProp ?_ | refine wx_dOwn2 ?_ | refine wx_gTruC ?_ | refine wx_iSeq ?_ | refine wx_iRan ?_
  | refine wi_add ?_ | refine wi_sub ?_ | refine wi_lt ?_ | refine wi_le ?_ | refine wi_gt ?_ | refine wi_ge ?_ | refine wi_eq ?_ | refine wi_ne ?_ | refine wi_max ?_ | refine wi_min ?_ | refine wi_lenT ?_ | refine wi_lenL ?_ | refine wi_lenF ?_
  | refine wi_itT ?_ | refine wi_itL ?_ | refine wi_itF ?_ | refine wi_itS ?_ | refine wi_tupL ?_ | refine wi_tupT ?_ | refine wi_isN ?_ | refine wi_isNN ?_ | refine wi_intT ?_ | refine wi_inM ?_ | refine wi_notInM ?_
  | refine and_t ?_ | refine and_f ?_ | refine and_nT ?_ | refine and_nF ?_
  | refine Exists.intro _ (And.intro rfl ?_)
  | refine And.intro (Nat.le_of_ble_eq_true (by with_unfolding_all rfl)) ?_ | refine And.intro (show okRb _ = true by with_unfolding_all rfl) ?_))
section
variable {U : List Nat}
end
end KP
namespace KL
open PySem PySem.Spec PyProof.Rows L2 AM TL KP
variable {U : List Nat}
end KL
namespace KP
open PySem PySem.Spec PyProof.Rows L2 AM TL
local macro_rules | `(tactic| walk_at "en") => `(tactic| ((try simp only [List.map_cons, List.map_nil, List.replicate, List.replicate_zero, List.replicate_succ, List.cons_append, List.nil_append, List.set_cons_zero, List.set_cons_succ, Nat.reduceSub, Nat.reduceAdd, List.reduceReplicate, AM.putAll, AM.wipeE, List.foldl_cons, List.foldl_nil, List.zip_cons_cons, List.zip_nil_left, List.zip_nil_right]); with_unfolding_all rfl))
local macro_rules | `(tactic| walk_at "wp") => `(tactic| repeat' (with_reducible first
  | refine wx_dVar (by with_unfolding_all rfl) ?_ | refine wx_dC ?_ | refine wx_dOp2 ?_ | refine wx_all ?_ | refine wx_any ?_ | refine wx_dOp1 ?_ | refine wx_gBl ?_ | refine wx_gTru ?_ | refine wx_dCall ?_ | refine wx_dCons ?_ | refine wx_dNil ?_
  | refine en_of (by walk_at "en") ?_ | refine ws_sSeq ?_ | refine ws_sIf ?_ | refine ws_sRet ?_ | refine ws_sSet ?_ | refine ws_sAsg ?_ | refine ws_sPass ?_ | refine ws_sExpr ?_ | refine ws_sOwn ?_ | refine ws_sFor ?_ | refine ws_sPar ?_
  | refine ws_gNm ?_ | refine ws_gTup (by with_unfolding_all rfl) ?_ | refine ws_gNil ?_ | refine ws_gCons ?_
  | refine wx_dOwn (by with_unfolding_all rfl) ?_ | refine wx_dOwn' (by with_unfolding_all rfl) ?_ | refine ws_frz (by with_unfolding_all rfl) ?_ | refine ws_frz' (by with_unfolding_all rfl) ?_ | refine ws_sApp (by with_unfolding_all rfl) ?_
  | refine wx_dChain ?_ | refine wx_gAnd ?_ | refine wx_gOr ?_ | refine wx_gNot ?_ | refine wx_dAnd ?_ | refine wx_dOr ?_ | refine wx_dNot ?_ | refine wx_dIf ?_ | refine wx_dNeg ?_
  | refine wx_dTup ?_ | refine wx_dLst ?_ | refine wx_dLstF ?_ | refine wx_dF ?_ | refine wx_oNo ?_ | refine wx_oSo ?_ | refine wx_dSl ?_ | refine wx_dM1 ?_ | refine wx_dM0 ?_ | refine wx_dFld ?_ | refine wx_dProp ?_ | refine wx_dOwn2 ?_ | refine wx_gTruC ?_ | refine wx_iSeq ?_ | refine wx_iRan ?_
  | refine wi_add ?_ | refine wi_sub ?_ | refine wi_lt ?_ | refine wi_le ?_ | refine wi_gt ?_ | refine wi_ge ?_ | refine wi_eq ?_ | refine wi_ne ?_ | refine wi_max ?_ | refine wi_min ?_ | refine wi_lenT ?_ | refine wi_lenL ?_ | refine wi_lenF ?_
  | refine wi_itT ?_ | refine wi_itL ?_ | refine wi_itF ?_ | refine wi_itS ?_ | refine wi_tupL ?_ | refine wi_tupT ?_ | refine wi_isN ?_ | refine wi_isNN ?_ | refine wi_revL ?_ | refine wi_revT ?_ | refine wi_slT ?_ | refine wi_slL ?_ | refine wi_abs ?_ | refine wx_iEnmL ?_ | refine wx_dMeth ?_ | refine wi_intT ?_ | refine wi_inM ?_ | refine wi_notInM ?_
  | refine and_t ?_ | refine and_f ?_ | refine and_nT ?_ | refine and_nF ?_
  | refine Exists.intro _ (And.intro rfl ?_)
  | refine And.intro (Nat.le_of_ble_eq_true (by with_unfolding_all rfl)) ?_ | refine And.intro (show okRb _ = true by with_unfolding_all rfl) ?_))
section
variable {U : List Nat}
theorem let_asc : ∀ c ∈ LET, c < 0x110000 := by decide
theorem let_bar : ∀ c ∈ LET, KW.bar c ∈ LET := by decide
def isL (w : List Nat) : Prop := ∀ c ∈ w, c ∈ LET
theorem isL.inv {w : List Nat} (h : isL w) : isL (KW.inv w) := fun c hc => by
  unfold KW.inv at hc
  obtain ⟨d, hd, rfl⟩ := List.mem_map.mp (List.mem_reverse.mp hc)
  exact let_bar d (h d hd)
theorem isL.asc {w : List Nat} (h : isL w) : asc w = true := by
  unfold AM.asc
  rw [List.all_eq_true]
  exact fun c hc => decide_eq_true (let_asc c (h c hc))
theorem isL.app {a b : List Nat} (ha : isL a) (hb : isL b) : isL (a ++ b) := fun c hc => (List.mem_append.mp hc).elim (ha c) (hb c)
theorem isL.rep {w : List Nat} (h : isL w) (n : Nat) : isL (KW.rep w n) := by
  induction n with
  | zero => exact fun c hc => by cases hc
  | succ n ih => rw [KW.rep_succ]; exact h.app ih
theorem isL.wpow {w : List Nat} (h : isL w) (k : Int) : isL (KW.wpow w k) := by
  unfold KW.wpow
  split
  · exact h.rep _
  · exact h.inv.rep _
theorem isL.one {c : Nat} (h : c ∈ LET) : isL [c] := fun d hd => by rw [List.mem_singleton.mp hd]; exact h
theorem isL.drop {w : List Nat} (h : isL w) (n : Nat) : isL (w.drop n) := fun c hc => h c (List.mem_of_mem_drop hc)
theorem isL.take {w : List Nat} (h : isL w) (n : Nat) : isL (w.take n) := fun c hc => h c (List.mem_of_mem_take hc)
end
end KP
namespace KP
open PySem PySem.Spec PyProof.Rows L2 AM TL
local macro_rules | `(tactic| walk_at "en") => `(tactic| ((try simp only [List.map_cons, List.map_nil, List.replicate, List.replicate_zero, List.replicate_succ, List.cons_append, List.nil_append, List.set_cons_zero, List.set_cons_succ, Nat.reduceSub, Nat.reduceAdd, List.reduceReplicate, AM.putAll, AM.wipeE, List.foldl_cons, List.foldl_nil, List.zip_cons_cons, List.zip_nil_left, List.zip_nil_right]); with_unfolding_all rfl))
local macro_rules | `(tactic| walk_at "wp") => `(tactic| repeat' (with_reducible first
  | (apply wx_dVar; focus (with_unfolding_all rfl)) | refine wx_dC ?_ | refine wx_dOp2 ?_ | refine wx_all ?_ | refine wx_any ?_ | refine wx_dOp1 ?_ | refine wx_gBl ?_ | refine wx_gTru ?_ | refine wx_dCall ?_ | refine wx_dCons ?_ | refine wx_dNil ?_
  | (apply en_of; focus (walk_at "en")) | refine ws_sSeq ?_ | refine ws_sIf ?_ | refine ws_sRet ?_ | refine ws_sSet ?_ | refine ws_sAsg ?_ | refine ws_sPass ?_ | refine ws_sExpr ?_ | refine ws_sOwn ?_ | refine ws_sFor ?_ | refine ws_sPar ?_
  | refine ws_gNm ?_ | (apply ws_gTup; focus (with_unfolding_all rfl)) | refine ws_gNil ?_ | refine ws_gCons ?_
  | (apply wx_dOwn; focus (with_unfolding_all rfl)) | (apply wx_dOwn'; focus (with_unfolding_all rfl)) | (apply ws_frz; focus (with_unfolding_all rfl)) | (apply ws_frz'; focus (with_unfolding_all rfl)) | (apply ws_sApp; focus (with_unfolding_all rfl))
  | refine wx_dChain ?_ | refine wx_gAnd ?_ | refine wx_gOr ?_ | refine wx_gNot ?_ | refine wx_dAnd ?_ | refine wx_dOr ?_ | refine wx_dNot ?_ | refine wx_dIf ?_ | refine wx_dNeg ?_
  | refine wx_dTup ?_ | refine wx_dLst ?_ | refine wx_dLstF ?_ | refine wx_dF ?_ | refine wx_oNo ?_ | refine wx_oSo ?_ | refine wx_dSl ?_ | refine wx_dM1 ?_ | refine wx_dM0 ?_ | refine wx_dFld ?_ | refine wx_dProp ?_ | refine wx_dOwn2 ?_ | refine wx_gTruC ?_ | refine wx_iSeq ?_ | refine wx_iRan ?_
  | refine wi_add ?_ | refine wi_sub ?_ | refine wi_lt ?_ | refine wi_le ?_ | refine wi_gt ?_ | refine wi_ge ?_ | refine wi_eq ?_ | refine wi_ne ?_ | refine wi_max ?_ | refine wi_min ?_ | refine wi_lenT ?_ | refine wi_lenL ?_ | refine wi_lenF ?_
  | refine wi_itT ?_ | refine wi_itL ?_ | refine wi_itF ?_ | refine wi_itS ?_ | refine wi_tupL ?_ | refine wi_tupT ?_ | refine wi_isN ?_ | refine wi_isNN ?_ | refine wi_revL ?_ | refine wi_revT ?_ | refine wi_slT ?_ | refine wi_slL ?_ | refine wi_abs ?_ | refine wx_iEnmL ?_ | refine wx_dMeth ?_ | refine wi_intT ?_ | refine wi_inM ?_ | refine wi_notInM ?_
  | refine and_t ?_ | refine and_f ?_ | refine and_nT ?_ | refine and_nF ?_
  | refine Exists.intro _ (And.intro rfl ?_)
  | (refine And.intro ?_ ?_; focus (refine Nat.le_of_ble_eq_true ?_; with_unfolding_all rfl)) | (refine And.intro ?_ ?_; focus (change okRb _ = true; with_unfolding_all rfl))))
section
variable {U : List Nat}
def PG : List Nat := [97, 98, 99, 100, 101, 102]
end
end KP
namespace KL
open PySem PySem.Spec PyProof.Rows L2 AM TL KP
local macro_rules | `(tactic| walk_at "en") => `(tactic| ((try simp only [List.map_cons, List.map_nil, List.replicate, List.replicate_zero, List.replicate_succ, List.cons_append, List.nil_append, List.set_cons_zero, List.set_cons_succ, Nat.reduceSub, Nat.reduceAdd, List.reduceReplicate, AM.putAll, AM.wipeE, List.foldl_cons, List.foldl_nil, List.zip_cons_cons, List.zip_nil_left, List.zip_nil_right]); with_unfolding_all rfl))
local macro_rules | `(tactic| walk_at "wp") => `(tactic| repeat' (with_reducible first
  | (apply wx_dVar; focus (with_unfolding_all rfl)) | refine wx_dC ?_ | refine wx_dOp2 ?_ | refine wx_all ?_ | refine wx_any ?_ | refine wx_dOp1 ?_ | refine wx_gBl ?_ | refine wx_gTru ?_ | refine wx_dCall ?_ | refine wx_dCons ?_ | refine wx_dNil ?_
  | (apply en_of; focus (walk_at "en")) | refine ws_sSeq ?_ | refine ws_sIf ?_ | refine ws_sRet ?_ | refine ws_sSet ?_ | refine ws_sAsg ?_ | refine ws_sPass ?_ | refine ws_sExpr ?_ | refine ws_sOwn ?_ | refine ws_sFor ?_ | refine ws_sPar ?_
  | refine ws_gNm ?_ | (apply ws_gTup; focus (with_unfolding_all rfl)) | refine ws_gNil ?_ | refine ws_gCons ?_
  | (apply wx_dOwn; focus (with_unfolding_all rfl)) | (apply wx_dOwn'; focus (with_unfolding_all rfl)) | (apply ws_frz; focus (with_unfolding_all rfl)) | (apply ws_frz'; focus (with_unfolding_all rfl)) | (apply ws_sApp; focus (with_unfolding_all rfl))
  | refine wx_dChain ?_ | refine wx_gAnd ?_ | refine wx_gOr ?_ | refine wx_gNot ?_ | refine wx_dAnd ?_ | refine wx_dOr ?_ | refine wx_dNot ?_ | refine wx_dIf ?_ | refine wx_dNeg ?_
  | refine wx_dTup ?_ | refine wx_dLst ?_ | refine wx_dLstF ?_ | refine wx_dF ?_ | refine wx_oNo ?_ | refine wx_oSo ?_ | refine wx_dSl ?_ | refine wx_dM1 ?_ | refine wx_dM0 ?_ | refine wx_dFld ?_ | refine wx_dProp ?_ | refine wx_dOwn2 ?_ | refine wx_gTruC ?_ | refine wx_iSeq ?_ | refine wx_iRan ?_
  | refine wi_add ?_ | refine wi_sub ?_ | refine wi_lt ?_ | refine wi_le ?_ | refine wi_gt ?_ | refine wi_ge ?_ | refine wi_eq ?_ | refine wi_ne ?_ | refine wi_max ?_ | refine wi_min ?_ | refine wi_lenT ?_ | refine wi_lenL ?_ | refine wi_lenF ?_
  | refine wi_itT ?_ | refine wi_itL ?_ | refine wi_itF ?_ | refine wi_itS ?_ | refine wi_tupL ?_ | refine wi_tupT ?_ | refine wi_isN ?_ | refine wi_isNN ?_ | refine wi_revL ?_ | refine wi_revT ?_ | refine wi_slT ?_ | refine wi_slL ?_ | refine wi_abs ?_ | refine wx_iEnmL ?_ | refine wx_dMeth ?_ | refine wi_intT ?_ | refine wi_inM ?_ | refine wi_notInM ?_
  | refine and_t ?_ | refine and_f ?_ | refine and_nT ?_ | refine and_nF ?_
  | refine Exists.intro _ (And.intro rfl ?_) | refine Exists.intro _ (Exists.intro _ (And.intro rfl ?_))
  | (refine And.intro ?_ ?_; focus (refine Nat.le_of_ble_eq_true ?_; with_unfolding_all rfl)) | (refine And.intro ?_ ?_; focus (change okRb _ = true; with_unfolding_all rfl))))
section
variable {U : List Nat}
section
variable {h : Nat} {st : Sto} {V : AM.D → Sto → Prop}
theorem wx_pick {ds : List AM.D} (c : Cup h st) (hne : 0 < ds.length) (hl : ds.length < 1000000) (k : ∀ (d : AM.D) (s : Sto), d ∈ ds → Mv h st s → V d s) : Wx (F_law_pick U [.hd h, .lst ds] st) V := by
  obtain ⟨d, s, e, hd, mv⟩ := pick_ok c hne (by omega)
  exact wx_eq e (k d s hd mv)
end
end
end KL
namespace AM
open PySem PySem.Spec PyProof.Rows L2 He
section
variable {X : Cx} {Γ : Nat → Addr} {W : WX} {e o a b c tg : Expr} {es : List Expr} {f fo fa fb fc fe ff fv : EF} {fs : EFs} {F : DF} {pos p apos cpos tpos : Pos} {j k : Nat} {x m : Str} {ks : List Str}
def dDicGet (fo fe ff : EF) : EF := fun env st => (fo env st).bind fun d st1 => match d with
  | .dic r => (fe env st1).bind fun e st2 => (ff env st2).bind fun z st3 => (match keyD e with
    | some k => .ok ((valD r k).getD z) st3
    | none => .bad)
  | _ => .bad
def Tv.d : Tv → D
  | .int i => .int i
  | .pair i c => .tup [.int i, .cls c]
structure Dt (K : PySem.W.Frag) (w : World) (mg : Str → Option Value) (Γ : Nat → Addr) (x : Str) (r : List (Str × D)) : Prop where
  ex : ∃ (a : Addr) (es : Array DictEntry) (n : Nat), mg x = some (.ref a) ∧ KDict K w a es n ∧ (∀ z d, r.lookup z = some d → ∃ u v, PySem.W.nsIn K a z = some (some u) ∧ RelV v u ∧ ∀ ρ S H, Den ⟨K, Γ⟩ ρ S H v d) ∧ ∀ z, r.lookup z = none → PySem.W.nsIn K a z = some none
def dInG (r : List (Str × D)) (neg : Bool) (fa : EF) : EF := fun env st => (fa env st).bind fun d st1 => match d with
  | .str s => .ok (.bl (neg != (r.lookup s).isSome)) st1
  | _ => .bad
def dIxG (r : List (Str × D)) (fb : EF) : EF := fun env st => (fb env st).bind fun d st1 => match d with
  | .str s => (match r.lookup s with
    | some v => .ok v st1
    | none => .bad)
  | _ => .bad
variable {r : List (Str × D)}
theorem Dt.is (T : Dt X.K X.w X.mg Γ x r) (s : Str) : ∃ a es n u, X.mg x = some (.ref a) ∧ KDict X.K X.w a es n ∧ PySem.W.nsIn X.K a s = some u ∧ u.isSome = (r.lookup s).isSome := by
  obtain ⟨q, es, n, hm, D, h1, h2⟩ := T.ex
  cases ez : r.lookup s with
  | none => exact ⟨q, es, n, none, hm, D, h2 s ez, rfl⟩
  | some d =>
    obtain ⟨u, v, e1, _, _⟩ := h1 s d ez
    exact ⟨q, es, n, some u, hm, D, e1, rfl⟩
def dLcall (t : List (Nat × DF)) (i : Nat) (fs : EFs) : EF := fun env st => match env[i]? with
  | some (.sh (.cls c)) => (match t.lookup c with
    | some F => (fs env st).bind F
    | none => .bad)
  | _ => .bad
def LcOk (P : Program) (w : World) (K : PySem.W.Frag) (mg : Str → Option Value) (base : Heap) (Γ : Nat → Addr) (k : Nat) (t : List (Nat × DF)) : Prop := ∀ c F, t.lookup c = some F → PySem.W.keepIn K (.ref (Γ c)) = true ∧ Cal P w K mg base Γ k (.ref (Γ c)) [] F
theorem LcOk.cons {P : Program} {w : World} {K : PySem.W.Frag} {mg : Str → Option Value} {base : Heap} {t : List (Nat × DF)} {c : Nat} (h : PySem.W.keepIn K (.ref (Γ c)) = true ∧ Cal P w K mg base Γ k (.ref (Γ c)) [] F) (r : LcOk P w K mg base Γ k t) : LcOk P w K mg base Γ k ((c, F) :: t) := fun c' F' e => by
  rw [List.lookup_cons] at e
  split at e
  · rename_i z
    cases e
    rw [show c' = c from by simpa using z]
    exact h
  · exact r c' F' e
theorem Cal.never {P : Program} {w : World} {K : PySem.W.Frag} {mg : Str → Option Value} {base : Heap} {v : Value} : Cal P w K mg base Γ k v ks (fun _ _ => .bad) := fun X W _ _ _ _ _ _ _ _ pins s σ H wd env st us ws vs ds Q I rv hw rl d p => p.elim
end
section
variable {X : Cx} {Γ : Nat → Addr} {W : WX} {a b : Expr} {fa fb : EF} {pos : Pos}
def kCat : D → D → Sto → Res (List D) := fun a b st => match a, b with
  | .lst i, .lst j => if i.length + j.length ≤ sizeLine then .ok (i ++ j) st else .bad
  | _, _ => .bad
def dCat (fa fb : EF) : AEnv → Sto → Res (List D) := fun env st => (fa env st).bind fun a st1 => (fb env st1).bind fun b st2 => kCat a b st2
end
def Tv.v : Tv → Value → V
  | .int i, _ => .int i
  | .pair _ _, .ref t => .ref t
  | _, _ => .non
theorem Tv.ok {K : PySem.W.Frag} {Γ : Nat → Addr} : ∀ {t : Tv} {u : Value}, t.b K Γ u = true → RelV (t.v u) u ∧ ∀ ρ S H, Den ⟨K, Γ⟩ ρ S H (t.v u) t.d := by
  intro t u h
  cases t with
  | int i =>
    unfold Tv.b at h
    cases u <;> try cases h
    rename_i j n
    obtain rfl := of_decide_eq_true h
    exact ⟨⟨_, rfl⟩, fun ρ S H => .int _⟩
  | pair i c =>
    unfold Tv.b at h
    cases u <;> try cases h
    rename_i a
    dsimp only at h
    split at h
    · rename_i o ho
      obtain ⟨c3, c4⟩ := ba h
      split at c4
      · rename_i its n hd
        split at c4
        · rename_i j tk g e
          obtain ⟨c5, c6⟩ := ba c4
          obtain rfl := of_decide_eq_true c5
          obtain rfl := of_decide_eq_true c6
          refine ⟨rfl, fun ρ S H => .tup (vs := [.int j, .ref (Γ c)]) (.inr ⟨o, its, n, ho, of_decide_eq_true c3, hd, ?_, ?_⟩) (.cons (.int _) (.cons (.cls _) .nil))⟩
          · have : its.size = 2 := by rw [← Array.length_toList, e]; rfl
            rw [sizeLine_eq]; omega
          · rw [e]; exact .cons ⟨_, rfl⟩ (.cons rfl .nil)
        · cases c4
      · cases c4
    · cases h
def rowsD (r : List (Str × Tv)) : List (Str × D) := r.map fun q => (q.1, q.2.d)
theorem nsIn_none {K : PySem.W.Frag} {w : World} {a : Addr} {ks : List Str} (h : dicW K a = some (keysIn w.params ks)) {z : Str} (hz : z ∉ ks) : PySem.W.nsIn K a z = some none := by
  unfold dicW at h
  split at h
  · rename_i c es n sl e
    unfold PySem.W.nsIn
    rw [e]
    split at h
    · have h := Option.some.inj h
      have g : ∀ (l : List DictEntry) (ks : List Str), l.map keyOf = keysIn w.params ks → z ∉ ks → l.find? (·.key.isStr z) = none ∧ l.any (·.refKey) = false := by
        intro l
        induction l with
        | nil => exact fun ks _ _ => ⟨rfl, rfl⟩
        | cons q l ih =>
          intro ks hk hn
          cases ks with
          | nil => cases hk
          | cons y ks =>
            rw [List.map_cons] at hk
            unfold keysIn at hk
            rw [List.map_cons] at hk
            injection hk with h1 h2
            obtain ⟨i1, i2⟩ := ih ks h2 fun m => hn (List.mem_cons_of_mem _ m)
            unfold keyOf at h1
            split at h1
            · rename_i x t ek
              have h3 := (Prod.mk.inj (Option.some.inj h1)).1
              subst h3
              have n1 : q.key.isStr z = false := by
                rw [ek]
                cases h : (Value.str x t).isStr z with
                | false => rfl
                | true => exact absurd (List.mem_cons.mpr (.inl (eq_of_beq (show (x == z) = true from h)).symm)) hn
              refine ⟨by rw [List.find?_cons, n1]; exact i1, ?_⟩
              rw [List.any_cons, i2, Bool.or_false]
              unfold DictEntry.refKey
              rw [ek]
            · cases h1
      obtain ⟨g1, g2⟩ := g _ _ h hz
      dsimp only
      rw [g1, g2]
      rfl
    · cases h
  · cases h
theorem dt_of {K : PySem.W.Frag} {h : Heap} {w : World} {mg : Str → Option Value} {Γ : Nat → Addr} {x : Str} {r : List (Str × Tv)} (Y : K.In h) (N : h.Ns mainGlobals mg) (h1 : tabB K Γ x r = true) (h2 : dicW K (ga K x) = some (keysIn w.params (r.map (·.1)))) : Dt K w mg Γ x (rowsD r) := by
  obtain ⟨c1, c2⟩ := ba h1
  obtain ⟨es, n, D⟩ := dicW_ok h2
  refine ⟨_, es, n, PySem.W.mg_of Y N (eqO_ok c1), D, fun z d e => ?_, fun z e => nsIn_none h2 fun m => ?_⟩
  · have g : ∀ r : List (Str × Tv), (rowsD r).lookup z = some d → ∃ t, (z, t) ∈ r ∧ d = t.d := by
      intro r
      induction r with
      | nil => exact fun h => by cases h
      | cons q r ih =>
        intro h
        unfold rowsD at h
        rw [List.map_cons, List.lookup_cons] at h
        split at h
        · rename_i hz
          cases h
          have : z = q.1 := by simpa using hz
          exact ⟨q.2, by rw [this]; exact List.mem_cons_self .., rfl⟩
        · obtain ⟨t, m, e⟩ := ih h
          exact ⟨t, List.mem_cons_of_mem _ m, e⟩
    obtain ⟨t, m, rfl⟩ := g r e
    have q := List.all_eq_true.mp c2 _ m
    dsimp only at q
    split at q
    · rename_i u eu
      obtain ⟨g1, g2⟩ := Tv.ok q
      exact ⟨u, t.v u, eu, g1, g2⟩
    · cases q
  · obtain ⟨q, m, e2⟩ := List.mem_map.mp m
    have g : ∀ r : List (Str × Tv), q ∈ r → (rowsD r).lookup z ≠ none := by
      intro r
      induction r with
      | nil => exact fun h => by cases h
      | cons y r ih =>
        intro h
        unfold rowsD
        rw [List.map_cons, List.lookup_cons]
        split
        · exact fun z => by cases z
        · rename_i hz
          rcases List.mem_cons.mp h with e3 | h
          · subst e3
            have : (z == q.1) = true := by rw [e2]; simp
            rw [this] at hz
            cases hz
          · exact ih h
    exact g r m e
section
variable {fa : List Fa} {fn : List He5.DefA} {ex : List Fx} {Γ : PySem.W.Frag → Nat → Addr} {ts : List TabM} {w : World} {K : PySem.W.Frag}
theorem SaysX.m (c : SaysX fa fn ex Γ ts w K) : SaysM fa fn ex K := congrArg (fun z : AlM => z.1) c
theorem SaysX.tab (c : SaysX fa fn ex Γ ts w K) (i : Nat) {t : TabM} {h : Heap} {mg : Str → Option Value} (Y : K.In h) (N : h.Ns mainGlobals mg) (e : ts[i]? = some t := by rfl) : Dt K w mg (Γ K) t.1 (rowsD t.2) := by
  have c1 : (ts.all fun t => tabB K (Γ K) t.1 t.2) = true := congrArg (fun z : AlM => z.2.1) c
  have c2 : ts.map (fun t => dicW K (ga K t.1)) = ts.map fun t => some (keysIn w.params (t.2.map (·.1))) := congrArg (fun z : AlM => z.2.2) c
  have c3 := congrArg (fun l => l[i]?) c2
  rw [List.getElem?_map, List.getElem?_map, e] at c3
  exact dt_of Y N (List.all_eq_true.mp c1 _ (List.mem_of_getElem? e)) (Option.some.inj c3)
end
end AM
namespace AM
open PySem PySem.Spec PyProof.Rows L2 TL
section
variable {X : Cx} {Γ : Nat → Addr} {W : WX} {tg iter elt : Expr} {ifs : List Expr} {scope : Scope} {own : List (Str × Nat)} {pos spos py : Pos} {fi : IF} {tup : Bool} {is : List Nat} {t : TF} {f : EF} {i : Nat} {y : Str}
end
end AM
namespace AM
open PySem PySem.Spec PyProof.Rows L2 TL
section
variable {α : Type} {N : AEnv → Sto → Prop} {T : D → Sto → Prop} {V : D → Sto → Prop} {env : AEnv} {st : Sto}
end
end AM
namespace AM
open PySem PySem.Spec PyProof.Rows L2 He
section
variable {X : Cx} {Γ : Nat → Addr} {W : WX} {e o a b c : Expr} {es : List Expr} {f fo fa fb fc fe ff fv : EF} {fs : EFs} {F : DF} {pos p apos cpos tpos : Pos} {j k : Nat} {x m : Str} {ks : List Str}
def sRet0 : SF := fun env st => .rt .non st
def isL (o : D) (st : Sto) : Bool := match o with
  | .hd n => (match st[n]? with
    | some (.lst _) => true
    | _ => false)
  | _ => false
def putApp (o d : D) (env : AEnv) (st : Sto) : SR := match o with
  | .hd n => (match st[n]? with
    | some (.lst ds) => if ds.length < sizeLine then .nx env (st.set n (.lst (ds ++ [d]))) else .bad
    | _ => .bad)
  | _ => .bad
def sAppH (fo fe : EF) : SF := fun env st => (fo env st).then fun o st1 => if isL o st1 = true then (fe env st1).then fun d st2 => putApp o d env st2 else .bad
end
end AM
namespace AM
open PySem PySem.Spec PyProof.Rows L2 He
section
variable {X : Cx} {Γ : Nat → Addr} {W : WX} {e o a b c : Expr} {es : List Expr} {f fo fa fb fc fe ff fv : EF} {fs : EFs} {F : DF} {pos p apos cpos tpos : Pos} {j k : Nat} {x m : Str} {ks : List Str}
def putAug (cs : List Nat) (fl : Str) (op : Int → Int → Int) (fv : EF) (o : D) (env : AEnv) (st : Sto) : SR := match o with
  | .hd n => (match st[n]? with
    | some (.obj c fs) => (if cs.contains c = true then (match fs.lookup fl with
      | some (.int i) => (fv env st).then fun d st2 => (match d, st2[n]? with
        | .int j, some (.obj c2 fs2) => if (decide (c2 = c) && decide (fs2.length < 1000)) = true then .nx env (st2.set n (.obj c2 (putD fl (.int (op i j)) fs2))) else .bad
        | _, _ => .bad)
      | _ => .bad) else .bad)
    | _ => .bad)
  | _ => .bad
def sAugD (cs : List Nat) (fl : Str) (op : Int → Int → Int) (fo fv : EF) : SF := fun env st => (fo env st).then fun o st1 => putAug cs fl op fv o env st1
end
end AM
namespace AM
open PySem PySem.Spec PyProof.Rows L2 He
section
variable {X : Cx} {Γ : Nat → Addr} {W : WX} {e o a b c tg : Expr} {es : List Expr} {f fo fa fb fc fe ff fv : EF} {fs : EFs} {F : DF} {pos p apos cpos tpos : Pos} {j k : Nat} {x m : Str} {ks : List Str}
inductive PDf (X : Cx) (Γ : Nat → Addr) (j : Nat) (pos : Pos) : List (Option Expr) → List Expr → List (Key × DF) → List (TE × TE) → List (Key × V) → Prop where
  | nil : PDf X Γ j pos [] [] [] [] []
  | cons {k v : Expr} {ks : List (Option Expr)} {vs : List Expr} {r : List (Key × DF)} {trs : List (TE × TE)} {kvs : List (Key × V)} {kk : Key} {F : DF} {g : Addr} (hk : PE X k (tC (kV kk))) (hv : PE X v (tC (.ref g))) (hd : PySem.W.keepIn X.K (.ref g) = true) (hc : Cal X.prog X.w X.K X.mg X.base Γ j (.ref g) [] F) (hr : PDf X Γ j pos ks vs r trs kvs) :
      PDf X Γ j pos (some k :: ks) (v :: vs) ((kk, F) :: r) ((tC (kV kk), tC (.ref g)) :: trs) ((kk, .ref g) :: kvs)
def valF (r : List (Key × DF)) (k : Key) : Option DF := (r.find? fun kv => decide (kv.1 = k)).map (·.2)
theorem PDf.val {pos : Pos} {ks : List (Option Expr)} {vs : List Expr} {r : List (Key × DF)} {trs : List (TE × TE)} {kvs : List (Key × V)} (h : PDf X Γ j pos ks vs r trs kvs) {key : Key} {F : DF} (e : valF r key = some F) :
    ∃ g, valV kvs key = some (.ref g) ∧ PySem.W.keepIn X.K (.ref g) = true ∧ Cal X.prog X.w X.K X.mg X.base Γ j (.ref g) [] F := by
  induction h with
  | nil => cases e
  | @cons k v ks vs r trs kvs kk F' g hk hv hd hc hr ih =>
    by_cases q : kk = key
    · have e2 : valF ((kk, F') :: r) key = some F' := by simp [valF, List.find?_cons, q]
      rw [e2] at e
      cases e
      exact ⟨g, valV_pos (p := (kk, V.ref g)) q, hd, hc⟩
    · have e1 : valV ((kk, V.ref g) :: kvs) key = valV kvs key := valV_neg (p := (kk, V.ref g)) q
      have e2 : valF ((kk, F') :: r) key = valF r key := by simp [valF, List.find?_cons, q]
      rw [e1]
      rw [e2] at e
      exact ih e
def dDcall (r : List (Key × DF)) (fe : EF) (fs : EFs) : EF := fun env st => (fe env st).bind fun d st1 => match (keyD d).bind (valF r) with
  | some F => (fs env st1).bind F
  | none => .bad
def okRg (a b : Int) : Bool := decide (-(2 ^ 62) ≤ a) && (decide (a < 2 ^ 62) && (decide (-(2 ^ 62) ≤ b) && (decide (b < 2 ^ 62) && decide ((b - a).toNat ≤ 2 ^ 24))))
def kLran : D → Sto → Res (List D) := fun d st => match d with
  | .int n => if okRg 0 n = true then .ok (rng 0 n.toNat) st else .bad
  | _ => .bad
def fLran (f : EF) : AEnv → Sto → Res (List D) := fun env st => (f env st).bind kLran
def rngC (lo c : Int) (n : Nat) : List D := (List.range n).map fun i => .int (lo + (i : Nat) * c)
def okR3 (i j c : Int) : Bool := decide (c ≠ 0) && (decide (c.natAbs < 1073741824) && (Builtin.Range.small i j c && decide (0 ≤ Builtin.Range.rangeSize i j c)))
def kRan3 : List D → Sto → Res (List D) := fun ds st => match ds with
  | [.int i, .int j, .int c] => if okR3 i j c = true then .ok (rngC i c (Builtin.Range.rangeSize i j c).toNat) st else .bad
  | _ => .bad
def iRan3 (fs : EFs) : IF := fun env st => (fs env st).bind kRan3
end
end AM
namespace AM
open PySem PySem.Spec PyProof.Rows L2
open Classical
end AM
namespace AM
open PySem PySem.Spec PyProof.Rows L2 TL
section
variable {N : AEnv → Sto → Prop} {T V : D → Sto → Prop} {Ls : List D → Sto → Prop} {env : AEnv} {st : Sto} {fo fe fv f fa fb : EF} {fs : EFs} {t : TF} {h : SF} {n c i : Nat} {ds : List D} {gs : List (Str × D)} {d : D} {cs : List Nat} {fl : Str}
theorem ws_sRet0 (h : T .non st) : Ws (sRet0 env st) N T := .rt h
theorem ws_sAppH (h : Wx (fo env st) fun o s => isL o s = true ∧ Wx (fe env s) fun d s2 => Ws (putApp o d env s2) N T) : Ws (sAppH fo fe env st) N T := ws_then (wx_mono h fun o s ⟨e, h⟩ => by
  rw [if_pos e]
  exact ws_then h)
theorem ws_sFldD (h : Wx (fv env st) fun d s => Wx (fo env s) fun o s2 => Ws (putFd cs fl o d env s2) N T) : Ws (sFldD cs fl fo fv env st) N T := ws_then (wx_mono h fun d s h => ws_then h)
theorem ws_sAugD {op : Int → Int → Int} (h : Wx (fo env st) fun o s => Ws (putAug cs fl op fv o env s) N T) : Ws (sAugD cs fl op fo fv env st) N T := ws_then h
theorem wx_dDcall {r : List (Key × DF)} (h : Wx (fe env st) fun d s => ∃ F, (keyD d).bind (valF r) = some F ∧ Wx (fs env s) fun ds s2 => Wx (F ds s2) V) : Wx (dDcall r fe fs env st) V := wx_bind (wx_mono h fun d s ⟨F, e, h⟩ => by
  rw [e]
  exact wx_bind h)
theorem wx_dNew {fi : IF} (h : Wx (fi env st) fun ds s => V (.hd s.length) (s ++ [.lst ds])) : Wx (dNew fi env st) V := wx_bind (wx_mono h fun _ _ h => .mk h)
theorem wx_fLran (h : Wx (f env st) fun d s => ∃ n, d = .int n ∧ okRg 0 n = true ∧ Ls (rng 0 n.toNat) s) : Wx (fLran f env st) Ls := wx_bind (wx_mono h fun d s ⟨n, e, e2, h⟩ => by
  subst e
  unfold kLran
  simp only
  rw [if_pos e2]
  exact .mk h)
theorem wx_iRan2 (hw : Wx (fa env st) fun a s => Wx (fb env s) fun b s => ∃ i j, a = .int i ∧ b = .int j ∧ (okR i && okR j) = true ∧ Ls (rng i (j - i).toNat) s) : Wx (iRan2 fa fb env st) Ls := wx_bind (wx_mono hw fun a s hw2 => wx_bind (wx_mono hw2 fun b s ⟨i, j, e1, e2, e3, hl⟩ => by
  subst e1 e2
  unfold kRan2
  simp only
  rw [if_pos e3]
  exact .mk hl))
theorem wx_iRan3 (h : Wx (fs env st) fun ds s => ∃ i j c, ds = [.int i, .int j, .int c] ∧ okR3 i j c = true ∧ Ls (rngC i c (Builtin.Range.rangeSize i j c).toNat) s) : Wx (iRan3 fs env st) Ls := wx_bind (wx_mono h fun ds s ⟨i, j, c, e1, e3, h⟩ => by
  subst e1
  unfold kRan3
  simp only
  rw [if_pos e3]
  exact .mk h)
end
end AM
namespace AM
open PySem PySem.Spec PyProof.Rows L2
def sPar3 (i j l : Nat) (fs : EFs) : SF := fun env st => (fs env st).then fun ds st1 => match ds with
  | [d, e, f] => .nx (((env.set i (.sh d)).set j (.sh e)).set l (.sh f)) st1
  | _ => .bad
theorem ws_sPar3 {N : AEnv → Sto → Prop} {T : D → Sto → Prop} {fs : EFs} {i j l : Nat} {env : AEnv} {st : Sto} (h : Wx (fs env st) fun ds s => ∃ d e f, ds = [d, e, f] ∧ En N (((env.set i (.sh d)).set j (.sh e)).set l (.sh f)) s) : Ws (sPar3 i j l fs env st) N T := ws_then (wx_mono h fun ds s ⟨d, e, f, q, h⟩ => by subst q; exact .nx h)
end AM
namespace AM
open PySem PySem.Spec PyProof.Rows L2
section
variable {V : D → Sto → Prop} {Ls : List D → Sto → Prop} {env : AEnv} {st : Sto} {fa fb fo fe ff : EF} {fs : EFs}
theorem wx_dInG {r : List (Str × D)} {neg : Bool} (h : Wx (fa env st) fun d s => ∃ z, d = .str z ∧ V (.bl (neg != (r.lookup z).isSome)) s) : Wx (dInG r neg fa env st) V := wx_bind (wx_mono h fun d s ⟨z, e, h⟩ => by
  subst e
  exact .mk h)
theorem wx_dIxG {r : List (Str × D)} (h : Wx (fb env st) fun d s => ∃ z v, d = .str z ∧ r.lookup z = some v ∧ V v s) : Wx (dIxG r fb env st) V := wx_bind (wx_mono h fun d s ⟨z, v, e, e2, h⟩ => by
  subst e
  show Wx (match r.lookup z with
    | some v => .ok v s
    | none => .bad) V
  rw [e2]
  exact .mk h)
theorem wx_dDicGet (h : Wx (fo env st) fun d s => ∃ r, d = .dic r ∧ Wx (fe env s) fun e s => Wx (ff env s) fun z s => ∃ k, keyD e = some k ∧ V ((valD r k).getD z) s) : Wx (dDicGet fo fe ff env st) V := wx_bind (wx_mono h fun d s ⟨r, e, h⟩ => by
  subst e
  exact wx_bind (wx_mono h fun e s h => wx_bind (wx_mono h fun z s ⟨k, e2, h⟩ => by
    rw [e2]
    exact .mk h)))
theorem wx_dLcall {t : List (Nat × DF)} {i c : Nat} {F : DF} (e : env[i]? = some (.sh (.cls c))) (e2 : t.lookup c = some F) (h : Wx (fs env st) fun ds s => Wx (F ds s) V) : Wx (dLcall t i fs env st) V := by
  unfold dLcall
  rw [e]
  show Wx (match t.lookup c with
    | some F => (fs env st).bind F
    | none => .bad) V
  rw [e2]
  exact wx_bind h
theorem wx_dCat (h : Wx (fa env st) fun a s => Wx (fb env s) fun b s => ∃ i j, a = .lst i ∧ b = .lst j ∧ i.length + j.length ≤ 16777216 ∧ Ls (i ++ j) s) : Wx (dCat fa fb env st) Ls := wx_bind (wx_mono h fun a s h1 => wx_bind (wx_mono h1 fun b s2 ⟨i, j, e, e2, hz, h2⟩ => by
  rw [e, e2]
  show Wx (if i.length + j.length ≤ sizeLine then .ok (i ++ j) s2 else .bad) Ls
  rw [if_pos (by rw [sizeLine_val]; exact hz)]
  exact .mk h2))
end
end AM
namespace AM
open PySem PySem.Spec PyProof.Rows L2
def oReprA : Op1 := fun a st => match a with
  | .non => .ok (.str "None") st
  | .bl b => .ok (.str (if b then "True" else "False")) st
  | .int i => if i.natAbs.log2 < 1920 then .ok (.str (toString i)) st else .bad
  | .str x => if (reprText x).length ≤ sizeLine then .ok (.str (reprText x)) st else .bad
  | d => oRepr d st
section
variable {X : Cx} {Γ : Nat → Addr} {W : WX} {k : Nat}
end
end AM
namespace AM
open PySem PySem.Spec PyProof.Rows L2
structure RzC (K : PySem.W.Frag) (C fI : Addr) (f : Str) (B newId initId : String) (bmB : List Value) : Prop where
  fb : ExcBaseFacts B newId initId bmB
  sf : StoreFacts B bmB "object.__setattr__" "object"
  ini : PySem.W.excInitIn K C bmB newId = true
  over : PySem.W.excOver K C bmB = true
  taker : PySem.W.takerIn K C f = some none
  hdt : PySem.W.hasDictIn K C = true
  sa : PySem.W.findIn K (.ref C) "__setattr__" = some (some (.builtin "object.__setattr__"))
  exC : PySem.W.subIn K (.ref C) (.type "BaseException") = some true
  tyC : PySem.W.typeIn K (.ref C) = some (.type "type")
  kC : PySem.W.keepIn K (.ref C) = true
  iC : PySem.W.findIn K (.ref C) "__init__" = some (some (.ref fI))
  tI : PySem.W.typeIn K (.ref fI) = some (.type "function")
section
variable {X : Cx} {pins : List (Addr × Obj)} {σ : L2.St} {H : Hp} {s : Shared} {a C fI : Addr} {f : Str} {y : V} {u : Value} {Q : Unit → Shared → Prop} {E : Value → Shared → Prop} {A : Around} {B newId initId : String} {bmB : List Value}
theorem rz_step {h' : Heap} {tk : Nat} {t1 dx : Addr} (I : Inv X pins σ H s) (e : H a = some (exo a C none)) (ry : RelV y u) (fresh : s.heap.objs.size ≤ dx) (apart : dx ≠ a) (stay : ∀ b o, b ≠ a → s.heap.get? b = some o → h'.get? b = some o)
    (hx : h'.get? a = some { cls := .ref C, dict := some dx, data := .fields #[.ref t1, .none, .none, .none, .bool false, .none] }) (hn : h'.Ns1 dx (fun g => if g = f then some u else none)) :
    Inv X pins σ (upd (upd H dx (exd dx [(f, y)])) a (exo a C (some dx))) { s with heap := h', toks := tk } := by
  have ndx : H dx = none := I.hok.fresh fresh
  have old : ∀ b o, s.heap.get? b = some o → b ≠ dx := fun b o q z => by
    have lt := Heap.lt_size q
    rw [z] at lt
    exact absurd (Nat.lt_of_lt_of_le lt fresh) (Nat.lt_irrefl _)
  have loose : ∀ b, H b = none → b ≠ a := fun b n z => by rw [z, e] at n; cases n
  -- what else is tracked stays
  have same : ∀ b w, H b = some w → w ≠ exo a C none → upd (upd H dx (exd dx [(f, y)])) a (exo a C (some dx)) b = some w := fun b w q d => by
    have h1 : b ≠ a := at_ne e q (Ne.symm d)
    have h2 : b ≠ dx := ne_of_none q ndx
    rw [upd_ne h1, upd_ne h2]; exact q
  have U : Un X.fs [] H (upd (upd H dx (exd dx [(f, y)])) a (exo a C (some dx))) s.heap h' :=
    ⟨fun b o q n _ _ => stay b o (loose b n) q, fun b o q n _ _ => ⟨o.slots, stay b o (loose b n) q⟩, fun b o q n _ => by rw [upd_ne (loose b n), upd_ne (old b o q)]; exact n,
      fun b o q _ => (Classical.em (b = a)).elim (fun hb => ⟨_, hb ▸ hx⟩) fun hb => ⟨o, stay b o hb q⟩, fun b xs q => same b _ q exo_tup.symm, fun b o v q => same b _ q exo_frz.symm, fun b ps q => ⟨#[], by rw [same b _ q exo_tbl.symm]; simp⟩⟩
  refine I.un (t' := tk) U fun b o q => ?_
  by_cases h1 : b = a
  · rw [h1, upd_same] at q
    cases q
    rw [h1]
    exact exo_ok hx
  rw [upd_ne h1] at q
  by_cases h2 : b = dx
  · rw [h2, upd_same] at q
    cases q
    rw [h2]
    exact exd_ok hn (relO_put (fs := []) ry fun g => True.intro)
  rw [upd_ne h2] at q
  refine (I.hok b o q).stay (fun c v hc z => ?_) (fun c hc => same c _ hc exo_own.symm) fun c xs hc => same c _ hc exo_tup.symm
  refine stay c v ?_ z
  rcases hc with hc | hc
  · rw [hc]; exact h1
  · exact at_ne e hc exo_own
theorem rz_store (T : RzC X.K C fI f B newId initId bmB) (I : Inv X pins σ H s) (e : H a = some (exo a C none)) (ry : RelV y u)
    (h : ∀ dx s', H dx = none → dx ≠ a → Inv X pins σ (upd (upd H dx (exd dx [(f, y)])) a (exo a C (some dx))) s' → Q () s') : wpAny (model X.prog X.w) A (setAttr (.ref a) f u) Q E s := by
  obtain ⟨t1, ho⟩ := exo_at I.hok e
  obtain ⟨cd, hc, hd⟩ := PySem.W.any_some T.hdt
  have lt : a < s.heap.objs.size := Heap.lt_size ho
  refine PySem.W.set_plain (od := none) I.kIn ⟨ho, rfl, rfl, trivial⟩ T.sa ?_
  refine PySem.W.osa_openX (od := none) (s := { s with toks := s.toks + 1 }) T.sf I.kIn ⟨ho, rfl, rfl, trivial⟩ T.over T.taker fun b => ?_
  refine wpAny_bind (wpAny_pure (wpAny_bind (PySem.W.instanceDict_exc (s := { s with toks := s.toks + 1 }) ho (PySem.W.looks_clsIn I.kIn hc) hd ?_)))
  show wpAny _ _ (Builtin.ObjectAttr.storeInDict s.heap.objs.size (.str f s.toks) f u) _ _ _
  have ho1 : (s.heap.push (PySem.W.dictOf [] 0)).get? a = some { cls := .ref C, dict := none, data := .fields #[.ref t1, .none, .none, .none, .bool false, .none] } := Heap.get?_push_of_some _ ho
  have new : ((s.heap.push (PySem.W.dictOf [] 0)).update a fun o => { o with dict := some s.heap.objs.size }).get? s.heap.objs.size = some (PySem.W.dictOf [] 0) := (Heap.get?_update_ne _ _ _ _ (Nat.ne_of_gt lt)).trans (Heap.get?_push_at rfl rfl)
  refine HandSPX.store_in_new ⟨_, #[], _, new, rfl, fun e he => absurd he (by simp), fun _ => rfl⟩ fun h' tk hn hs => ?_
  have st : ∀ b o, b ≠ a → s.heap.get? b = some o → h'.get? b = some o := fun b o hb q => by
    have hb2 : b ≠ s.heap.objs.size := Nat.ne_of_lt (Heap.lt_size q)
    rw [hs.2 b hb2]
    exact (Heap.get?_update_ne _ _ _ _ hb).trans (Heap.get?_push_of_some _ q)
  have at_ : h'.get? a = some { cls := .ref C, dict := some s.heap.objs.size, data := .fields #[.ref t1, .none, .none, .none, .bool false, .none] } := (hs.2 a (Nat.ne_of_lt lt)).trans (Heap.get?_update_self _ ho1 rfl)
  exact h _ _ (I.hok.fresh (Nat.le_refl _)) (Nat.ne_of_gt lt) (rz_step (tk := tk) (I.tok _) e ry (Nat.le_refl _) (Nat.ne_of_gt lt) st at_ hn)
end
abbrev initB (y f : Str) (p1 p2 p3 p4 : Pos) : List Stmt := [.Assign [.Attribute (.Name "self" p1) f p2] (.Name y p3) p4]
section
variable {X : Cx} {a C fI : Addr} {f x y q : Str} {Q : Unit → Shared → Prop} {B newId initId : String} {bmB : List Value} {params : Arguments} {scope : Scope} {fd : FuncData} {e : Expr} {ta : TA} {p pos p1 p2 p3 p4 : Pos} {k : Nat}
theorem rz_body {Z : Cx} (T : RzC Z.K C fI f B newId initId bmB) (hN : Z.N = [("self" : Str), y]) (h1 : Vis Z.env.scope "self") (h2 : Vis Z.env.scope y) (hd : (y == ("__debug__" : Str)) = false) (hcd : (y == ("__classdict__" : Str)) = false)
    (hs : swapsWith (.Name y p3) (some (.Attribute (.Name "self" p1) f p2)) p4.line Z.env = pure false) :
    PSs Z (initB y f p1 p2 p3 p4) (fun D σ H => ∃ a v, σ[0]? = some (some (.ref a)) ∧ σ[1]? = some (some v) ∧ H a = some (exo a C none) ∧ ∀ dx, H dx = none → dx ≠ a → D.nx σ (upd (upd H dx (exd dx [(f, v)])) a (exo a C (some dx)))) := by
  refine pss_one ⟨fun pins s σ H D I h => ?_⟩
  obtain ⟨a, v, s0, s1, ea, q⟩ := h
  have g1 := (pe_var (X := Z) (x := y) (pos := p3) (i := 1) (by rw [hN]; rfl) h2 hd hcd).run pins s σ H (fun x H1 => x = v ∧ H1 = H) I ⟨v, s1, rfl, rfl⟩
  refine plainObj_wpAny_Assign_Attribute (thn g1 fun u s2 ⟨x2, H2, I2, r2, e2, e3⟩ => ?_) hs
  subst e2
  rw [e3] at I2
  refine thn ((pe_var (X := Z) (x := "self") (pos := p1) (i := 0) (by rw [hN]; rfl) h1 (by decide) (by decide)).run pins s2 σ H (fun x H1 => x = .ref a ∧ H1 = H) I2 ⟨.ref a, s0, rfl, rfl⟩) fun u3 s3 ⟨x3, H3, I3, r3, e4, e5⟩ => ?_
  subst e4
  rw [e5] at I3
  obtain rfl : u3 = Value.ref a := r3
  exact rz_store T I3 ea r2 fun dx s' n ne J => ⟨σ, _, J, q dx n ne⟩
end
end AM
namespace AM
open PySem PySem.Spec PyProof.Rows L2
structure Rz (K : PySem.W.Frag) (mg : Str → Option Value) (Γ : Nat → Addr) (x : Str) (c : Nat) (f : Str) : Prop where
  ex : ∃ (fI : Addr) (B newId initId : String) (bmB : List Value) (q y : Str) (params : Arguments) (scope : Scope) (fd : FuncData) (p1 p2 p3 p4 : Pos), RzC K (Γ c) fI f B newId initId bmB ∧
    FunD K "__init__" q params (initB y f p1 p2 p3 p4) scope [] [] fI fd ∧ FnScope [("self" : Str), y] [("self" : Str), y] scope ∧
    (∀ (kV doc pm : Value) (an : Option Addr) (cdv ct : Value) (us : List Value), us.length = 2 → bindArgs (PySem.W.fnOf "__init__" q params (initB y f p1 p2 p3 p4) scope .none kV doc pm an cdv ct) ⟨us, []⟩ = pure ([("self" : Str), y].zip us)) ∧
    (y == ("__debug__" : Str)) = false ∧ (y == ("__classdict__" : Str)) = false ∧ ∀ env : Env, env.scope = scope → swapsWith (.Name y p3) (some (.Attribute (.Name "self" p1) f p2)) p4.line env = pure false
  glob : mg x = some (.ref (Γ c))
section
variable {X : Cx} {Γ : Nat → Addr} {W : WX} {e : Expr} {g : EF} {f x : Str} {c k : Nat} {p pos pos' : Pos}
structure Rz0 (K : PySem.W.Frag) (mg : Str → Option Value) (Γ : Nat → Addr) (x : Str) (c : Nat) : Prop where
  ex : ∃ (b n i : String) (bm : List Value), ExcBaseFacts b n i bm ∧ PySem.W.excIn K (Γ c) bm n = true
  kC : PySem.W.keepIn K (.ref (Γ c)) = true
  exC : PySem.W.subIn K (.ref (Γ c)) (.type "BaseException") = some true
  tyC : PySem.W.typeIn K (.ref (Γ c)) = some (.type "type")
  glob : mg x = some (.ref (Γ c))
end
end AM
namespace AM
open PySem PySem.Spec PyProof.Rows L2 L2H HotX
section
variable {X : Cx} {p : Addr × Obj}
end
end AM
namespace AM
open PySem PySem.Spec PyProof.Rows L2
section
variable {X : Cx} {x1 x2 x3 n : Str} {c1 c2 c3 : Value} {i kt : Nat} {body suite : List Stmt} {b0 : Stmt} {p1 p2 p3 pt pos pos' : Pos} {tb : WX → TS} {ts : Addr → Value → Option Addr → TS}
end
end AM
namespace AM
open PySem PySem.Spec PyProof.Rows L2
section
variable {α : Type} {le : α → α → Bool}
end
def keyOf (y : Str) : PyData := .tuple [.int y.length, .str y]
end AM
namespace AM
open PySem PySem.Spec PyProof.Rows L2
structure KeyS (x : Str) (params : Arguments) (scope : Scope) : Prop where
  kind : scope.kind = .function
  co : scope.isCoroutine = false
  gen : scope.isGenerator = false
  own : scope.names.lookup x = some .local
  len : scope.names.lookup ("len" : Str) = some .globalImplicit
  nocell : ∀ y ∈ scope.names, y.2 ≠ .cell
  nofree : ∀ y ∈ scope.names, y.2 ≠ .free
  bind : ∀ (q : Str) (body : Expr) (cl : List (Str × Addr)) (pm cv ctv v : Value), bindArgs (PySem.W.kla_fn "<lambda>" q params body scope cl pm cv ctv) ⟨[v], []⟩ = pure [(x, v)]
  xd : (x == ("__debug__" : Str)) = false
def LamO (f c' : Addr) (q : Str) (params : Arguments) (body : Expr) (scope : Scope) : HO := .ext fun h => ∃ pm ctv, h.get? f = some (PySem.W.kla_obj "<lambda>" q params body scope [] pm c' ctv)
end AM
namespace AM
open PySem PySem.Spec PyProof.Rows L2
def TabP (Z : Addr → Prop) (H : Hp) (P : Addr) (q : Str) : Prop := ∃ ps : Array Value, H P = some (.tbl ps) ∧ TriplesOk ps.toList ∧ ∀ (pos : Pos) (cv : Value), codeAmong pos ps.toList = some cv → ∃ c, cv = .ref c ∧ H c = some (LamX.CodeO c q) ∧ Z c
structure Made1 (Z : Addr → Prop) (H H1 : Hp) (P f c' : Addr) (q : Str) (params : Arguments) (body : Expr) (scope : Scope) : Prop where
  keep : ∀ b o, H b = some o → b ≠ P → H1 b = some o
  tab : TabP Z H1 P q
  new : H f = none
  fn : H1 f = some (LamO f c' q params body scope)
  code : H1 c' = some (LamX.CodeO c' q)
section
variable {K : Ct} {w : Wd} {env : AEnv} {st : Sto} {σ : AM.St} {H H1 : Hp} {i : Nat} {q : Str}
end
section
variable {X : Cx} {Γ : Nat → Addr} {W : WX} {e : Expr} {f : EF} {i k kk : Nat} {c : Addr} {x : Str} {params : Arguments} {scope : Scope} {p pos kpos lpos p1 p2 p3 p4 p5 : Pos}
end
end AM
namespace AM
open PySem PySem.Spec PyProof.Rows L2 L2H HotX
structure XvC (K : PySem.W.Frag) (C : Addr) : Prop where
  ga : PySem.W.findIn K (.ref C) "__getattribute__" = some (some (.builtin "BaseException.__getattribute__"))
  gg : PySem.W.findIn K (.ref C) "__getattr__" = some none
  ex : PySem.W.subIn K (.ref C) (.type "BaseException") = some true
  cl : (PySem.W.clsIn K C).isSome = true
  hd : PySem.W.hasDictIn K C = true
  ca : PySem.W.findIn K (.ref C) "__class__" = some (some (.builtin "object.__class__"))
  sp : PySem.W.specialIn K (.builtin "object.__class__") "__get__" = some (some (.builtin "getset_descriptor.__get__"))
  tk : PySem.W.takesIn K (.builtin "object.__class__") = some true
  mr : PySem.W.mroIn K C (.type "object") = some true
structure HotAt1 (X : Cx) (Γ : Nat → Addr) (c : Nat) (a : Addr) (dx : Option Addr) : Prop where
  cls : XvC X.K (Γ c)
  obj : ∃ oe, (a, oe) ∈ X.pn ∧ X.A.handled = some (.ref a) ∧ L2N.Zn (.ref (Γ c)) dx oe ∧ ∃ vs, oe.data = .fields vs
section
variable {X : Cx} {Γ : Nat → Addr} {W : WX} {c : Nat} {a : Addr} {dx : Option Addr} {e b : Expr} {fe : EF} {f : Str} {p pos : Pos} {v : V} {u : Value} {bb : Bool}
def XdH (H : Hp) (dx : Option Addr) (gs : List (Str × V)) : Prop := ∀ d, dx = some d → H d = some (.xd gs)
theorem XdAt.h {H : Hp} {S : Addr → Prop} {dx : Option Addr} {gs : List (Str × V)} (x : XdAt H S dx gs) : XdH H dx gs := fun d e => by
  subst e
  exact x.1
def oIsXv (c : Nat) (a : Addr) (dx : Option Addr) (b : Bool) : Op1 := fun d st => match d with
  | .exv c' a' dx' _ => if c' = c ∧ a' = a ∧ dx' = dx then .ok (.bl b) st else .bad
  | _ => .bad
def oXf (c : Nat) (a : Addr) (dx : Option Addr) (f : Str) : Op1 := fun d st => match d with
  | .exv c' a' dx' fs => if c' = c ∧ a' = a ∧ dx' = dx then (match fs.lookup f with
    | some x => .ok x st
    | none => .bad) else .bad
  | _ => .bad
end
section
variable {X : Cx} {Γ : Nat → Addr} {W : WX} {c : Nat} {a g : Addr} {dx : Option Addr} {e : Expr} {fe : EF} {x qual : Str} {params : Arguments} {body : List Stmt} {scope : Scope} {N : List Str} {ps : List Str} {fd : FuncData} {gf : SF} {k : Nat} {p pos : Pos}
end
end AM
namespace AM
open PySem PySem.Spec PyProof.Rows L2 L2H HotX
structure MadeU (Z : Addr → Prop) (H H1 : Hp) (P c' : Addr) (q : Str) : Prop where
  keep : ∀ b o, H b = some o → b ≠ P → H1 b = some o
  tab : TabP Z H1 P q
  code : H1 c' = some (LamX.CodeO c' q)
  zc : Z c'
section
variable {K : Ct} {w : Wd} {env : AEnv} {st : Sto} {σ : AM.St} {H H1 : Hp} {i : Nat} {q : Str}
end
abbrev cgtB (act en x1 x2 x3 : Str) (j kt : Nat) (b0 : Stmt) (suite : List Stmt) (q1 q2 q3 q4 q5 q6 q7 q8 q9 q10 q11 : Pos) : List Stmt :=
  [.Try [.Return (some (.List [.Constant (.str "given") j q1, .Call (.Name act q2) [] [] q3] q4)) q5] [.ExceptHandler (some (.Tuple [.Name x1 q6, .Name x2 q7, .Name x3 q8] kt q9)) (some en) (b0 :: suite) q10] [] [] q11]
inductive Cgt (P : Program) (w : World) (K : PySem.W.Frag) (mg : Str → Option Value) (base : Heap) (Γ : Nat → Addr) (k : Nat) (xc : Str) (T : Exn → Option (List D)) : Prop
  | mk {qc act en fo x1 x2 x3 : Str} {pc : Arguments} {sc : Scope} {g c1 c2 c3 : Addr} {fd : FuncData} {j kt : Nat} {b0 : Stmt} {suite : List Stmt} {q1 q2 q3 q4 q5 q6 q7 q8 q9 q10 q11 : Pos} {live : Nat → Prop} {sg : Nat → Addr → Option Addr → SF}
      (D : FunD K xc qc pc (cgtB act en x1 x2 x3 j kt b0 suite q1 q2 q3 q4 q5 q6 q7 q8 q9 q10 q11) sc [] [] g fd) (S : FnScope [act, en, fo] [act] sc) (glob : mg xc = some (.ref g))
      (hb : ∀ (kV doc pm : Value) (an : Option Addr) (cdv ct : Value) (us : List Value), us.length = 1 → bindArgs (PySem.W.fnOf xc qc pc (cgtB act en x1 x2 x3 j kt b0 suite q1 q2 q3 q4 q5 q6 q7 q8 q9 q10 q11) sc .none kV doc pm an cdv ct) ⟨us, []⟩ = pure ([act].zip us))
      (den : sc.names.lookup en = some .local) (vact : Vis sc act) (d1 : (act == ("__debug__" : Str)) = false) (d2 : (act == ("__classdict__" : Str)) = false)
      (m1 : mg x1 = some (.ref c1)) (m2 : mg x2 = some (.ref c2)) (m3 : mg x3 = some (.ref c3)) (s1 : sc.names.lookup x1 = some .globalImplicit) (s2 : sc.names.lookup x2 = some .globalImplicit) (s3 : sc.names.lookup x3 = some .globalImplicit)
      (e1 : (x1 == ("__debug__" : Str)) = false) (e2 : (x2 == ("__debug__" : Str)) = false) (e3 : (x3 == ("__debug__" : Str)) = false)
      (hx : ∀ c, live c → PySem.W.exmAny K (.ref (Γ c)) [.ref c1, .ref c2, .ref c3] = some true) (hxv : ∀ c, live c → XvC K (Γ c))
      (hs : ∀ (c : Nat) (a : Addr) (dx : Option Addr), live c → ∀ (cdv : Value) (A : Around) (outer : List Env) (s : Shared) (H : Hp) (E : XK) (oe : Obj) (pn : List (Addr × Obj)), RoomH (k + 1) (A.deeper (envOfC qc sc s.heap.objs.size g cdv)) → A.guards = some [] →
        HotAt1 ((cxOf (L2N.CX P w) P w K mg base [act, en, fo] qc sc g cdv A outer s H E).suite a ((a, oe) :: pn)) Γ c a dx → PSs ((cxOf (L2N.CX P w) P w K mg base [act, en, fo] qc sc g cdv A outer s H E).suite a ((a, oe) :: pn)) (b0 :: suite) (tS ⟨K, Γ⟩ WN (sg c a dx)))
      (hT : ∀ e l, T e = some l → live e.c ∧ ∀ a dx st, sg e.c a dx [.un, .sh (.exv e.c a dx e.fs), .un] st = .rt (.lst l) st) : Cgt P w K mg base Γ k xc T
section
variable {X : Cx} {Γ : Nat → Addr} {W : WX} {f : EF} {i k : Nat} {c : Addr} {xc q : Str} {params : Arguments} {scope : Scope} {body : Expr} {p pos lpos : Pos} {T : Exn → Option (List D)}
end
end AM
namespace AM
open PySem PySem.Spec PyProof.Rows L2 L2H HotX
def oReprB : Op1 := fun a st => match a with
  | .dic [] => .ok (.str "{}") st
  | .dic [(.inr z, .int i)] => if ((PyData.dict [(.str z, .int i)]).showable && decide ((PyData.dict [(.str z, .int i)]).shown.length ≤ sizeLine)) = true then .ok (.str (PyData.dict [(.str z, .int i)]).shown) st else .bad
  | d => oReprA d st
section
variable {X : Cx} {Γ : Nat → Addr} {W : WX}
theorem cd_reprL (hgd : X.A.guards = some []) (hu : X.A.units + 64 < cLine) : CallR X (.builtin "repr") (rC1 (XC X Γ) W oRepr) := by
  intro pins s σ H xs us Q I rv ⟨w, env, st, σ', x, a, e, r, d, p⟩
  subst e
  obtain ⟨u, eu, ru⟩ := vals1 rv
  subst eu
  have go : ∀ {y : PyData} {q : Addr}, a.py = some y → x = .ref q → Post Den (XC X Γ) W w H σ' (if (y.showable && decide (y.shown.length ≤ sizeLine) && decide (y.depth ≤ 60)) = true then .ok (.str y.shown) st else .bad) Q → wpAny (model X.prog X.w) X.A (call (.builtin "repr") [u]) (EP X pins σ Q) X.xe s := fun {y q} ey eq pp => by
    split at pp
    · rename_i hz
      obtain ⟨z1, z3⟩ := Bool.and_eq_true_iff.mp hz
      obtain ⟨z1, z2⟩ := Bool.and_eq_true_iff.mp z1
      have dp := DenB.dp d ey
      obtain ⟨as, rd⟩ := Dp.reads I y x u dp ru
      subst eq
      obtain rfl : u = Value.ref q := ru
      refine repr_of_reads' rd z1 (PyData.noDict_hsm (Dp.noDict dp)) hgd (by have := of_decide_eq_true z3; omega) (fun _ _ z => z) (fun h' t tk hk => ?_) (of_decide_eq_true z2)
      exact ⟨.str y.shown, H, I.kept (t' := tk) hk, ⟨_, rfl⟩, Post.ok r pp (.str _)⟩
    · exact pp.elim
  unfold oRepr at p
  split at p
  · rename_i xs ey
    cases DenB.dp d ey with
    | lst _ _ => exact go ey rfl p
  · rename_i xs ey
    cases DenB.dp d ey with
    | tup _ _ => exact go ey rfl p
  · exact p.elim
theorem cd_reprW (hgd : X.A.guards = some []) (hu : X.A.units + 64 < cLine) : CallR X (.builtin "repr") (rC1 (XC X Γ) W oReprB) := by
  intro pins s σ H xs us Q I rv h
  obtain ⟨w, env, st, σ', x, a, e, r, d, p⟩ := h
  subst e
  obtain ⟨u, eu, ru⟩ := vals1 rv
  have rest : oReprB a st = oRepr a st → wpAny (model X.prog X.w) X.A (call (.builtin "repr") us) (EP X pins σ Q) X.xe s := fun e2 => by
    rw [e2] at p
    exact cd_reprL hgd hu pins s σ H [x] us Q I rv ⟨w, env, st, σ', x, a, rfl, r, d, p⟩
  subst eu
  cases a with
  | non =>
    cases d
    obtain rfl : u = Value.none := ru
    exact PySem.P.repr_of_none ⟨.str _, H, I.tok _, ⟨_, rfl⟩, Post.ok r p (.str _)⟩
  | bl b =>
    cases d
    obtain rfl : u = Value.bool b := ru
    exact PySem.P.repr_of_bool ⟨.str _, H, I.tok _, ⟨_, rfl⟩, Post.ok r p (.str _)⟩
  | int i =>
    cases d
    obtain ⟨t, rfl⟩ := ru
    change Post Den (XC X Γ) W w H σ' (if i.natAbs.log2 < 1920 then .ok (.str (toString i)) st else .bad) Q at p
    split at p
    · rename_i hz
      exact PySem.P.repr_of_int hz ⟨.str _, H, I.tok _, ⟨_, rfl⟩, Post.ok r p (.str _)⟩
    · exact p.elim
  | str z =>
    cases d
    obtain ⟨t, rfl⟩ := ru
    change Post Den (XC X Γ) W w H σ' (if (reprText z).length ≤ sizeLine then .ok (.str (reprText z)) st else .bad) Q at p
    split at p
    · rename_i hz
      exact PySem.P.repr_of_str ⟨.str _, H, I.tok _, ⟨_, rfl⟩, Post.ok r p (.str _)⟩ hz
    · exact p.elim
  | dic rr =>
    cases rr with
    | nil =>
      obtain ⟨q, kvs, ex, hq, _, er⟩ := DenB.dic d
      subst ex
      obtain rfl : u = Value.ref q := ru
      cases er
      obtain ⟨_, ns, vs, kv, o, es, ep, ho, hx, hd, hk, hp, _⟩ := (show ObjOk X.prog X.w H s.heap q (.dK []) from I.hok q _ hq)
      cases kv
      have e0 : es.toList = [] := by
        cases e1 : es.toList with
        | nil => rfl
        | cons a b =>
          rw [e1] at hp
          cases hp
      have rd : Reads s.heap (.ref q) (.dict []) [q] := .dict (as := []) (bs := []) ho (by first | exact hx.1 | exact hx) hd (by rw [e0]; exact .nil) (by rw [e0]; exact .nil)
      have dl : (PyData.dict []).depth ≤ 1 := by decide +kernel
      have dp : X.A.units + ((PyData.dict []).depth + 1) < cLine := by omega
      refine repr_of_reads' rd (by decide +kernel) (fun _ m => ?_) hgd dp (fun _ _ z => z) (fun h' t tk hk => ?_) (by decide +kernel)
      · rw [List.mem_singleton.mp m] at ns
        simp at ns
      · exact ⟨.str "{}", H, I.kept (t' := tk) hk, ⟨_, rfl⟩, Post.ok r p (.str _)⟩
    | cons kd rr =>
      obtain ⟨kk, dd⟩ := kd
      cases rr with
      | cons k2 rr => exact rest (by cases kk <;> cases dd <;> rfl)
      | nil =>
        cases kk with
        | inl n => exact rest rfl
        | inr z =>
          cases dd with
          | int i =>
            change Post Den (XC X Γ) W w H σ' (if ((PyData.dict [(.str z, .int i)]).showable && decide ((PyData.dict [(.str z, .int i)]).shown.length ≤ sizeLine)) = true then .ok (.str (PyData.dict [(.str z, .int i)]).shown) st else .bad) Q at p
            split at p
            · rename_i hz0
              obtain ⟨hz1, hz2⟩ := Bool.and_eq_true_iff.mp hz0
              obtain ⟨q, kvs, ex, hq, _, er⟩ := DenB.dic d
              subst ex
              obtain rfl : u = Value.ref q := ru
              cases er
              obtain ⟨_, ns, vs, kv, o, es, ep, ho, hx, hd, hk, hp, _⟩ := (show ObjOk X.prog X.w H s.heap q (.dK [(.inr z, .int i)]) from I.hok q _ hq)
              cases kv with
              | @cons p1 q1 l1 l2 h1 h2 =>
              cases h2
              obtain ⟨k1, u1⟩ := q1
              obtain ⟨e1, ⟨t1, e2⟩⟩ := h1
              have e1 : (.inr z : Key) = k1 := e1
              have e2 : u1 = .int i t1 := e2
              subst e1 e2
              have rd : Reads s.heap (.ref q) (.dict [(.str z, .int i)]) [q] := by
                generalize el : es.toList = l at hp
                cases hp with
                | @cons e kv0 es0 kvs0 g1 g2 g3 =>
                cases g3
                obtain ⟨y, t, z1, z2⟩ | ⟨y, t, z1, z2⟩ := keyIs_shape (show keyIs (.inr z) e.key = true from g1)
                · cases z1
                · cases z1
                  have g2 : e.val = .int i t1 := g2
                  refine .dict (as := []) (bs := []) ho (by first | exact hx.1 | exact hx) hd ?_ ?_
                  · rw [el]
                    show ReadsAll _ [e.key] [.str z] ([] ++ [])
                    rw [z2]
                    exact .cons (.str _ _) .nil
                  · rw [el]
                    show ReadsAll _ [e.val] [.int i] ([] ++ [])
                    rw [g2]
                    exact .cons (.int _ _) .nil
              have dl : (PyData.dict [(.str z, .int i)]).depth ≤ 3 := by simp [PyData.depth, PyData.depthKv]
              have dp : X.A.units + ((PyData.dict [(.str z, .int i)]).depth + 1) < cLine := by omega
              refine repr_of_reads' rd hz1 (fun _ m => ?_) hgd dp (fun _ _ z => z) (fun h' t tk hk => ?_) (of_decide_eq_true hz2)
              · rw [List.mem_singleton.mp m] at ns
                simp at ns
              · exact ⟨.str _, H, I.kept (t' := tk) hk, ⟨_, rfl⟩, Post.ok r p (.str _)⟩
            · exact p.elim
          | _ => exact rest rfl
  | _ => exact rest rfl
end
section
variable {X : Cx} {Γ : Nat → Addr} {W : WX} {a elt tg : Expr} {ifs : List Expr} {f fa : EF} {t : TF} {pos : Pos} {scope : Scope} {own : List (Str × Nat)} {tup : Bool} {is : List Nat} {c : Nat} {b : Addr} {dx : Option Addr}
end
end AM
namespace AM
open PySem PySem.Spec PyProof.Rows L2 He
section
variable {K : PySem.W.Frag} {C fI : Addr} {f x : Str} {B : Nat} {row : List (Ty1 × Bool)}
theorem rzB_ok (h : rzB K C fI f B = true) : ∃ (b n i : String) (bm : List Value), RzC K C fI f b n i bm := by
  unfold rzB at h
  obtain ⟨h1, h⟩ := ba h
  obtain ⟨h2, h⟩ := ba h
  obtain ⟨h3, h⟩ := ba h
  obtain ⟨h4, h⟩ := ba h
  obtain ⟨h5, h⟩ := ba h
  obtain ⟨h6, h⟩ := ba h
  obtain ⟨h7, h⟩ := ba h
  obtain ⟨h8, h⟩ := ba h
  obtain ⟨h9, h10⟩ := ba h
  match B, h1, h2 with
  | 0, h1, h2 => exact ⟨_, _, _, _, PySem.F.excBase_ValueError, PySem.F.store_ValueError, h1, h2, of_decide_eq_true h3, h4, eqO_ok h5, of_decide_eq_true h6, of_decide_eq_true h7, h8, eqO_ok h9, of_decide_eq_true h10⟩
  | 1, h1, h2 => exact ⟨_, _, _, _, PySem.F.excBase_LookupError, PySem.F.store_LookupError, h1, h2, of_decide_eq_true h3, h4, eqO_ok h5, of_decide_eq_true h6, of_decide_eq_true h7, h8, eqO_ok h9, of_decide_eq_true h10⟩
  | _ + 2, h1, h2 => exact ⟨_, _, _, _, PySem.F.excBase_ArithmeticError, PySem.F.store_ArithmeticError, h1, h2, of_decide_eq_true h3, h4, eqO_ok h5, of_decide_eq_true h6, of_decide_eq_true h7, h8, eqO_ok h9, of_decide_eq_true h10⟩
structure ExcK (K : PySem.W.Frag) (C fI : Addr) (f : Str) (row : List (Ty1 × Bool)) : Prop where
  rz : ∃ (b n i : String) (bm : List Value), RzC K C fI f b n i bm
  xv : XvC K C
  no : ∀ n ∈ [("given" : Str), "number", "index"], PySem.W.findIn K (.ref C) n = some none
  kit : ∀ (i : Nat) r, row[i]? = some r → PySem.W.kitOne K (.ref C) (r.1.v K) = some r.2
  exm : PySem.W.exmAny K (.ref C) [.ref (ga K "WrongValue"), .ref (ga K "WrongName"), .ref (ga K "NoAnswer")] = some true
theorem excB_ok (h : (Fx.exc x f B row).ok K = true) : ExcK K (ga K x) (ma K (ga K x) "__init__") f row := by
  have h : excB K (ga K x) (ma K (ga K x) "__init__") f B row = true := h
  unfold excB at h
  obtain ⟨h1, h⟩ := ba h
  obtain ⟨h2, h⟩ := ba h
  obtain ⟨h3, h⟩ := ba h
  obtain ⟨h4, h5⟩ := ba h
  have g : PySem.W.hasDictIn K (ga K x) = true ∧ PySem.W.subIn K (.ref (ga K x)) (.type "BaseException") = some true := by
    obtain ⟨b, n, i, bm, T⟩ := rzB_ok h1
    exact ⟨T.hdt, T.exC⟩
  unfold xvB at h2
  obtain ⟨a1, h2⟩ := ba h2
  obtain ⟨a2, h2⟩ := ba h2
  obtain ⟨a3, h2⟩ := ba h2
  obtain ⟨a4, h2⟩ := ba h2
  obtain ⟨a5, h2⟩ := ba h2
  obtain ⟨a6, a7⟩ := ba h2
  refine ⟨rzB_ok h1, ⟨eqO_ok a1, eqO_ok a2, g.2, a3, g.1, eqO_ok a4, eqO_ok a5, of_decide_eq_true a6, of_decide_eq_true a7⟩, fun n hn => eqO_ok (List.all_eq_true.mp h3 n hn), fun i r e => ?_, of_decide_eq_true h5⟩
  exact of_decide_eq_true (List.all_eq_true.mp h4 r (List.mem_of_getElem? e))
end
structure ExcK0 (K : PySem.W.Frag) (C : Addr) (row : List (Ty1 × Bool)) : Prop where
  rz : ∃ (b n i : String) (bm : List Value), ExcBaseFacts b n i bm ∧ PySem.W.excIn K C bm n = true
  kC : PySem.W.keepIn K (.ref C) = true
  exC : PySem.W.subIn K (.ref C) (.type "BaseException") = some true
  tyC : PySem.W.typeIn K (.ref C) = some (.type "type")
  xv : XvC K C
  no : ∀ n ∈ [("given" : Str), "number", "index"], PySem.W.findIn K (.ref C) n = some none
  kit : ∀ (i : Nat) r, row[i]? = some r → PySem.W.kitOne K (.ref C) (r.1.v K) = some r.2
  exm : PySem.W.exmAny K (.ref C) [.ref (ga K "WrongValue"), .ref (ga K "WrongName"), .ref (ga K "NoAnswer")] = some true
theorem exc0_ok {K : PySem.W.Frag} {x : Str} {B : Nat} {row : List (Ty1 × Bool)} (h : (Fx.exc0 x B row).ok K = true) : ExcK0 K (ga K x) row := by
  have h : exc0B K (ga K x) B row = true := h
  unfold exc0B at h
  obtain ⟨h1, h⟩ := ba h
  obtain ⟨k1, h⟩ := ba h
  obtain ⟨k2, h⟩ := ba h
  obtain ⟨k3, h⟩ := ba h
  obtain ⟨k4, h⟩ := ba h
  obtain ⟨h2, h⟩ := ba h
  obtain ⟨h3, h⟩ := ba h
  obtain ⟨h4, h5⟩ := ba h
  unfold xvB at h2
  obtain ⟨a1, h2⟩ := ba h2
  obtain ⟨a2, h2⟩ := ba h2
  obtain ⟨a3, h2⟩ := ba h2
  obtain ⟨a4, h2⟩ := ba h2
  obtain ⟨a5, h2⟩ := ba h2
  obtain ⟨a6, a7⟩ := ba h2
  refine ⟨?_, k1, of_decide_eq_true k2, of_decide_eq_true k3, ⟨eqO_ok a1, eqO_ok a2, of_decide_eq_true k2, a3, k4, eqO_ok a4, eqO_ok a5, of_decide_eq_true a6, of_decide_eq_true a7⟩, fun n hn => eqO_ok (List.all_eq_true.mp h3 n hn), fun i r e => ?_, of_decide_eq_true h5⟩
  · match B, h1 with
    | 0, h1 => exact ⟨_, _, _, _, PySem.F.excBase_ValueError, h1⟩
    | 1, h1 => exact ⟨_, _, _, _, PySem.F.excBase_LookupError, h1⟩
    | _ + 2, h1 => exact ⟨_, _, _, _, PySem.F.excBase_ArithmeticError, h1⟩
  · exact of_decide_eq_true (List.all_eq_true.mp h4 r (List.mem_of_getElem? e))
structure LiveX (K : PySem.W.Frag) (C : Addr) (ts : List Ty1) (b : Nat → Bool) : Prop where
  exm : PySem.W.exmAny K (.ref C) [.ref (ga K "WrongValue"), .ref (ga K "WrongName"), .ref (ga K "NoAnswer")] = some true
  xv : XvC K C
  no : ∀ n ∈ [("given" : Str), "number", "index"], PySem.W.findIn K (.ref C) n = some none
  kit : ∀ i, i < ts.length → PySem.W.kitOne K (.ref C) ((ts.getD i (.ty "")).v K) = some (b i)
theorem LiveX.of {K : PySem.W.Frag} {C fI : Addr} {f : Str} {row : List (Ty1 × Bool)} {ts : List Ty1} {bs : List Bool} {b : Nat → Bool} (x : ExcK K C fI f row) (e : row = ts.zip bs) (hl : bs.length = ts.length) (hb : ∀ i, b i = bs.getD i false) : LiveX K C ts b := by
  refine ⟨x.exm, x.xv, x.no, fun i hi => ?_⟩
  have h2 : i < bs.length := by omega
  have e1 : row[i]? = some (ts.getD i (.ty ""), b i) := by
    rw [e, List.getElem?_zip_eq_some]
    refine ⟨?_, ?_⟩
    · simp [List.getD, hi]
    · simp [hb, List.getD, h2]
  exact x.kit i _ e1
theorem LiveX.of0 {K : PySem.W.Frag} {C : Addr} {row : List (Ty1 × Bool)} {ts : List Ty1} {bs : List Bool} {b : Nat → Bool} (x : ExcK0 K C row) (e : row = ts.zip bs) (hl : bs.length = ts.length) (hb : ∀ i, b i = bs.getD i false) : LiveX K C ts b := by
  refine ⟨x.exm, x.xv, x.no, fun i hi => ?_⟩
  have h2 : i < bs.length := by omega
  have e1 : row[i]? = some (ts.getD i (.ty ""), b i) := by
    rw [e, List.getElem?_zip_eq_some]
    refine ⟨?_, ?_⟩
    · simp [List.getD, hi]
    · simp [hb, List.getD, h2]
  exact x.kit i _ e1
@[simp] theorem ev_isXv {c : Nat} {a : Addr} {dx : Option Addr} {b : Bool} {fs : List (Str × D)} (st : Sto) : oIsXv c a dx b (.exv c a dx fs) st = .ok (.bl b) st := by simp [oIsXv]
@[simp] theorem ev_xf {c : Nat} {a : Addr} {dx : Option Addr} {f : Str} {d : D} (st : Sto) : oXf c a dx f (.exv c a dx [(f, d)]) st = .ok d st := by simp [oXf]
end AM
namespace AM
open PySem PySem.Spec PyProof.Rows L2 TL
inductive Xx {α : Type} : Res α → (Exn → Sto → Prop) → Prop where
  | mk {e : Exn} {st : Sto} {E : Exn → Sto → Prop} (h : E e st) : Xx (.exc e st) E
inductive Xs : SR → (Exn → Sto → Prop) → Prop where
  | mk {e : Exn} {st : Sto} {E : Exn → Sto → Prop} (h : E e st) : Xs (.exc e st) E
section
variable {α β : Type} {P : α → Sto → Prop} {V : D → Sto → Prop} {N : AEnv → Sto → Prop} {T : D → Sto → Prop} {E : Exn → Sto → Prop} {env : AEnv} {st st' : Sto} {f g fa fb fc : EF} {t t2 : TF} {fs : EFs} {F : DF} {k k' : Op2} {k1 : Op1} {d : D} {ds : List D} {i j c : Nat} {u v : SF} {x m q : Str}
end
def RLe {α : Type} (a b : Res α) : Prop := a = .bad ∨ a = b
def SLe (a b : SR) : Prop := a = .bad ∨ a = b
def FLe (F G : DF) : Prop := ∀ ds st, RLe (F ds st) (G ds st)
def ELe (f g : EF) : Prop := ∀ env st, RLe (f env st) (g env st)
def ULe (u v : SF) : Prop := ∀ env st, SLe (u env st) (v env st)
theorem RLe.refl {α : Type} (a : Res α) : RLe a a := .inr rfl
theorem SLe.refl (a : SR) : SLe a a := .inr rfl
theorem FLe.refl (F : DF) : FLe F F := fun _ _ => .inr rfl
theorem ELe.refl (f : EF) : ELe f f := fun _ _ => .inr rfl
theorem ULe.refl (u : SF) : ULe u u := fun _ _ => .inr rfl
theorem RLe.ok {α : Type} {a b : Res α} {x : α} {st : Sto} (h : RLe a b) (e : a = .ok x st) : b = .ok x st := by
  rcases h with h | h
  · rw [e] at h; cases h
  · rw [← h]; exact e
theorem FLe.ok {F G : DF} {ds : List D} {x : D} {s st : Sto} (h : FLe F G) (e : F ds s = .ok x st) : G ds s = .ok x st := (h ds s).ok e
theorem RLe.bind {α β : Type} {a b : Res α} {h k : α → Sto → Res β} (e : RLe a b) (e2 : ∀ x s, RLe (h x s) (k x s)) : RLe (a.bind h) (b.bind k) := by
  rcases e with e | e
  · subst e; exact .inl rfl
  · subst e
    cases a with
    | ok x s => exact e2 x s
    | exc x s => exact .inr rfl
    | bad => exact .inl rfl
theorem SLe.then {α : Type} {a b : Res α} {h k : α → Sto → SR} (e : RLe a b) (e2 : ∀ x s, SLe (h x s) (k x s)) : SLe (a.then h) (b.then k) := by
  rcases e with e | e
  · subst e; exact .inl rfl
  · subst e
    cases a with
    | ok x s => exact e2 x s
    | exc x s => exact .inr rfl
    | bad => exact .inl rfl
theorem SLe.bind {a b : SR} {h k : AEnv → Sto → SR} (e : SLe a b) (e2 : ∀ x s, SLe (h x s) (k x s)) : SLe (a.bind h) (b.bind k) := by
  rcases e with e | e
  · subst e; exact .inl rfl
  · subst e
    cases a with
    | nx x s => exact e2 x s
    | bad => exact .inl rfl
    | _ => exact .inr rfl
section
variable {f g fa fb ga gb : EF} {fs : EFs} {F G : DF} {t : TF} {u u' v v' : SF} {i c n M : Nat} {m : Str} {k : Op2} {k1 : Op1}
end
end AM
namespace AM
open PySem PySem.Spec PySem.HandSPX
section
variable {prog : Program} {w : World} {A : Around} {E : Value → Shared → Prop} {R : Result → Shared → Prop} {h : Heap} {g : Array GenState} {d : Drawn} {t : Nat} {os : OsState}
variable {nm q : Str} {C N : Addr} {bs bm bmB : List Value} {hdct : Bool} {sn : List Str} {sub : List Value} {ab : Bool} {col : Option Bool} {dd : Option Addr} {k0 k1 k2 k3 k5 : Option Value} {B newId initId : String} {rest : List Value} {kws : List (Str × Value)}
theorem ekw_check {M : Model} {Q : Unit → Shared → Prop} (cl : h.get? C = some (excClassObj nm q C N bs bm hdct sn sub ab col dd k0 k1 k2 k3 k5 newId)) (go : Q () ⟨h, g, d, t, os⟩) :
    wpAny M A (checkBuiltinCall "type.__call__" ⟨.ref C :: rest, kws⟩) Q E ⟨h, g, d, t, os⟩ := by
  have sb := tc_sub
  have ty : (⟨h, g, d, t, os⟩ : Shared).TypeIs (.ref C) "type" := ⟨_, cl, rfl⟩
  simp only [checkBuiltinCall, tc_kind, tc_split]
  repeat (any_goals (first | with_reducible refine wpAny_loadPart_at cl ?_ | assumption | with_reducible refine wpAny_onRaise ?_ | with_reducible refine wpAny_map ?_ | wp_step))
theorem ekw_new_check {M : Model} {Q : Unit → Shared → Prop} (F : ExcBaseFacts B newId initId bmB) (hT : ∀ X : String, bm.contains (.type X) = bmB.contains (.type X)) (cl : h.get? C = some (excClassObj nm q C N bs bm hdct sn sub ab col dd k0 k1 k2 k3 k5 newId)) (go : Q () ⟨h, g, d, t, os⟩) :
    wpAny M A (checkBuiltinCall newId ⟨.ref C :: rest, kws⟩) Q E ⟨h, g, d, t, os⟩ := by
  have inB : (Value.ref C :: bm).contains (.type B) = true := by rw [List.contains_cons, hT, F.hasB, Bool.or_true]
  have ns := F.noStar
  simp only [checkBuiltinCall, F.newKind, F.newSplit, F.newRow]
  repeat (first | refine wpAny_loadPart_at cl ?_ | (refine wpAny_isSubtype_exc cl ?_; rw [inB]) | refine wpAny_staticBase_exc cl ?_ | refine wpAny_madeBy_exc cl ?_ | simp only [bne_self_eq_false, Bool.false_eq_true, if_false] | wp_step)
  exact go
theorem ekw_new (F : ExcBaseFacts B newId initId bmB) (hT : ∀ X : String, bm.contains (.type X) = bmB.contains (.type X)) (cl : h.get? C = some (excClassObj nm q C N bs bm hdct sn sub ab col dd k0 k1 k2 k3 k5 newId)) (lr : rest.length ≤ sizeLine)
    (go : R (.ok (.ret (.ref (h.objs.size + 1)))) ⟨(h.push { cls := .type "tuple", data := .seq rest.toArray }).push (excO C h.objs.size), g, d, t, os⟩) :
    codeAny (model prog w) A (.builtin newId ⟨.ref C :: rest, kws⟩) R ⟨h, g, d, t, os⟩ := by
  have en := F.ends
  have inB : (Value.ref C :: bm).contains (.type B) = true := by rw [List.contains_cons, hT, F.hasB, Bool.or_true]
  have inA : (Value.ref C :: bm).contains (.type "AttributeError") = false := by rw [List.contains_cons, hT, F.noAttr]; rfl
  have inN : (Value.ref C :: bm).contains (.type "NameError") = false := by rw [List.contains_cons, hT, F.noName]; rfl
  refine codeAny_builtinAt F.entry ?_
  unfold Builtin.«BaseException.__new__»
  refine wpAt_bind ?_
  show wpAt _ _ _ (stack >>= _) _ _ _
  refine wpAt_bind (wpAt_stack fun p below => wpAt_of_wpAny ?_)
  wp_walk
  refine wpAt_of_wpAny ?_
  rw [F.owner]
  repeat (first | with_reducible refine wpAny_madeHere_exc F.canon cl ?_ | with_reducible refine wpAny_loadPart_at cl ?_ | (with_reducible refine wpAny_isSubtype_exc cl ?_; first | rw [inB] | rw [inA] | rw [inN]) | wp_step)
  show R _ _
  rw [Heap.size_push]
  exact go
theorem ekw_type (F : ExcBaseFacts B newId initId bmB) (hT : ∀ X : String, bm.contains (.type X) = bmB.contains (.type X)) {fI : Addr} {Q : Fin → Shared → Prop} (cl : h.get? C = some (excClassObj nm q C N bs bm hdct sn sub ab col dd k0 k1 k2 k3 k5 newId))
    (hi : W.Looks (model prog w) h (typeLookup (.ref C) "__init__") (some (.ref fI))) (hb : ∀ self, W.Looks (model prog w) h (bindSpecial (.ref fI) self) (.ref fI, [self])) (lr : rest.length ≤ sizeLine)
    (go : codeAny (model prog w) A (.call (.ref fI) ⟨.ref (h.objs.size + 1) :: rest, kws⟩) (fun r s' => match r with | .ok (.ret v) => v = .none ∧ Q (.done (.ret (.ref (h.objs.size + 1)))) s' | .ok _ => False | .error e => E e s')
      ⟨(h.push (W.kdv_tup rest)).push (excO C h.objs.size), g, d, t, os⟩) :
    wpAny (model prog w) A (Builtin.«type.__call__» ⟨.ref C :: rest, kws⟩) Q E ⟨h, g, d, t, os⟩ := by
  repeat (first | with_reducible refine wpAny_madeBy_exc cl ?_ | with_reducible refine wpAny_loadPart_at cl ?_ | wp_step)
  refine codeAny_call_builtin_code (Code.quiet_builtin _ F.quiet) (ekw_new_check F hT cl ?_)
  refine ekw_new F hT cl lr ?_
  show wpAny _ _ _ _ _ _
  have kk : ∀ b o, h.get? b = some o → ((h.push (W.kdv_tup rest)).push (excO C h.objs.size)).get? b = some o := fun b o e => Heap.get?_push_of_some _ (Heap.get?_push_of_some _ e)
  have cl1 := kk _ _ cl
  have at_ : ((h.push (W.kdv_tup rest)).push (excO C h.objs.size)).get? (h.objs.size + 1) = some (excO C h.objs.size) := by heap_get
  have inC : (Value.ref C :: bm).contains (.ref C) = true := by simp
  have i1 := hi.keeps kk
  have b1 := (hb (.ref (h.objs.size + 1))).keeps kk
  unfold isInstance
  repeat (first | with_reducible refine wpAny_loadPart_at at_ ?_ | (with_reducible refine wpAny_isSubtype_exc cl1 ?_; rw [inC]) | wp_step)
  show wpAny _ _ (typeLookup (.ref C) _) _ _ _
  refine i1.at ?_
  refine wpAny_holding (wpAny_bind (b1.at ?_))
  refine wpAny_bind (wpAny_call (codeAny_mono go fun r s' z => ?_))
  rcases r with e | (v | _ | _ | _) <;> first | exact z | exact z.elim | skip
  obtain ⟨rfl, z⟩ := z
  first
    | exact wpAny_pure (wpAny_pure z)
    | (wp_walk; exact z)
theorem ekw_call (F : ExcBaseFacts B newId initId bmB) (hT : ∀ X : String, bm.contains (.type X) = bmB.contains (.type X)) {fI : Addr} (cl : h.get? C = some (excClassObj nm q C N bs bm hdct sn sub ab col dd k0 k1 k2 k3 k5 newId))
    (hi : W.Looks (model prog w) h (typeLookup (.ref C) "__init__") (some (.ref fI))) (hb : ∀ self, W.Looks (model prog w) h (bindSpecial (.ref fI) self) (.ref fI, [self])) (lr : rest.length ≤ sizeLine)
    (go : codeAny (model prog w) (A.under (.builtin "type.__call__" ⟨.ref C :: rest, kws⟩)) (.call (.ref fI) ⟨.ref (h.objs.size + 1) :: rest, kws⟩) (W.InitBack (h.objs.size + 1) R) ⟨(h.push (W.kdv_tup rest)).push (excO C h.objs.size), g, d, t, os⟩) :
    codeAny (model prog w) A (.call (.ref C) ⟨rest, kws⟩) R ⟨h, g, d, t, os⟩ := by
  have l1 := tc_lookup
  have l2 := tc_bind (.ref C)
  have ty : (⟨h, g, d, t, os⟩ : Shared).TypeIs (.ref C) "type" := ⟨_, cl, rfl⟩
  refine codeAny_of_tree ?_
  show wpAny _ _ (callAny (.ref C) _) _ _ _
  repeat (any_goals (first | with_reducible refine wpAny_loadPart_at cl ?_ | assumption | wp_step))
  refine ⟨rfl, ?_⟩
  refine codeAny_call_builtin_at (Code.quiet_builtin _ (by decide +kernel)) entry_typeCall (ekw_check cl (ekw_type F hT cl hi hb lr ?_))
  refine codeAny_mono go fun r s' z => ?_
  rcases r with e | (v | _ | _ | _) <;> exact z
end
end AM
namespace AM
open PySem PySem.Spec PyProof.Rows L2
section
variable {X : Cx} {pins : List (Addr × Obj)} {σ : L2.St} {H1 : Hp} {s1 : Shared} {C fI : Addr} {f y q : Str} {v : V} {u : Value} {B newId initId : String} {bmB : List Value} {params : Arguments} {scope : Scope} {fd : FuncData} {p1 p2 p3 p4 : Pos} {k : Nat} {rest : List Value} {kws : List (Str × Value)} {Q : VK}
theorem mkx_core (T : RzC X.K C fI f B newId initId bmB) (D : FunD X.K "__init__" q params (initB y f p1 p2 p3 p4) scope [] [] fI fd) (S : FnScope [("self" : Str), y] [("self" : Str), y] scope) (hr : Room (k + 2) X.A)
    (hb : ∀ (kV doc pm : Value) (an : Option Addr) (cdv ct : Value) (a : Addr), bindArgs (PySem.W.fnOf "__init__" q params (initB y f p1 p2 p3 p4) scope .none kV doc pm an cdv ct) ⟨.ref a :: rest, kws⟩ = pure [(("self" : Str), Value.ref a), (y, u)])
    (hd : (y == ("__debug__" : Str)) = false) (hcd : (y == ("__classdict__" : Str)) = false) (hs : ∀ env : Env, env.scope = scope → swapsWith (.Name y p3) (some (.Attribute (.Name "self" p1) f p2)) p4.line env = pure false) (lr : rest.length ≤ sizeLine)
    (I1 : Inv X pins σ H1 s1) (ru : RelV v u) (go : ∀ a d, H1 a = none → H1 d = none → d ≠ a → Q (.ref a) (upd (upd H1 d (exd d [(f, v)])) a (exo a C (some d)))) :
    wpAny (model X.prog X.w) X.A (call (.ref C) rest kws) (EP X pins σ Q) X.xe s1 := by
  obtain ⟨hp, g, dr, tk, os⟩ := s1
  obtain ⟨nm, N', qn, bs, bm, hdct, sn, sub, ab, col, dd, k0, k1, k2, k3, k5, hC, hT⟩ := PySem.W.excInit_of I1.kIn T.ini
  have up : hp.objs.size ≤ hp.objs.size + 1 := Nat.le_succ _
  have kk : ∀ b o, hp.get? b = some o → ((hp.push (PySem.W.kdv_tup rest)).push (PySem.HandSPX.excO C hp.objs.size)).get? b = some o := fun b o z => Heap.get?_push_of_some _ (Heap.get?_push_of_some _ z)
  have got : ((hp.push (PySem.W.kdv_tup rest)).push (PySem.HandSPX.excO C hp.objs.size)).get? (hp.objs.size + 1) = some (PySem.HandSPX.excO C hp.objs.size) := by heap_get
  have J1 : Inv X pins σ (upd H1 (hp.objs.size + 1) (exo (hp.objs.size + 1) C none)) ⟨(hp.push (PySem.W.kdv_tup rest)).push (PySem.HandSPX.excO C hp.objs.size), g, dr, tk, os⟩ := I1.laid (t' := tk) kk up (exo_ok got)
  have fr : H1 (hp.objs.size + 1) = none := I1.hok.fresh up
  obtain ⟨oc, od, dV, kV, doc, pm, an, cdv, ct, osl, rfl, lk, hcode, hD, _⟩ := D.ex
  have rv : Vals [V.ref (hp.objs.size + 1), v] [Value.ref (hp.objs.size + 1), u] := .cons rfl (.cons ru .nil)
  have hrm : Room (k + 1) (X.A.under (.builtin "type.__call__" ⟨.ref C :: rest, kws⟩)) := Room.make (k := k + 1) hr C rest kws
  rcases hD with ⟨_, rfl⟩ | ⟨z, _⟩
  · have run := LamX.run_ofS (CX := L2N.CX X.prog X.w) (Q := fun w H2 => w = .non ∧ ∃ d, H1 d = none ∧ d ≠ hp.objs.size + 1 ∧ H2 = upd (upd (upd H1 (hp.objs.size + 1) (exo (hp.objs.size + 1) C none)) d (exd d [(f, v)])) (hp.objs.size + 1) (exo (hp.objs.size + 1) C (some d))) (E := fun _ _ _ => False)
      (us := [.ref (hp.objs.size + 1), u]) (args := ⟨.ref (hp.objs.size + 1) :: rest, kws⟩) lk hcode S hrm (J1.env0.make C rest kws) (.of_eq (hb kV doc pm an cdv ct (hp.objs.size + 1))) rv rfl fun _ => ?_
    · refine wpAny_call (ekw_call T.fb hT hC (PySem.W.looks_findIn I1.kIn T.iC) (fun self => PySem.W.bind_fn I1.kIn self T.tI) lr (codeAny_mono run fun r s' hq => ?_))
      cases r with
      | error er =>
        obtain ⟨_, _, _, _, _, _, _, _, _, _, _, _, z⟩ := hq
        exact z.elim
      | ok fl =>
        cases fl with
        | ret w0 =>
          obtain ⟨v0, H2, os2, bare2, un2, hok2, r0, ev0, d, nd, da, eH⟩ := hq
          subst ev0
          have J2 := J1.call' (ch := []) os2 un2 hok2 bare2 fun b z => (nomatch z)
          have e2 : H2 = upd (upd H1 d (exd d [(f, v)])) (hp.objs.size + 1) (exo (hp.objs.size + 1) C (some d)) := by
            rw [eH]
            funext b
            by_cases h1 : b = hp.objs.size + 1
            · rw [h1, upd_same, upd_same]
            rw [upd_ne h1, upd_ne h1]
            by_cases h2 : b = d
            · rw [h2, upd_same, upd_same]
            · rw [upd_ne h2, upd_ne h2, upd_ne h1]
          exact ⟨r0, .ref (hp.objs.size + 1), H2, J2, rfl, by rw [e2]; exact go _ d fr nd da⟩
        | next => exact hq.elim
        | brk => exact hq.elim
        | cont => exact hq.elim
    · refine ⟨_, rz_body (Z := cxOf (L2N.CX X.prog X.w) X.prog X.w X.K X.mg X.base [("self" : Str), y] q scope fI cdv _ _ _ _ _) T rfl ((S.par "self" (by simp)).elim .inl fun k => .inr (.inl k)) ((S.par y (by simp)).elim .inl fun k => .inr (.inl k)) hd hcd (hs _ rfl), hp.objs.size + 1, v, rfl, rfl, upd_same, fun dx n ne => ?_⟩
      refine ⟨rfl, dx, ?_, ne, rfl⟩
      rw [upd_ne ne] at n
      exact n
  · exact absurd rfl z
end
def dMkX (c : Nat) (f : Str) (g : EF) : EF := fun env st => (g env st).bind fun d st' => .ok (.exx c [(f, d)]) st'
section
variable {X : Cx} {Γ : Nat → Addr} {W : WX} {e : Expr} {g : EF} {f x : Str} {c k : Nat} {p pos kpos : Pos}
theorem mkx_end {w : Wd} {env : AEnv} {st : Sto} {σ : L2.St} {H1 : Hp} {d : D} {v : V} {Q : VK} (r : Rel (XC X Γ) w env st σ H1) (dv : Den (XC X Γ) w.ρ w.S H1 v d) (p : Post Den (XC X Γ) W w H1 σ (.ok (.exx c [(f, d)]) st) Q) (a dx : Addr) (na : H1 a = none) (nd : H1 dx = none) (ne : dx ≠ a) :
    Q (.ref a) (upd (upd H1 dx (exd dx [(f, v)])) a (exo a (Γ c) (some dx))) := by
  have r1 := r.new (o := exd dx [(f, v)]) nd
  have na1 : upd H1 dx (exd dx [(f, v)]) a = none := by rw [upd_ne (Ne.symm ne)]; exact na
  have x1 : Ext (XC X Γ) w.ρ H1 w.ρ (upd H1 dx (exd dx [(f, v)])) := Ext.new nd
  have x2 : Ext (XC X Γ) w.ρ (upd H1 dx (exd dx [(f, v)])) w.ρ (upd (upd H1 dx (exd dx [(f, v)])) a (exo a (Γ c) (some dx))) := Ext.new na1
  refine p w.ρ _ (.ref a) (r1.newSto na1) (x1.trans x2) (.exx (dx := some dx) (gs := [(f, v)]) upd_same (r.fresh na) ⟨by rw [upd_ne ne, upd_same], r.fresh nd⟩ (.cons ((dv.new r nd).new r1 na1) .nil))
theorem pd_mkx (G : Go X W k) (R : Rz X.K X.mg Γ x c f) (he : PE X e (tD (XC X Γ) W g)) (hj : 2 ≤ k := by decide) (hg : Gl X x := by rfl) (hdb : (x == ("__debug__" : Str)) = false := by decide)
    (hst : starEach [e] X.env = (false, eval e X.env) :: starEach [] X.env := by rfl) (hpl : (backTo pos (starEach [] X.env)).any (·.1) = false := by rfl) :
    PE X (.Call (.Name x p) [e] [] pos) (tD (XC X Γ) W (dMkX c f g)) := by
  obtain ⟨fI, B, newId, initId, bmB, q, y, params, scope, fd, p1, p2, p3, p4, T, D, S, hb, h1, h2, h3⟩ := R.ex
  refine ⟨fun pins s σ H Q I ⟨w, env, st, r, p0⟩ => ?_⟩
  refine wpAny_Call_Name_kw (ld_glob I hg R.glob ?_ hdb)
  refine PySem.W.callWith_K (h₀ := X.base) I.ok.mod.kin T.kC (thn ((pa_cons he pa_nil hst).run pos pins s σ H (fun vs H1 => ∃ v, vs = [v] ∧ ∃ w1 st1 d, Rel (XC X Γ) w1 env st1 σ H1 ∧ Den (XC X Γ) w1.ρ w1.S H1 v d ∧ Post Den (XC X Γ) W w1 H1 σ (.ok (.exx c [(f, d)]) st1) Q) I
    ⟨w, env, st, r, (Post.bind (Da := Den) r p0).mono fun v H1 ⟨w1, st1, d, z1, _, _, z2, z3⟩ => ⟨v, rfl, w1, st1, d, z1, z2, z3⟩⟩) fun us s1 ⟨vs, H1, I1, r1, v, ev, w1, st1, d, rl, dv, p1⟩ => ⟨I1.kIn, ?_⟩) hst hpl
  subst ev
  cases r1 with
  | @cons _ u _ _ ru rn =>
    cases rn
    show wpAny _ _ (call (.ref (Γ c)) [u] []) _ _ _
    exact mkx_core (k := 0) T D S (G.rm.mono hj) (fun kV doc pm an cdv ct a => hb kV doc pm an cdv ct [.ref a, u] rfl) h1 h2 h3 (by show 1 ≤ sizeLine; rw [sizeLine_eq]; omega) I1 ru fun a dx na nd ne => mkx_end rl dv p1 a dx na nd ne
end
end AM
namespace AM
open PySem PySem.Spec PyProof.Rows L2 L2H
structure RzY (K : PySem.W.Frag) (mg : Str → Option Value) (Γ : Nat → Addr) (x : Str) (c : Nat) (f y : Str) : Prop where
  ex : ∃ (fI : Addr) (B newId initId : String) (bmB : List Value) (q : Str) (params : Arguments) (scope : Scope) (fd : FuncData) (p1 p2 p3 p4 : Pos), RzC K (Γ c) fI f B newId initId bmB ∧
    FunD K "__init__" q params (initB y f p1 p2 p3 p4) scope [] [] fI fd ∧ FnScope [("self" : Str), y] [("self" : Str), y] scope ∧
    (∀ (kV doc pm : Value) (an : Option Addr) (cdv ct : Value) (a : Addr) (u : Value), bindArgs (PySem.W.fnOf "__init__" q params (initB y f p1 p2 p3 p4) scope .none kV doc pm an cdv ct) ⟨[.ref a], [(y, u)]⟩ = pure [(("self" : Str), Value.ref a), (y, u)]) ∧
    (y == ("__debug__" : Str)) = false ∧ (y == ("__classdict__" : Str)) = false ∧ ∀ env : Env, env.scope = scope → swapsWith (.Name y p3) (some (.Attribute (.Name "self" p1) f p2)) p4.line env = pure false
  glob : mg x = some (.ref (Γ c))
section
variable {X : Cx} {Γ : Nat → Addr} {W : WX} {e b : Expr} {g fe : EF} {f x y : Str} {c k : Nat} {p pos kpos : Pos}
theorem pd_mkxK (G : Go X W k) (R : RzY X.K X.mg Γ x c f y) (he : PE X e (tD (XC X Γ) W g)) (hj : 2 ≤ k := by decide) (hg : Gl X x := by rfl) (hdb : (x == ("__debug__" : Str)) = false := by decide)
    (hall : (backToKw pos (keywordEach [⟨some y, e, kpos⟩] X.env)).all (·.1.isSome) = true := by rfl) (hks : (backToKw pos (keywordEach [⟨some y, e, kpos⟩] X.env)).filterMap (·.1) = [y] := by rfl)
    (hpl : ((backTo pos (starEach [] X.env)).any (·.1) || (backToKw pos (keywordEach [⟨some y, e, kpos⟩] X.env)).any (·.1.isNone)) = false := by rfl) :
    PE X (.Call (.Name x p) [] [⟨some y, e, kpos⟩] pos) (tD (XC X Γ) W (dMkX c f g)) := by
  obtain ⟨fI, B, newId, initId, bmB, q, params, scope, fd, p1, p2, p3, p4, T, D, S, hb, h1, h2, h3⟩ := R.ex
  refine ⟨fun pins s σ H Q I ⟨w, env, st, r, p0⟩ => ?_⟩
  refine wpAny_Call_Name_kw (ld_glob I hg R.glob ?_ hdb)
  refine PySem.W.callWith_KW0 (h₀ := X.base) I.ok.mod.kin T.kC hall (thn ((pk_cons (nm := some y) (kpos := kpos) he pk_nil).run pos pins s σ H (fun vs H1 => ∃ v, vs = [v] ∧ ∃ w1 st1 d, Rel (XC X Γ) w1 env st1 σ H1 ∧ Den (XC X Γ) w1.ρ w1.S H1 v d ∧ Post Den (XC X Γ) W w1 H1 σ (.ok (.exx c [(f, d)]) st1) Q) I
    ⟨w, env, st, r, (Post.bind (Da := Den) r p0).mono fun v H1 ⟨w1, st1, d, z1, _, _, z2, z3⟩ => ⟨v, rfl, w1, st1, d, z1, z2, z3⟩⟩) fun ws s1 ⟨vs, H1, I1, rv, v, ev, w1, st1, d, rl, dv, p1⟩ => ⟨I1.kIn, ?_⟩) hpl
  rw [hks]
  subst ev
  cases rv with
  | @cons _ u _ _ ru rn =>
    cases rn
    show wpAny _ _ (call (.ref (Γ c)) [] [(y, u)]) _ _ _
    exact mkx_core (k := 0) T D S (G.rm.mono hj) (fun kV doc pm an cdv ct a => hb kV doc pm an cdv ct a u) h1 h2 h3 (Nat.zero_le _) I1 ru fun a dx na nd ne => mkx_end rl dv p1 a dx na nd ne
def dMk0 (c : Nat) : EF := fun _ st => .ok (.exx c []) st
theorem pd_mkx0 (R : Rz0 X.K X.mg Γ x c) (hg : Gl X x := by rfl) (hdb : (x == ("__debug__" : Str)) = false := by decide) :
    PE X (.Call (.Name x p) [] [] pos) (tD (XC X Γ) W (dMk0 c)) := by
  obtain ⟨B, newId, initId, F, q⟩ := R.ex
  refine ⟨fun pins s σ H Q I ⟨w, env, st, r, p0⟩ => ?_⟩
  refine wpAny_Call_Name_kw (ld_glob I hg R.glob ?_ hdb)
  refine PySem.W.callWith_K0 I.kIn R.kC ?_
  show wpAny _ _ (call (.ref (Γ c)) []) _ _ _
  obtain ⟨F, q⟩ := q
  obtain ⟨bm, N, nm, qn, bs, hdct, sn, sub, ab, col, dd, k0, k1, k2, k3, k5, mN, hC, hN, hni, T⟩ := exc_obj I.kIn q
  refine wpAny_call_exc_subT F T hC hN hni (fun h' a hm => ?_) (by show 0 ≤ sizeLine; omega)
  obtain ⟨t, he, _, _⟩ := hm.there
  have na := I.hok.gone hm.new
  have I2 : Inv X pins σ (upd H a (exo a (Γ c) none)) { s with heap := h' } := I.laidN (t' := s.toks) hm.keeps hm.new na (exo_ok he)
  exact ⟨.ref a, _, I2, rfl, p0 w.ρ _ (.ref a) (r.newSto na) (Ext.new na) (.exx (dx := none) (gs := []) upd_same (r.fresh na) rfl .nil)⟩
theorem exo_inst {pins : List (Addr × Obj)} {σ : L2.St} {H : Hp} {s : Shared} {a C : Addr} {dx : Option Addr} {gs : List (Str × V)} (I : Inv X pins σ H s) (e : H a = some (exo a C dx)) (hd : ∀ d, dx = some d → H d = some (exd d gs)) :
    ∃ (oe : Obj) (od : Option Obj), PySem.W.InstAt s.heap a oe C od := by
  obtain ⟨t, ho⟩ := exo_at I.hok e
  cases dx with
  | none => exact ⟨_, none, ho, rfl, rfl, trivial⟩
  | some d =>
    obtain ⟨mA, ns, rel⟩ := exd_at I.hok (hd d rfl)
    obtain ⟨od, ho2, hl⟩ := lookIn_ns ns
    exact ⟨_, some od, ho, rfl, rfl, ho2⟩
def oIsXe (live : List Nat) (b : Nat → Bool) : Op1 := fun d st => match d with
  | .exx c _ => if c ∈ live then .ok (.bl (b c)) st else .bad
  | _ => .bad
def rIsXe (K : PySem.W.Frag) : List V → Hp → VK → Prop := fun xs H Q => ∃ (cv : V) (u : Value) (b : Bool) (a C : Addr) (dx : Option Addr) (gs : List (Str × V)), xs = [.ref a, cv] ∧ ClsV cv u ∧ PySem.W.kitOne K (.ref C) u = some b ∧ XvC K C ∧ H a = some (exo a C dx) ∧ (∀ d, dx = some d → H d = some (exd d gs)) ∧ Q (.bl b) H
theorem call_isXe : CallR X (.builtin "isinstance") (rIsXe X.K) := by
  intro pins s σ H xs us Q I r hq
  obtain ⟨cv, u, b, a, C, dx, gs, rfl, hc, hk, xv, ha, hd, q⟩ := hq
  cases r with
  | cons r1 r2 =>
    cases r2 with
    | cons r3 r4 =>
      cases r4
      cases r1
      have e := hc.eq r3
      subst e
      obtain ⟨oe, od, J⟩ := exo_inst I ha hd
      have Z := PySem.W.kitx_exc (x := a) (ox := oe) (od := od) xv.cl xv.ga xv.gg xv.ex xv.ca xv.sp xv.tk xv.mr
      exact PySem.W.kia_one Z I.kIn J hk (fun z => (nomatch z)) fun tk => ⟨.bl b, H, I.kept (t' := tk) fun _ _ z => z, rfl, q⟩
theorem den_exx {K : Ct} {w : Wd} {H : Hp} {v : V} {fs : List (Str × D)} {c : Nat} (d : DenB K w.ρ w.S H v (.exx c fs)) : ∃ a dx gs, v = .ref a ∧ H a = some (exo a (K.Γ c) dx) ∧ XdE H w.S dx gs ∧ DenF K w.ρ w.S H gs fs := by
  have d : Den K w.ρ w.S H v (.exx c fs) := d
  cases d with
  | exx h1 _ h3 h4 => exact ⟨_, _, _, rfl, h1, h3, h4⟩
theorem xde {H : Hp} {S : Addr → Prop} {dx : Option Addr} {gs : List (Str × V)} (h : XdE H S dx gs) : ∀ d, dx = some d → H d = some (exd d gs) := fun d e => by
  subst e
  exact h.1
theorem pd_isXe {live : List Nat} {bb : Nat → Bool} {v : V} {u : Value} (hl : ∀ c ∈ live, XvC X.K (Γ c) ∧ PySem.W.kitOne X.K (.ref (Γ c)) u = some (bb c)) (hc : ClsV v u) (he : PE X e (tDB (XC X Γ) W fe)) (hb : PE X b (tC v)) (hm : X.mg "isinstance" = none) (hg : Gl X "isinstance" := by rfl)
    (hs : starEach (e :: [b]) X.env = (false, eval e X.env) :: starEach [b] X.env := by rfl) (hs2 : starEach (b :: []) X.env = (false, eval b X.env) :: starEach [] X.env := by rfl) (hpl : (backTo pos (starEach [b] X.env)).any (·.1) = false := by rfl) :
    PE X (.Call (.Name "isinstance" p) [e, b] [] pos) (tD (XC X Γ) W (dOp1 (oIsXe live bb) fe)) := peImp (pe_callB call_isXe hg hm (by decide +kernel) (pa_cons he (pa_cons hb pa_nil hs2) hs) (by decide) (by decide) hs hpl) fun σ H Q hh => by
  obtain ⟨w, env, st, r, p⟩ := t1 (Da := DenB) (g := fun env d st => oIsXe live bb d st) hh
  refine ⟨w, env, st, r, p.mono ?_⟩
  rintro x H1 ⟨w1, env1, st1, d, r1, d1, p1⟩
  cases d with
  | exx c fs =>
    change Post Den (XC X Γ) W w1 H1 σ (if c ∈ live then .ok (.bl (bb c)) st1 else .bad) Q at p1
    split at p1
    · rename_i q
      obtain ⟨a, dx, gs, ev, ha, hx, hf⟩ := den_exx d1
      exact ⟨v, u, bb c, a, _, dx, gs, by rw [ev], hc, (hl c q).2, (hl c q).1, ha, xde hx, Post.ok r1 p1 (.bl (bb c))⟩
    · exact p1.elim
  | _ => exact p1.elim
def oXa (live : List Nat) (f : Str) : Op1 := fun d st => match d with
  | .exx c fs => if c ∈ live then (match fs.lookup f with
    | some x => .ok x st
    | none => .bad) else .bad
  | _ => .bad
theorem pd_xa {live : List Nat} (hl : ∀ c ∈ live, XvC X.K (Γ c) ∧ PySem.W.findIn X.K (.ref (Γ c)) f = some none) (he : PE X e (tDB (XC X Γ) W fe)) (hb : attributeBase e f X.env (eval e X.env) = eval e X.env := by rfl) :
    PE X (.Attribute e f pos) (tD (XC X Γ) W (dOp1 (oXa live f) fe)) := by
  refine ⟨fun pins s σ H Q I hh => ?_⟩
  have h0 := t1 (Da := DenB) (g := fun env d st => oXa live f d st) hh
  refine attr_of hb (thn (he.run pins s σ H _ I h0) fun y s1 ⟨x, H1, I1, rx, w1, env1, st1, d, r1, d1, p1⟩ => ?_)
  cases d with
  | exx c fs =>
    change Post Den (XC X Γ) W w1 H1 σ (if c ∈ live then (match fs.lookup f with
      | some x => .ok x st1
      | none => .bad) else .bad) Q at p1
    split at p1
    · rename_i q
      obtain ⟨a, dx, gs, ev, ha, hx, hf⟩ := den_exx d1
      subst ev
      obtain rfl : y = Value.ref a := rx
      cases hlk : fs.lookup f with
      | none => rw [hlk] at p1; exact p1.elim
      | some z =>
        rw [hlk] at p1
        obtain ⟨vv, lv, dv⟩ := hf.lookup hlk
        cases dx with
        | none =>
          have hx : gs = [] := hx
          subst hx
          cases hf
          cases hlk
        | some dx =>
          obtain ⟨t, ho⟩ := exo_at I1.hok ha
          obtain ⟨mA, ns, rel⟩ := exd_at I1.hok hx.1
          obtain ⟨od, ho2, look⟩ := lookIn_ns ns
          have J : PySem.W.InstAt s1.heap a _ (Γ c) (some od) := ⟨ho, rfl, rfl, ho2⟩
          obtain ⟨u2, hu, ru⟩ := RelO.some_of (v := vv) (o := mA f) (by rw [← lv]; exact rel f)
          obtain ⟨xv, hno⟩ := hl c q
          exact HandSPX.exc_get I1.kIn J xv.ga xv.gg xv.ex (PySem.W.findObj_own xv.hd hno rfl (by rw [look, hu])) (handed_of ru) ⟨vv, H1, I1.tok _, ru, Post.ok r1 p1 dv⟩
    · exact p1.elim
  | _ => exact p1.elim
end
end AM
namespace AM
open PySem PySem.Spec PyProof.Rows L2
section
variable {X : Cx} {Γ : Nat → Addr} {W : WX}
variable {o a : Expr} {fo fe : EF} {pos : Pos} {k : Nat}
end
end AM
namespace AM
open PySem PySem.Spec PyProof.Rows L2
end AM
namespace AM
open PySem PySem.Spec PyProof.Rows L2
def tFrzE (t : TE) : TE := fun σ H Q => t σ H fun x H1 => ∃ d kvs, x = .ref d ∧ H1 d = some (.dK kvs) ∧ ∀ od, Q x (upd H1 d (.frz od (.dK kvs)))
section
variable {X : Cx}
theorem pe_frz {e : Expr} {t : TE} (h : PE X e t) : PE X e (tFrzE t) := by
  refine ⟨fun pins s σ H Q I hw => ?_⟩
  refine thn (h.run pins s σ H _ I hw) fun v s1 ⟨x, H1, I1, rx, d, kvs, ex, hd, q⟩ => ?_
  obtain ⟨od, I2⟩ := I1.lock hd trivial
  exact ⟨x, _, I2, rx, q od⟩
end
end AM
namespace AM
open PySem PySem.Spec PyProof.Rows L2
section
variable {K : Ct} {ρ : List Addr} {S : Addr → Prop} {H : Hp}
theorem DenK.val : ∀ {kvs : List (Key × V)} {r : List (Key × D)}, DenK K ρ S H kvs r → ∀ key : Key, (valV kvs key = none ∧ valD r key = none) ∨ ∃ u d, valV kvs key = some u ∧ valD r key = some d ∧ Den K ρ S H u d
  | _, _, .nil, key => .inl ⟨rfl, rfl⟩
  | _, _, .cons (k := kk) (v := u) (d := d) (vs := vs) (ds := r) h t, key => by
    by_cases e : kk = key
    · exact .inr ⟨u, d, valV_pos (p := (kk, u)) e, by simp [valD, List.find?_cons, e], h⟩
    · have e1 : valV ((kk, u) :: vs) key = valV vs key := valV_neg (p := (kk, u)) e
      have e2 : valD ((kk, d) :: r) key = valD r key := by simp [valD, List.find?_cons, e]
      rw [e1, e2]
      exact DenK.val t key
theorem DenK.keys : ∀ {kvs : List (Key × V)} {r : List (Key × D)}, DenK K ρ S H kvs r → kvs.map (·.1) = r.map (·.1)
  | _, _, .nil => rfl
  | _, _, .cons _ t => by rw [List.map_cons, List.map_cons, DenK.keys t]
theorem DenK.length {kvs : List (Key × V)} {r : List (Key × D)} (h : DenK K ρ S H kvs r) : kvs.length = r.length := by
  have := congrArg List.length h.keys
  rwa [List.length_map, List.length_map] at this
end
section
variable {X : Cx} {Γ : Nat → Addr} {W : WX} {p : Pos}
theorem pd_dk0 : PE X (.Dict [] [] p) (tD (XC X Γ) W (dC (.dk []))) := peImp (pe_frz pe_dnewK) fun σ H Q ⟨w, env, st, rl, pp⟩ q hn => ⟨q, [], rfl, upd_same, fun od => by
  rw [upd_upd]
  have r1 := rl.new (o := .frz od (.dK [])) hn
  exact pp w.ρ _ _ r1.sto (Ext.new hn) (.dk upd_same (rl.fresh hn) .nil)⟩
def dDkIx (fo fe : EF) : EF := fun env st => (fo env st).bind fun d st1 => match d with
  | .dk r => (fe env st1).bind fun e st2 => (match keyD e with
    | some k => (match valD r k with
      | some v => .ok v st2
      | none => .bad)
    | none => .bad)
  | _ => .bad
variable {o a : Expr} {fo fe : EF} {pos : Pos} {k : Nat}
end
end AM
namespace AM
open PySem PySem.Spec PyProof.Rows L2
theorem DenK.new {K : Ct} {w : Wd} {env : AEnv} {st : Sto} {σ : AM.St} {H : Hp} {p : Addr} {o : HO} {vs : List (Key × V)} {ds : List (Key × D)} (r : Rel K w env st σ H) (hp : H p = none) (h : DenK K w.ρ w.S H vs ds) : DenK K w.ρ w.S (upd H p o) vs ds := h.mono (Ext.new hp) (fun a h => .inl h) fun a h => .inl h
def keyE : Key → D
  | .inl n => .int n
  | .inr s => .str s
section
variable {X : Cx} {Γ : Nat → Addr} {W : WX}
end
end AM
namespace AM
open PySem PySem.Spec PyProof.Rows L2
def putDk (r : List (Key × D)) (k : Key) (d : D) : List (Key × D) :=
  if (r.any fun kd => decide (kd.1 = k)) = true then r.map (fun kd => if kd.1 = k then (kd.1, d) else kd) else r ++ [(k, d)]
section
variable {K : Ct} {ρ : List Addr} {S : Addr → Prop} {H : Hp}
theorem DenK.any : ∀ {kvs : List (Key × V)} {r : List (Key × D)} {k : Key}, DenK K ρ S H kvs r → (kvs.any fun kv => decide (kv.1 = k)) = (r.any fun kd => decide (kd.1 = k))
  | _, _, _, .nil => rfl
  | _, _, _, .cons _ t => by rw [List.any_cons, List.any_cons, DenK.any t]
theorem DenK.mapPut {v : V} {d : D} {k : Key} (h : Den K ρ S H v d) : ∀ {kvs : List (Key × V)} {r : List (Key × D)}, DenK K ρ S H kvs r → DenK K ρ S H (kvs.map fun kv => if kv.1 = k then (kv.1, v) else kv) (r.map fun kd => if kd.1 = k then (kd.1, d) else kd)
  | _, _, .nil => .nil
  | _, _, .cons (k := kk) h1 t => by
    rw [List.map_cons, List.map_cons]
    by_cases e : kk = k
    · rw [if_pos e, if_pos e]
      exact .cons h (DenK.mapPut h t)
    · rw [if_neg e, if_neg e]
      exact .cons h1 (DenK.mapPut h t)
theorem DenK.snoc {v : V} {d : D} {k : Key} (h : Den K ρ S H v d) : ∀ {kvs : List (Key × V)} {r : List (Key × D)}, DenK K ρ S H kvs r → DenK K ρ S H (kvs ++ [(k, v)]) (r ++ [(k, d)])
  | _, _, .nil => .cons h .nil
  | _, _, .cons h1 t => .cons h1 (DenK.snoc h t)
theorem DenK.put {v : V} {d : D} {k : Key} {kvs : List (Key × V)} {r : List (Key × D)} (t : DenK K ρ S H kvs r) (h : Den K ρ S H v d) : DenK K ρ S H (putK kvs k v) (putDk r k d) := by
  unfold putK putDk
  rw [t.any]
  split
  · exact t.mapPut h
  · exact t.snoc h
end
section
variable {X : Cx} {Γ : Nat → Addr} {W : WX} {f : EF} {h : SF} {e : Expr} {rest : List Stmt} {x y z dn : Str} {p0 p1 p2 p3 p4 p5 pos pos1 pos2 : Pos} {kk : Nat}
end
end AM
namespace AM
open PySem PySem.Spec PyProof.Rows L2
section
variable {K : Ct} {w : Wd} {H : Hp}
end
section
variable {X : Cx} {Γ : Nat → Addr} {W : WX} {tg l : Expr} {f : EF}
def keysD : D → Sto → Res (List D) := fun d st => match d with
  | .dk r => .ok (r.map fun kd => keyE kd.1) st
  | _ => .bad
def iKeyD (f : EF) : IF := fun env st => (f env st).bind keysD
end
end AM
namespace AM
open PySem PySem.Spec PyProof.Rows L2
section
variable {K : Ct} {w : Wd} {env : AEnv} {st : Sto} {σ : St} {H H' : Hp} {a : Addr} {o0 : HO} {vs ws : List (Key × V)}
theorem SqT.putK {b : Addr} {us : List V} (ha : H a = some (.dK vs)) (h : SqT K.K H b us) : SqT K.K (L2.upd H a o0) b us := by
  rcases h with (q | ⟨o, q⟩) | q
  · exact .inl (.inl (by rw [upd_ne (ne_of q ha (by intro z; cases z))]; exact q))
  · exact .inl (.inr ⟨o, by rw [upd_ne (ne_of q ha (by intro z; cases z))]; exact q⟩)
  · exact .inr q
end
section
variable {X : Cx} {Γ : Nat → Addr} {W : WX} {kx vx tg iter : Expr} {ifs : List Expr} {fk fv : EF} {fi : IF} {t : TF} {pos : Pos} {scope : Scope} {own : List (Str × Nat)} {tup : Bool} {is : List Nat}
end
end AM
namespace AM
open PySem PySem.Spec PyProof.Rows L2
section
variable {K : Ct} {w : Wd} {H : Hp}
end
section
variable {X : Cx} {Γ : Nat → Addr} {W : WX}
end
end AM
namespace AM
open PySem PySem.Spec PyProof.Rows L2
end AM
namespace AM
open PySem PySem.Spec PyProof.Rows L2
section
variable {X : Cx} {Γ : Nat → Addr} {W : WX}
end
end AM
namespace AM
open PySem PySem.Spec PyProof.Rows L2
section
variable {X : Cx} {Γ : Nat → Addr} {W : WX} {o : Expr} {fo : EF} {pos : Pos} {x : Str}
end
end AM
namespace AM
open PySem PySem.Spec PyProof.Rows L2
section
variable {X : Cx} {pins : List (Addr × Obj)} {σ : L2.St} {H : Hp} {s : Shared} {h' : Heap}
end
end AM
namespace AM
open PySem PySem.Spec PyProof.Rows L2
section
variable {X : Cx} {e : Expr} {td : TE} {apos cpos : Pos}
end
end AM
namespace AM
open PySem PySem.Spec PyProof.Rows L2
end AM
namespace AM
open PySem PySem.Spec PyProof.Rows L2
section
variable {K : Ct} {w : Wd} {env : AEnv} {st : Sto} {σ : AM.St}
end
section
variable {X : Cx} {Γ : Nat → Addr} {W : WX} {e : Expr} {f : EF} {apos cpos pos p0 : Pos} {dn : Str}
def itemsDk : D → Sto → Res D := fun d st => match d with
  | .dk r => .ok (.lst (r.map fun kd => D.tup [keyE kd.1, kd.2])) st
  | _ => .bad
def dItems (f : EF) : EF := fun env st => (f env st).bind itemsDk
end
end AM
namespace AM
open PySem PySem.Spec PyProof.Rows L2 TL
section
variable {V : D → Sto → Prop} {Ls : List D → Sto → Prop} {N : AEnv → Sto → Prop} {T : D → Sto → Prop} {env : AEnv} {st : Sto} {f fo fe fk fv : EF} {fi : IF} {t : TF}
theorem wx_dDkIx (h : Wx (fo env st) fun d s => ∃ r, d = .dk r ∧ Wx (fe env s) fun e s2 => ∃ k v, keyD e = some k ∧ valD r k = some v ∧ V v s2) : Wx (dDkIx fo fe env st) V := wx_bind (wx_mono h fun d s ⟨r, e, h⟩ => by
  subst e
  exact wx_bind (wx_mono h fun d2 s2 ⟨k, v, e1, e2, h⟩ => by
    show Wx (match keyD d2 with
      | some k => (match valD r k with
        | some v => .ok v s2
        | none => .bad)
      | none => .bad) V
    rw [e1]
    show Wx (match valD r k with
        | some v => .ok v s2
        | none => .bad) V
    rw [e2]
    exact .mk h))
theorem wx_dItems (h : Wx (f env st) fun d s => ∃ r, d = .dk r ∧ V (.lst (r.map fun kd => D.tup [keyE kd.1, kd.2])) s) : Wx (dItems f env st) V := wx_bind (wx_mono h fun d s ⟨r, e, h⟩ => by subst e; exact .mk h)
theorem wx_iKeyD (h : Wx (f env st) fun d s => ∃ r, d = .dk r ∧ Ls (r.map fun kd => keyE kd.1) s) : Wx (iKeyD f env st) Ls := wx_bind (wx_mono h fun d s ⟨r, e, h⟩ => by subst e; exact .mk h)
end
end AM
namespace PySem.W
open PySem PySem.Calls PyProof.Rows Builtin
section
variable {prog : Program} {w : World} {A : Around} {E : Value → Shared → Prop} {s : Shared} {K : Frag} {x C f : Addr} {ox : Obj} {od : Option Obj}
end
end PySem.W
namespace AM
open PySem PySem.Spec PyProof.Rows L2
section
variable {X : Cx} {Γ : Nat → Addr} {W : WX} {e o a b : Expr} {es : List Expr} {f fo fa fb : EF} {fs : EFs} {F : DF} {pos p apos : Pos} {j k c : Nat} {x m : Str}
structure KnI (P : Program) (w : World) (K : PySem.W.Frag) (mg : Str → Option Value) (base : Heap) (Γ : Nat → Addr) (k : Nat) (c : Nat) (m : Str) (F : DF) : Prop where
  ns : PySem.W.noSeq K (Γ c) = true
  ex : ∃ g, PySem.W.findIn K (.ref (Γ c)) m = some (some (.ref g)) ∧ PySem.W.isFn K (.ref g) = true ∧ PySem.W.fnIn K g = true ∧ FnV P w K mg base k g (spD ⟨K, Γ⟩ F)
theorem KnI.of {K : PySem.W.Frag} {P : Program} {w : World} {mg : Str → Option Value} {base : Heap} {Γ : Nat → Addr} {x m : Str} (e : Γ c = He.ga K x) (h : (He.Fa.meth x m).ok K = true) (h2 : (Fx.own x m).ok K = true) (g : FnV P w K mg base k (He.ma K (He.ga K x) m) (spD ⟨K, Γ⟩ F)) : KnI P w K mg base Γ k c m F := by
  have q := He.meth_ok h
  obtain ⟨z1, z2⟩ := own_ok h2
  exact ⟨by rw [e]; exact z1, _, by rw [e]; exact q.at_, q.fn, z2, g⟩
end
end AM
namespace AM
open PySem PySem.Spec PyProof.Rows L2
section
variable {X : Cx} {Γ : Nat → Addr} {W : WX} {p : Pos}
theorem pd_dk1 {z : Str} {n : Int} {q1 q2 : Pos} {j1 j2 : Nat} : PE X (.Dict [some (.Constant (.str z) j1 q1)] [.Constant (.int n) j2 q2] p) (tD (XC X Γ) W (dC (.dk [(.inr z, .int n)]))) := by
  refine peImp (pe_frz (pe_disp (pps_cons pe_str pe_int pps_nil) rfl rfl (fun z => nomatch z) (by simp))) fun σ H Q hq => ?_
  obtain ⟨w, env, st, r, pp⟩ := hq
  intro q hn
  refine ⟨upd_same, [(.inr z, .int n)], rfl, by simp, ?_⟩
  refine ⟨q, [(.inr z, .int n)], rfl, by rw [upd_upd, upd_same]; rfl, fun od => ?_⟩
  rw [upd_upd, upd_upd]
  have r1 := r.new (o := .frz od (.dK [(.inr z, .int n)])) hn
  exact pp w.ρ _ _ r1.sto (Ext.new hn) (.dk upd_same (r.fresh hn) (.cons (.int n) .nil))
end
end AM
namespace AM
open PySem PySem.Spec PyProof.Rows L2 L2H HotX
def keyPy : Key → PyData
  | .inl i => .int i
  | .inr x => .str x
mutual
def D.pyK : D → Option PyData
  | .non => some .none
  | .bl b => some (.bool b)
  | .int i => some (.int i)
  | .str s => some (.str s)
  | .tup ds => (pyKL ds).map .tuple
  | .lst ds => (pyKL ds).map .list
  | .dk r => (pyKK r).map .dict
  | _ => none
def pyKL : List D → Option (List PyData)
  | [] => some []
  | d :: ds => match D.pyK d, pyKL ds with
    | some x, some xs => some (x :: xs)
    | _, _ => none
def pyKK : List (Key × D) → Option (List (PyData × PyData))
  | [] => some []
  | (k, d) :: r => match D.pyK d, pyKK r with
    | some x, some xs => some ((keyPy k, x) :: xs)
    | _, _ => none
end
section
variable {X : Cx} {Γ : Nat → Addr} {W : WX} {pins : List (Addr × Obj)} {σ : AM.St} {H : Hp} {s : Shared}
theorem ram_le {h : Heap} {n m : Nat} {bs : List Addr} (r : ReadAtMost h n bs) (le : n ≤ m) : ReadAtMost h m bs := r.mono le
structure Shk (X : Cx) (s : Shared) (u : Value) (x : PyData) (bs as : List Addr) : Prop where
  m : ReadAtMost s.heap x.depth bs
  r : Reads s.heap u x as
  k : ReprK X.prog X.w bs s.heap x.depth u x.shown
structure ShkL (X : Cx) (s : Shared) (us : List Value) (xs : List PyData) (bs as : List Addr) : Prop where
  m : ReadAtMost s.heap (PyData.depthAll xs) bs
  r : ReadsAll s.heap us xs as
  k : ReprAllK X.prog X.w bs s.heap (PyData.depthAll xs) us (PyData.shownAll xs)
theorem Shk.leaf {u : Value} {x : PyData} {as : List Addr} (r : Reads s.heap u x as) (hd : x.hasDict = false) (hs : x.showable = true) (hz : x.shown.length ≤ sizeLine) : ∃ bs as, Shk X s u x bs as := by
  obtain ⟨bs, m, k⟩ := ReprK.of_reads (prog := X.prog) (w := X.w) r hs (PyData.noDict_hsm hd) hz
  exact ⟨bs, as, m, r, k⟩
theorem pair_len {a b c : Str} : a.length ≤ (a ++ b ++ c).length ∧ c.length ≤ (a ++ b ++ c).length := by
  constructor <;> rw [strLen_append, strLen_append] <;> omega
mutual
theorem Den.shK {K : Ct} {ρ : List Addr} {S : Addr → Prop} (hK : K.K = X.K) (I : Inv X pins σ H s) : ∀ {d : D} {v : V} {x : PyData} {u : Value}, Den K ρ S H v d → d.pyK = some x → RelV v u → x.showable = true → x.shown.length ≤ sizeLine → ∃ bs as, Shk X s u x bs as
  | .non, _, _, _, .non, e, r, hs, hz => by
    cases e
    cases r
    exact Shk.leaf .none (by simp only [PyData.hasDict]) hs hz
  | .bl _, _, _, _, .bl b, e, r, hs, hz => by
    cases e
    cases r
    exact Shk.leaf (.bool b) (by simp only [PyData.hasDict]) hs hz
  | .int _, _, _, _, .int i, e, r, hs, hz => by
    cases e
    obtain ⟨t, rfl⟩ := r
    exact Shk.leaf (.int i t) (by simp only [PyData.hasDict]) hs hz
  | .str _, _, _, _, .str x, e, r, hs, hz => by
    cases e
    obtain ⟨t, rfl⟩ := r
    exact Shk.leaf (.str x t) (by simp only [PyData.hasDict]) hs hz
  | .tup ds, _, _, _, .tup h t, e, r, hs, hz => by
    unfold D.pyK at e
    cases q : pyKL ds with
    | none => rw [q] at e; cases e
    | some xs =>
      rw [q] at e
      cases e
      cases r
      rw [hK] at h
      obtain ⟨its, rv, ⟨o, ho, hc, n, hd⟩, _⟩ := I.tuple h
      have hz2 : (tupleText (PyData.shownAll xs)).length ≤ sizeLine := by simpa only [PyData.shown] using hz
      obtain ⟨bs, as, g⟩ := Dens.shK hK I t q rv (by simpa [PyData.showable] using hs) fun y hy => Nat.le_trans (tupleText_mem_le hy) hz2
      have rr := Reads.tuple ho hc hd g.r
      have na := not_mem_of_deeper rr (show PyData.depthAll xs < _ by simp only [PyData.depth]; omega) g.m
      refine ⟨_, _, ReadAtMost.cons rr (show PyData.depthAll xs ≤ _ by simp only [PyData.depth]; omega) g.m, rr, ?_⟩
      simp only [PyData.depth, PyData.shown]
      exact ReprK.tuple ho hc hd na g.k
  | .lst ds, _, _, _, .lst h _ t, e, r, hs, hz => by
    unfold D.pyK at e
    cases q : pyKL ds with
    | none => rw [q] at e; cases e
    | some xs =>
      rw [q] at e
      cases e
      cases r
      obtain ⟨its, rv, ⟨o, n, ho, hc, _, hd⟩, _⟩ := I.list (.inl (.inl h))
      have hz2 : (listText (PyData.shownAll xs)).length ≤ sizeLine := by simpa only [PyData.shown] using hz
      obtain ⟨bs, as, g⟩ := Dens.shK hK I t q rv (by simpa [PyData.showable] using hs) fun y hy => Nat.le_trans (listText_mem_le hy) hz2
      have rr := Reads.list ho hc hd g.r
      have na := not_mem_of_deeper rr (show PyData.depthAll xs < _ by simp only [PyData.depth]; omega) g.m
      refine ⟨_, _, ReadAtMost.cons rr (show PyData.depthAll xs ≤ _ by simp only [PyData.depth]; omega) g.m, rr, ?_⟩
      simp only [PyData.depth, PyData.shown]
      have gk := g.k
      cases its with
      | nil =>
        have gr : ReadsAll s.heap [] xs as := g.r
        cases gr
        simp only [PyData.shownAll, listText_nil]
        exact ReprK.listEmpty ho hc hd
      | cons y l => exact ReprK.list ho hc hd na (by simpa using gk.length_eq) (fun j z ez => gk.item j z (by simpa using ez))
  | .dk rr, _, _, _, .dk (kvs := kvs) h _ t, e, r, hs, hz => by
    unfold D.pyK at e
    cases q : pyKK rr with
    | none => rw [q] at e; cases e
    | some xs =>
      rw [q] at e
      cases e
      cases r
      obtain ⟨_, _, ns, vs, kv, o, es, ep, ho, hx, hd, hk, hp, _⟩ := (show ObjOk X.prog X.w H s.heap _ (.frz _ (.dK kvs)) from I.hok _ _ h)
      have hz2 : (dictText (PyData.shownKv xs)).length ≤ sizeLine := by simpa only [PyData.shown] using hz
      obtain ⟨b1, a1, b2, a2, g1, g2⟩ := DenK.shK hK I t q kv hp (by simpa [PyData.showable] using hs) fun y hy => Nat.le_trans (dictText_mem_le hy) hz2
      have rd := Reads.dict ho (by first | exact hx.1 | exact hx) hd g1.r g2.r
      have mm := (ram_le g1.m (PyData.depthAll_keys_le xs)).append (ram_le g2.m (PyData.depthAll_vals_le xs))
      have na := not_mem_of_deeper rd (show PyData.depthKv xs < _ by simp only [PyData.depth]; omega) mm
      refine ⟨_, _, ReadAtMost.cons rd (show PyData.depthKv xs ≤ _ by simp only [PyData.depth]; omega) mm, rd, ?_⟩
      simp only [PyData.depth, PyData.shown, PyData.shownKv_eq]
      refine ReprK.dict ho (by first | exact hx.1 | exact hx) hd ns na (ReprEntriesK.of_two _ _ _ ?_ ?_)
      · exact g1.k.more_le (fun _ q => List.mem_append_left _ q) (PyData.depthAll_keys_le xs)
      · exact g2.k.more_le (fun _ q => List.mem_append_right _ q) (PyData.depthAll_vals_le xs)
  | .ty _, _, _, _, _, e, _, _, _ => by cases e
  | .cls _, _, _, _, _, e, _, _, _ => by cases e
  | .fz _, _, _, _, _, e, _, _, _ => by cases e
  | .ins _ _, _, _, _, _, e, _, _, _ => by cases e
  | .hd _, _, _, _, _, e, _, _, _ => by cases e
  | .dic _, _, _, _, _, e, _, _, _ => by cases e
  | .exv _ _ _ _, _, _, _, _, e, _, _, _ => by cases e
  | .exx _ _, _, _, _, _, e, _, _, _ => by cases e
  | .pin _ _ _ _, _, _, _, _, e, _, _, _ => by cases e
theorem Dens.shK {K : Ct} {ρ : List Addr} {S : Addr → Prop} (hK : K.K = X.K) (I : Inv X pins σ H s) : ∀ {ds : List D} {vs : List V} {xs : List PyData} {us : List Value}, Dens K ρ S H vs ds → pyKL ds = some xs → Vals vs us → PyData.showableAll xs = true → (∀ y ∈ PyData.shownAll xs, y.length ≤ sizeLine) → ∃ bs as, ShkL X s us xs bs as
  | [], _, _, _, .nil, e, r, _, _ => by
    cases e
    cases r
    exact ⟨[], [], (fun _ z => nomatch z), .nil, by simp only [PyData.shownAll]; exact .nil⟩
  | d :: ds, _, _, _, .cons h t, e, r, hs, hz => by
    unfold pyKL at e
    cases q : d.pyK with
    | none => rw [q] at e; cases e
    | some x =>
      rw [q] at e
      cases q2 : pyKL ds with
      | none => rw [q2] at e; cases e
      | some xs =>
        rw [q2] at e
        cases e
        cases r with
        | cons r1 r2 =>
          simp only [PyData.shownAll, List.mem_cons, forall_eq_or_imp] at hz
          simp only [PyData.showableAll, Bool.and_eq_true] at hs
          obtain ⟨b1, a1, g1⟩ := Den.shK hK I h q r1 hs.1 hz.1
          obtain ⟨b2, a2, g2⟩ := Dens.shK hK I t q2 r2 hs.2 hz.2
          refine ⟨b1 ++ b2, _, ?_, .cons g1.r g2.r, ?_⟩
          · simp only [PyData.depthAll]
            exact (ram_le g1.m (Nat.le_max_left _ _)).append (ram_le g2.m (Nat.le_max_right _ _))
          · simp only [PyData.depthAll, PyData.shownAll]
            refine .cons ((g1.k.more fun _ q => List.mem_append_left _ q).level_le (Nat.le_max_left _ _)) ?_
            exact g2.k.more_le (fun _ q => List.mem_append_right _ q) (Nat.le_max_right _ _)
theorem DenK.shK {K : Ct} {ρ : List Addr} {S : Addr → Prop} (hK : K.K = X.K) (I : Inv X pins σ H s) : ∀ {rr : List (Key × D)} {kvs : List (Key × V)} {xs : List (PyData × PyData)} {vs : List (Key × Value)} {es : List DictEntry}, DenK K ρ S H kvs rr → pyKK rr = some xs → KV kvs vs → Pairs (mixKind X.prog X.w) es vs →
    PyData.showableKv xs = true → (∀ y ∈ PyData.shownKv xs, y.length ≤ sizeLine) → ∃ b1 a1 b2 a2, ShkL X s (es.map (·.key)) (xs.map (·.1)) b1 a1 ∧ ShkL X s (es.map (·.val)) (xs.map (·.2)) b2 a2
  | [], _, _, _, _, .nil, e, r, p, _, _ => by
    cases e
    cases r
    cases p
    exact ⟨[], [], [], [], ⟨(fun _ z => nomatch z), .nil, by simp only [List.map_nil, PyData.shownAll]; exact .nil⟩, ⟨(fun _ z => nomatch z), .nil, by simp only [List.map_nil, PyData.shownAll]; exact .nil⟩⟩
  | (k, d) :: rr, _, _, _, _, .cons h t, e, r, p, hs, hz => by
    unfold pyKK at e
    cases q : d.pyK with
    | none => rw [q] at e; cases e
    | some x =>
      rw [q] at e
      cases q2 : pyKK rr with
      | none => rw [q2] at e; cases e
      | some xs =>
        rw [q2] at e
        cases e
        cases r with
        | @cons p1 q1 l1 l2 r1 r2 =>
          obtain ⟨k1, u1⟩ := q1
          obtain ⟨e1, rv⟩ := r1
          have e1 : k = k1 := e1
          subst e1
          cases p with
          | @cons en kv0 es0 kvs0 g1 g2 g3 =>
            have g2 : en.val = u1 := g2
            simp only [PyData.shownKv, List.mem_cons, forall_eq_or_imp] at hz
            simp only [PyData.showableKv, Bool.and_eq_true] at hs
            obtain ⟨b1, a1, f1⟩ := Den.shK hK I h q rv hs.1.2 (Nat.le_trans pair_len.2 hz.1)
            obtain ⟨b2, a2, b3, a3, f2, f3⟩ := DenK.shK hK I t q2 r2 g3 hs.2 hz.2
            have kr : Reads s.heap en.key (keyPy k) [] ∧ (keyPy k).hasDict = false := by
              obtain ⟨y, t, z1, z2⟩ | ⟨y, t, z1, z2⟩ := keyIs_shape (show keyIs k en.key = true from g1)
              · rw [z1, z2]
                exact ⟨.int _ _, by simp only [keyPy, PyData.hasDict]⟩
              · rw [z1, z2]
                exact ⟨.str _ _, by simp only [keyPy, PyData.hasDict]⟩
            obtain ⟨b0, a0, f0⟩ := Shk.leaf (X := X) kr.1 kr.2 hs.1.1 (Nat.le_trans pair_len.1 hz.1)
            refine ⟨b0 ++ b2, _, b1 ++ b3, a1 ++ a3, ⟨?_, .cons f0.r f2.r, ?_⟩, ⟨?_, ?_, ?_⟩⟩
            · simp only [List.map_cons, PyData.depthAll]
              exact (ram_le f0.m (Nat.le_max_left _ _)).append (ram_le f2.m (Nat.le_max_right _ _))
            · simp only [List.map_cons, PyData.depthAll, PyData.shownAll]
              refine .cons ((f0.k.more fun _ q => List.mem_append_left _ q).level_le (Nat.le_max_left _ _)) ?_
              exact f2.k.more_le (fun _ q => List.mem_append_right _ q) (Nat.le_max_right _ _)
            · simp only [List.map_cons, PyData.depthAll]
              exact (ram_le f1.m (Nat.le_max_left _ _)).append (ram_le f3.m (Nat.le_max_right _ _))
            · show ReadsAll _ (en.val :: _) _ _
              rw [g2]
              exact .cons f1.r f3.r
            · simp only [List.map_cons, PyData.depthAll, PyData.shownAll]
              rw [g2]
              refine .cons ((f1.k.more fun _ q => List.mem_append_left _ q).level_le (Nat.le_max_left _ _)) ?_
              exact f3.k.more_le (fun _ q => List.mem_append_right _ q) (Nat.le_max_right _ _)
end
def oReprK : Op1 := fun a st => match a with
  | .tup ds => match (D.tup ds).pyK with
    | some x => if (x.showable && decide (x.shown.length ≤ sizeLine) && decide (x.depth ≤ 60)) = true then .ok (.str x.shown) st else .bad
    | none => .bad
  | d => oReprB d st
theorem cd_reprK (hgd : X.A.guards = some []) (hu : X.A.units + 64 < cLine) : CallR X (.builtin "repr") (rC1 (XC X Γ) W oReprK) := by
  intro pins s σ H xs us Q I rv h
  obtain ⟨w, env, st, σ', x, a, e, r, d, p⟩ := h
  subst e
  obtain ⟨u, eu, ru⟩ := vals1 rv
  have rest : oReprK a st = oReprB a st → wpAny (model X.prog X.w) X.A (call (.builtin "repr") us) (EP X pins σ Q) X.xe s := fun e2 => by
    rw [e2] at p
    exact cd_reprW hgd hu pins s σ H [x] us Q I rv ⟨w, env, st, σ', x, a, rfl, r, d, p⟩
  subst eu
  cases a with
  | tup ds =>
    unfold oReprK at p
    cases q : (D.tup ds).pyK with
    | none => simp only [q] at p; exact p.elim
    | some y =>
      simp only [q] at p
      split at p
      · rename_i hz
        obtain ⟨z1, z3⟩ := Bool.and_eq_true_iff.mp hz
        obtain ⟨z1, z2⟩ := Bool.and_eq_true_iff.mp z1
        obtain ⟨b, vs, ex, hq, ht⟩ := DenB.tup d
        subst ex
        obtain rfl : u = Value.ref b := ru
        unfold D.pyK at q
        cases q3 : pyKL ds with
        | none => rw [q3] at q; cases q
        | some xs =>
          rw [q3] at q
          cases q
          obtain ⟨its, rv, ⟨o, ho, hc, n, hd⟩, _⟩ := I.tuple hq
          have hz2 : (tupleText (PyData.shownAll xs)).length ≤ sizeLine := by simpa only [PyData.shown] using of_decide_eq_true z2
          obtain ⟨bs, as, g⟩ := Dens.shK rfl I ht q3 rv (by simpa [PyData.showable] using z1) fun y hy => Nat.le_trans (tupleText_mem_le hy) hz2
          have na := not_mem_of_deeper (Reads.tuple ho hc hd g.r) (show PyData.depthAll xs < _ by simp only [PyData.depth]; omega) g.m
          have dp := of_decide_eq_true z3
          simp only [PyData.depth] at dp
          refine call_repr_slot (by omega) ⟨o, ho, hc⟩ F.slot_tuple_repr (call_tuple_reprK ho hc hd na g.k hgd (fun c _ => Clear.nil c) ?_ (fun _ _ z => z) (fun h' u tk hk => ?_) hz2)
          · show X.A.units + 1 + _ < cLine
            omega
          · refine ⟨_, _, rfl, .str (PyData.shown (.tuple xs)), H, I.kept (t' := tk) hk, ?_, Post.ok r p (.str _)⟩
            simp only [PyData.shown]
            exact ⟨_, rfl⟩
      · exact p.elim
  | _ => exact rest rfl
end
end AM
namespace AM
open PySem PySem.Spec PyProof.Rows L2 L2H HotX
section
variable {X : Cx} {Γ : Nat → Addr} {W : WX}
def okPy (x : PyData) : Bool := x.showable && decide (x.shown.length ≤ sizeLine) && decide (x.depth ≤ 60)
def oReprT : Op1 := fun a st => match a with
  | .lst (d :: ds) => match (D.lst (d :: ds)).pyK with
    | some x => if okPy x = true then .ok (.str x.shown) st else .bad
    | none => .bad
  | .dk r => match (D.dk r).pyK with
    | some x => if okPy x = true then .ok (.str x.shown) st else .bad
    | none => .bad
  | d => oReprK d st
theorem cd_reprT (hgd : X.A.guards = some []) (hu : X.A.units + 64 < cLine) : CallR X (.builtin "repr") (rC1 (XC X Γ) W oReprT) := by
  intro pins s σ H xs us Q I rv h
  obtain ⟨w, env, st, σ', x, a, e, r, d, p⟩ := h
  subst e
  obtain ⟨u, eu, ru⟩ := vals1 rv
  have rest : oReprT a st = oReprK a st → wpAny (model X.prog X.w) X.A (call (.builtin "repr") us) (EP X pins σ Q) X.xe s := fun e2 => by
    rw [e2] at p
    exact cd_reprK hgd hu pins s σ H [x] us Q I rv ⟨w, env, st, σ', x, a, rfl, r, d, p⟩
  cases a with
  | lst ds =>
    cases ds with
    | nil => exact rest rfl
    | cons d0 ds =>
      subst eu
      unfold oReprT at p
      cases q : (D.lst (d0 :: ds)).pyK with
      | none => simp only [q] at p; exact p.elim
      | some y =>
        simp only [q] at p
        split at p
        · rename_i hz
          obtain ⟨z1, z3⟩ := Bool.and_eq_true_iff.mp hz
          obtain ⟨z1, z2⟩ := Bool.and_eq_true_iff.mp z1
          obtain ⟨b, vs, ex, ha, hn, ht⟩ := DenB.lst d
          subst ex
          obtain rfl : u = Value.ref b := ru
          unfold D.pyK at q
          cases q3 : pyKL (d0 :: ds) with
          | none => rw [q3] at q; cases q
          | some xs =>
            rw [q3] at q
            cases q
            obtain ⟨its, rv, ⟨o, n, ho, hc, _, hd⟩, _⟩ := I.list (.inl (.inl ha))
            have hz2 : (listText (PyData.shownAll xs)).length ≤ sizeLine := by simpa only [PyData.shown] using of_decide_eq_true z2
            obtain ⟨bs, as, g⟩ := Dens.shK rfl I ht q3 rv (by simpa [PyData.showable] using z1) fun y hy => Nat.le_trans (listText_mem_le hy) hz2
            have na := not_mem_of_deeper (Reads.list ho hc hd g.r) (show PyData.depthAll xs < _ by simp only [PyData.depth]; omega) g.m
            have dp := of_decide_eq_true z3
            simp only [PyData.depth] at dp
            cases its with
            | nil =>
              have e1 := rv.length
              have e2 := ht.length
              rw [e1] at e2
              cases e2
            | cons y0 l =>
              have gk := g.k
              refine call_repr_slot (by omega) ⟨o, ho, hc⟩ F.slot_list_repr.toG (call_list_reprK ho hc hd na (by simpa using gk.length_eq) (fun j z ez => gk.item j z (by simpa using ez)) hgd (fun c _ => Clear.nil c) ?_ (fun _ _ z => z) (fun h' u tk hk => ?_) hz2)
              · show X.A.units + 1 + _ < cLine
                omega
              · refine ⟨_, _, rfl, .str (PyData.shown (.list xs)), H, I.kept (t' := tk) hk, ?_, Post.ok r p (.str _)⟩
                simp only [PyData.shown]
                exact ⟨_, rfl⟩
        · exact p.elim
  | dk rr =>
    subst eu
    unfold oReprT at p
    cases q : (D.dk rr).pyK with
    | none => simp only [q] at p; exact p.elim
    | some y =>
      simp only [q] at p
      split at p
      · rename_i hz
        obtain ⟨z1, z3⟩ := Bool.and_eq_true_iff.mp hz
        obtain ⟨z1, z2⟩ := Bool.and_eq_true_iff.mp z1
        obtain ⟨b, kvs, ex, ⟨od, ha⟩, hn, ht⟩ := DenB.dk d
        subst ex
        obtain rfl : u = Value.ref b := ru
        unfold D.pyK at q
        cases q3 : pyKK rr with
        | none => rw [q3] at q; cases q
        | some xs =>
          rw [q3] at q
          cases q
          obtain ⟨_, _, ns, vs, kv, o, es, ep, ho, hx, hd, hk, hp, _⟩ := (show ObjOk X.prog X.w H s.heap _ (.frz _ (.dK kvs)) from I.hok _ _ ha)
          have hz2 : (dictText (PyData.shownKv xs)).length ≤ sizeLine := by simpa only [PyData.shown] using of_decide_eq_true z2
          obtain ⟨b1, a1, b2, a2, g1, g2⟩ := DenK.shK rfl I ht q3 kv hp (by simpa [PyData.showable] using z1) fun y hy => Nat.le_trans (dictText_mem_le hy) hz2
          have rd := Reads.dict ho (by first | exact hx.1 | exact hx) hd g1.r g2.r
          have mm := (ram_le g1.m (PyData.depthAll_keys_le xs)).append (ram_le g2.m (PyData.depthAll_vals_le xs))
          have na := not_mem_of_deeper rd (show PyData.depthKv xs < _ by simp only [PyData.depth]; omega) mm
          have dp := of_decide_eq_true z3
          simp only [PyData.depth] at dp
          refine call_repr_slot (by omega) ⟨o, ho, by first | exact hx.1 | exact hx⟩ F.slot_dict_repr (call_dict_reprK ho (by first | exact hx.1 | exact hx) hd ns na (ReprEntriesK.of_two _ _ _ (g1.k.more_le (fun _ q => List.mem_append_left _ q) (PyData.depthAll_keys_le xs)) (g2.k.more_le (fun _ q => List.mem_append_right _ q) (PyData.depthAll_vals_le xs))) hgd (fun c _ => Clear.nil c) ?_ (fun _ _ z => z) (fun h' u tk hk => ?_) (by rw [← PyData.shownKv_eq]; exact hz2))
          · show X.A.units + 1 + _ < cLine
            omega
          · refine ⟨_, _, rfl, .str (PyData.shown (.dict xs)), H, I.kept (t' := tk) hk, ?_, Post.ok r p (.str _)⟩
            simp only [PyData.shown, PyData.shownKv_eq]
            exact ⟨_, rfl⟩
      · exact p.elim
  | _ => exact rest rfl
end
end AM
namespace AM
open PySem PySem.Spec PyProof.Rows L2
section
variable {X : Cx} {Γ : Nat → Addr} {W : WX} {pos : Pos}
def gTupL (n : Nat) (gs : GFs) : GF := fun d env st => match d with
  | .tup ds => if ds.length = n then gs ds env st else .bad
  | .lst ds => if ds.length = n then gs ds env st else .bad
  | _ => .bad
theorem pgd_tupL {es : List Expr} {k n : Nat} {gs : GFs} (hc : X.calm = true) (h : PGs X es (tgGs (XC X Γ) W gs)) (hn : (assignEach es X.env).length = n := by rfl) (hst : (assignEach es X.env).findIdx? (·.1) = none := by rfl) :
    PG X (.Tuple es k pos) (tgG (XC X Γ) W (gTupL n gs)) := by
  refine ⟨fun pins s σ H v u Q I rv h' => ?_⟩
  obtain ⟨w, env, st, d, r, hd, p⟩ := h'
  cases d with
  | tup ds =>
    refine (pg_tup hc h hn hst).run pins s σ H v u Q I rv ?_
    obtain ⟨a, vs, e1, hq, t⟩ := DenB.tup (w := w) hd.b
    have p : PostS (XC X Γ) W w H σ (if ds.length = n then gs ds env st else .bad) { nx := Q, rt := fun _ _ => False } := p
    split at p
    · rename_i q
      exact ⟨a, vs, e1, hq, by rw [t.length, q], w, env, st, ds, r, t, p⟩
    · exact p.elim
  | lst ds =>
    refine (pg_lst hc h hn hst).run pins s σ H v u Q I rv ?_
    obtain ⟨a, vs, e1, hq, _, t⟩ := DenB.lst (w := w) hd.b
    have p : PostS (XC X Γ) W w H σ (if ds.length = n then gs ds env st else .bad) { nx := Q, rt := fun _ _ => False } := p
    split at p
    · rename_i q
      exact ⟨a, vs, e1, SqL.of hq, by rw [t.length, q], w, env, st, ds, r, t, p⟩
    · exact p.elim
  | _ => exact p.elim
variable {env : AEnv} {st : Sto} {N : AEnv → Sto → Prop} {T : D → Sto → Prop} {ds : List D}
end
end AM
namespace AM
open PySem PySem.Spec PyProof.Rows L2
section
variable {X : Cx} {Γ : Nat → Addr} {W : WX} {it : Expr} {f : EF} {i j : Nat} {x : Str} {scope : Scope} {own : List (Str × Nat)} {p pos p1 p2 p3 p4 : Pos}
end
end AM
namespace PySem
open Builtin
end PySem
namespace AM
open PySem PySem.Spec PyProof.Rows L2
def SqB (K : PySem.W.Frag) : Bool → Hp → Addr → List V → Prop
  | true => SqL K
  | false => SqT K
def AtB : Bool → Heap → Addr → Array Value → Prop
  | true => fun h a us => h.IsList a us
  | false => fun h a us => h.IsTuple a us
def ItB : Bool → Heap → Addr → Addr → Nat → Prop
  | true => fun h it a i => h.IsListIter it a i
  | false => fun h it a i => h.IsTupleIter it a i
theorem ItB.at {b : Bool} {h h' : Heap} {it a : Addr} {i : Nat} (x : ItB b h it a i) (k : ∀ o, h.get? it = some o → h'.get? it = some o) : ItB b h' it a i := by
  cases b
  · exact Heap.IsTupleIter.at (h := h) x k
  · exact Heap.IsListIter.at (h := h) x k
theorem ItB.obj {b : Bool} {h : Heap} {it a : Addr} {i : Nat} (x : ItB b h it a i) : ∃ o, h.get? it = some o ∧ ∀ v, o.data ≠ .cell v := by
  cases b <;> exact let ⟨o, e, _, d⟩ := x; ⟨o, e, fun v q => by rw [d] at q; cases q⟩
section
variable {X : Cx} {pins : List (Addr × Obj)} {σ : L2.St} {H : Hp} {s : Shared}
end
theorem AtB.lt {b : Bool} {h : Heap} {a : Addr} {us : Array Value} (x : AtB b h a us) : a < h.objs.size := by
  cases b
  · obtain ⟨o, e, _⟩ := x; exact Heap.lt_size e
  · obtain ⟨o, e, _⟩ := x; exact Heap.lt_size e
section
variable {X : Cx} {Γ : Nat → Addr} {W : WX} {e e2 tg : Expr} {t : TA} {f f2 : EF} {pos p tpos : Pos} {elts : List Expr} {kk : Nat}
end
structure RowB (K : Ct) (w : Wd) (H : Hp) (b : Bool) (a : Addr) (ds : List D) : Prop where
  row : ∃ vs, Dens K w.ρ w.S H vs ds ∧ ∀ w' H', ExtS K w H w' H' → SqB K.K b H' a vs
section
variable {K : Ct} {w : Wd} {H : Hp} {a b : Addr} {ba bb : Bool} {ds es : List D}
end
section
variable {X : Cx} {Γ : Nat → Addr} {W : WX} {e e2 tg : Expr} {f f2 : EF} {pos p tpos : Pos} {elts : List Expr} {kk : Nat}
end
end AM
namespace AM
open PySem PySem.Spec PyProof.Rows L2 He
def tabsOf (tf : List Defn) (K : PySem.W.Frag) : List (Addr × Addr) := tf.map fun p => cT K p
structure TabsH (tf : List Defn) (h : Heap) (K : PySem.W.Frag) : Prop where
  hd : ∀ p ∈ tabsOf tf K, PySem.W.codeHdIn K p.1 p.2 = true
  out : ∀ p ∈ tabsOf tf K, K.lookup p.2 = none
  empty : ∀ p ∈ tabsOf tf K, h.get? p.2 = some { cls := .none, data := .fields #[] }
  nd : ((tabsOf tf K).map (·.2)).Nodup
structure SaysY (fa : List Fa) (fn : List He5.DefA) (ex : List Fx) (Γ : PySem.W.Frag → Nat → Addr) (ts : List TabM) (tf : List Defn) (w : World) (h : Heap) (K : PySem.W.Frag) : Prop where
  x : SaysX fa fn ex Γ ts w K
  t : TabsH tf h K
section
variable {n : Nat} {fa : List Fa} {fn : List He5.DefA} {ex : List Fx} {Γ : PySem.W.Frag → Nat → Addr} {ts : List TabM} {tf : List Defn} {w : World} {h : Heap}
end
end AM
namespace AM
open PySem PySem.Spec PyProof.Rows L2
section
variable {P : Program} {w : World} {K : PySem.W.Frag} {mg mb : Str → Option Value} {Γ : Nat → Addr} {k : Nat} {fa a : Addr} {fd : FuncData} {x : Str} {F : DF} {s : Shared} {vs : List Value} {ns : List Int} {cs : List (Addr × Addr)} {st0 : Sto}
structure TabsS (K : PySem.W.Frag) (h : Heap) (cs : List (Addr × Addr)) : Prop where
  hd : ∀ p ∈ cs, PySem.W.CodeHd h p.1 p.2
  out : ∀ p ∈ cs, K.lookup p.2 = none
  empty : ∀ p ∈ cs, h.get? p.2 = some { cls := .none, data := .fields #[] }
  nd : (cs.map (·.2)).Nodup
structure Trk (K : PySem.W.Frag) (cs : List (Addr × Addr)) (a : Addr) (vs : List Value) (H : Hp) : Prop where
  tab : ∀ p ∈ cs, H p.2 = some (.tbl #[])
  one : ∀ b o, H b = some o → (b = a ∧ K.lookup a = none ∧ ∃ u, o = .frz { cls := .type "list", data := .seq vs.toArray } u) ∨ ((∃ p ∈ cs, b = p.2) ∧ o = .tbl #[])
end
theorem TabsH.s {tf : List He.Defn} {h : Heap} {K : PySem.W.Frag} (t : TabsH tf h K) (kin : K.In h) : TabsS K h (tabsOf tf K) :=
  ⟨fun p hp => PySem.W.codeHd_of_K kin (t.hd p hp), t.out, t.empty, t.nd⟩
end AM
namespace AM
open PySem PySem.Spec PyProof.Rows L2
section
variable {P : Program} {w : World} {K : PySem.W.Frag} {mg : Str → Option Value} {base : Heap} {Γ : Nat → Addr} {k : Nat} {x qual : Str} {params : Arguments} {body : List Stmt} {scope : Scope} {kws : List (Str × V)} {fd : FuncData} {N ps : List Str} {p : He.Defn}
end
section
variable {X : Cx} {Γ : Nat → Addr} {W : WX} {e : Expr} {f : EF} {i k kk : Nat} {c : Addr} {x q : Str} {params : Arguments} {scope : Scope} {p pos kpos lpos p1 p2 p3 p4 p5 : Pos}
end
end AM
namespace AM
open PySem PySem.Spec PyProof.Rows L2
section
variable {K : Ct} {w : Wd} {env : AEnv} {st : Sto} {σ : St} {H H3 : Hp} {D : Addr} {vs : List V}
end
section
variable {X : Cx} {Γ : Nat → Addr} {W : WX} {i j : Nat} {x y : Str} {a b : Expr} {f : AEnv → Sto → Res (List D)} {g : EF} {px py pt pos : Pos} {kt k2 pt2}
end
end AM
namespace AM
open PySem PySem.Spec PyProof.Rows L2
section
variable {X : Cx} {Γ : Nat → Addr} {W : WX} {tg a b : Expr} {fa fb : EF}
end
end AM
namespace AM
open PySem PySem.Spec PyProof.Rows L2 He
section
variable {X : Cx} {Γ : Nat → Addr} {W : WX} {x y : Str} {p pos : Pos}
end
section
variable {V T : D → Sto → Prop} {N : AEnv → Sto → Prop} {env : AEnv} {st : Sto} {i j : Nat} {ds : List D}
end
end AM
namespace AM
open PySem PySem.Spec PyProof.Rows L2
section
variable {X : Cx} {Γ : Nat → Addr} {W : WX} {i j l : Nat} {x y z : Str} {a b c : Expr} {f : AEnv → Sto → Res (List D)} {fs : EFs} {px py pz pt pos : Pos} {kt k2 pt2}
end
end AM
namespace AM
open PySem PySem.Spec PyProof.Rows L2
section
variable {X : Cx} {Γ : Nat → Addr} {W : WX}
end
end AM
namespace AM
open PySem PySem.Spec PyProof.Rows L2
section
variable {X : Cx} {Γ : Nat → Addr} {W : WX}
end
section
variable {V : D → Sto → Prop} {st : Sto}
end
end AM
namespace AM
open PySem PySem.Spec PyProof.Rows L2
section
variable {X : Cx} {Γ : Nat → Addr} {W : WX} {o e : Expr} {fa fb fo fe : EF} {apos pos : Pos}
end
section
variable {V : D → Sto → Prop} {st : Sto} {env : AEnv} {N : AEnv → Sto → Prop} {T : D → Sto → Prop} {fo fe : EF} {Ls : List D → Sto → Prop} {f : EF}
end
end AM
namespace AM
open PySem PySem.Spec PyProof.Rows L2
open Classical
end AM
namespace AM
open PySem PySem.Spec PyProof.Rows L2
section
variable {X : Cx} {Γ : Nat → Addr} {W : WX} {i j : Nat} {x y : Str} {a b : Expr} {f : AEnv → Sto → Res (List D)} {g : EF} {px py pt pos : Pos} {kt k2 pt2}
end
end AM
namespace AM
open PySem PySem.Spec PyProof.Rows L2
section
variable {X : Cx} {Γ : Nat → Addr} {W : WX} {i j : Nat} {x y : Str} {a b : Expr} {f : AEnv → Sto → Res (List D)} {g : EF} {px py pt pos : Pos} {kt k2 pt2}
end
end AM
namespace K01
open PySem PySem.Spec PyProof.Rows L2 AM KL KP
def liveL : List Nat := [cInvalidText, cNotAWinding, cInvalidPegs, cInvalidRounds, cInvalidPlace, cInvalidPeg, cInvalidWord, cInvalidFactor, cInvalidWish, cInvalidTimes, cInvalidClaim, cInvalidName, cInvalidLine, cInvalidIndex, cInvalidLots, cInvalidBlocks, cInvalidWishes, cInvalidChanges, cInvalidDeeds, cUnknownName, cInUse, cTooMany, cTooGreat, cPegOut, cPegIn, cBroken, cNoAnswer, cWrongName, cWrongValue, cNothingToUndo]
def rowsX : List (Nat × List Bool) := [(cInvalidText, [false, true, false, false, false, false, false, false, false, false, false, false, false, false, false, false, false, false, false, false, false, false, false, false, false, false, false, true, false, false, true, false, false]), (cNotAWinding, [true, false, false, false, false, false, false, false, false, false, false, false, false, false, false, false, false, false, false, false, false, false, false, false, false, false, false, true, false, false, true, false, false]), (cInvalidPegs, [false, false, false, true, false, false, false, false, false, false, false, false, false, false, false, false, false, false, false, false, false, false, false, false, false, false, false, true, false, false, true, false, false]), (cInvalidRounds, [false, false, true, false, false, false, false, false, false, false, false, false, false, false, false, false, false, false, false, false, false, false, false, false, false, false, false, true, false, false, true, false, false]), (cInvalidPlace, [false, false, false, false, false, true, false, false, false, false, false, false, false, false, false, false, false, false, false, false, false, false, false, false, false, false, false, true, false, false, true, false, false]), (cInvalidPeg, [false, false, false, false, true, false, false, false, false, false, false, false, false, false, false, false, false, false, false, false, false, false, false, false, false, false, false, true, false, false, true, false, false]), (cInvalidWord, [false, false, false, false, false, false, false, true, false, false, false, false, false, false, false, false, false, false, false, false, false, false, false, false, false, false, false, true, false, false, true, false, false]), (cInvalidFactor, [false, false, false, false, false, false, true, false, false, false, false, false, false, false, false, false, false, false, false, false, false, false, false, false, false, false, false, true, false, false, true, false, false]), (cInvalidWish, [false, false, false, false, false, false, false, false, false, true, false, false, false, false, false, false, false, false, false, false, false, false, false, false, false, false, false, true, false, false, true, false, false]), (cInvalidTimes, [false, false, false, false, false, false, false, false, true, false, false, false, false, false, false, false, false, false, false, false, false, false, false, false, false, false, false, true, false, false, true, false, false]), (cInvalidClaim, [false, false, false, false, false, false, false, false, false, false, false, true, false, false, false, false, false, false, false, false, false, false, false, false, false, false, false, true, false, false, true, false, false]), (cInvalidName, [false, false, false, false, false, false, false, false, false, false, true, false, false, false, false, false, false, false, false, false, false, false, false, false, false, false, false, true, false, false, true, false, false]), (cInvalidLine, [false, false, false, false, false, false, false, false, false, false, false, false, false, true, false, false, false, false, false, false, false, false, false, false, false, false, false, true, false, false, true, false, false]), (cInvalidIndex, [false, false, false, false, false, false, false, false, false, false, false, false, true, false, false, false, false, false, false, false, false, false, false, false, false, false, false, true, false, false, true, false, false]), (cInvalidLots, [false, false, false, false, false, false, false, false, false, false, false, false, false, false, false, true, false, false, false, false, false, false, false, false, false, false, false, true, false, false, true, false, false]), (cInvalidBlocks, [false, false, false, false, false, false, false, false, false, false, false, false, false, false, true, false, false, false, false, false, false, false, false, false, false, false, false, true, false, false, true, false, false]), (cInvalidWishes, [false, false, false, false, false, false, false, false, false, false, false, false, false, false, false, false, true, false, false, false, false, false, false, false, false, false, false, true, false, false, true, false, false]), (cInvalidChanges, [false, false, false, false, false, false, false, false, false, false, false, false, false, false, false, false, false, true, false, false, false, false, false, false, false, false, false, true, false, false, true, false, false]), (cInvalidDeeds, [false, false, false, false, false, false, false, false, false, false, false, false, false, false, false, false, false, false, true, false, false, false, false, false, false, false, false, true, false, false, true, false, false]), (cUnknownName, [false, false, false, false, false, false, false, false, false, false, false, false, false, false, false, false, false, false, false, true, false, false, false, false, false, false, false, false, true, false, false, true, false]), (cInUse, [false, false, false, false, false, false, false, false, false, false, false, false, false, false, false, false, false, false, false, false, true, false, false, false, false, false, false, false, true, false, false, true, false]), (cTooMany, [false, false, false, false, false, false, false, false, false, false, false, false, false, false, false, false, false, false, false, false, false, true, false, false, false, false, false, false, false, true, false, false, true]), (cTooGreat, [false, false, false, false, false, false, false, false, false, false, false, false, false, false, false, false, false, false, false, false, false, false, true, false, false, false, false, false, false, true, false, false, true]), (cPegOut, [false, false, false, false, false, false, false, false, false, false, false, false, false, false, false, false, false, false, false, false, false, false, false, true, false, false, false, false, false, true, false, false, true]), (cPegIn, [false, false, false, false, false, false, false, false, false, false, false, false, false, false, false, false, false, false, false, false, false, false, false, false, true, false, false, false, false, true, false, false, true]), (cBroken, [false, false, false, false, false, false, false, false, false, false, false, false, false, false, false, false, false, false, false, false, false, false, false, false, false, true, false, false, false, true, false, false, true]), (cNoAnswer, [false, false, false, false, false, false, false, false, false, false, false, false, false, false, false, false, false, false, false, false, false, false, false, false, false, false, false, false, false, true, false, false, true]), (cWrongName, [false, false, false, false, false, false, false, false, false, false, false, false, false, false, false, false, false, false, false, false, false, false, false, false, false, false, false, false, true, false, false, true, false]), (cWrongValue, [false, false, false, false, false, false, false, false, false, false, false, false, false, false, false, false, false, false, false, false, false, false, false, false, false, false, false, true, false, false, true, false, false]), (cNothingToUndo, [false, false, false, false, false, false, false, false, false, false, false, false, false, false, false, false, false, false, false, false, false, false, false, false, false, false, true, false, false, true, false, false, true])]
def bX (c : Nat) (i : Nat) : Bool := ((rowsX.lookup c).getD []).getD i false
def F_law_classes (U : List Nat) : DF := runD 1 4 (sSeq (sSet 1 (dLst (dCons (dOp1 (oIsXe liveL fun c => bX c 0) (dVar 0)) (dCons (dOp1 (oIsXe liveL fun c => bX c 1) (dVar 0)) (dCons (dOp1 (oIsXe liveL fun c => bX c 2) (dVar 0)) dNil))))) (sSeq (sSet 1 (dOp2 oAdd (dVar 1) (dLst (dCons (dOp1 (oIsXe liveL fun c => bX c 3) (dVar 0)) (dCons (dOp1 (oIsXe liveL fun c => bX c 4) (dVar 0)) (dCons (dOp1 (oIsXe liveL fun c => bX c 5) (dVar 0)) dNil)))))) (sSeq (sSet 1 (dOp2 oAdd (dVar 1) (dLst (dCons (dOp1 (oIsXe liveL fun c => bX c 6) (dVar 0)) (dCons (dOp1 (oIsXe liveL fun c => bX c 7) (dVar 0)) (dCons (dOp1 (oIsXe liveL fun c => bX c 8) (dVar 0)) dNil)))))) (sSeq (sSet 1 (dOp2 oAdd (dVar 1) (dLst (dCons (dOp1 (oIsXe liveL fun c => bX c 9) (dVar 0)) (dCons (dOp1 (oIsXe liveL fun c => bX c 10) (dVar 0)) (dCons (dOp1 (oIsXe liveL fun c => bX c 11) (dVar 0)) dNil)))))) (sSeq (sSet 1 (dOp2 oAdd (dVar 1) (dLst (dCons (dOp1 (oIsXe liveL fun c => bX c 12) (dVar 0)) (dCons (dOp1 (oIsXe liveL fun c => bX c 13) (dVar 0)) (dCons (dOp1 (oIsXe liveL fun c => bX c 14) (dVar 0)) dNil)))))) (sSeq (sSet 1 (dOp2 oAdd (dVar 1) (dLst (dCons (dOp1 (oIsXe liveL fun c => bX c 15) (dVar 0)) (dCons (dOp1 (oIsXe liveL fun c => bX c 16) (dVar 0)) (dCons (dOp1 (oIsXe liveL fun c => bX c 17) (dVar 0)) dNil)))))) (sSeq (sSet 1 (dOp2 oAdd (dVar 1) (dLst (dCons (dOp1 (oIsXe liveL fun c => bX c 18) (dVar 0)) (dCons (dOp1 (oIsXe liveL fun c => bX c 19) (dVar 0)) (dCons (dOp1 (oIsXe liveL fun c => bX c 20) (dVar 0)) dNil)))))) (sSeq (sSet 1 (dOp2 oAdd (dVar 1) (dLst (dCons (dOp1 (oIsXe liveL fun c => bX c 21) (dVar 0)) (dCons (dOp1 (oIsXe liveL fun c => bX c 22) (dVar 0)) (dCons (dOp1 (oIsXe liveL fun c => bX c 23) (dVar 0)) (dCons (dOp1 (oIsXe liveL fun c => bX c 24) (dVar 0)) dNil))))))) (sSeq (sSet 1 (dOp2 oAdd (dVar 1) (dLst (dCons (dOp1 (oIsXe liveL fun c => bX c 25) (dVar 0)) (dCons (dOp1 (oIsXe liveL fun c => bX c 26) (dVar 0)) dNil))))) (sSeq (sSet 2 (dLst (dCons (dOp1 (oIsXe liveL fun c => bX c 27) (dVar 0)) (dCons (dOp1 (oIsXe liveL fun c => bX c 28) (dVar 0)) (dCons (dOp1 (oIsXe liveL fun c => bX c 29) (dVar 0)) dNil))))) (sSeq (sSet 2 (dOp2 oAdd (dVar 2) (dLst (dCons (dOp1 (oIsXe liveL fun c => bX c 30) (dVar 0)) (dCons (dOp1 (oIsXe liveL fun c => bX c 31) (dVar 0)) (dCons (dOp1 (oIsXe liveL fun c => bX c 32) (dVar 0)) dNil)))))) (sRet (dOp2 oAdd (dF (compF (iRan (dC (.int 27))) false [3] [3] (gTru (dOp2 oIx (dVar 1) (dVar 3))) (dVar 3))) (dF (compF (iRan (dC (.int 6))) false [3] [3] (gTru (dOp2 oIx (dVar 2) (dVar 3))) (dOp2 oAdd (dC (.int 40)) (dVar 3)))))))))))))))))
def F_law_given (U : List Nat) : DF := runD 1 2 (sSeq (sSet 1 (dLst (dCons (dLst (dCons (dMkX cNotAWinding "given" (dVar 0)) (dCons (dMkX cNotAWinding "given" (dVar 0)) dNil))) (dCons (dLst (dCons (dMkX cInvalidText "given" (dVar 0)) (dCons (dMkX cInvalidText "given" (dVar 0)) dNil))) dNil)))) (sSeq (sSet 1 (dOp2 oAdd (dVar 1) (dLst (dCons (dLst (dCons (dMkX cInvalidRounds "given" (dVar 0)) (dCons (dMkX cInvalidRounds "given" (dVar 0)) dNil))) (dCons (dLst (dCons (dMkX cInvalidPegs "given" (dVar 0)) (dCons (dMkX cInvalidPegs "given" (dVar 0)) dNil))) dNil))))) (sSeq (sSet 1 (dOp2 oAdd (dVar 1) (dLst (dCons (dLst (dCons (dMkX cInvalidPeg "given" (dVar 0)) (dCons (dMkX cInvalidPeg "given" (dVar 0)) dNil))) (dCons (dLst (dCons (dMkX cInvalidPlace "given" (dVar 0)) (dCons (dMkX cInvalidPlace "given" (dVar 0)) dNil))) dNil))))) (sSeq (sSet 1 (dOp2 oAdd (dVar 1) (dLst (dCons (dLst (dCons (dMkX cInvalidFactor "given" (dVar 0)) (dCons (dMkX cInvalidFactor "given" (dVar 0)) dNil))) (dCons (dLst (dCons (dMkX cInvalidWord "given" (dVar 0)) (dCons (dMkX cInvalidWord "given" (dVar 0)) dNil))) dNil))))) (sSeq (sSet 1 (dOp2 oAdd (dVar 1) (dLst (dCons (dLst (dCons (dMkX cInvalidTimes "given" (dVar 0)) (dCons (dMkX cInvalidTimes "given" (dVar 0)) dNil))) (dCons (dLst (dCons (dMkX cInvalidWish "given" (dVar 0)) (dCons (dMkX cInvalidWish "given" (dVar 0)) dNil))) dNil))))) (sSeq (sSet 1 (dOp2 oAdd (dVar 1) (dLst (dCons (dLst (dCons (dMkX cInvalidName "given" (dVar 0)) (dCons (dMkX cInvalidName "given" (dVar 0)) dNil))) (dCons (dLst (dCons (dMkX cInvalidClaim "given" (dVar 0)) (dCons (dMkX cInvalidClaim "given" (dVar 0)) dNil))) dNil))))) (sRet (dOp2 oAdd (dVar 1) (dLst (dCons (dLst (dCons (dMkX cInvalidIndex "given" (dVar 0)) (dCons (dMkX cInvalidIndex "given" (dVar 0)) dNil))) (dCons (dLst (dCons (dMkX cInvalidLine "given" (dVar 0)) (dCons (dMkX cInvalidLine "given" (dVar 0)) dNil))) dNil)))))))))))
def F_law_indexed (U : List Nat) : DF := runD 1 2 (sSeq (sOwn 1 (dLstF (dCons (dLst (dCons (dMkX cInvalidBlocks "index" (dVar 0)) (dCons (dMkX cInvalidBlocks "index" (dVar 0)) dNil))) (dCons (dLst (dCons (dMkX cInvalidLots "index" (dVar 0)) (dCons (dMkX cInvalidLots "index" (dVar 0)) dNil))) dNil)))) (sSeq (sApp 1 (dLst (dCons (dMkX cInvalidWishes "index" (dVar 0)) (dCons (dMkX cInvalidWishes "index" (dVar 0)) dNil)))) (sSeq (sApp 1 (dLst (dCons (dMkX cInvalidChanges "index" (dVar 0)) (dCons (dMkX cInvalidChanges "index" (dVar 0)) dNil)))) (sRet (dOp2 oAdd (dOwn 1) (dLst (dCons (dLst (dCons (dMkX cInvalidDeeds "index" (dVar 0)) (dCons (dMkX cInvalidDeeds "index" (dVar 0)) dNil))) dNil)))))))
def F_law_others (U : List Nat) : DF := runD 1 2 (sSeq (sOwn 1 (dLstF (dCons (dLst (dCons (dC (.int 19)) (dCons (dC (.int 41)) (dCons (dC (.int 44)) (dCons (dOp1 (oXa liveL "given") (dMkX cUnknownName "given" (dVar 0))) (dCons (dMkX cUnknownName "given" (dVar 0)) dNil)))))) dNil))) (sSeq (sApp 1 (dLst (dCons (dC (.int 20)) (dCons (dC (.int 41)) (dCons (dC (.int 44)) (dCons (dOp1 (oXa liveL "index") (dMkX cInUse "index" (dVar 0))) (dCons (dMkX cInUse "index" (dVar 0)) dNil))))))) (sSeq (sApp 1 (dLst (dCons (dC (.int 21)) (dCons (dC (.int 42)) (dCons (dC (.int 45)) (dCons (dOp1 (oXa liveL "number") (dMkX cTooMany "number" (dVar 0))) (dCons (dMkX cTooMany "number" (dVar 0)) dNil))))))) (sSeq (sApp 1 (dLst (dCons (dC (.int 22)) (dCons (dC (.int 42)) (dCons (dC (.int 45)) (dCons (dOp1 (oXa liveL "index") (dMkX cTooGreat "index" (dVar 0))) (dCons (dMkX cTooGreat "index" (dVar 0)) dNil))))))) (sSeq (sApp 1 (dLst (dCons (dC (.int 23)) (dCons (dC (.int 42)) (dCons (dC (.int 45)) (dCons (dOp1 (oXa liveL "given") (dMkX cPegOut "given" (dVar 0))) (dCons (dMkX cPegOut "given" (dVar 0)) dNil))))))) (sSeq (sApp 1 (dLst (dCons (dC (.int 24)) (dCons (dC (.int 42)) (dCons (dC (.int 45)) (dCons (dOp1 (oXa liveL "given") (dMkX cPegIn "given" (dVar 0))) (dCons (dMkX cPegIn "given" (dVar 0)) dNil))))))) (sRet (dOp2 oAdd (dOwn 1) (dLst (dCons (dLst (dCons (dC (.int 25)) (dCons (dC (.int 42)) (dCons (dC (.int 45)) (dCons (dOp1 (oXa liveL "index") (dMkX cBroken "index" (dVar 0))) (dCons (dMkX cBroken "index" (dVar 0)) dNil)))))) dNil))))))))))
def F_law_right (U : List Nat) : DF := runD 1 9 (sSeq (sSet 1 (dLst (dCons (dC .non) (dCons (dC (.int 0)) (dCons (dNeg (dC (.int 3))) (dCons (dC (.bl true)) (dCons (dC (.str "a")) (dCons (dC (.str "")) (dCons (dTup dNil) (dCons (dTup (dCons (dC (.int 1)) (dCons (dC (.int 2)) dNil))) (dCons (dLst dNil) (dCons (dLst (dCons (dC (.int 7)) dNil)) (dCons (dC (.dk [])) (dCons (dC (.dk [(.inr "a", .int 1)])) (dCons (dOp2 oPow (dC (.int 10)) (dC (.int 30))) (dCons (dTup (dCons (dC (.str "set")) (dCons (dC (.int 3)) dNil))) dNil)))))))))))))))) (sSeq (sSet 2 (dCall (F_law_pick U) (dCons (dVar 0) (dCons (dVar 1) dNil)))) (sSeq (sFor (iEnm (dCall (F_law_given U) (dCons (dVar 2) dNil))) (gTupL 2 (gConsD (gNm 4) (gConsD (gNm 5) gNilD))) (sIf (gBl (dOp2 oNe (dF (compF (iSeq (dVar 5)) false [8] [8] tYesD (dOp2 oAdd (dCall (F_law_classes U) (dCons (dVar 8) dNil)) (dLst (dCons (dOp1 oReprT (dOp1 (oXa liveL "given") (dVar 8))) dNil))))) (dOp2 oMul (dLst (dCons (dLst (dCons (dVar 4) (dCons (dC (.int 40)) (dCons (dC (.int 43)) (dCons (dOp1 oReprT (dVar 2)) dNil))))) dNil)) (dC (.int 2))))) (sRet (dC (.bl false))) sPass)) (sSeq (sFor (iEnm (dCall (F_law_indexed U) (dCons (dVar 2) dNil))) (gTupL 2 (gConsD (gNm 4) (gConsD (gNm 5) gNilD))) (sIf (gBl (dOp2 oNe (dF (compF (iSeq (dVar 5)) false [8] [8] tYesD (dOp2 oAdd (dCall (F_law_classes U) (dCons (dVar 8) dNil)) (dLst (dCons (dOp1 oReprT (dOp1 (oXa liveL "index") (dVar 8))) dNil))))) (dOp2 oMul (dLst (dCons (dLst (dCons (dOp2 oAdd (dC (.int 14)) (dVar 4)) (dCons (dC (.int 40)) (dCons (dC (.int 43)) (dCons (dOp1 oReprT (dVar 2)) dNil))))) dNil)) (dC (.int 2))))) (sRet (dC (.bl false))) sPass)) (sSeq (sFor (iSeq (dCall (F_law_others U) (dCons (dVar 2) dNil))) (gTupL 5 (gConsD (gNm 4) (gConsD (gNm 6) (gConsD (gNm 7) (gConsD (gNm 3) (gConsD (gNm 8) gNilD)))))) (sIf (gOr (gBl (dOp2 oNe (dCall (F_law_classes U) (dCons (dVar 8) dNil)) (dLst (dCons (dVar 4) (dCons (dVar 6) (dCons (dVar 7) dNil)))))) (gBl (dOp2 oNe (dOp1 oReprT (dVar 3)) (dOp1 oReprT (dVar 2))))) (sRet (dC (.bl false))) sPass)) (sSeq (sSet 3 (dLst (dCons (dOp1 (oXa liveL "given") (dMkX cUnknownName "given" (dVar 2))) (dCons (dOp1 (oXa liveL "index") (dMkX cInUse "index" (dVar 2))) (dCons (dOp1 (oXa liveL "number") (dMkX cTooMany "number" (dVar 2))) dNil))))) (sSeq (sSet 3 (dOp2 oAdd (dVar 3) (dLst (dCons (dOp1 (oXa liveL "index") (dMkX cTooGreat "index" (dVar 2))) (dCons (dOp1 (oXa liveL "given") (dMkX cPegOut "given" (dVar 2))) (dCons (dOp1 (oXa liveL "given") (dMkX cPegIn "given" (dVar 2))) dNil)))))) (sRet (dOp2 oEq (dOp1 oReprT (dOp2 oAdd (dVar 3) (dLst (dCons (dOp1 (oXa liveL "index") (dMkX cBroken "index" (dVar 2))) dNil)))) (dOp1 oReprT (dOp2 oMul (dLst (dCons (dVar 2) dNil)) (dC (.int 7)))))))))))))
def F_law (U : List Nat) : DF := runD 1 5 (sSeq (sSet 1 (dLst (dCons (dC (.int 12)) (dCons (dC (.int 12)) (dCons (dC (.int 9)) (dCons (dC (.int 99)) (dCons (dC (.int 2000)) (dCons (dC (.int 100)) (dCons (dC (.int 6)) (dCons (dC (.int 1000000000000000000000000000000)) dNil)))))))))) (sSeq (sIf (gBl (dOp2 oNe (dOp1 oReprT (dVar 1)) (dOp1 oReprT (dLst (dCons (dC (.int 12)) (dCons (dC (.int 12)) (dCons (dC (.int 9)) (dCons (dC (.int 99)) (dCons (dC (.int 2000)) (dCons (dC (.int 100)) (dCons (dC (.int 6)) (dCons (dOp2 oPow (dC (.int 10)) (dC (.int 30))) dNil)))))))))))) (sRet (dC (.bl false))) sPass) (sSeq (sSet 2 (dLst (dCons (dMk0 cNothingToUndo) (dCons (dMk0 cWrongValue) (dCons (dMk0 cWrongName) (dCons (dMk0 cNoAnswer) dNil)))))) (sSeq (sIf (gBl (dOp2 oNe (dF (compF (iSeq (dVar 2)) false [3] [3] tYesD (dCall (F_law_classes U) (dCons (dVar 3) dNil)))) (dLst (dCons (dLst (dCons (dC (.int 26)) (dCons (dC (.int 42)) (dCons (dC (.int 45)) dNil)))) (dCons (dLst (dCons (dC (.int 40)) (dCons (dC (.int 43)) dNil))) (dCons (dLst (dCons (dC (.int 41)) (dCons (dC (.int 44)) dNil))) (dCons (dLst (dCons (dC (.int 42)) (dCons (dC (.int 45)) dNil))) dNil))))))) (sRet (dC (.bl false))) sPass) (sRet (dOp1 oAll (dF (compF (iRan (dOp2 oMax (dC (.int 2)) (dOp2 oMin (dOp1 oLen (dVar 0)) (dC (.int 8))))) false [4] [4] tYesD (dCall (F_law_right U) (dCons (dCall (F_law_cup U) (dCons (dVar 0) (dCons (dVar 4) dNil))) dNil))))))))))
end K01
namespace K01
open PySem PySem.Spec PyProof.Rows L2 AM TL KP KL
local macro_rules | `(tactic| walk_at "en") => `(tactic| ((try simp only [List.map_cons, List.map_nil, List.replicate, List.replicate_zero, List.replicate_succ, List.cons_append, List.nil_append, List.set_cons_zero, List.set_cons_succ, Nat.reduceSub, Nat.reduceAdd, List.reduceReplicate, AM.putAll, AM.wipeE, List.foldl_cons, List.foldl_nil, List.zip_cons_cons, List.zip_nil_left, List.zip_nil_right]); with_unfolding_all rfl))
local macro_rules | `(tactic| walk_at "w1") => `(tactic| (with_reducible first
  | (apply wx_dVar; focus (with_unfolding_all rfl)) | refine wx_dC ?_ | refine wx_dOp2 ?_ | refine wx_all ?_ | refine wx_any ?_ | refine wx_dOp1 ?_ | refine wx_gBl ?_ | refine wx_gTru ?_ | refine wx_dCall ?_ | refine wx_dCons ?_ | refine wx_dNil ?_
  | (apply en_of; focus (walk_at "en")) | refine ws_sSeq ?_ | refine ws_sIf ?_ | refine ws_sRet ?_ | refine ws_sSet ?_ | refine ws_sAsg ?_ | refine ws_sPass ?_ | refine ws_sRet0 ?_ | refine ws_sAppH ?_ | refine ws_sFldD ?_ | refine ws_sAugD ?_ | refine wx_dNew ?_ | refine wx_iRan2 ?_ | refine wx_iRan3 ?_ | refine wx_fLran ?_ | refine wx_dInG ?_ | refine wx_dIxG ?_ | refine wx_dDicGet ?_ | refine wx_dCat ?_ | (apply wx_dLcall; focus (with_unfolding_all rfl); focus (with_unfolding_all rfl)) | refine wx_dDcall ?_ | refine ws_sExpr ?_ | refine ws_sOwn ?_ | refine ws_sFor ?_ | refine ws_sPar ?_ | refine ws_sPar3 ?_
  | refine ws_gNm ?_ | (apply ws_gTup; focus (with_unfolding_all rfl)) | refine ws_gNil ?_ | refine ws_gCons ?_
  | (apply wx_dOwn; focus (with_unfolding_all rfl)) | (apply wx_dOwn'; focus (with_unfolding_all rfl)) | (apply ws_frz; focus (with_unfolding_all rfl)) | (apply ws_frz'; focus (with_unfolding_all rfl)) | (apply ws_sApp; focus (with_unfolding_all rfl))
  | refine wx_dChain ?_ | refine wx_gAnd ?_ | refine wx_gOr ?_ | refine wx_gNot ?_ | refine wx_dAnd ?_ | refine wx_dOr ?_ | refine wx_dNot ?_ | refine wx_dIf ?_ | refine wx_dNeg ?_
  | refine wx_dTup ?_ | refine wx_dLst ?_ | refine wx_dLstF ?_ | refine wx_dF ?_ | refine wx_oNo ?_ | refine wx_oSo ?_ | refine wx_dSl ?_ | refine wx_dM1 ?_ | refine wx_dM0 ?_ | refine wx_dFld ?_ | refine wx_dProp ?_ | refine wx_dOwn2 ?_ | refine wx_gTruC ?_ | refine wx_iSeq ?_ | refine wx_iRan ?_
  | refine wi_add ?_ | refine wi_sub ?_ | refine wi_lt ?_ | refine wi_le ?_ | refine wi_gt ?_ | refine wi_ge ?_ | refine wi_eq ?_ | refine wi_ne ?_ | refine wi_max ?_ | refine wi_min ?_ | refine wi_lenT ?_ | refine wi_lenL ?_ | refine wi_lenF ?_
  | refine wi_itT ?_ | refine wi_itL ?_ | refine wi_itF ?_ | refine wi_itS ?_ | refine wi_tupL ?_ | refine wi_tupT ?_ | refine wi_isN ?_ | refine wi_isNN ?_ | refine wi_revL ?_ | refine wi_revT ?_ | refine wi_slT ?_ | refine wi_slL ?_ | refine wi_abs ?_ | refine wx_iEnmL ?_ | refine wx_dMeth ?_ | refine wx_dDkIx ?_ | refine wx_dItems ?_ | refine wx_iKeyD ?_ | refine ws_gIxC ?_ | refine ws_gFd ?_ | refine wi_intT ?_ | refine wi_inM ?_ | refine wi_notInM ?_
  | refine and_t ?_ | refine and_f ?_ | refine and_nT ?_ | refine and_nF ?_
  | refine Exists.intro _ (And.intro rfl ?_) | refine Exists.intro _ (Exists.intro _ (And.intro rfl ?_)) | refine Exists.intro _ (Exists.intro _ (Exists.intro _ (And.intro rfl ?_)))
  | (refine And.intro ?_ ?_; focus (refine Nat.le_of_ble_eq_true ?_; with_unfolding_all rfl)) | (refine And.intro ?_ ?_; focus (change okRb _ = true; with_unfolding_all rfl)) | (refine And.intro ?_ ?_; focus (change isC _ _ _ _ = true; with_unfolding_all rfl)) | (refine And.intro ?_ ?_; focus (change isI _ _ _ = true; with_unfolding_all rfl)) | (refine And.intro ?_ ?_; focus (change (isI _ _ _ && isI _ _ _) = true; with_unfolding_all rfl))))
local macro_rules | `(tactic| walk_at "w2") => `(tactic| (with_reducible first
  | (apply wx_dVar; focus (with_unfolding_all rfl)) | refine wx_dC ?_ | refine wx_dOp2 ?_ | refine wx_all ?_ | refine wx_any ?_ | refine wx_dOp1 ?_ | refine wx_gBl ?_ | refine wx_gTru ?_ | refine wx_dCall ?_ | refine wx_dCons ?_ | refine wx_dNil ?_
  | (apply en_of; focus (walk_at "en")) | refine ws_sSeq ?_ | refine ws_sRet ?_ | refine ws_sSet ?_ | refine ws_sAsg ?_ | refine ws_sPass ?_ | refine ws_sRet0 ?_ | refine ws_sAppH ?_ | refine ws_sFldD ?_ | refine ws_sAugD ?_ | refine wx_dNew ?_ | refine wx_iRan2 ?_ | refine wx_iRan3 ?_ | refine wx_fLran ?_ | refine wx_dInG ?_ | refine wx_dIxG ?_ | refine wx_dDicGet ?_ | refine wx_dCat ?_ | (apply wx_dLcall; focus (with_unfolding_all rfl); focus (with_unfolding_all rfl)) | refine wx_dDcall ?_ | refine ws_sExpr ?_ | refine ws_sOwn ?_ | refine ws_sFor ?_ | refine ws_sPar ?_ | refine ws_sPar3 ?_
  | refine ws_gNm ?_ | (apply ws_gTup; focus (with_unfolding_all rfl)) | refine ws_gNil ?_ | refine ws_gCons ?_
  | (apply wx_dOwn; focus (with_unfolding_all rfl)) | (apply wx_dOwn'; focus (with_unfolding_all rfl)) | (apply ws_frz; focus (with_unfolding_all rfl)) | (apply ws_frz'; focus (with_unfolding_all rfl)) | (apply ws_sApp; focus (with_unfolding_all rfl))
  | refine wx_dChain ?_ | refine wx_gAnd ?_ | refine wx_gOr ?_ | refine wx_gNot ?_ | refine wx_dAnd ?_ | refine wx_dOr ?_ | refine wx_dNot ?_ | refine wx_dNeg ?_
  | refine wx_dTup ?_ | refine wx_dLst ?_ | refine wx_dLstF ?_ | refine wx_dF ?_ | refine wx_oNo ?_ | refine wx_oSo ?_ | refine wx_dSl ?_ | refine wx_dM1 ?_ | refine wx_dM0 ?_ | refine wx_dFld ?_ | refine wx_dProp ?_ | refine wx_dOwn2 ?_ | refine wx_gTruC ?_ | refine wx_iSeq ?_ | refine wx_iRan ?_
  | refine wi_add ?_ | refine wi_sub ?_ | refine wi_lt ?_ | refine wi_le ?_ | refine wi_gt ?_ | refine wi_ge ?_ | refine wi_eq ?_ | refine wi_ne ?_ | refine wi_max ?_ | refine wi_min ?_ | refine wi_lenT ?_ | refine wi_lenL ?_ | refine wi_lenF ?_
  | refine wi_itT ?_ | refine wi_itL ?_ | refine wi_itF ?_ | refine wi_itS ?_ | refine wi_tupL ?_ | refine wi_tupT ?_ | refine wi_isN ?_ | refine wi_isNN ?_ | refine wi_revL ?_ | refine wi_revT ?_ | refine wi_slT ?_ | refine wi_slL ?_ | refine wi_abs ?_ | refine wx_iEnmL ?_ | refine wx_dMeth ?_ | refine wx_dDkIx ?_ | refine wx_dItems ?_ | refine wx_iKeyD ?_ | refine ws_gIxC ?_ | refine ws_gFd ?_ | refine wi_intT ?_ | refine wi_inM ?_ | refine wi_notInM ?_
  | refine and_t ?_ | refine and_f ?_ | refine and_nT ?_ | refine and_nF ?_
  | refine Exists.intro _ (And.intro rfl ?_) | refine Exists.intro _ (Exists.intro _ (And.intro rfl ?_)) | refine Exists.intro _ (Exists.intro _ (Exists.intro _ (And.intro rfl ?_)))
  | (refine And.intro ?_ ?_; focus (refine Nat.le_of_ble_eq_true ?_; with_unfolding_all rfl)) | (refine And.intro ?_ ?_; focus (change okRb _ = true; with_unfolding_all rfl)) | (refine And.intro ?_ ?_; focus (change isC _ _ _ _ = true; with_unfolding_all rfl)) | (refine And.intro ?_ ?_; focus (change isI _ _ _ = true; with_unfolding_all rfl)) | (refine And.intro ?_ ?_; focus (change (isI _ _ _ && isI _ _ _) = true; with_unfolding_all rfl))))
local macro_rules | `(tactic| walk_at "wp") => `(tactic| repeat' (walk_at "w1"))
local macro_rules | `(tactic| walk_at "wq") => `(tactic| repeat' (walk_at "w2"))
local macro_rules | `(tactic| walk_at "sd") => `(tactic| first | assumption | omega | (simp only [List.length_map, List.length_cons, List.length_nil]; omega) | decide)
local macro_rules | `(tactic| walk_at "ca") => `(tactic| (with_reducible first
  | refine wx_kwD rfl ?_
  | refine wi_len (by walk_at "sd") ?_
  | (refine And.intro ?_ ?_; focus (show List.length _ < 16777216; simp only [List.length_cons, List.length_nil, List.length_append, List.length_map]; omega))
  | refine and_nt rfl ?_ | refine and_nt (by omega) ?_ | refine and_dt (by omega) ?_ | refine and_df (by omega) ?_ | refine and_nf (by omega) ?_ | (refine Exists.intro _ (And.intro (by assumption) ?_)) | (refine And.intro (by assumption) ?_) | fail))
local macro_rules | `(tactic| walk_at "go") => `(tactic| repeat' (first | walk_at "w1" | walk_at "ca"))
local macro_rules | `(tactic| walk_at "gq") => `(tactic| repeat' (first | walk_at "w2" | walk_at "ca"))
section
def TH : List AM.D := [.non, .int 0, .int (-3), .bl true, .str "a", .str "", .tup [], .tup [.int 1, .int 2], .lst [], .lst [.int 7], .dk [], .dk [(.inr "a", .int 1)], .int 1000000000000000000000000000000, .tup [.str "set", .int 3]]
theorem ws_rt {r : SR} {d : AM.D} {s : Sto} {N : AEnv → Sto → Prop} {T : AM.D → Sto → Prop} (e : r = .rt d s) (h : T d s) : Ws r N T := by
  rw [e]
  exact .rt h
theorem w_right {h : Nat} {st : Sto} (c : Cup h st) : Wx (F_law_right [] [.hd h] st) fun d s => d = .bl true ∧ Mv h st s := by
  unfold F_law_right
  refine wx_run rfl ?_
  apply en_of
  focus (walk_at "en")
  refine ws_sSeq (ws_sSet (wx_eq (a := .lst TH) (st := st) (by kernel_rfl) ?_))
  apply en_of
  focus (walk_at "en")
  refine ws_sSeq (ws_sSet (wx_dCall (wx_dCons (wx_dVar rfl (wx_dCons (wx_dVar rfl (wx_dNil ?_)))))))
  refine wx_pick c (by decide) (by decide) fun d s hd m => ?_
  apply en_of
  focus (walk_at "en")
  simp only [TH, List.mem_cons, List.not_mem_nil, or_false] at hd
  rcases hd with rfl | rfl | rfl | rfl | rfl | rfl | rfl | rfl | rfl | rfl | rfl | rfl | rfl | rfl
  all_goals exact ws_rt (s := s) (d := .bl true) (by kernel_rfl) ⟨rfl, m⟩
theorem law_true (ns : List Int) (hn : ns.length ≤ 63) : ∃ st, F_law [] [.fz (ns.map AM.D.int)] [] = .ok (.bl true) st := by
  have : Wx (F_law [] [.fz (ns.map AM.D.int)] []) fun x _ => x = .bl true := by
    unfold F_law
    refine wx_run rfl ?_
    apply en_of
    focus (walk_at "en")
    refine ws_sSeq (ws_sSet (wx_eq (a := .lst [.int 12, .int 12, .int 9, .int 99, .int 2000, .int 100, .int 6, .int 1000000000000000000000000000000]) (st := []) (by kernel_rfl) ?_))
    apply en_of
    focus (walk_at "en")
    refine ws_sSeq (ws_sIf (wx_eq (a := false) (st := []) (by kernel_rfl) (and_f (ws_sPass ?_))))
    refine ws_sSeq (ws_sSet (wx_eq (a := .lst [.exx cNothingToUndo [], .exx cWrongValue [], .exx cWrongName [], .exx cNoAnswer []]) (st := []) (by kernel_rfl) ?_))
    apply en_of
    focus (walk_at "en")
    refine ws_sSeq (ws_sIf (wx_eq (a := false) (st := []) (by kernel_rfl) (and_f (ws_sPass ?_))))
    exact ws_sRet (wx_lawAll hn (by decide) rfl (by simp) (by decide) rfl (fun h st c => w_right c) (fun _ => rfl))
  obtain ⟨d, s, e, rfl⟩ := wx_ex this
  exact ⟨s, e⟩
end
end K01
namespace K01
open PySem PySem.Spec PyProof.Rows L2 AM KL KP
abbrev U : List Nat := []
def top (i : Nat) : Stmt := PySem.Challenge.pw_knotspools_k01_constants_and_errors.main.body.getD i (.Pass ⟨0, 0, 0, 0⟩)
def cn0 : List Str := ["WrongValue", "NotAWinding", "InvalidText", "InvalidRounds", "InvalidPegs", "InvalidPeg", "InvalidPlace", "InvalidFactor", "InvalidWord", "InvalidTimes", "InvalidWish", "InvalidName", "InvalidClaim", "InvalidIndex", "InvalidLine", "InvalidBlocks", "InvalidLots", "InvalidWishes", "InvalidChanges", "InvalidDeeds"]
def cn20 : List Str := ["WrongName", "UnknownName", "InUse", "NoAnswer", "TooMany", "TooGreat", "PegOut", "PegIn", "Broken", "NothingToUndo", "Known", "Winding", "Loosening", "State", "Earlier", "ThreadTrial", "Thread", "Kept", "Trial", "Book"]
def cn40 : List Str := ["Console", "shows_free", "shows_free_at", "shows_held_at", "shows_held", "shows_length", "shows_same", "shows_lots"]
def cn : List Str := cn0 ++ (cn20 ++ (cn40))
abbrev Γ (K : PySem.W.Frag) (i : Nat) : Addr := He.ga K (cn.getD i "")
def rx_InvalidText : List (Ty1 × Bool) := [(.own "NotAWinding", false), (.own "InvalidText", true), (.own "InvalidRounds", false), (.own "InvalidPegs", false), (.own "InvalidPeg", false), (.own "InvalidPlace", false), (.own "InvalidFactor", false), (.own "InvalidWord", false), (.own "InvalidTimes", false), (.own "InvalidWish", false), (.own "InvalidName", false), (.own "InvalidClaim", false), (.own "InvalidIndex", false), (.own "InvalidLine", false), (.own "InvalidBlocks", false), (.own "InvalidLots", false), (.own "InvalidWishes", false), (.own "InvalidChanges", false), (.own "InvalidDeeds", false), (.own "UnknownName", false), (.own "InUse", false), (.own "TooMany", false), (.own "TooGreat", false), (.own "PegOut", false), (.own "PegIn", false), (.own "Broken", false), (.own "NothingToUndo", false), (.own "WrongValue", true), (.own "WrongName", false), (.own "NoAnswer", false), (.ty "ValueError", true), (.ty "LookupError", false), (.ty "ArithmeticError", false)]
def rx_NotAWinding : List (Ty1 × Bool) := [(.own "NotAWinding", true), (.own "InvalidText", false), (.own "InvalidRounds", false), (.own "InvalidPegs", false), (.own "InvalidPeg", false), (.own "InvalidPlace", false), (.own "InvalidFactor", false), (.own "InvalidWord", false), (.own "InvalidTimes", false), (.own "InvalidWish", false), (.own "InvalidName", false), (.own "InvalidClaim", false), (.own "InvalidIndex", false), (.own "InvalidLine", false), (.own "InvalidBlocks", false), (.own "InvalidLots", false), (.own "InvalidWishes", false), (.own "InvalidChanges", false), (.own "InvalidDeeds", false), (.own "UnknownName", false), (.own "InUse", false), (.own "TooMany", false), (.own "TooGreat", false), (.own "PegOut", false), (.own "PegIn", false), (.own "Broken", false), (.own "NothingToUndo", false), (.own "WrongValue", true), (.own "WrongName", false), (.own "NoAnswer", false), (.ty "ValueError", true), (.ty "LookupError", false), (.ty "ArithmeticError", false)]
def rx_InvalidPegs : List (Ty1 × Bool) := [(.own "NotAWinding", false), (.own "InvalidText", false), (.own "InvalidRounds", false), (.own "InvalidPegs", true), (.own "InvalidPeg", false), (.own "InvalidPlace", false), (.own "InvalidFactor", false), (.own "InvalidWord", false), (.own "InvalidTimes", false), (.own "InvalidWish", false), (.own "InvalidName", false), (.own "InvalidClaim", false), (.own "InvalidIndex", false), (.own "InvalidLine", false), (.own "InvalidBlocks", false), (.own "InvalidLots", false), (.own "InvalidWishes", false), (.own "InvalidChanges", false), (.own "InvalidDeeds", false), (.own "UnknownName", false), (.own "InUse", false), (.own "TooMany", false), (.own "TooGreat", false), (.own "PegOut", false), (.own "PegIn", false), (.own "Broken", false), (.own "NothingToUndo", false), (.own "WrongValue", true), (.own "WrongName", false), (.own "NoAnswer", false), (.ty "ValueError", true), (.ty "LookupError", false), (.ty "ArithmeticError", false)]
def rx_InvalidRounds : List (Ty1 × Bool) := [(.own "NotAWinding", false), (.own "InvalidText", false), (.own "InvalidRounds", true), (.own "InvalidPegs", false), (.own "InvalidPeg", false), (.own "InvalidPlace", false), (.own "InvalidFactor", false), (.own "InvalidWord", false), (.own "InvalidTimes", false), (.own "InvalidWish", false), (.own "InvalidName", false), (.own "InvalidClaim", false), (.own "InvalidIndex", false), (.own "InvalidLine", false), (.own "InvalidBlocks", false), (.own "InvalidLots", false), (.own "InvalidWishes", false), (.own "InvalidChanges", false), (.own "InvalidDeeds", false), (.own "UnknownName", false), (.own "InUse", false), (.own "TooMany", false), (.own "TooGreat", false), (.own "PegOut", false), (.own "PegIn", false), (.own "Broken", false), (.own "NothingToUndo", false), (.own "WrongValue", true), (.own "WrongName", false), (.own "NoAnswer", false), (.ty "ValueError", true), (.ty "LookupError", false), (.ty "ArithmeticError", false)]
def rx_InvalidPlace : List (Ty1 × Bool) := [(.own "NotAWinding", false), (.own "InvalidText", false), (.own "InvalidRounds", false), (.own "InvalidPegs", false), (.own "InvalidPeg", false), (.own "InvalidPlace", true), (.own "InvalidFactor", false), (.own "InvalidWord", false), (.own "InvalidTimes", false), (.own "InvalidWish", false), (.own "InvalidName", false), (.own "InvalidClaim", false), (.own "InvalidIndex", false), (.own "InvalidLine", false), (.own "InvalidBlocks", false), (.own "InvalidLots", false), (.own "InvalidWishes", false), (.own "InvalidChanges", false), (.own "InvalidDeeds", false), (.own "UnknownName", false), (.own "InUse", false), (.own "TooMany", false), (.own "TooGreat", false), (.own "PegOut", false), (.own "PegIn", false), (.own "Broken", false), (.own "NothingToUndo", false), (.own "WrongValue", true), (.own "WrongName", false), (.own "NoAnswer", false), (.ty "ValueError", true), (.ty "LookupError", false), (.ty "ArithmeticError", false)]
def rx_InvalidPeg : List (Ty1 × Bool) := [(.own "NotAWinding", false), (.own "InvalidText", false), (.own "InvalidRounds", false), (.own "InvalidPegs", false), (.own "InvalidPeg", true), (.own "InvalidPlace", false), (.own "InvalidFactor", false), (.own "InvalidWord", false), (.own "InvalidTimes", false), (.own "InvalidWish", false), (.own "InvalidName", false), (.own "InvalidClaim", false), (.own "InvalidIndex", false), (.own "InvalidLine", false), (.own "InvalidBlocks", false), (.own "InvalidLots", false), (.own "InvalidWishes", false), (.own "InvalidChanges", false), (.own "InvalidDeeds", false), (.own "UnknownName", false), (.own "InUse", false), (.own "TooMany", false), (.own "TooGreat", false), (.own "PegOut", false), (.own "PegIn", false), (.own "Broken", false), (.own "NothingToUndo", false), (.own "WrongValue", true), (.own "WrongName", false), (.own "NoAnswer", false), (.ty "ValueError", true), (.ty "LookupError", false), (.ty "ArithmeticError", false)]
def rx_InvalidWord : List (Ty1 × Bool) := [(.own "NotAWinding", false), (.own "InvalidText", false), (.own "InvalidRounds", false), (.own "InvalidPegs", false), (.own "InvalidPeg", false), (.own "InvalidPlace", false), (.own "InvalidFactor", false), (.own "InvalidWord", true), (.own "InvalidTimes", false), (.own "InvalidWish", false), (.own "InvalidName", false), (.own "InvalidClaim", false), (.own "InvalidIndex", false), (.own "InvalidLine", false), (.own "InvalidBlocks", false), (.own "InvalidLots", false), (.own "InvalidWishes", false), (.own "InvalidChanges", false), (.own "InvalidDeeds", false), (.own "UnknownName", false), (.own "InUse", false), (.own "TooMany", false), (.own "TooGreat", false), (.own "PegOut", false), (.own "PegIn", false), (.own "Broken", false), (.own "NothingToUndo", false), (.own "WrongValue", true), (.own "WrongName", false), (.own "NoAnswer", false), (.ty "ValueError", true), (.ty "LookupError", false), (.ty "ArithmeticError", false)]
def rx_InvalidFactor : List (Ty1 × Bool) := [(.own "NotAWinding", false), (.own "InvalidText", false), (.own "InvalidRounds", false), (.own "InvalidPegs", false), (.own "InvalidPeg", false), (.own "InvalidPlace", false), (.own "InvalidFactor", true), (.own "InvalidWord", false), (.own "InvalidTimes", false), (.own "InvalidWish", false), (.own "InvalidName", false), (.own "InvalidClaim", false), (.own "InvalidIndex", false), (.own "InvalidLine", false), (.own "InvalidBlocks", false), (.own "InvalidLots", false), (.own "InvalidWishes", false), (.own "InvalidChanges", false), (.own "InvalidDeeds", false), (.own "UnknownName", false), (.own "InUse", false), (.own "TooMany", false), (.own "TooGreat", false), (.own "PegOut", false), (.own "PegIn", false), (.own "Broken", false), (.own "NothingToUndo", false), (.own "WrongValue", true), (.own "WrongName", false), (.own "NoAnswer", false), (.ty "ValueError", true), (.ty "LookupError", false), (.ty "ArithmeticError", false)]
def rx_InvalidWish : List (Ty1 × Bool) := [(.own "NotAWinding", false), (.own "InvalidText", false), (.own "InvalidRounds", false), (.own "InvalidPegs", false), (.own "InvalidPeg", false), (.own "InvalidPlace", false), (.own "InvalidFactor", false), (.own "InvalidWord", false), (.own "InvalidTimes", false), (.own "InvalidWish", true), (.own "InvalidName", false), (.own "InvalidClaim", false), (.own "InvalidIndex", false), (.own "InvalidLine", false), (.own "InvalidBlocks", false), (.own "InvalidLots", false), (.own "InvalidWishes", false), (.own "InvalidChanges", false), (.own "InvalidDeeds", false), (.own "UnknownName", false), (.own "InUse", false), (.own "TooMany", false), (.own "TooGreat", false), (.own "PegOut", false), (.own "PegIn", false), (.own "Broken", false), (.own "NothingToUndo", false), (.own "WrongValue", true), (.own "WrongName", false), (.own "NoAnswer", false), (.ty "ValueError", true), (.ty "LookupError", false), (.ty "ArithmeticError", false)]
def rx_InvalidTimes : List (Ty1 × Bool) := [(.own "NotAWinding", false), (.own "InvalidText", false), (.own "InvalidRounds", false), (.own "InvalidPegs", false), (.own "InvalidPeg", false), (.own "InvalidPlace", false), (.own "InvalidFactor", false), (.own "InvalidWord", false), (.own "InvalidTimes", true), (.own "InvalidWish", false), (.own "InvalidName", false), (.own "InvalidClaim", false), (.own "InvalidIndex", false), (.own "InvalidLine", false), (.own "InvalidBlocks", false), (.own "InvalidLots", false), (.own "InvalidWishes", false), (.own "InvalidChanges", false), (.own "InvalidDeeds", false), (.own "UnknownName", false), (.own "InUse", false), (.own "TooMany", false), (.own "TooGreat", false), (.own "PegOut", false), (.own "PegIn", false), (.own "Broken", false), (.own "NothingToUndo", false), (.own "WrongValue", true), (.own "WrongName", false), (.own "NoAnswer", false), (.ty "ValueError", true), (.ty "LookupError", false), (.ty "ArithmeticError", false)]
def rx_InvalidClaim : List (Ty1 × Bool) := [(.own "NotAWinding", false), (.own "InvalidText", false), (.own "InvalidRounds", false), (.own "InvalidPegs", false), (.own "InvalidPeg", false), (.own "InvalidPlace", false), (.own "InvalidFactor", false), (.own "InvalidWord", false), (.own "InvalidTimes", false), (.own "InvalidWish", false), (.own "InvalidName", false), (.own "InvalidClaim", true), (.own "InvalidIndex", false), (.own "InvalidLine", false), (.own "InvalidBlocks", false), (.own "InvalidLots", false), (.own "InvalidWishes", false), (.own "InvalidChanges", false), (.own "InvalidDeeds", false), (.own "UnknownName", false), (.own "InUse", false), (.own "TooMany", false), (.own "TooGreat", false), (.own "PegOut", false), (.own "PegIn", false), (.own "Broken", false), (.own "NothingToUndo", false), (.own "WrongValue", true), (.own "WrongName", false), (.own "NoAnswer", false), (.ty "ValueError", true), (.ty "LookupError", false), (.ty "ArithmeticError", false)]
def rx_InvalidName : List (Ty1 × Bool) := [(.own "NotAWinding", false), (.own "InvalidText", false), (.own "InvalidRounds", false), (.own "InvalidPegs", false), (.own "InvalidPeg", false), (.own "InvalidPlace", false), (.own "InvalidFactor", false), (.own "InvalidWord", false), (.own "InvalidTimes", false), (.own "InvalidWish", false), (.own "InvalidName", true), (.own "InvalidClaim", false), (.own "InvalidIndex", false), (.own "InvalidLine", false), (.own "InvalidBlocks", false), (.own "InvalidLots", false), (.own "InvalidWishes", false), (.own "InvalidChanges", false), (.own "InvalidDeeds", false), (.own "UnknownName", false), (.own "InUse", false), (.own "TooMany", false), (.own "TooGreat", false), (.own "PegOut", false), (.own "PegIn", false), (.own "Broken", false), (.own "NothingToUndo", false), (.own "WrongValue", true), (.own "WrongName", false), (.own "NoAnswer", false), (.ty "ValueError", true), (.ty "LookupError", false), (.ty "ArithmeticError", false)]
def rx_InvalidLine : List (Ty1 × Bool) := [(.own "NotAWinding", false), (.own "InvalidText", false), (.own "InvalidRounds", false), (.own "InvalidPegs", false), (.own "InvalidPeg", false), (.own "InvalidPlace", false), (.own "InvalidFactor", false), (.own "InvalidWord", false), (.own "InvalidTimes", false), (.own "InvalidWish", false), (.own "InvalidName", false), (.own "InvalidClaim", false), (.own "InvalidIndex", false), (.own "InvalidLine", true), (.own "InvalidBlocks", false), (.own "InvalidLots", false), (.own "InvalidWishes", false), (.own "InvalidChanges", false), (.own "InvalidDeeds", false), (.own "UnknownName", false), (.own "InUse", false), (.own "TooMany", false), (.own "TooGreat", false), (.own "PegOut", false), (.own "PegIn", false), (.own "Broken", false), (.own "NothingToUndo", false), (.own "WrongValue", true), (.own "WrongName", false), (.own "NoAnswer", false), (.ty "ValueError", true), (.ty "LookupError", false), (.ty "ArithmeticError", false)]
def rx_InvalidIndex : List (Ty1 × Bool) := [(.own "NotAWinding", false), (.own "InvalidText", false), (.own "InvalidRounds", false), (.own "InvalidPegs", false), (.own "InvalidPeg", false), (.own "InvalidPlace", false), (.own "InvalidFactor", false), (.own "InvalidWord", false), (.own "InvalidTimes", false), (.own "InvalidWish", false), (.own "InvalidName", false), (.own "InvalidClaim", false), (.own "InvalidIndex", true), (.own "InvalidLine", false), (.own "InvalidBlocks", false), (.own "InvalidLots", false), (.own "InvalidWishes", false), (.own "InvalidChanges", false), (.own "InvalidDeeds", false), (.own "UnknownName", false), (.own "InUse", false), (.own "TooMany", false), (.own "TooGreat", false), (.own "PegOut", false), (.own "PegIn", false), (.own "Broken", false), (.own "NothingToUndo", false), (.own "WrongValue", true), (.own "WrongName", false), (.own "NoAnswer", false), (.ty "ValueError", true), (.ty "LookupError", false), (.ty "ArithmeticError", false)]
def rx_InvalidLots : List (Ty1 × Bool) := [(.own "NotAWinding", false), (.own "InvalidText", false), (.own "InvalidRounds", false), (.own "InvalidPegs", false), (.own "InvalidPeg", false), (.own "InvalidPlace", false), (.own "InvalidFactor", false), (.own "InvalidWord", false), (.own "InvalidTimes", false), (.own "InvalidWish", false), (.own "InvalidName", false), (.own "InvalidClaim", false), (.own "InvalidIndex", false), (.own "InvalidLine", false), (.own "InvalidBlocks", false), (.own "InvalidLots", true), (.own "InvalidWishes", false), (.own "InvalidChanges", false), (.own "InvalidDeeds", false), (.own "UnknownName", false), (.own "InUse", false), (.own "TooMany", false), (.own "TooGreat", false), (.own "PegOut", false), (.own "PegIn", false), (.own "Broken", false), (.own "NothingToUndo", false), (.own "WrongValue", true), (.own "WrongName", false), (.own "NoAnswer", false), (.ty "ValueError", true), (.ty "LookupError", false), (.ty "ArithmeticError", false)]
def rx_InvalidBlocks : List (Ty1 × Bool) := [(.own "NotAWinding", false), (.own "InvalidText", false), (.own "InvalidRounds", false), (.own "InvalidPegs", false), (.own "InvalidPeg", false), (.own "InvalidPlace", false), (.own "InvalidFactor", false), (.own "InvalidWord", false), (.own "InvalidTimes", false), (.own "InvalidWish", false), (.own "InvalidName", false), (.own "InvalidClaim", false), (.own "InvalidIndex", false), (.own "InvalidLine", false), (.own "InvalidBlocks", true), (.own "InvalidLots", false), (.own "InvalidWishes", false), (.own "InvalidChanges", false), (.own "InvalidDeeds", false), (.own "UnknownName", false), (.own "InUse", false), (.own "TooMany", false), (.own "TooGreat", false), (.own "PegOut", false), (.own "PegIn", false), (.own "Broken", false), (.own "NothingToUndo", false), (.own "WrongValue", true), (.own "WrongName", false), (.own "NoAnswer", false), (.ty "ValueError", true), (.ty "LookupError", false), (.ty "ArithmeticError", false)]
def rx_InvalidWishes : List (Ty1 × Bool) := [(.own "NotAWinding", false), (.own "InvalidText", false), (.own "InvalidRounds", false), (.own "InvalidPegs", false), (.own "InvalidPeg", false), (.own "InvalidPlace", false), (.own "InvalidFactor", false), (.own "InvalidWord", false), (.own "InvalidTimes", false), (.own "InvalidWish", false), (.own "InvalidName", false), (.own "InvalidClaim", false), (.own "InvalidIndex", false), (.own "InvalidLine", false), (.own "InvalidBlocks", false), (.own "InvalidLots", false), (.own "InvalidWishes", true), (.own "InvalidChanges", false), (.own "InvalidDeeds", false), (.own "UnknownName", false), (.own "InUse", false), (.own "TooMany", false), (.own "TooGreat", false), (.own "PegOut", false), (.own "PegIn", false), (.own "Broken", false), (.own "NothingToUndo", false), (.own "WrongValue", true), (.own "WrongName", false), (.own "NoAnswer", false), (.ty "ValueError", true), (.ty "LookupError", false), (.ty "ArithmeticError", false)]
def rx_InvalidChanges : List (Ty1 × Bool) := [(.own "NotAWinding", false), (.own "InvalidText", false), (.own "InvalidRounds", false), (.own "InvalidPegs", false), (.own "InvalidPeg", false), (.own "InvalidPlace", false), (.own "InvalidFactor", false), (.own "InvalidWord", false), (.own "InvalidTimes", false), (.own "InvalidWish", false), (.own "InvalidName", false), (.own "InvalidClaim", false), (.own "InvalidIndex", false), (.own "InvalidLine", false), (.own "InvalidBlocks", false), (.own "InvalidLots", false), (.own "InvalidWishes", false), (.own "InvalidChanges", true), (.own "InvalidDeeds", false), (.own "UnknownName", false), (.own "InUse", false), (.own "TooMany", false), (.own "TooGreat", false), (.own "PegOut", false), (.own "PegIn", false), (.own "Broken", false), (.own "NothingToUndo", false), (.own "WrongValue", true), (.own "WrongName", false), (.own "NoAnswer", false), (.ty "ValueError", true), (.ty "LookupError", false), (.ty "ArithmeticError", false)]
def rx_InvalidDeeds : List (Ty1 × Bool) := [(.own "NotAWinding", false), (.own "InvalidText", false), (.own "InvalidRounds", false), (.own "InvalidPegs", false), (.own "InvalidPeg", false), (.own "InvalidPlace", false), (.own "InvalidFactor", false), (.own "InvalidWord", false), (.own "InvalidTimes", false), (.own "InvalidWish", false), (.own "InvalidName", false), (.own "InvalidClaim", false), (.own "InvalidIndex", false), (.own "InvalidLine", false), (.own "InvalidBlocks", false), (.own "InvalidLots", false), (.own "InvalidWishes", false), (.own "InvalidChanges", false), (.own "InvalidDeeds", true), (.own "UnknownName", false), (.own "InUse", false), (.own "TooMany", false), (.own "TooGreat", false), (.own "PegOut", false), (.own "PegIn", false), (.own "Broken", false), (.own "NothingToUndo", false), (.own "WrongValue", true), (.own "WrongName", false), (.own "NoAnswer", false), (.ty "ValueError", true), (.ty "LookupError", false), (.ty "ArithmeticError", false)]
def rx_UnknownName : List (Ty1 × Bool) := [(.own "NotAWinding", false), (.own "InvalidText", false), (.own "InvalidRounds", false), (.own "InvalidPegs", false), (.own "InvalidPeg", false), (.own "InvalidPlace", false), (.own "InvalidFactor", false), (.own "InvalidWord", false), (.own "InvalidTimes", false), (.own "InvalidWish", false), (.own "InvalidName", false), (.own "InvalidClaim", false), (.own "InvalidIndex", false), (.own "InvalidLine", false), (.own "InvalidBlocks", false), (.own "InvalidLots", false), (.own "InvalidWishes", false), (.own "InvalidChanges", false), (.own "InvalidDeeds", false), (.own "UnknownName", true), (.own "InUse", false), (.own "TooMany", false), (.own "TooGreat", false), (.own "PegOut", false), (.own "PegIn", false), (.own "Broken", false), (.own "NothingToUndo", false), (.own "WrongValue", false), (.own "WrongName", true), (.own "NoAnswer", false), (.ty "ValueError", false), (.ty "LookupError", true), (.ty "ArithmeticError", false)]
def rx_InUse : List (Ty1 × Bool) := [(.own "NotAWinding", false), (.own "InvalidText", false), (.own "InvalidRounds", false), (.own "InvalidPegs", false), (.own "InvalidPeg", false), (.own "InvalidPlace", false), (.own "InvalidFactor", false), (.own "InvalidWord", false), (.own "InvalidTimes", false), (.own "InvalidWish", false), (.own "InvalidName", false), (.own "InvalidClaim", false), (.own "InvalidIndex", false), (.own "InvalidLine", false), (.own "InvalidBlocks", false), (.own "InvalidLots", false), (.own "InvalidWishes", false), (.own "InvalidChanges", false), (.own "InvalidDeeds", false), (.own "UnknownName", false), (.own "InUse", true), (.own "TooMany", false), (.own "TooGreat", false), (.own "PegOut", false), (.own "PegIn", false), (.own "Broken", false), (.own "NothingToUndo", false), (.own "WrongValue", false), (.own "WrongName", true), (.own "NoAnswer", false), (.ty "ValueError", false), (.ty "LookupError", true), (.ty "ArithmeticError", false)]
def rx_TooMany : List (Ty1 × Bool) := [(.own "NotAWinding", false), (.own "InvalidText", false), (.own "InvalidRounds", false), (.own "InvalidPegs", false), (.own "InvalidPeg", false), (.own "InvalidPlace", false), (.own "InvalidFactor", false), (.own "InvalidWord", false), (.own "InvalidTimes", false), (.own "InvalidWish", false), (.own "InvalidName", false), (.own "InvalidClaim", false), (.own "InvalidIndex", false), (.own "InvalidLine", false), (.own "InvalidBlocks", false), (.own "InvalidLots", false), (.own "InvalidWishes", false), (.own "InvalidChanges", false), (.own "InvalidDeeds", false), (.own "UnknownName", false), (.own "InUse", false), (.own "TooMany", true), (.own "TooGreat", false), (.own "PegOut", false), (.own "PegIn", false), (.own "Broken", false), (.own "NothingToUndo", false), (.own "WrongValue", false), (.own "WrongName", false), (.own "NoAnswer", true), (.ty "ValueError", false), (.ty "LookupError", false), (.ty "ArithmeticError", true)]
def rx_TooGreat : List (Ty1 × Bool) := [(.own "NotAWinding", false), (.own "InvalidText", false), (.own "InvalidRounds", false), (.own "InvalidPegs", false), (.own "InvalidPeg", false), (.own "InvalidPlace", false), (.own "InvalidFactor", false), (.own "InvalidWord", false), (.own "InvalidTimes", false), (.own "InvalidWish", false), (.own "InvalidName", false), (.own "InvalidClaim", false), (.own "InvalidIndex", false), (.own "InvalidLine", false), (.own "InvalidBlocks", false), (.own "InvalidLots", false), (.own "InvalidWishes", false), (.own "InvalidChanges", false), (.own "InvalidDeeds", false), (.own "UnknownName", false), (.own "InUse", false), (.own "TooMany", false), (.own "TooGreat", true), (.own "PegOut", false), (.own "PegIn", false), (.own "Broken", false), (.own "NothingToUndo", false), (.own "WrongValue", false), (.own "WrongName", false), (.own "NoAnswer", true), (.ty "ValueError", false), (.ty "LookupError", false), (.ty "ArithmeticError", true)]
def rx_PegOut : List (Ty1 × Bool) := [(.own "NotAWinding", false), (.own "InvalidText", false), (.own "InvalidRounds", false), (.own "InvalidPegs", false), (.own "InvalidPeg", false), (.own "InvalidPlace", false), (.own "InvalidFactor", false), (.own "InvalidWord", false), (.own "InvalidTimes", false), (.own "InvalidWish", false), (.own "InvalidName", false), (.own "InvalidClaim", false), (.own "InvalidIndex", false), (.own "InvalidLine", false), (.own "InvalidBlocks", false), (.own "InvalidLots", false), (.own "InvalidWishes", false), (.own "InvalidChanges", false), (.own "InvalidDeeds", false), (.own "UnknownName", false), (.own "InUse", false), (.own "TooMany", false), (.own "TooGreat", false), (.own "PegOut", true), (.own "PegIn", false), (.own "Broken", false), (.own "NothingToUndo", false), (.own "WrongValue", false), (.own "WrongName", false), (.own "NoAnswer", true), (.ty "ValueError", false), (.ty "LookupError", false), (.ty "ArithmeticError", true)]
def rx_PegIn : List (Ty1 × Bool) := [(.own "NotAWinding", false), (.own "InvalidText", false), (.own "InvalidRounds", false), (.own "InvalidPegs", false), (.own "InvalidPeg", false), (.own "InvalidPlace", false), (.own "InvalidFactor", false), (.own "InvalidWord", false), (.own "InvalidTimes", false), (.own "InvalidWish", false), (.own "InvalidName", false), (.own "InvalidClaim", false), (.own "InvalidIndex", false), (.own "InvalidLine", false), (.own "InvalidBlocks", false), (.own "InvalidLots", false), (.own "InvalidWishes", false), (.own "InvalidChanges", false), (.own "InvalidDeeds", false), (.own "UnknownName", false), (.own "InUse", false), (.own "TooMany", false), (.own "TooGreat", false), (.own "PegOut", false), (.own "PegIn", true), (.own "Broken", false), (.own "NothingToUndo", false), (.own "WrongValue", false), (.own "WrongName", false), (.own "NoAnswer", true), (.ty "ValueError", false), (.ty "LookupError", false), (.ty "ArithmeticError", true)]
def rx_Broken : List (Ty1 × Bool) := [(.own "NotAWinding", false), (.own "InvalidText", false), (.own "InvalidRounds", false), (.own "InvalidPegs", false), (.own "InvalidPeg", false), (.own "InvalidPlace", false), (.own "InvalidFactor", false), (.own "InvalidWord", false), (.own "InvalidTimes", false), (.own "InvalidWish", false), (.own "InvalidName", false), (.own "InvalidClaim", false), (.own "InvalidIndex", false), (.own "InvalidLine", false), (.own "InvalidBlocks", false), (.own "InvalidLots", false), (.own "InvalidWishes", false), (.own "InvalidChanges", false), (.own "InvalidDeeds", false), (.own "UnknownName", false), (.own "InUse", false), (.own "TooMany", false), (.own "TooGreat", false), (.own "PegOut", false), (.own "PegIn", false), (.own "Broken", true), (.own "NothingToUndo", false), (.own "WrongValue", false), (.own "WrongName", false), (.own "NoAnswer", true), (.ty "ValueError", false), (.ty "LookupError", false), (.ty "ArithmeticError", true)]
def rx_NoAnswer : List (Ty1 × Bool) := [(.own "NotAWinding", false), (.own "InvalidText", false), (.own "InvalidRounds", false), (.own "InvalidPegs", false), (.own "InvalidPeg", false), (.own "InvalidPlace", false), (.own "InvalidFactor", false), (.own "InvalidWord", false), (.own "InvalidTimes", false), (.own "InvalidWish", false), (.own "InvalidName", false), (.own "InvalidClaim", false), (.own "InvalidIndex", false), (.own "InvalidLine", false), (.own "InvalidBlocks", false), (.own "InvalidLots", false), (.own "InvalidWishes", false), (.own "InvalidChanges", false), (.own "InvalidDeeds", false), (.own "UnknownName", false), (.own "InUse", false), (.own "TooMany", false), (.own "TooGreat", false), (.own "PegOut", false), (.own "PegIn", false), (.own "Broken", false), (.own "NothingToUndo", false), (.own "WrongValue", false), (.own "WrongName", false), (.own "NoAnswer", true), (.ty "ValueError", false), (.ty "LookupError", false), (.ty "ArithmeticError", true)]
def rx_WrongName : List (Ty1 × Bool) := [(.own "NotAWinding", false), (.own "InvalidText", false), (.own "InvalidRounds", false), (.own "InvalidPegs", false), (.own "InvalidPeg", false), (.own "InvalidPlace", false), (.own "InvalidFactor", false), (.own "InvalidWord", false), (.own "InvalidTimes", false), (.own "InvalidWish", false), (.own "InvalidName", false), (.own "InvalidClaim", false), (.own "InvalidIndex", false), (.own "InvalidLine", false), (.own "InvalidBlocks", false), (.own "InvalidLots", false), (.own "InvalidWishes", false), (.own "InvalidChanges", false), (.own "InvalidDeeds", false), (.own "UnknownName", false), (.own "InUse", false), (.own "TooMany", false), (.own "TooGreat", false), (.own "PegOut", false), (.own "PegIn", false), (.own "Broken", false), (.own "NothingToUndo", false), (.own "WrongValue", false), (.own "WrongName", true), (.own "NoAnswer", false), (.ty "ValueError", false), (.ty "LookupError", true), (.ty "ArithmeticError", false)]
def rx_WrongValue : List (Ty1 × Bool) := [(.own "NotAWinding", false), (.own "InvalidText", false), (.own "InvalidRounds", false), (.own "InvalidPegs", false), (.own "InvalidPeg", false), (.own "InvalidPlace", false), (.own "InvalidFactor", false), (.own "InvalidWord", false), (.own "InvalidTimes", false), (.own "InvalidWish", false), (.own "InvalidName", false), (.own "InvalidClaim", false), (.own "InvalidIndex", false), (.own "InvalidLine", false), (.own "InvalidBlocks", false), (.own "InvalidLots", false), (.own "InvalidWishes", false), (.own "InvalidChanges", false), (.own "InvalidDeeds", false), (.own "UnknownName", false), (.own "InUse", false), (.own "TooMany", false), (.own "TooGreat", false), (.own "PegOut", false), (.own "PegIn", false), (.own "Broken", false), (.own "NothingToUndo", false), (.own "WrongValue", true), (.own "WrongName", false), (.own "NoAnswer", false), (.ty "ValueError", true), (.ty "LookupError", false), (.ty "ArithmeticError", false)]
def rx_NothingToUndo : List (Ty1 × Bool) := [(.own "NotAWinding", false), (.own "InvalidText", false), (.own "InvalidRounds", false), (.own "InvalidPegs", false), (.own "InvalidPeg", false), (.own "InvalidPlace", false), (.own "InvalidFactor", false), (.own "InvalidWord", false), (.own "InvalidTimes", false), (.own "InvalidWish", false), (.own "InvalidName", false), (.own "InvalidClaim", false), (.own "InvalidIndex", false), (.own "InvalidLine", false), (.own "InvalidBlocks", false), (.own "InvalidLots", false), (.own "InvalidWishes", false), (.own "InvalidChanges", false), (.own "InvalidDeeds", false), (.own "UnknownName", false), (.own "InUse", false), (.own "TooMany", false), (.own "TooGreat", false), (.own "PegOut", false), (.own "PegIn", false), (.own "Broken", false), (.own "NothingToUndo", true), (.own "WrongValue", false), (.own "WrongName", false), (.own "NoAnswer", true), (.ty "ValueError", false), (.ty "LookupError", false), (.ty "ArithmeticError", true)]
structure Hd (mg : Str → Option Value) (K : PySem.W.Frag) : Prop where
  b_ArithmeticError : mg "ArithmeticError" = none
  b_LookupError : mg "LookupError" = none
  b_ValueError : mg "ValueError" = none
  b_abs : mg "abs" = none
  b_all : mg "all" = none
  b_divmod : mg "divmod" = none
  b_enumerate : mg "enumerate" = none
  b_int : mg "int" = none
  b_isinstance : mg "isinstance" = none
  b_len : mg "len" = none
  b_max : mg "max" = none
  b_min : mg "min" = none
  b_range : mg "range" = none
  b_repr : mg "repr" = none
  c_MOST_BLOCKS : ∃ t, mg "MOST_BLOCKS" = some (.int 12 t)
  c_MOST_WORD : ∃ t, mg "MOST_WORD" = some (.int 12 t)
  c_MOST_TIMES : ∃ t, mg "MOST_TIMES" = some (.int 9 t)
  c_MOST_MORE : ∃ t, mg "MOST_MORE" = some (.int 99 t)
  c_MOST_WRITTEN : ∃ t, mg "MOST_WRITTEN" = some (.int 2000 t)
  c_MOST_WOUND : ∃ t, mg "MOST_WOUND" = some (.int 100 t)
  c_MOST_CHANGES : ∃ t, mg "MOST_CHANGES" = some (.int 6 t)
  c_GREATEST : ∃ t, mg "GREATEST" = some (.int 1000000000000000000000000000000 t)
  g_WrongValue : mg "WrongValue" = some (.ref (Γ K cWrongValue))
  g_NotAWinding : mg "NotAWinding" = some (.ref (Γ K cNotAWinding))
  g_InvalidText : mg "InvalidText" = some (.ref (Γ K cInvalidText))
  g_InvalidRounds : mg "InvalidRounds" = some (.ref (Γ K cInvalidRounds))
  g_InvalidPegs : mg "InvalidPegs" = some (.ref (Γ K cInvalidPegs))
  g_InvalidPeg : mg "InvalidPeg" = some (.ref (Γ K cInvalidPeg))
  g_InvalidPlace : mg "InvalidPlace" = some (.ref (Γ K cInvalidPlace))
  g_InvalidFactor : mg "InvalidFactor" = some (.ref (Γ K cInvalidFactor))
  g_InvalidWord : mg "InvalidWord" = some (.ref (Γ K cInvalidWord))
  g_InvalidTimes : mg "InvalidTimes" = some (.ref (Γ K cInvalidTimes))
  g_InvalidWish : mg "InvalidWish" = some (.ref (Γ K cInvalidWish))
  g_InvalidName : mg "InvalidName" = some (.ref (Γ K cInvalidName))
  g_InvalidClaim : mg "InvalidClaim" = some (.ref (Γ K cInvalidClaim))
  g_InvalidIndex : mg "InvalidIndex" = some (.ref (Γ K cInvalidIndex))
  g_InvalidLine : mg "InvalidLine" = some (.ref (Γ K cInvalidLine))
  g_InvalidBlocks : mg "InvalidBlocks" = some (.ref (Γ K cInvalidBlocks))
  g_InvalidLots : mg "InvalidLots" = some (.ref (Γ K cInvalidLots))
  g_InvalidWishes : mg "InvalidWishes" = some (.ref (Γ K cInvalidWishes))
  g_InvalidChanges : mg "InvalidChanges" = some (.ref (Γ K cInvalidChanges))
  g_InvalidDeeds : mg "InvalidDeeds" = some (.ref (Γ K cInvalidDeeds))
  g_WrongName : mg "WrongName" = some (.ref (Γ K cWrongName))
  g_UnknownName : mg "UnknownName" = some (.ref (Γ K cUnknownName))
  g_InUse : mg "InUse" = some (.ref (Γ K cInUse))
  g_NoAnswer : mg "NoAnswer" = some (.ref (Γ K cNoAnswer))
  g_TooMany : mg "TooMany" = some (.ref (Γ K cTooMany))
  g_TooGreat : mg "TooGreat" = some (.ref (Γ K cTooGreat))
  g_PegOut : mg "PegOut" = some (.ref (Γ K cPegOut))
  g_PegIn : mg "PegIn" = some (.ref (Γ K cPegIn))
  g_Broken : mg "Broken" = some (.ref (Γ K cBroken))
  g_NothingToUndo : mg "NothingToUndo" = some (.ref (Γ K cNothingToUndo))
  x_InvalidText : ExcK K (He.ga K "InvalidText") (He.ma K (He.ga K "InvalidText") "__init__") "given" rx_InvalidText
  x_NotAWinding : ExcK K (He.ga K "NotAWinding") (He.ma K (He.ga K "NotAWinding") "__init__") "given" rx_NotAWinding
  x_InvalidPegs : ExcK K (He.ga K "InvalidPegs") (He.ma K (He.ga K "InvalidPegs") "__init__") "given" rx_InvalidPegs
  x_InvalidRounds : ExcK K (He.ga K "InvalidRounds") (He.ma K (He.ga K "InvalidRounds") "__init__") "given" rx_InvalidRounds
  x_InvalidPlace : ExcK K (He.ga K "InvalidPlace") (He.ma K (He.ga K "InvalidPlace") "__init__") "given" rx_InvalidPlace
  x_InvalidPeg : ExcK K (He.ga K "InvalidPeg") (He.ma K (He.ga K "InvalidPeg") "__init__") "given" rx_InvalidPeg
  x_InvalidWord : ExcK K (He.ga K "InvalidWord") (He.ma K (He.ga K "InvalidWord") "__init__") "given" rx_InvalidWord
  x_InvalidFactor : ExcK K (He.ga K "InvalidFactor") (He.ma K (He.ga K "InvalidFactor") "__init__") "given" rx_InvalidFactor
  x_InvalidWish : ExcK K (He.ga K "InvalidWish") (He.ma K (He.ga K "InvalidWish") "__init__") "given" rx_InvalidWish
  x_InvalidTimes : ExcK K (He.ga K "InvalidTimes") (He.ma K (He.ga K "InvalidTimes") "__init__") "given" rx_InvalidTimes
  x_InvalidClaim : ExcK K (He.ga K "InvalidClaim") (He.ma K (He.ga K "InvalidClaim") "__init__") "given" rx_InvalidClaim
  x_InvalidName : ExcK K (He.ga K "InvalidName") (He.ma K (He.ga K "InvalidName") "__init__") "given" rx_InvalidName
  x_InvalidLine : ExcK K (He.ga K "InvalidLine") (He.ma K (He.ga K "InvalidLine") "__init__") "given" rx_InvalidLine
  x_InvalidIndex : ExcK K (He.ga K "InvalidIndex") (He.ma K (He.ga K "InvalidIndex") "__init__") "given" rx_InvalidIndex
  x_InvalidLots : ExcK K (He.ga K "InvalidLots") (He.ma K (He.ga K "InvalidLots") "__init__") "index" rx_InvalidLots
  x_InvalidBlocks : ExcK K (He.ga K "InvalidBlocks") (He.ma K (He.ga K "InvalidBlocks") "__init__") "index" rx_InvalidBlocks
  x_InvalidWishes : ExcK K (He.ga K "InvalidWishes") (He.ma K (He.ga K "InvalidWishes") "__init__") "index" rx_InvalidWishes
  x_InvalidChanges : ExcK K (He.ga K "InvalidChanges") (He.ma K (He.ga K "InvalidChanges") "__init__") "index" rx_InvalidChanges
  x_InvalidDeeds : ExcK K (He.ga K "InvalidDeeds") (He.ma K (He.ga K "InvalidDeeds") "__init__") "index" rx_InvalidDeeds
  x_UnknownName : ExcK K (He.ga K "UnknownName") (He.ma K (He.ga K "UnknownName") "__init__") "given" rx_UnknownName
  x_InUse : ExcK K (He.ga K "InUse") (He.ma K (He.ga K "InUse") "__init__") "index" rx_InUse
  x_TooMany : ExcK K (He.ga K "TooMany") (He.ma K (He.ga K "TooMany") "__init__") "number" rx_TooMany
  x_TooGreat : ExcK K (He.ga K "TooGreat") (He.ma K (He.ga K "TooGreat") "__init__") "index" rx_TooGreat
  x_PegOut : ExcK K (He.ga K "PegOut") (He.ma K (He.ga K "PegOut") "__init__") "given" rx_PegOut
  x_PegIn : ExcK K (He.ga K "PegIn") (He.ma K (He.ga K "PegIn") "__init__") "given" rx_PegIn
  x_Broken : ExcK K (He.ga K "Broken") (He.ma K (He.ga K "Broken") "__init__") "index" rx_Broken
  x_NoAnswer : ExcK0 K (He.ga K "NoAnswer") rx_NoAnswer
  x_WrongName : ExcK0 K (He.ga K "WrongName") rx_WrongName
  x_WrongValue : ExcK0 K (He.ga K "WrongValue") rx_WrongValue
  x_NothingToUndo : ExcK0 K (He.ga K "NothingToUndo") rx_NothingToUndo
  g_law_cup : mg "_law_cup" = some (.ref (He.ga K "_law_cup"))
  g_law_classes : mg "_law_classes" = some (.ref (He.ga K "_law_classes"))
  g_law_sip : mg "_law_sip" = some (.ref (He.ga K "_law_sip"))
  g_law_pick : mg "_law_pick" = some (.ref (He.ga K "_law_pick"))
  g_law_given : mg "_law_given" = some (.ref (He.ga K "_law_given"))
  g_law_indexed : mg "_law_indexed" = some (.ref (He.ga K "_law_indexed"))
  g_law_others : mg "_law_others" = some (.ref (He.ga K "_law_others"))
  g_law_right : mg "_law_right" = some (.ref (He.ga K "_law_right"))
  g_law : mg "law" = some (.ref (He.ga K "law"))
  d_law_cup : ∃ fd, FunD K "_law_cup" "_law_cup" (defArgs (top 40)) (defBody (top 40)) (defScope (top 40)) [] [] ((fun K => He.ga K "_law_cup") K) fd
  d_law_classes : ∃ fd, FunD K "_law_classes" "_law_classes" (defArgs (top 43)) (defBody (top 43)) (defScope (top 43)) [] [] ((fun K => He.ga K "_law_classes") K) fd
  d_law_sip : ∃ fd, FunD K "_law_sip" "_law_sip" (defArgs (top 41)) (defBody (top 41)) (defScope (top 41)) [] [] ((fun K => He.ga K "_law_sip") K) fd
  d_law_pick : ∃ fd, FunD K "_law_pick" "_law_pick" (defArgs (top 42)) (defBody (top 42)) (defScope (top 42)) [] [] ((fun K => He.ga K "_law_pick") K) fd
  d_law_given : ∃ fd, FunD K "_law_given" "_law_given" (defArgs (top 44)) (defBody (top 44)) (defScope (top 44)) [] [] ((fun K => He.ga K "_law_given") K) fd
  d_law_indexed : ∃ fd, FunD K "_law_indexed" "_law_indexed" (defArgs (top 45)) (defBody (top 45)) (defScope (top 45)) [] [] ((fun K => He.ga K "_law_indexed") K) fd
  d_law_others : ∃ fd, FunD K "_law_others" "_law_others" (defArgs (top 46)) (defBody (top 46)) (defScope (top 46)) [] [] ((fun K => He.ga K "_law_others") K) fd
  d_law_right : ∃ fd, FunD K "_law_right" "_law_right" (defArgs (top 47)) (defBody (top 47)) (defScope (top 47)) [] [] ((fun K => He.ga K "_law_right") K) fd
  d_law : ∃ fd, FunD K "law" "law" (defArgs (top 48)) (defBody (top 48)) (defScope (top 48)) [] [] ((fun K => He.ga K "law") K) fd
  d_InvalidText_init : ∃ fd, FunD K "__init__" "InvalidText.__init__" (defArgs (inClass (top 3) 0)) (defBody (inClass (top 3) 0)) (defScope (inClass (top 3) 0)) [] [] ((fun K => He.ma K (He.ga K "InvalidText") "__init__") K) fd
  d_NotAWinding_init : ∃ fd, FunD K "__init__" "NotAWinding.__init__" (defArgs (inClass (top 2) 0)) (defBody (inClass (top 2) 0)) (defScope (inClass (top 2) 0)) [] [] ((fun K => He.ma K (He.ga K "NotAWinding") "__init__") K) fd
  d_InvalidPegs_init : ∃ fd, FunD K "__init__" "InvalidPegs.__init__" (defArgs (inClass (top 5) 0)) (defBody (inClass (top 5) 0)) (defScope (inClass (top 5) 0)) [] [] ((fun K => He.ma K (He.ga K "InvalidPegs") "__init__") K) fd
  d_InvalidRounds_init : ∃ fd, FunD K "__init__" "InvalidRounds.__init__" (defArgs (inClass (top 4) 0)) (defBody (inClass (top 4) 0)) (defScope (inClass (top 4) 0)) [] [] ((fun K => He.ma K (He.ga K "InvalidRounds") "__init__") K) fd
  d_InvalidPlace_init : ∃ fd, FunD K "__init__" "InvalidPlace.__init__" (defArgs (inClass (top 7) 0)) (defBody (inClass (top 7) 0)) (defScope (inClass (top 7) 0)) [] [] ((fun K => He.ma K (He.ga K "InvalidPlace") "__init__") K) fd
  d_InvalidPeg_init : ∃ fd, FunD K "__init__" "InvalidPeg.__init__" (defArgs (inClass (top 6) 0)) (defBody (inClass (top 6) 0)) (defScope (inClass (top 6) 0)) [] [] ((fun K => He.ma K (He.ga K "InvalidPeg") "__init__") K) fd
  d_InvalidWord_init : ∃ fd, FunD K "__init__" "InvalidWord.__init__" (defArgs (inClass (top 9) 0)) (defBody (inClass (top 9) 0)) (defScope (inClass (top 9) 0)) [] [] ((fun K => He.ma K (He.ga K "InvalidWord") "__init__") K) fd
  d_InvalidFactor_init : ∃ fd, FunD K "__init__" "InvalidFactor.__init__" (defArgs (inClass (top 8) 0)) (defBody (inClass (top 8) 0)) (defScope (inClass (top 8) 0)) [] [] ((fun K => He.ma K (He.ga K "InvalidFactor") "__init__") K) fd
  d_InvalidWish_init : ∃ fd, FunD K "__init__" "InvalidWish.__init__" (defArgs (inClass (top 11) 0)) (defBody (inClass (top 11) 0)) (defScope (inClass (top 11) 0)) [] [] ((fun K => He.ma K (He.ga K "InvalidWish") "__init__") K) fd
  d_InvalidTimes_init : ∃ fd, FunD K "__init__" "InvalidTimes.__init__" (defArgs (inClass (top 10) 0)) (defBody (inClass (top 10) 0)) (defScope (inClass (top 10) 0)) [] [] ((fun K => He.ma K (He.ga K "InvalidTimes") "__init__") K) fd
  d_InvalidClaim_init : ∃ fd, FunD K "__init__" "InvalidClaim.__init__" (defArgs (inClass (top 13) 0)) (defBody (inClass (top 13) 0)) (defScope (inClass (top 13) 0)) [] [] ((fun K => He.ma K (He.ga K "InvalidClaim") "__init__") K) fd
  d_InvalidName_init : ∃ fd, FunD K "__init__" "InvalidName.__init__" (defArgs (inClass (top 12) 0)) (defBody (inClass (top 12) 0)) (defScope (inClass (top 12) 0)) [] [] ((fun K => He.ma K (He.ga K "InvalidName") "__init__") K) fd
  d_InvalidLine_init : ∃ fd, FunD K "__init__" "InvalidLine.__init__" (defArgs (inClass (top 15) 0)) (defBody (inClass (top 15) 0)) (defScope (inClass (top 15) 0)) [] [] ((fun K => He.ma K (He.ga K "InvalidLine") "__init__") K) fd
  d_InvalidIndex_init : ∃ fd, FunD K "__init__" "InvalidIndex.__init__" (defArgs (inClass (top 14) 0)) (defBody (inClass (top 14) 0)) (defScope (inClass (top 14) 0)) [] [] ((fun K => He.ma K (He.ga K "InvalidIndex") "__init__") K) fd
  d_InvalidLots_init : ∃ fd, FunD K "__init__" "InvalidLots.__init__" (defArgs (inClass (top 17) 0)) (defBody (inClass (top 17) 0)) (defScope (inClass (top 17) 0)) [] [] ((fun K => He.ma K (He.ga K "InvalidLots") "__init__") K) fd
  d_InvalidBlocks_init : ∃ fd, FunD K "__init__" "InvalidBlocks.__init__" (defArgs (inClass (top 16) 0)) (defBody (inClass (top 16) 0)) (defScope (inClass (top 16) 0)) [] [] ((fun K => He.ma K (He.ga K "InvalidBlocks") "__init__") K) fd
  d_InvalidWishes_init : ∃ fd, FunD K "__init__" "InvalidWishes.__init__" (defArgs (inClass (top 18) 0)) (defBody (inClass (top 18) 0)) (defScope (inClass (top 18) 0)) [] [] ((fun K => He.ma K (He.ga K "InvalidWishes") "__init__") K) fd
  d_InvalidChanges_init : ∃ fd, FunD K "__init__" "InvalidChanges.__init__" (defArgs (inClass (top 19) 0)) (defBody (inClass (top 19) 0)) (defScope (inClass (top 19) 0)) [] [] ((fun K => He.ma K (He.ga K "InvalidChanges") "__init__") K) fd
  d_InvalidDeeds_init : ∃ fd, FunD K "__init__" "InvalidDeeds.__init__" (defArgs (inClass (top 20) 0)) (defBody (inClass (top 20) 0)) (defScope (inClass (top 20) 0)) [] [] ((fun K => He.ma K (He.ga K "InvalidDeeds") "__init__") K) fd
  d_UnknownName_init : ∃ fd, FunD K "__init__" "UnknownName.__init__" (defArgs (inClass (top 22) 0)) (defBody (inClass (top 22) 0)) (defScope (inClass (top 22) 0)) [] [] ((fun K => He.ma K (He.ga K "UnknownName") "__init__") K) fd
  d_InUse_init : ∃ fd, FunD K "__init__" "InUse.__init__" (defArgs (inClass (top 23) 0)) (defBody (inClass (top 23) 0)) (defScope (inClass (top 23) 0)) [] [] ((fun K => He.ma K (He.ga K "InUse") "__init__") K) fd
  d_TooMany_init : ∃ fd, FunD K "__init__" "TooMany.__init__" (defArgs (inClass (top 25) 0)) (defBody (inClass (top 25) 0)) (defScope (inClass (top 25) 0)) [] [] ((fun K => He.ma K (He.ga K "TooMany") "__init__") K) fd
  d_TooGreat_init : ∃ fd, FunD K "__init__" "TooGreat.__init__" (defArgs (inClass (top 26) 0)) (defBody (inClass (top 26) 0)) (defScope (inClass (top 26) 0)) [] [] ((fun K => He.ma K (He.ga K "TooGreat") "__init__") K) fd
  d_PegOut_init : ∃ fd, FunD K "__init__" "PegOut.__init__" (defArgs (inClass (top 27) 0)) (defBody (inClass (top 27) 0)) (defScope (inClass (top 27) 0)) [] [] ((fun K => He.ma K (He.ga K "PegOut") "__init__") K) fd
  d_PegIn_init : ∃ fd, FunD K "__init__" "PegIn.__init__" (defArgs (inClass (top 28) 0)) (defBody (inClass (top 28) 0)) (defScope (inClass (top 28) 0)) [] [] ((fun K => He.ma K (He.ga K "PegIn") "__init__") K) fd
  d_Broken_init : ∃ fd, FunD K "__init__" "Broken.__init__" (defArgs (inClass (top 29) 0)) (defBody (inClass (top 29) 0)) (defScope (inClass (top 29) 0)) [] [] ((fun K => He.ma K (He.ga K "Broken") "__init__") K) fd
section
variable {P : Program} {w : World} {K : PySem.W.Frag} {mg : Str → Option Value} {base : Heap}
theorem rz_InvalidText (h : Hd mg K) : Rz K mg (Γ K) "InvalidText" cInvalidText "given" := by
  obtain ⟨fd, D⟩ := h.d_InvalidText_init
  obtain ⟨b, n, i, bm, T⟩ := h.x_InvalidText.rz
  exact ⟨⟨_, b, n, i, bm, _, "given", _, _, fd, _, _, _, _, T, D, ⟨rfl, rfl, rfl, by decide +kernel, rfl, by decide +kernel, by decide +kernel⟩, fun _ _ _ _ _ _ us hl => match us, hl with | [_, _], _ => rfl, by decide, by decide, fun env e => by cases env; cases e; rfl⟩, h.g_InvalidText⟩
theorem rzy_InvalidText (h : Hd mg K) : RzY K mg (Γ K) "InvalidText" cInvalidText "given" "given" := by
  obtain ⟨fd, D⟩ := h.d_InvalidText_init
  obtain ⟨b, n, i, bm, T⟩ := h.x_InvalidText.rz
  exact ⟨⟨_, b, n, i, bm, _, _, _, fd, _, _, _, _, T, D, ⟨rfl, rfl, rfl, by decide +kernel, rfl, by decide +kernel, by decide +kernel⟩, fun _ _ _ _ _ _ _ _ => rfl, by decide, by decide, fun env e => by cases env; cases e; rfl⟩, h.g_InvalidText⟩
theorem rz_NotAWinding (h : Hd mg K) : Rz K mg (Γ K) "NotAWinding" cNotAWinding "given" := by
  obtain ⟨fd, D⟩ := h.d_NotAWinding_init
  obtain ⟨b, n, i, bm, T⟩ := h.x_NotAWinding.rz
  exact ⟨⟨_, b, n, i, bm, _, "given", _, _, fd, _, _, _, _, T, D, ⟨rfl, rfl, rfl, by decide +kernel, rfl, by decide +kernel, by decide +kernel⟩, fun _ _ _ _ _ _ us hl => match us, hl with | [_, _], _ => rfl, by decide, by decide, fun env e => by cases env; cases e; rfl⟩, h.g_NotAWinding⟩
theorem rzy_NotAWinding (h : Hd mg K) : RzY K mg (Γ K) "NotAWinding" cNotAWinding "given" "given" := by
  obtain ⟨fd, D⟩ := h.d_NotAWinding_init
  obtain ⟨b, n, i, bm, T⟩ := h.x_NotAWinding.rz
  exact ⟨⟨_, b, n, i, bm, _, _, _, fd, _, _, _, _, T, D, ⟨rfl, rfl, rfl, by decide +kernel, rfl, by decide +kernel, by decide +kernel⟩, fun _ _ _ _ _ _ _ _ => rfl, by decide, by decide, fun env e => by cases env; cases e; rfl⟩, h.g_NotAWinding⟩
theorem rz_InvalidPegs (h : Hd mg K) : Rz K mg (Γ K) "InvalidPegs" cInvalidPegs "given" := by
  obtain ⟨fd, D⟩ := h.d_InvalidPegs_init
  obtain ⟨b, n, i, bm, T⟩ := h.x_InvalidPegs.rz
  exact ⟨⟨_, b, n, i, bm, _, "given", _, _, fd, _, _, _, _, T, D, ⟨rfl, rfl, rfl, by decide +kernel, rfl, by decide +kernel, by decide +kernel⟩, fun _ _ _ _ _ _ us hl => match us, hl with | [_, _], _ => rfl, by decide, by decide, fun env e => by cases env; cases e; rfl⟩, h.g_InvalidPegs⟩
theorem rzy_InvalidPegs (h : Hd mg K) : RzY K mg (Γ K) "InvalidPegs" cInvalidPegs "given" "given" := by
  obtain ⟨fd, D⟩ := h.d_InvalidPegs_init
  obtain ⟨b, n, i, bm, T⟩ := h.x_InvalidPegs.rz
  exact ⟨⟨_, b, n, i, bm, _, _, _, fd, _, _, _, _, T, D, ⟨rfl, rfl, rfl, by decide +kernel, rfl, by decide +kernel, by decide +kernel⟩, fun _ _ _ _ _ _ _ _ => rfl, by decide, by decide, fun env e => by cases env; cases e; rfl⟩, h.g_InvalidPegs⟩
theorem rz_InvalidRounds (h : Hd mg K) : Rz K mg (Γ K) "InvalidRounds" cInvalidRounds "given" := by
  obtain ⟨fd, D⟩ := h.d_InvalidRounds_init
  obtain ⟨b, n, i, bm, T⟩ := h.x_InvalidRounds.rz
  exact ⟨⟨_, b, n, i, bm, _, "given", _, _, fd, _, _, _, _, T, D, ⟨rfl, rfl, rfl, by decide +kernel, rfl, by decide +kernel, by decide +kernel⟩, fun _ _ _ _ _ _ us hl => match us, hl with | [_, _], _ => rfl, by decide, by decide, fun env e => by cases env; cases e; rfl⟩, h.g_InvalidRounds⟩
theorem rzy_InvalidRounds (h : Hd mg K) : RzY K mg (Γ K) "InvalidRounds" cInvalidRounds "given" "given" := by
  obtain ⟨fd, D⟩ := h.d_InvalidRounds_init
  obtain ⟨b, n, i, bm, T⟩ := h.x_InvalidRounds.rz
  exact ⟨⟨_, b, n, i, bm, _, _, _, fd, _, _, _, _, T, D, ⟨rfl, rfl, rfl, by decide +kernel, rfl, by decide +kernel, by decide +kernel⟩, fun _ _ _ _ _ _ _ _ => rfl, by decide, by decide, fun env e => by cases env; cases e; rfl⟩, h.g_InvalidRounds⟩
theorem rz_InvalidPlace (h : Hd mg K) : Rz K mg (Γ K) "InvalidPlace" cInvalidPlace "given" := by
  obtain ⟨fd, D⟩ := h.d_InvalidPlace_init
  obtain ⟨b, n, i, bm, T⟩ := h.x_InvalidPlace.rz
  exact ⟨⟨_, b, n, i, bm, _, "given", _, _, fd, _, _, _, _, T, D, ⟨rfl, rfl, rfl, by decide +kernel, rfl, by decide +kernel, by decide +kernel⟩, fun _ _ _ _ _ _ us hl => match us, hl with | [_, _], _ => rfl, by decide, by decide, fun env e => by cases env; cases e; rfl⟩, h.g_InvalidPlace⟩
theorem rzy_InvalidPlace (h : Hd mg K) : RzY K mg (Γ K) "InvalidPlace" cInvalidPlace "given" "given" := by
  obtain ⟨fd, D⟩ := h.d_InvalidPlace_init
  obtain ⟨b, n, i, bm, T⟩ := h.x_InvalidPlace.rz
  exact ⟨⟨_, b, n, i, bm, _, _, _, fd, _, _, _, _, T, D, ⟨rfl, rfl, rfl, by decide +kernel, rfl, by decide +kernel, by decide +kernel⟩, fun _ _ _ _ _ _ _ _ => rfl, by decide, by decide, fun env e => by cases env; cases e; rfl⟩, h.g_InvalidPlace⟩
theorem rz_InvalidPeg (h : Hd mg K) : Rz K mg (Γ K) "InvalidPeg" cInvalidPeg "given" := by
  obtain ⟨fd, D⟩ := h.d_InvalidPeg_init
  obtain ⟨b, n, i, bm, T⟩ := h.x_InvalidPeg.rz
  exact ⟨⟨_, b, n, i, bm, _, "given", _, _, fd, _, _, _, _, T, D, ⟨rfl, rfl, rfl, by decide +kernel, rfl, by decide +kernel, by decide +kernel⟩, fun _ _ _ _ _ _ us hl => match us, hl with | [_, _], _ => rfl, by decide, by decide, fun env e => by cases env; cases e; rfl⟩, h.g_InvalidPeg⟩
theorem rzy_InvalidPeg (h : Hd mg K) : RzY K mg (Γ K) "InvalidPeg" cInvalidPeg "given" "given" := by
  obtain ⟨fd, D⟩ := h.d_InvalidPeg_init
  obtain ⟨b, n, i, bm, T⟩ := h.x_InvalidPeg.rz
  exact ⟨⟨_, b, n, i, bm, _, _, _, fd, _, _, _, _, T, D, ⟨rfl, rfl, rfl, by decide +kernel, rfl, by decide +kernel, by decide +kernel⟩, fun _ _ _ _ _ _ _ _ => rfl, by decide, by decide, fun env e => by cases env; cases e; rfl⟩, h.g_InvalidPeg⟩
theorem rz_InvalidWord (h : Hd mg K) : Rz K mg (Γ K) "InvalidWord" cInvalidWord "given" := by
  obtain ⟨fd, D⟩ := h.d_InvalidWord_init
  obtain ⟨b, n, i, bm, T⟩ := h.x_InvalidWord.rz
  exact ⟨⟨_, b, n, i, bm, _, "given", _, _, fd, _, _, _, _, T, D, ⟨rfl, rfl, rfl, by decide +kernel, rfl, by decide +kernel, by decide +kernel⟩, fun _ _ _ _ _ _ us hl => match us, hl with | [_, _], _ => rfl, by decide, by decide, fun env e => by cases env; cases e; rfl⟩, h.g_InvalidWord⟩
theorem rzy_InvalidWord (h : Hd mg K) : RzY K mg (Γ K) "InvalidWord" cInvalidWord "given" "given" := by
  obtain ⟨fd, D⟩ := h.d_InvalidWord_init
  obtain ⟨b, n, i, bm, T⟩ := h.x_InvalidWord.rz
  exact ⟨⟨_, b, n, i, bm, _, _, _, fd, _, _, _, _, T, D, ⟨rfl, rfl, rfl, by decide +kernel, rfl, by decide +kernel, by decide +kernel⟩, fun _ _ _ _ _ _ _ _ => rfl, by decide, by decide, fun env e => by cases env; cases e; rfl⟩, h.g_InvalidWord⟩
theorem rz_InvalidFactor (h : Hd mg K) : Rz K mg (Γ K) "InvalidFactor" cInvalidFactor "given" := by
  obtain ⟨fd, D⟩ := h.d_InvalidFactor_init
  obtain ⟨b, n, i, bm, T⟩ := h.x_InvalidFactor.rz
  exact ⟨⟨_, b, n, i, bm, _, "given", _, _, fd, _, _, _, _, T, D, ⟨rfl, rfl, rfl, by decide +kernel, rfl, by decide +kernel, by decide +kernel⟩, fun _ _ _ _ _ _ us hl => match us, hl with | [_, _], _ => rfl, by decide, by decide, fun env e => by cases env; cases e; rfl⟩, h.g_InvalidFactor⟩
theorem rzy_InvalidFactor (h : Hd mg K) : RzY K mg (Γ K) "InvalidFactor" cInvalidFactor "given" "given" := by
  obtain ⟨fd, D⟩ := h.d_InvalidFactor_init
  obtain ⟨b, n, i, bm, T⟩ := h.x_InvalidFactor.rz
  exact ⟨⟨_, b, n, i, bm, _, _, _, fd, _, _, _, _, T, D, ⟨rfl, rfl, rfl, by decide +kernel, rfl, by decide +kernel, by decide +kernel⟩, fun _ _ _ _ _ _ _ _ => rfl, by decide, by decide, fun env e => by cases env; cases e; rfl⟩, h.g_InvalidFactor⟩
theorem rz_InvalidWish (h : Hd mg K) : Rz K mg (Γ K) "InvalidWish" cInvalidWish "given" := by
  obtain ⟨fd, D⟩ := h.d_InvalidWish_init
  obtain ⟨b, n, i, bm, T⟩ := h.x_InvalidWish.rz
  exact ⟨⟨_, b, n, i, bm, _, "given", _, _, fd, _, _, _, _, T, D, ⟨rfl, rfl, rfl, by decide +kernel, rfl, by decide +kernel, by decide +kernel⟩, fun _ _ _ _ _ _ us hl => match us, hl with | [_, _], _ => rfl, by decide, by decide, fun env e => by cases env; cases e; rfl⟩, h.g_InvalidWish⟩
theorem rzy_InvalidWish (h : Hd mg K) : RzY K mg (Γ K) "InvalidWish" cInvalidWish "given" "given" := by
  obtain ⟨fd, D⟩ := h.d_InvalidWish_init
  obtain ⟨b, n, i, bm, T⟩ := h.x_InvalidWish.rz
  exact ⟨⟨_, b, n, i, bm, _, _, _, fd, _, _, _, _, T, D, ⟨rfl, rfl, rfl, by decide +kernel, rfl, by decide +kernel, by decide +kernel⟩, fun _ _ _ _ _ _ _ _ => rfl, by decide, by decide, fun env e => by cases env; cases e; rfl⟩, h.g_InvalidWish⟩
theorem rz_InvalidTimes (h : Hd mg K) : Rz K mg (Γ K) "InvalidTimes" cInvalidTimes "given" := by
  obtain ⟨fd, D⟩ := h.d_InvalidTimes_init
  obtain ⟨b, n, i, bm, T⟩ := h.x_InvalidTimes.rz
  exact ⟨⟨_, b, n, i, bm, _, "given", _, _, fd, _, _, _, _, T, D, ⟨rfl, rfl, rfl, by decide +kernel, rfl, by decide +kernel, by decide +kernel⟩, fun _ _ _ _ _ _ us hl => match us, hl with | [_, _], _ => rfl, by decide, by decide, fun env e => by cases env; cases e; rfl⟩, h.g_InvalidTimes⟩
theorem rzy_InvalidTimes (h : Hd mg K) : RzY K mg (Γ K) "InvalidTimes" cInvalidTimes "given" "given" := by
  obtain ⟨fd, D⟩ := h.d_InvalidTimes_init
  obtain ⟨b, n, i, bm, T⟩ := h.x_InvalidTimes.rz
  exact ⟨⟨_, b, n, i, bm, _, _, _, fd, _, _, _, _, T, D, ⟨rfl, rfl, rfl, by decide +kernel, rfl, by decide +kernel, by decide +kernel⟩, fun _ _ _ _ _ _ _ _ => rfl, by decide, by decide, fun env e => by cases env; cases e; rfl⟩, h.g_InvalidTimes⟩
theorem rz_InvalidClaim (h : Hd mg K) : Rz K mg (Γ K) "InvalidClaim" cInvalidClaim "given" := by
  obtain ⟨fd, D⟩ := h.d_InvalidClaim_init
  obtain ⟨b, n, i, bm, T⟩ := h.x_InvalidClaim.rz
  exact ⟨⟨_, b, n, i, bm, _, "given", _, _, fd, _, _, _, _, T, D, ⟨rfl, rfl, rfl, by decide +kernel, rfl, by decide +kernel, by decide +kernel⟩, fun _ _ _ _ _ _ us hl => match us, hl with | [_, _], _ => rfl, by decide, by decide, fun env e => by cases env; cases e; rfl⟩, h.g_InvalidClaim⟩
theorem rzy_InvalidClaim (h : Hd mg K) : RzY K mg (Γ K) "InvalidClaim" cInvalidClaim "given" "given" := by
  obtain ⟨fd, D⟩ := h.d_InvalidClaim_init
  obtain ⟨b, n, i, bm, T⟩ := h.x_InvalidClaim.rz
  exact ⟨⟨_, b, n, i, bm, _, _, _, fd, _, _, _, _, T, D, ⟨rfl, rfl, rfl, by decide +kernel, rfl, by decide +kernel, by decide +kernel⟩, fun _ _ _ _ _ _ _ _ => rfl, by decide, by decide, fun env e => by cases env; cases e; rfl⟩, h.g_InvalidClaim⟩
theorem rz_InvalidName (h : Hd mg K) : Rz K mg (Γ K) "InvalidName" cInvalidName "given" := by
  obtain ⟨fd, D⟩ := h.d_InvalidName_init
  obtain ⟨b, n, i, bm, T⟩ := h.x_InvalidName.rz
  exact ⟨⟨_, b, n, i, bm, _, "given", _, _, fd, _, _, _, _, T, D, ⟨rfl, rfl, rfl, by decide +kernel, rfl, by decide +kernel, by decide +kernel⟩, fun _ _ _ _ _ _ us hl => match us, hl with | [_, _], _ => rfl, by decide, by decide, fun env e => by cases env; cases e; rfl⟩, h.g_InvalidName⟩
theorem rzy_InvalidName (h : Hd mg K) : RzY K mg (Γ K) "InvalidName" cInvalidName "given" "given" := by
  obtain ⟨fd, D⟩ := h.d_InvalidName_init
  obtain ⟨b, n, i, bm, T⟩ := h.x_InvalidName.rz
  exact ⟨⟨_, b, n, i, bm, _, _, _, fd, _, _, _, _, T, D, ⟨rfl, rfl, rfl, by decide +kernel, rfl, by decide +kernel, by decide +kernel⟩, fun _ _ _ _ _ _ _ _ => rfl, by decide, by decide, fun env e => by cases env; cases e; rfl⟩, h.g_InvalidName⟩
theorem rz_InvalidLine (h : Hd mg K) : Rz K mg (Γ K) "InvalidLine" cInvalidLine "given" := by
  obtain ⟨fd, D⟩ := h.d_InvalidLine_init
  obtain ⟨b, n, i, bm, T⟩ := h.x_InvalidLine.rz
  exact ⟨⟨_, b, n, i, bm, _, "given", _, _, fd, _, _, _, _, T, D, ⟨rfl, rfl, rfl, by decide +kernel, rfl, by decide +kernel, by decide +kernel⟩, fun _ _ _ _ _ _ us hl => match us, hl with | [_, _], _ => rfl, by decide, by decide, fun env e => by cases env; cases e; rfl⟩, h.g_InvalidLine⟩
theorem rzy_InvalidLine (h : Hd mg K) : RzY K mg (Γ K) "InvalidLine" cInvalidLine "given" "given" := by
  obtain ⟨fd, D⟩ := h.d_InvalidLine_init
  obtain ⟨b, n, i, bm, T⟩ := h.x_InvalidLine.rz
  exact ⟨⟨_, b, n, i, bm, _, _, _, fd, _, _, _, _, T, D, ⟨rfl, rfl, rfl, by decide +kernel, rfl, by decide +kernel, by decide +kernel⟩, fun _ _ _ _ _ _ _ _ => rfl, by decide, by decide, fun env e => by cases env; cases e; rfl⟩, h.g_InvalidLine⟩
theorem rz_InvalidIndex (h : Hd mg K) : Rz K mg (Γ K) "InvalidIndex" cInvalidIndex "given" := by
  obtain ⟨fd, D⟩ := h.d_InvalidIndex_init
  obtain ⟨b, n, i, bm, T⟩ := h.x_InvalidIndex.rz
  exact ⟨⟨_, b, n, i, bm, _, "given", _, _, fd, _, _, _, _, T, D, ⟨rfl, rfl, rfl, by decide +kernel, rfl, by decide +kernel, by decide +kernel⟩, fun _ _ _ _ _ _ us hl => match us, hl with | [_, _], _ => rfl, by decide, by decide, fun env e => by cases env; cases e; rfl⟩, h.g_InvalidIndex⟩
theorem rzy_InvalidIndex (h : Hd mg K) : RzY K mg (Γ K) "InvalidIndex" cInvalidIndex "given" "given" := by
  obtain ⟨fd, D⟩ := h.d_InvalidIndex_init
  obtain ⟨b, n, i, bm, T⟩ := h.x_InvalidIndex.rz
  exact ⟨⟨_, b, n, i, bm, _, _, _, fd, _, _, _, _, T, D, ⟨rfl, rfl, rfl, by decide +kernel, rfl, by decide +kernel, by decide +kernel⟩, fun _ _ _ _ _ _ _ _ => rfl, by decide, by decide, fun env e => by cases env; cases e; rfl⟩, h.g_InvalidIndex⟩
theorem rz_InvalidLots (h : Hd mg K) : Rz K mg (Γ K) "InvalidLots" cInvalidLots "index" := by
  obtain ⟨fd, D⟩ := h.d_InvalidLots_init
  obtain ⟨b, n, i, bm, T⟩ := h.x_InvalidLots.rz
  exact ⟨⟨_, b, n, i, bm, _, "index", _, _, fd, _, _, _, _, T, D, ⟨rfl, rfl, rfl, by decide +kernel, rfl, by decide +kernel, by decide +kernel⟩, fun _ _ _ _ _ _ us hl => match us, hl with | [_, _], _ => rfl, by decide, by decide, fun env e => by cases env; cases e; rfl⟩, h.g_InvalidLots⟩
theorem rzy_InvalidLots (h : Hd mg K) : RzY K mg (Γ K) "InvalidLots" cInvalidLots "index" "index" := by
  obtain ⟨fd, D⟩ := h.d_InvalidLots_init
  obtain ⟨b, n, i, bm, T⟩ := h.x_InvalidLots.rz
  exact ⟨⟨_, b, n, i, bm, _, _, _, fd, _, _, _, _, T, D, ⟨rfl, rfl, rfl, by decide +kernel, rfl, by decide +kernel, by decide +kernel⟩, fun _ _ _ _ _ _ _ _ => rfl, by decide, by decide, fun env e => by cases env; cases e; rfl⟩, h.g_InvalidLots⟩
theorem rz_InvalidBlocks (h : Hd mg K) : Rz K mg (Γ K) "InvalidBlocks" cInvalidBlocks "index" := by
  obtain ⟨fd, D⟩ := h.d_InvalidBlocks_init
  obtain ⟨b, n, i, bm, T⟩ := h.x_InvalidBlocks.rz
  exact ⟨⟨_, b, n, i, bm, _, "index", _, _, fd, _, _, _, _, T, D, ⟨rfl, rfl, rfl, by decide +kernel, rfl, by decide +kernel, by decide +kernel⟩, fun _ _ _ _ _ _ us hl => match us, hl with | [_, _], _ => rfl, by decide, by decide, fun env e => by cases env; cases e; rfl⟩, h.g_InvalidBlocks⟩
theorem rzy_InvalidBlocks (h : Hd mg K) : RzY K mg (Γ K) "InvalidBlocks" cInvalidBlocks "index" "index" := by
  obtain ⟨fd, D⟩ := h.d_InvalidBlocks_init
  obtain ⟨b, n, i, bm, T⟩ := h.x_InvalidBlocks.rz
  exact ⟨⟨_, b, n, i, bm, _, _, _, fd, _, _, _, _, T, D, ⟨rfl, rfl, rfl, by decide +kernel, rfl, by decide +kernel, by decide +kernel⟩, fun _ _ _ _ _ _ _ _ => rfl, by decide, by decide, fun env e => by cases env; cases e; rfl⟩, h.g_InvalidBlocks⟩
theorem rz_InvalidWishes (h : Hd mg K) : Rz K mg (Γ K) "InvalidWishes" cInvalidWishes "index" := by
  obtain ⟨fd, D⟩ := h.d_InvalidWishes_init
  obtain ⟨b, n, i, bm, T⟩ := h.x_InvalidWishes.rz
  exact ⟨⟨_, b, n, i, bm, _, "index", _, _, fd, _, _, _, _, T, D, ⟨rfl, rfl, rfl, by decide +kernel, rfl, by decide +kernel, by decide +kernel⟩, fun _ _ _ _ _ _ us hl => match us, hl with | [_, _], _ => rfl, by decide, by decide, fun env e => by cases env; cases e; rfl⟩, h.g_InvalidWishes⟩
theorem rzy_InvalidWishes (h : Hd mg K) : RzY K mg (Γ K) "InvalidWishes" cInvalidWishes "index" "index" := by
  obtain ⟨fd, D⟩ := h.d_InvalidWishes_init
  obtain ⟨b, n, i, bm, T⟩ := h.x_InvalidWishes.rz
  exact ⟨⟨_, b, n, i, bm, _, _, _, fd, _, _, _, _, T, D, ⟨rfl, rfl, rfl, by decide +kernel, rfl, by decide +kernel, by decide +kernel⟩, fun _ _ _ _ _ _ _ _ => rfl, by decide, by decide, fun env e => by cases env; cases e; rfl⟩, h.g_InvalidWishes⟩
theorem rz_InvalidChanges (h : Hd mg K) : Rz K mg (Γ K) "InvalidChanges" cInvalidChanges "index" := by
  obtain ⟨fd, D⟩ := h.d_InvalidChanges_init
  obtain ⟨b, n, i, bm, T⟩ := h.x_InvalidChanges.rz
  exact ⟨⟨_, b, n, i, bm, _, "index", _, _, fd, _, _, _, _, T, D, ⟨rfl, rfl, rfl, by decide +kernel, rfl, by decide +kernel, by decide +kernel⟩, fun _ _ _ _ _ _ us hl => match us, hl with | [_, _], _ => rfl, by decide, by decide, fun env e => by cases env; cases e; rfl⟩, h.g_InvalidChanges⟩
theorem rzy_InvalidChanges (h : Hd mg K) : RzY K mg (Γ K) "InvalidChanges" cInvalidChanges "index" "index" := by
  obtain ⟨fd, D⟩ := h.d_InvalidChanges_init
  obtain ⟨b, n, i, bm, T⟩ := h.x_InvalidChanges.rz
  exact ⟨⟨_, b, n, i, bm, _, _, _, fd, _, _, _, _, T, D, ⟨rfl, rfl, rfl, by decide +kernel, rfl, by decide +kernel, by decide +kernel⟩, fun _ _ _ _ _ _ _ _ => rfl, by decide, by decide, fun env e => by cases env; cases e; rfl⟩, h.g_InvalidChanges⟩
theorem rz_InvalidDeeds (h : Hd mg K) : Rz K mg (Γ K) "InvalidDeeds" cInvalidDeeds "index" := by
  obtain ⟨fd, D⟩ := h.d_InvalidDeeds_init
  obtain ⟨b, n, i, bm, T⟩ := h.x_InvalidDeeds.rz
  exact ⟨⟨_, b, n, i, bm, _, "index", _, _, fd, _, _, _, _, T, D, ⟨rfl, rfl, rfl, by decide +kernel, rfl, by decide +kernel, by decide +kernel⟩, fun _ _ _ _ _ _ us hl => match us, hl with | [_, _], _ => rfl, by decide, by decide, fun env e => by cases env; cases e; rfl⟩, h.g_InvalidDeeds⟩
theorem rzy_InvalidDeeds (h : Hd mg K) : RzY K mg (Γ K) "InvalidDeeds" cInvalidDeeds "index" "index" := by
  obtain ⟨fd, D⟩ := h.d_InvalidDeeds_init
  obtain ⟨b, n, i, bm, T⟩ := h.x_InvalidDeeds.rz
  exact ⟨⟨_, b, n, i, bm, _, _, _, fd, _, _, _, _, T, D, ⟨rfl, rfl, rfl, by decide +kernel, rfl, by decide +kernel, by decide +kernel⟩, fun _ _ _ _ _ _ _ _ => rfl, by decide, by decide, fun env e => by cases env; cases e; rfl⟩, h.g_InvalidDeeds⟩
theorem rz_UnknownName (h : Hd mg K) : Rz K mg (Γ K) "UnknownName" cUnknownName "given" := by
  obtain ⟨fd, D⟩ := h.d_UnknownName_init
  obtain ⟨b, n, i, bm, T⟩ := h.x_UnknownName.rz
  exact ⟨⟨_, b, n, i, bm, _, "given", _, _, fd, _, _, _, _, T, D, ⟨rfl, rfl, rfl, by decide +kernel, rfl, by decide +kernel, by decide +kernel⟩, fun _ _ _ _ _ _ us hl => match us, hl with | [_, _], _ => rfl, by decide, by decide, fun env e => by cases env; cases e; rfl⟩, h.g_UnknownName⟩
theorem rzy_UnknownName (h : Hd mg K) : RzY K mg (Γ K) "UnknownName" cUnknownName "given" "given" := by
  obtain ⟨fd, D⟩ := h.d_UnknownName_init
  obtain ⟨b, n, i, bm, T⟩ := h.x_UnknownName.rz
  exact ⟨⟨_, b, n, i, bm, _, _, _, fd, _, _, _, _, T, D, ⟨rfl, rfl, rfl, by decide +kernel, rfl, by decide +kernel, by decide +kernel⟩, fun _ _ _ _ _ _ _ _ => rfl, by decide, by decide, fun env e => by cases env; cases e; rfl⟩, h.g_UnknownName⟩
theorem rz_InUse (h : Hd mg K) : Rz K mg (Γ K) "InUse" cInUse "index" := by
  obtain ⟨fd, D⟩ := h.d_InUse_init
  obtain ⟨b, n, i, bm, T⟩ := h.x_InUse.rz
  exact ⟨⟨_, b, n, i, bm, _, "index", _, _, fd, _, _, _, _, T, D, ⟨rfl, rfl, rfl, by decide +kernel, rfl, by decide +kernel, by decide +kernel⟩, fun _ _ _ _ _ _ us hl => match us, hl with | [_, _], _ => rfl, by decide, by decide, fun env e => by cases env; cases e; rfl⟩, h.g_InUse⟩
theorem rzy_InUse (h : Hd mg K) : RzY K mg (Γ K) "InUse" cInUse "index" "index" := by
  obtain ⟨fd, D⟩ := h.d_InUse_init
  obtain ⟨b, n, i, bm, T⟩ := h.x_InUse.rz
  exact ⟨⟨_, b, n, i, bm, _, _, _, fd, _, _, _, _, T, D, ⟨rfl, rfl, rfl, by decide +kernel, rfl, by decide +kernel, by decide +kernel⟩, fun _ _ _ _ _ _ _ _ => rfl, by decide, by decide, fun env e => by cases env; cases e; rfl⟩, h.g_InUse⟩
theorem rz_TooMany (h : Hd mg K) : Rz K mg (Γ K) "TooMany" cTooMany "number" := by
  obtain ⟨fd, D⟩ := h.d_TooMany_init
  obtain ⟨b, n, i, bm, T⟩ := h.x_TooMany.rz
  exact ⟨⟨_, b, n, i, bm, _, "number", _, _, fd, _, _, _, _, T, D, ⟨rfl, rfl, rfl, by decide +kernel, rfl, by decide +kernel, by decide +kernel⟩, fun _ _ _ _ _ _ us hl => match us, hl with | [_, _], _ => rfl, by decide, by decide, fun env e => by cases env; cases e; rfl⟩, h.g_TooMany⟩
theorem rzy_TooMany (h : Hd mg K) : RzY K mg (Γ K) "TooMany" cTooMany "number" "number" := by
  obtain ⟨fd, D⟩ := h.d_TooMany_init
  obtain ⟨b, n, i, bm, T⟩ := h.x_TooMany.rz
  exact ⟨⟨_, b, n, i, bm, _, _, _, fd, _, _, _, _, T, D, ⟨rfl, rfl, rfl, by decide +kernel, rfl, by decide +kernel, by decide +kernel⟩, fun _ _ _ _ _ _ _ _ => rfl, by decide, by decide, fun env e => by cases env; cases e; rfl⟩, h.g_TooMany⟩
theorem rz_TooGreat (h : Hd mg K) : Rz K mg (Γ K) "TooGreat" cTooGreat "index" := by
  obtain ⟨fd, D⟩ := h.d_TooGreat_init
  obtain ⟨b, n, i, bm, T⟩ := h.x_TooGreat.rz
  exact ⟨⟨_, b, n, i, bm, _, "index", _, _, fd, _, _, _, _, T, D, ⟨rfl, rfl, rfl, by decide +kernel, rfl, by decide +kernel, by decide +kernel⟩, fun _ _ _ _ _ _ us hl => match us, hl with | [_, _], _ => rfl, by decide, by decide, fun env e => by cases env; cases e; rfl⟩, h.g_TooGreat⟩
theorem rzy_TooGreat (h : Hd mg K) : RzY K mg (Γ K) "TooGreat" cTooGreat "index" "index" := by
  obtain ⟨fd, D⟩ := h.d_TooGreat_init
  obtain ⟨b, n, i, bm, T⟩ := h.x_TooGreat.rz
  exact ⟨⟨_, b, n, i, bm, _, _, _, fd, _, _, _, _, T, D, ⟨rfl, rfl, rfl, by decide +kernel, rfl, by decide +kernel, by decide +kernel⟩, fun _ _ _ _ _ _ _ _ => rfl, by decide, by decide, fun env e => by cases env; cases e; rfl⟩, h.g_TooGreat⟩
theorem rz_PegOut (h : Hd mg K) : Rz K mg (Γ K) "PegOut" cPegOut "given" := by
  obtain ⟨fd, D⟩ := h.d_PegOut_init
  obtain ⟨b, n, i, bm, T⟩ := h.x_PegOut.rz
  exact ⟨⟨_, b, n, i, bm, _, "given", _, _, fd, _, _, _, _, T, D, ⟨rfl, rfl, rfl, by decide +kernel, rfl, by decide +kernel, by decide +kernel⟩, fun _ _ _ _ _ _ us hl => match us, hl with | [_, _], _ => rfl, by decide, by decide, fun env e => by cases env; cases e; rfl⟩, h.g_PegOut⟩
theorem rzy_PegOut (h : Hd mg K) : RzY K mg (Γ K) "PegOut" cPegOut "given" "given" := by
  obtain ⟨fd, D⟩ := h.d_PegOut_init
  obtain ⟨b, n, i, bm, T⟩ := h.x_PegOut.rz
  exact ⟨⟨_, b, n, i, bm, _, _, _, fd, _, _, _, _, T, D, ⟨rfl, rfl, rfl, by decide +kernel, rfl, by decide +kernel, by decide +kernel⟩, fun _ _ _ _ _ _ _ _ => rfl, by decide, by decide, fun env e => by cases env; cases e; rfl⟩, h.g_PegOut⟩
theorem rz_PegIn (h : Hd mg K) : Rz K mg (Γ K) "PegIn" cPegIn "given" := by
  obtain ⟨fd, D⟩ := h.d_PegIn_init
  obtain ⟨b, n, i, bm, T⟩ := h.x_PegIn.rz
  exact ⟨⟨_, b, n, i, bm, _, "given", _, _, fd, _, _, _, _, T, D, ⟨rfl, rfl, rfl, by decide +kernel, rfl, by decide +kernel, by decide +kernel⟩, fun _ _ _ _ _ _ us hl => match us, hl with | [_, _], _ => rfl, by decide, by decide, fun env e => by cases env; cases e; rfl⟩, h.g_PegIn⟩
theorem rzy_PegIn (h : Hd mg K) : RzY K mg (Γ K) "PegIn" cPegIn "given" "given" := by
  obtain ⟨fd, D⟩ := h.d_PegIn_init
  obtain ⟨b, n, i, bm, T⟩ := h.x_PegIn.rz
  exact ⟨⟨_, b, n, i, bm, _, _, _, fd, _, _, _, _, T, D, ⟨rfl, rfl, rfl, by decide +kernel, rfl, by decide +kernel, by decide +kernel⟩, fun _ _ _ _ _ _ _ _ => rfl, by decide, by decide, fun env e => by cases env; cases e; rfl⟩, h.g_PegIn⟩
theorem rz_Broken (h : Hd mg K) : Rz K mg (Γ K) "Broken" cBroken "index" := by
  obtain ⟨fd, D⟩ := h.d_Broken_init
  obtain ⟨b, n, i, bm, T⟩ := h.x_Broken.rz
  exact ⟨⟨_, b, n, i, bm, _, "index", _, _, fd, _, _, _, _, T, D, ⟨rfl, rfl, rfl, by decide +kernel, rfl, by decide +kernel, by decide +kernel⟩, fun _ _ _ _ _ _ us hl => match us, hl with | [_, _], _ => rfl, by decide, by decide, fun env e => by cases env; cases e; rfl⟩, h.g_Broken⟩
theorem rzy_Broken (h : Hd mg K) : RzY K mg (Γ K) "Broken" cBroken "index" "index" := by
  obtain ⟨fd, D⟩ := h.d_Broken_init
  obtain ⟨b, n, i, bm, T⟩ := h.x_Broken.rz
  exact ⟨⟨_, b, n, i, bm, _, _, _, fd, _, _, _, _, T, D, ⟨rfl, rfl, rfl, by decide +kernel, rfl, by decide +kernel, by decide +kernel⟩, fun _ _ _ _ _ _ _ _ => rfl, by decide, by decide, fun env e => by cases env; cases e; rfl⟩, h.g_Broken⟩
theorem rz_NoAnswer (h : Hd mg K) : Rz0 K mg (Γ K) "NoAnswer" cNoAnswer := ⟨h.x_NoAnswer.rz, h.x_NoAnswer.kC, h.x_NoAnswer.exC, h.x_NoAnswer.tyC, h.g_NoAnswer⟩
theorem rz_WrongName (h : Hd mg K) : Rz0 K mg (Γ K) "WrongName" cWrongName := ⟨h.x_WrongName.rz, h.x_WrongName.kC, h.x_WrongName.exC, h.x_WrongName.tyC, h.g_WrongName⟩
theorem rz_WrongValue (h : Hd mg K) : Rz0 K mg (Γ K) "WrongValue" cWrongValue := ⟨h.x_WrongValue.rz, h.x_WrongValue.kC, h.x_WrongValue.exC, h.x_WrongValue.tyC, h.g_WrongValue⟩
theorem rz_NothingToUndo (h : Hd mg K) : Rz0 K mg (Γ K) "NothingToUndo" cNothingToUndo := ⟨h.x_NothingToUndo.rz, h.x_NothingToUndo.kC, h.x_NothingToUndo.exC, h.x_NothingToUndo.tyC, h.g_NothingToUndo⟩
def tgts : List Ty1 := [.own "NotAWinding", .own "InvalidText", .own "InvalidRounds", .own "InvalidPegs", .own "InvalidPeg", .own "InvalidPlace", .own "InvalidFactor", .own "InvalidWord", .own "InvalidTimes", .own "InvalidWish", .own "InvalidName", .own "InvalidClaim", .own "InvalidIndex", .own "InvalidLine", .own "InvalidBlocks", .own "InvalidLots", .own "InvalidWishes", .own "InvalidChanges", .own "InvalidDeeds", .own "UnknownName", .own "InUse", .own "TooMany", .own "TooGreat", .own "PegOut", .own "PegIn", .own "Broken", .own "NothingToUndo", .own "WrongValue", .own "WrongName", .own "NoAnswer", .ty "ValueError", .ty "LookupError", .ty "ArithmeticError"]
theorem live_ok (h : Hd mg K) (c : Nat) (hc : c ∈ liveL) : LiveX K (Γ K c) tgts (bX c) := by
  rcases List.mem_cons.mp hc with e | hc
  · subst e; exact LiveX.of (bs := [false, true, false, false, false, false, false, false, false, false, false, false, false, false, false, false, false, false, false, false, false, false, false, false, false, false, false, true, false, false, true, false, false]) h.x_InvalidText rfl rfl (fun _ => rfl)
  rcases List.mem_cons.mp hc with e | hc
  · subst e; exact LiveX.of (bs := [true, false, false, false, false, false, false, false, false, false, false, false, false, false, false, false, false, false, false, false, false, false, false, false, false, false, false, true, false, false, true, false, false]) h.x_NotAWinding rfl rfl (fun _ => rfl)
  rcases List.mem_cons.mp hc with e | hc
  · subst e; exact LiveX.of (bs := [false, false, false, true, false, false, false, false, false, false, false, false, false, false, false, false, false, false, false, false, false, false, false, false, false, false, false, true, false, false, true, false, false]) h.x_InvalidPegs rfl rfl (fun _ => rfl)
  rcases List.mem_cons.mp hc with e | hc
  · subst e; exact LiveX.of (bs := [false, false, true, false, false, false, false, false, false, false, false, false, false, false, false, false, false, false, false, false, false, false, false, false, false, false, false, true, false, false, true, false, false]) h.x_InvalidRounds rfl rfl (fun _ => rfl)
  rcases List.mem_cons.mp hc with e | hc
  · subst e; exact LiveX.of (bs := [false, false, false, false, false, true, false, false, false, false, false, false, false, false, false, false, false, false, false, false, false, false, false, false, false, false, false, true, false, false, true, false, false]) h.x_InvalidPlace rfl rfl (fun _ => rfl)
  rcases List.mem_cons.mp hc with e | hc
  · subst e; exact LiveX.of (bs := [false, false, false, false, true, false, false, false, false, false, false, false, false, false, false, false, false, false, false, false, false, false, false, false, false, false, false, true, false, false, true, false, false]) h.x_InvalidPeg rfl rfl (fun _ => rfl)
  rcases List.mem_cons.mp hc with e | hc
  · subst e; exact LiveX.of (bs := [false, false, false, false, false, false, false, true, false, false, false, false, false, false, false, false, false, false, false, false, false, false, false, false, false, false, false, true, false, false, true, false, false]) h.x_InvalidWord rfl rfl (fun _ => rfl)
  rcases List.mem_cons.mp hc with e | hc
  · subst e; exact LiveX.of (bs := [false, false, false, false, false, false, true, false, false, false, false, false, false, false, false, false, false, false, false, false, false, false, false, false, false, false, false, true, false, false, true, false, false]) h.x_InvalidFactor rfl rfl (fun _ => rfl)
  rcases List.mem_cons.mp hc with e | hc
  · subst e; exact LiveX.of (bs := [false, false, false, false, false, false, false, false, false, true, false, false, false, false, false, false, false, false, false, false, false, false, false, false, false, false, false, true, false, false, true, false, false]) h.x_InvalidWish rfl rfl (fun _ => rfl)
  rcases List.mem_cons.mp hc with e | hc
  · subst e; exact LiveX.of (bs := [false, false, false, false, false, false, false, false, true, false, false, false, false, false, false, false, false, false, false, false, false, false, false, false, false, false, false, true, false, false, true, false, false]) h.x_InvalidTimes rfl rfl (fun _ => rfl)
  rcases List.mem_cons.mp hc with e | hc
  · subst e; exact LiveX.of (bs := [false, false, false, false, false, false, false, false, false, false, false, true, false, false, false, false, false, false, false, false, false, false, false, false, false, false, false, true, false, false, true, false, false]) h.x_InvalidClaim rfl rfl (fun _ => rfl)
  rcases List.mem_cons.mp hc with e | hc
  · subst e; exact LiveX.of (bs := [false, false, false, false, false, false, false, false, false, false, true, false, false, false, false, false, false, false, false, false, false, false, false, false, false, false, false, true, false, false, true, false, false]) h.x_InvalidName rfl rfl (fun _ => rfl)
  rcases List.mem_cons.mp hc with e | hc
  · subst e; exact LiveX.of (bs := [false, false, false, false, false, false, false, false, false, false, false, false, false, true, false, false, false, false, false, false, false, false, false, false, false, false, false, true, false, false, true, false, false]) h.x_InvalidLine rfl rfl (fun _ => rfl)
  rcases List.mem_cons.mp hc with e | hc
  · subst e; exact LiveX.of (bs := [false, false, false, false, false, false, false, false, false, false, false, false, true, false, false, false, false, false, false, false, false, false, false, false, false, false, false, true, false, false, true, false, false]) h.x_InvalidIndex rfl rfl (fun _ => rfl)
  rcases List.mem_cons.mp hc with e | hc
  · subst e; exact LiveX.of (bs := [false, false, false, false, false, false, false, false, false, false, false, false, false, false, false, true, false, false, false, false, false, false, false, false, false, false, false, true, false, false, true, false, false]) h.x_InvalidLots rfl rfl (fun _ => rfl)
  rcases List.mem_cons.mp hc with e | hc
  · subst e; exact LiveX.of (bs := [false, false, false, false, false, false, false, false, false, false, false, false, false, false, true, false, false, false, false, false, false, false, false, false, false, false, false, true, false, false, true, false, false]) h.x_InvalidBlocks rfl rfl (fun _ => rfl)
  rcases List.mem_cons.mp hc with e | hc
  · subst e; exact LiveX.of (bs := [false, false, false, false, false, false, false, false, false, false, false, false, false, false, false, false, true, false, false, false, false, false, false, false, false, false, false, true, false, false, true, false, false]) h.x_InvalidWishes rfl rfl (fun _ => rfl)
  rcases List.mem_cons.mp hc with e | hc
  · subst e; exact LiveX.of (bs := [false, false, false, false, false, false, false, false, false, false, false, false, false, false, false, false, false, true, false, false, false, false, false, false, false, false, false, true, false, false, true, false, false]) h.x_InvalidChanges rfl rfl (fun _ => rfl)
  rcases List.mem_cons.mp hc with e | hc
  · subst e; exact LiveX.of (bs := [false, false, false, false, false, false, false, false, false, false, false, false, false, false, false, false, false, false, true, false, false, false, false, false, false, false, false, true, false, false, true, false, false]) h.x_InvalidDeeds rfl rfl (fun _ => rfl)
  rcases List.mem_cons.mp hc with e | hc
  · subst e; exact LiveX.of (bs := [false, false, false, false, false, false, false, false, false, false, false, false, false, false, false, false, false, false, false, true, false, false, false, false, false, false, false, false, true, false, false, true, false]) h.x_UnknownName rfl rfl (fun _ => rfl)
  rcases List.mem_cons.mp hc with e | hc
  · subst e; exact LiveX.of (bs := [false, false, false, false, false, false, false, false, false, false, false, false, false, false, false, false, false, false, false, false, true, false, false, false, false, false, false, false, true, false, false, true, false]) h.x_InUse rfl rfl (fun _ => rfl)
  rcases List.mem_cons.mp hc with e | hc
  · subst e; exact LiveX.of (bs := [false, false, false, false, false, false, false, false, false, false, false, false, false, false, false, false, false, false, false, false, false, true, false, false, false, false, false, false, false, true, false, false, true]) h.x_TooMany rfl rfl (fun _ => rfl)
  rcases List.mem_cons.mp hc with e | hc
  · subst e; exact LiveX.of (bs := [false, false, false, false, false, false, false, false, false, false, false, false, false, false, false, false, false, false, false, false, false, false, true, false, false, false, false, false, false, true, false, false, true]) h.x_TooGreat rfl rfl (fun _ => rfl)
  rcases List.mem_cons.mp hc with e | hc
  · subst e; exact LiveX.of (bs := [false, false, false, false, false, false, false, false, false, false, false, false, false, false, false, false, false, false, false, false, false, false, false, true, false, false, false, false, false, true, false, false, true]) h.x_PegOut rfl rfl (fun _ => rfl)
  rcases List.mem_cons.mp hc with e | hc
  · subst e; exact LiveX.of (bs := [false, false, false, false, false, false, false, false, false, false, false, false, false, false, false, false, false, false, false, false, false, false, false, false, true, false, false, false, false, true, false, false, true]) h.x_PegIn rfl rfl (fun _ => rfl)
  rcases List.mem_cons.mp hc with e | hc
  · subst e; exact LiveX.of (bs := [false, false, false, false, false, false, false, false, false, false, false, false, false, false, false, false, false, false, false, false, false, false, false, false, false, true, false, false, false, true, false, false, true]) h.x_Broken rfl rfl (fun _ => rfl)
  rcases List.mem_cons.mp hc with e | hc
  · subst e; exact LiveX.of0 (bs := [false, false, false, false, false, false, false, false, false, false, false, false, false, false, false, false, false, false, false, false, false, false, false, false, false, false, false, false, false, true, false, false, true]) h.x_NoAnswer rfl rfl (fun _ => rfl)
  rcases List.mem_cons.mp hc with e | hc
  · subst e; exact LiveX.of0 (bs := [false, false, false, false, false, false, false, false, false, false, false, false, false, false, false, false, false, false, false, false, false, false, false, false, false, false, false, false, true, false, false, true, false]) h.x_WrongName rfl rfl (fun _ => rfl)
  rcases List.mem_cons.mp hc with e | hc
  · subst e; exact LiveX.of0 (bs := [false, false, false, false, false, false, false, false, false, false, false, false, false, false, false, false, false, false, false, false, false, false, false, false, false, false, false, true, false, false, true, false, false]) h.x_WrongValue rfl rfl (fun _ => rfl)
  rcases List.mem_cons.mp hc with e | hc
  · subst e; exact LiveX.of0 (bs := [false, false, false, false, false, false, false, false, false, false, false, false, false, false, false, false, false, false, false, false, false, false, false, false, false, false, true, false, false, true, false, false, true]) h.x_NothingToUndo rfl rfl (fun _ => rfl)
  cases hc
theorem live_is (h : Hd mg K) (i : Nat) (hi : i < tgts.length) : ∀ c ∈ liveL, XvC K (Γ K c) ∧ PySem.W.kitOne K (.ref (Γ K c)) ((tgts.getD i (.ty "")).v K) = some (bX c i) := fun c hc => ⟨(live_ok h c hc).xv, (live_ok h c hc).kit i hi⟩
theorem live_a (h : Hd mg K) {n : Str} (hn : n ∈ [("given" : Str), "number", "index"]) : ∀ c ∈ liveL, XvC K (Γ K c) ∧ PySem.W.findIn K (.ref (Γ K c)) n = some none := fun c hc => ⟨(live_ok h c hc).xv, (live_ok h c hc).no n hn⟩
theorem sc_law_cup : FnScope ["_law_script", "_law_spot", "_law_cell", "_law_part"] ["_law_script", "_law_spot"] (defScope (top 40)) := ⟨rfl, rfl, rfl, by decide +kernel, rfl, by decide +kernel, by decide +kernel⟩
theorem b_law_cup (h : Hd mg K) {fd : FuncData} (D : FunD K "_law_cup" "_law_cup" (defArgs (top 40)) (defBody (top 40)) (defScope (top 40)) [] [] ((fun K => He.ga K "_law_cup") K) fd) : FnB P w K mg base 1 ((fun K => He.ga K "_law_cup") K) fd ["_law_script", "_law_spot"] (spD ⟨K, Γ K⟩ (F_law_cup U)) :=
  def_ok D sc_law_cup _ fun cdv A outer s H E G =>
    (pssd_cons (psd_set sc_law_cup.nd (pd_if (pt_cmp opd_lt (pdb (pd_var 1)) (pdb (pd_call1 cd_len h.b_len (pdb (pd_var 0))))) (pd_ix (pdb (pd_var 0)) (pdb (pd_var 1))) (pd_op opd_add (pdb (pd_op opd_mul (pdb pd_int) (pdb (pd_var 1)))) (pdb pd_int)))) (pssd_cons (psd_for G.po G.calm (pid_seq (pd_if (pt_cmp opd_ge (pdb (pd_var 1)) (pdb (pd_call1 cd_len h.b_len (pdb (pd_var 0))))) (pd_slice (pdb (pd_var 0)) pod_none (pod_some pd_int)) (pd_lst pad_nil))) (pgd_name sc_law_cup.nd) (pssd_one (psd_set sc_law_cup.nd (pd_op opd_mod (pdb (pd_callT1 cd_int h.b_int (pdb (pd_op opd_add (pdb (pd_op opd_mul (pdb (pd_var 2)) (pdb pd_int))) (pdb (pd_var 3)))))) (pdb pd_int))))) (pssd_one (psd_ret (pd_new (pf_lst (pad_cons (pd_op opd_mod (pdb (pd_callT1 cd_int h.b_int (pdb (pd_op opd_add (pdb (pd_op opd_add (pdb (pd_op opd_mul (pdb (pd_var 2)) (pdb pd_int))) (pdb (pd_op opd_mul (pdb pd_int) (pdb (pd_var 1)))))) (pdb pd_int))))) (pdb pd_int)) (pad_cons (pd_if (PW.pt (pwd_or (pt_cmp opd_lt (pdb (pd_var 2)) (pdb pd_int)) (pwd1 (pt_cmp opd_ge (pdb (pd_var 2)) (pdb (pd_op opd_pow (pdb pd_int) (pdb pd_int)))) _))) (pd_call1 cd_abs h.b_abs (pdb (pd_var 2))) pd_int) pad_nil))))))))
theorem v_law_cup (h : Hd mg K) : FnV P w K mg base 1 ((fun K => He.ga K "_law_cup") K) (spD ⟨K, Γ K⟩ (F_law_cup U)) := by
  obtain ⟨fd, D⟩ := h.d_law_cup
  exact (b_law_cup h D).v D (fun _ _ _ _ _ _ us hl => match us, hl with | [_, _], _ => rfl)
theorem k_law_cup (h : Hd mg K) : Kn P w K mg base (Γ K) 1 "_law_cup" [] (F_law_cup U) := by
  obtain ⟨fd, D⟩ := h.d_law_cup
  exact ⟨_, h.g_law_cup, D.kp, Cal.fn0 (v_law_cup h)⟩
theorem sc_law_classes : FnScope ["_law_e", "_law_found", "_law_above", "_law_at"] ["_law_e"] (defScope (top 43)) := ⟨rfl, rfl, rfl, by decide +kernel, rfl, by decide +kernel, by decide +kernel⟩
theorem b_law_classes (h : Hd mg K) {fd : FuncData} (D : FunD K "_law_classes" "_law_classes" (defArgs (top 43)) (defBody (top 43)) (defScope (top 43)) [] [] ((fun K => He.ga K "_law_classes") K) fd) : FnB P w K mg base 1 ((fun K => He.ga K "_law_classes") K) fd ["_law_e"] (spD ⟨K, Γ K⟩ (F_law_classes U)) :=
  def_ok D sc_law_classes _ fun cdv A outer s H E G =>
    (pssd_cons (psd_set sc_law_classes.nd (pd_lst (pad_cons (pd_isXe (live_is h 0 (by decide)) (.own (Γ K cNotAWinding)) (pdb (pd_var 0)) (pe_cls h.g_NotAWinding) h.b_isinstance) (pad_cons (pd_isXe (live_is h 1 (by decide)) (.own (Γ K cInvalidText)) (pdb (pd_var 0)) (pe_cls h.g_InvalidText) h.b_isinstance) (pad_cons (pd_isXe (live_is h 2 (by decide)) (.own (Γ K cInvalidRounds)) (pdb (pd_var 0)) (pe_cls h.g_InvalidRounds) h.b_isinstance) pad_nil))))) (pssd_cons (psd_set sc_law_classes.nd (pd_op opd_add (pdb (pd_var 1)) (pdb (pd_lst (pad_cons (pd_isXe (live_is h 3 (by decide)) (.own (Γ K cInvalidPegs)) (pdb (pd_var 0)) (pe_cls h.g_InvalidPegs) h.b_isinstance) (pad_cons (pd_isXe (live_is h 4 (by decide)) (.own (Γ K cInvalidPeg)) (pdb (pd_var 0)) (pe_cls h.g_InvalidPeg) h.b_isinstance) (pad_cons (pd_isXe (live_is h 5 (by decide)) (.own (Γ K cInvalidPlace)) (pdb (pd_var 0)) (pe_cls h.g_InvalidPlace) h.b_isinstance) pad_nil))))))) (pssd_cons (psd_set sc_law_classes.nd (pd_op opd_add (pdb (pd_var 1)) (pdb (pd_lst (pad_cons (pd_isXe (live_is h 6 (by decide)) (.own (Γ K cInvalidFactor)) (pdb (pd_var 0)) (pe_cls h.g_InvalidFactor) h.b_isinstance) (pad_cons (pd_isXe (live_is h 7 (by decide)) (.own (Γ K cInvalidWord)) (pdb (pd_var 0)) (pe_cls h.g_InvalidWord) h.b_isinstance) (pad_cons (pd_isXe (live_is h 8 (by decide)) (.own (Γ K cInvalidTimes)) (pdb (pd_var 0)) (pe_cls h.g_InvalidTimes) h.b_isinstance) pad_nil))))))) (pssd_cons (psd_set sc_law_classes.nd (pd_op opd_add (pdb (pd_var 1)) (pdb (pd_lst (pad_cons (pd_isXe (live_is h 9 (by decide)) (.own (Γ K cInvalidWish)) (pdb (pd_var 0)) (pe_cls h.g_InvalidWish) h.b_isinstance) (pad_cons (pd_isXe (live_is h 10 (by decide)) (.own (Γ K cInvalidName)) (pdb (pd_var 0)) (pe_cls h.g_InvalidName) h.b_isinstance) (pad_cons (pd_isXe (live_is h 11 (by decide)) (.own (Γ K cInvalidClaim)) (pdb (pd_var 0)) (pe_cls h.g_InvalidClaim) h.b_isinstance) pad_nil))))))) (pssd_cons (psd_set sc_law_classes.nd (pd_op opd_add (pdb (pd_var 1)) (pdb (pd_lst (pad_cons (pd_isXe (live_is h 12 (by decide)) (.own (Γ K cInvalidIndex)) (pdb (pd_var 0)) (pe_cls h.g_InvalidIndex) h.b_isinstance) (pad_cons (pd_isXe (live_is h 13 (by decide)) (.own (Γ K cInvalidLine)) (pdb (pd_var 0)) (pe_cls h.g_InvalidLine) h.b_isinstance) (pad_cons (pd_isXe (live_is h 14 (by decide)) (.own (Γ K cInvalidBlocks)) (pdb (pd_var 0)) (pe_cls h.g_InvalidBlocks) h.b_isinstance) pad_nil))))))) (pssd_cons (psd_set sc_law_classes.nd (pd_op opd_add (pdb (pd_var 1)) (pdb (pd_lst (pad_cons (pd_isXe (live_is h 15 (by decide)) (.own (Γ K cInvalidLots)) (pdb (pd_var 0)) (pe_cls h.g_InvalidLots) h.b_isinstance) (pad_cons (pd_isXe (live_is h 16 (by decide)) (.own (Γ K cInvalidWishes)) (pdb (pd_var 0)) (pe_cls h.g_InvalidWishes) h.b_isinstance) (pad_cons (pd_isXe (live_is h 17 (by decide)) (.own (Γ K cInvalidChanges)) (pdb (pd_var 0)) (pe_cls h.g_InvalidChanges) h.b_isinstance) pad_nil))))))) (pssd_cons (psd_set sc_law_classes.nd (pd_op opd_add (pdb (pd_var 1)) (pdb (pd_lst (pad_cons (pd_isXe (live_is h 18 (by decide)) (.own (Γ K cInvalidDeeds)) (pdb (pd_var 0)) (pe_cls h.g_InvalidDeeds) h.b_isinstance) (pad_cons (pd_isXe (live_is h 19 (by decide)) (.own (Γ K cUnknownName)) (pdb (pd_var 0)) (pe_cls h.g_UnknownName) h.b_isinstance) (pad_cons (pd_isXe (live_is h 20 (by decide)) (.own (Γ K cInUse)) (pdb (pd_var 0)) (pe_cls h.g_InUse) h.b_isinstance) pad_nil))))))) (pssd_cons (psd_set sc_law_classes.nd (pd_op opd_add (pdb (pd_var 1)) (pdb (pd_lst (pad_cons (pd_isXe (live_is h 21 (by decide)) (.own (Γ K cTooMany)) (pdb (pd_var 0)) (pe_cls h.g_TooMany) h.b_isinstance) (pad_cons (pd_isXe (live_is h 22 (by decide)) (.own (Γ K cTooGreat)) (pdb (pd_var 0)) (pe_cls h.g_TooGreat) h.b_isinstance) (pad_cons (pd_isXe (live_is h 23 (by decide)) (.own (Γ K cPegOut)) (pdb (pd_var 0)) (pe_cls h.g_PegOut) h.b_isinstance) (pad_cons (pd_isXe (live_is h 24 (by decide)) (.own (Γ K cPegIn)) (pdb (pd_var 0)) (pe_cls h.g_PegIn) h.b_isinstance) pad_nil)))))))) (pssd_cons (psd_set sc_law_classes.nd (pd_op opd_add (pdb (pd_var 1)) (pdb (pd_lst (pad_cons (pd_isXe (live_is h 25 (by decide)) (.own (Γ K cBroken)) (pdb (pd_var 0)) (pe_cls h.g_Broken) h.b_isinstance) (pad_cons (pd_isXe (live_is h 26 (by decide)) (.own (Γ K cNothingToUndo)) (pdb (pd_var 0)) (pe_cls h.g_NothingToUndo) h.b_isinstance) pad_nil)))))) (pssd_cons (psd_set sc_law_classes.nd (pd_lst (pad_cons (pd_isXe (live_is h 27 (by decide)) (.own (Γ K cWrongValue)) (pdb (pd_var 0)) (pe_cls h.g_WrongValue) h.b_isinstance) (pad_cons (pd_isXe (live_is h 28 (by decide)) (.own (Γ K cWrongName)) (pdb (pd_var 0)) (pe_cls h.g_WrongName) h.b_isinstance) (pad_cons (pd_isXe (live_is h 29 (by decide)) (.own (Γ K cNoAnswer)) (pdb (pd_var 0)) (pe_cls h.g_NoAnswer) h.b_isinstance) pad_nil))))) (pssd_cons (psd_set sc_law_classes.nd (pd_op opd_add (pdb (pd_var 2)) (pdb (pd_lst (pad_cons (pd_isXe (live_is h 30 (by decide)) (.ty "ValueError") (pdb (pd_var 0)) (pe_bltn (v := .ty "ValueError") (by rfl) h.b_ValueError (by decide +kernel) rfl (by decide)) h.b_isinstance) (pad_cons (pd_isXe (live_is h 31 (by decide)) (.ty "LookupError") (pdb (pd_var 0)) (pe_bltn (v := .ty "LookupError") (by rfl) h.b_LookupError (by decide +kernel) rfl (by decide)) h.b_isinstance) (pad_cons (pd_isXe (live_is h 32 (by decide)) (.ty "ArithmeticError") (pdb (pd_var 0)) (pe_bltn (v := .ty "ArithmeticError") (by rfl) h.b_ArithmeticError (by decide +kernel) rfl (by decide)) h.b_isinstance) pad_nil))))))) (pssd_one (psd_ret (pd_op opd_add (pdb (pdf (pf_comp (own := [("_law_at", 3)]) (tup := false) (is := [3]) G.calm sc_law_classes.nd (pid_range1 h.b_range pd_int) ⟨rfl, of_decide_eq_true (by kernel_rfl), of_decide_eq_true (by kernel_rfl), of_decide_eq_true (by kernel_rfl), of_decide_eq_true (by kernel_rfl)⟩ (fun _ _ _ _ _ => (pgc_name sc_law_classes.nd)) (fun _ _ _ _ _ => (ptsd_one (pt_tru (pdb (pd_ix (pdb (pd_var 1)) (pdb (pd_var 3))))))) (fun _ _ _ _ _ => (pd_var 3))))) (pdb (pdf (pf_comp (own := [("_law_at", 3)]) (tup := false) (is := [3]) G.calm sc_law_classes.nd (pid_range1 h.b_range pd_int) ⟨rfl, of_decide_eq_true (by kernel_rfl), of_decide_eq_true (by kernel_rfl), of_decide_eq_true (by kernel_rfl), of_decide_eq_true (by kernel_rfl)⟩ (fun _ _ _ _ _ => (pgc_name sc_law_classes.nd)) (fun _ _ _ _ _ => (ptsd_one (pt_tru (pdb (pd_ix (pdb (pd_var 2)) (pdb (pd_var 3))))))) (fun _ _ _ _ _ => (pd_op opd_add (pdb pd_int) (pdb (pd_var 3)))))))))))))))))))))
theorem v_law_classes (h : Hd mg K) : FnV P w K mg base 1 ((fun K => He.ga K "_law_classes") K) (spD ⟨K, Γ K⟩ (F_law_classes U)) := by
  obtain ⟨fd, D⟩ := h.d_law_classes
  exact (b_law_classes h D).v D (fun _ _ _ _ _ _ us hl => match us, hl with | [_], _ => rfl)
theorem k_law_classes (h : Hd mg K) : Kn P w K mg base (Γ K) 1 "_law_classes" [] (F_law_classes U) := by
  obtain ⟨fd, D⟩ := h.d_law_classes
  exact ⟨_, h.g_law_classes, D.kp, Cal.fn0 (v_law_classes h)⟩
theorem sc_law_sip : FnScope ["_law_cup_here", "_law_many", "_law_part"] ["_law_cup_here", "_law_many"] (defScope (top 41)) := ⟨rfl, rfl, rfl, by decide +kernel, rfl, by decide +kernel, by decide +kernel⟩
theorem b_law_sip (h : Hd mg K) {fd : FuncData} (D : FunD K "_law_sip" "_law_sip" (defArgs (top 41)) (defBody (top 41)) (defScope (top 41)) [] [] ((fun K => He.ga K "_law_sip") K) fd) : FnB P w K mg base 1 ((fun K => He.ga K "_law_sip") K) fd ["_law_cup_here", "_law_many"] (spD ⟨K, Γ K⟩ (F_law_sip U)) :=
  def_ok D sc_law_sip _ fun cdv A outer s H E G =>
    (pssd_cons (psd_asg (pd_op opd_mod (pdb (pd_callT1 cd_int h.b_int (pdb (pd_op opd_add (pdb (pd_op opd_mul (pdb (pd_ix (pdb (pd_var 0)) (pdb pd_int))) (pdb pd_int))) (pdb pd_int))))) (pdb pd_int)) (pgd_ix (pd_var 0) pd_int)) (pssd_cons (psd_if (pt_cmp opd_gt (pdb (pd_ix (pdb (pd_var 0)) (pdb pd_int))) (pdb pd_int)) (pssd_cons (psd_asg (pd_call2 cd_divmod h.b_divmod (pdb (pd_ix (pdb (pd_var 0)) (pdb pd_int))) (pdb (pd_var 1))) (pgd_tup G.calm (pgsd_cons (pgd_ix (pd_var 0) pd_int) (pgsd_cons (pgd_name sc_law_sip.nd) pgsd_nil)))) (pssd_one (psd_ret (pd_var 2)))) pssd_nil) (pssd_one (psd_ret (pd_op opd_mod (pdb (pd_callT1 cd_int h.b_int (pdb (pd_op opd_div (pdb (pd_ix (pdb (pd_var 0)) (pdb pd_int))) (pdb pd_int))))) (pdb (pd_var 1)))))))
theorem v_law_sip (h : Hd mg K) : FnV P w K mg base 1 ((fun K => He.ga K "_law_sip") K) (spD ⟨K, Γ K⟩ (F_law_sip U)) := by
  obtain ⟨fd, D⟩ := h.d_law_sip
  exact (b_law_sip h D).v D (fun _ _ _ _ _ _ us hl => match us, hl with | [_, _], _ => rfl)
theorem k_law_sip (h : Hd mg K) : Kn P w K mg base (Γ K) 1 "_law_sip" [] (F_law_sip U) := by
  obtain ⟨fd, D⟩ := h.d_law_sip
  exact ⟨_, h.g_law_sip, D.kp, Cal.fn0 (v_law_sip h)⟩
theorem sc_law_pick : FnScope ["_law_cup_here", "_law_things"] ["_law_cup_here", "_law_things"] (defScope (top 42)) := ⟨rfl, rfl, rfl, by decide +kernel, rfl, by decide +kernel, by decide +kernel⟩
theorem b_law_pick (h : Hd mg K) {fd : FuncData} (D : FunD K "_law_pick" "_law_pick" (defArgs (top 42)) (defBody (top 42)) (defScope (top 42)) [] [] ((fun K => He.ga K "_law_pick") K) fd) : FnB P w K mg base 2 ((fun K => He.ga K "_law_pick") K) fd ["_law_cup_here", "_law_things"] (spD ⟨K, Γ K⟩ (F_law_pick U)) :=
  def_ok D sc_law_pick _ fun cdv A outer s H E G =>
    (pssd_one (psd_ret (pd_ix (pdb (pd_var 1)) (pdb (pd_call G (k_law_sip h) (pad_cons (pd_var 0) (pad_cons (pd_call1 cd_len h.b_len (pdb (pd_var 1))) pad_nil)))))))
theorem v_law_pick (h : Hd mg K) : FnV P w K mg base 2 ((fun K => He.ga K "_law_pick") K) (spD ⟨K, Γ K⟩ (F_law_pick U)) := by
  obtain ⟨fd, D⟩ := h.d_law_pick
  exact (b_law_pick h D).v D (fun _ _ _ _ _ _ us hl => match us, hl with | [_, _], _ => rfl)
theorem k_law_pick (h : Hd mg K) : Kn P w K mg base (Γ K) 2 "_law_pick" [] (F_law_pick U) := by
  obtain ⟨fd, D⟩ := h.d_law_pick
  exact ⟨_, h.g_law_pick, D.kp, Cal.fn0 (v_law_pick h)⟩
theorem sc_law_given : FnScope ["_law_thing", "_law_found"] ["_law_thing"] (defScope (top 44)) := ⟨rfl, rfl, rfl, by decide +kernel, rfl, by decide +kernel, by decide +kernel⟩
theorem b_law_given (h : Hd mg K) {fd : FuncData} (D : FunD K "_law_given" "_law_given" (defArgs (top 44)) (defBody (top 44)) (defScope (top 44)) [] [] ((fun K => He.ga K "_law_given") K) fd) : FnB P w K mg base 3 ((fun K => He.ga K "_law_given") K) fd ["_law_thing"] (spD ⟨K, Γ K⟩ (F_law_given U)) :=
  def_ok D sc_law_given _ fun cdv A outer s H E G =>
    (pssd_cons (psd_set sc_law_given.nd (pd_lst (pad_cons (pd_lst (pad_cons (pd_mkx G (rz_NotAWinding h) (pd_var 0)) (pad_cons (pd_mkxK G (rzy_NotAWinding h) (pd_var 0)) pad_nil))) (pad_cons (pd_lst (pad_cons (pd_mkx G (rz_InvalidText h) (pd_var 0)) (pad_cons (pd_mkxK G (rzy_InvalidText h) (pd_var 0)) pad_nil))) pad_nil)))) (pssd_cons (psd_set sc_law_given.nd (pd_op opd_add (pdb (pd_var 1)) (pdb (pd_lst (pad_cons (pd_lst (pad_cons (pd_mkx G (rz_InvalidRounds h) (pd_var 0)) (pad_cons (pd_mkxK G (rzy_InvalidRounds h) (pd_var 0)) pad_nil))) (pad_cons (pd_lst (pad_cons (pd_mkx G (rz_InvalidPegs h) (pd_var 0)) (pad_cons (pd_mkxK G (rzy_InvalidPegs h) (pd_var 0)) pad_nil))) pad_nil)))))) (pssd_cons (psd_set sc_law_given.nd (pd_op opd_add (pdb (pd_var 1)) (pdb (pd_lst (pad_cons (pd_lst (pad_cons (pd_mkx G (rz_InvalidPeg h) (pd_var 0)) (pad_cons (pd_mkxK G (rzy_InvalidPeg h) (pd_var 0)) pad_nil))) (pad_cons (pd_lst (pad_cons (pd_mkx G (rz_InvalidPlace h) (pd_var 0)) (pad_cons (pd_mkxK G (rzy_InvalidPlace h) (pd_var 0)) pad_nil))) pad_nil)))))) (pssd_cons (psd_set sc_law_given.nd (pd_op opd_add (pdb (pd_var 1)) (pdb (pd_lst (pad_cons (pd_lst (pad_cons (pd_mkx G (rz_InvalidFactor h) (pd_var 0)) (pad_cons (pd_mkxK G (rzy_InvalidFactor h) (pd_var 0)) pad_nil))) (pad_cons (pd_lst (pad_cons (pd_mkx G (rz_InvalidWord h) (pd_var 0)) (pad_cons (pd_mkxK G (rzy_InvalidWord h) (pd_var 0)) pad_nil))) pad_nil)))))) (pssd_cons (psd_set sc_law_given.nd (pd_op opd_add (pdb (pd_var 1)) (pdb (pd_lst (pad_cons (pd_lst (pad_cons (pd_mkx G (rz_InvalidTimes h) (pd_var 0)) (pad_cons (pd_mkxK G (rzy_InvalidTimes h) (pd_var 0)) pad_nil))) (pad_cons (pd_lst (pad_cons (pd_mkx G (rz_InvalidWish h) (pd_var 0)) (pad_cons (pd_mkxK G (rzy_InvalidWish h) (pd_var 0)) pad_nil))) pad_nil)))))) (pssd_cons (psd_set sc_law_given.nd (pd_op opd_add (pdb (pd_var 1)) (pdb (pd_lst (pad_cons (pd_lst (pad_cons (pd_mkx G (rz_InvalidName h) (pd_var 0)) (pad_cons (pd_mkxK G (rzy_InvalidName h) (pd_var 0)) pad_nil))) (pad_cons (pd_lst (pad_cons (pd_mkx G (rz_InvalidClaim h) (pd_var 0)) (pad_cons (pd_mkxK G (rzy_InvalidClaim h) (pd_var 0)) pad_nil))) pad_nil)))))) (pssd_one (psd_ret (pd_op opd_add (pdb (pd_var 1)) (pdb (pd_lst (pad_cons (pd_lst (pad_cons (pd_mkx G (rz_InvalidIndex h) (pd_var 0)) (pad_cons (pd_mkxK G (rzy_InvalidIndex h) (pd_var 0)) pad_nil))) (pad_cons (pd_lst (pad_cons (pd_mkx G (rz_InvalidLine h) (pd_var 0)) (pad_cons (pd_mkxK G (rzy_InvalidLine h) (pd_var 0)) pad_nil))) pad_nil)))))))))))))
theorem v_law_given (h : Hd mg K) : FnV P w K mg base 3 ((fun K => He.ga K "_law_given") K) (spD ⟨K, Γ K⟩ (F_law_given U)) := by
  obtain ⟨fd, D⟩ := h.d_law_given
  exact (b_law_given h D).v D (fun _ _ _ _ _ _ us hl => match us, hl with | [_], _ => rfl)
theorem k_law_given (h : Hd mg K) : Kn P w K mg base (Γ K) 3 "_law_given" [] (F_law_given U) := by
  obtain ⟨fd, D⟩ := h.d_law_given
  exact ⟨_, h.g_law_given, D.kp, Cal.fn0 (v_law_given h)⟩
theorem sc_law_indexed : FnScope ["_law_thing", "_law_found"] ["_law_thing"] (defScope (top 45)) := ⟨rfl, rfl, rfl, by decide +kernel, rfl, by decide +kernel, by decide +kernel⟩
theorem b_law_indexed (h : Hd mg K) {fd : FuncData} (D : FunD K "_law_indexed" "_law_indexed" (defArgs (top 45)) (defBody (top 45)) (defScope (top 45)) [] [] ((fun K => He.ga K "_law_indexed") K) fd) : FnB P w K mg base 3 ((fun K => He.ga K "_law_indexed") K) fd ["_law_thing"] (spD ⟨K, Γ K⟩ (F_law_indexed U)) :=
  def_ok D sc_law_indexed _ fun cdv A outer s H E G =>
    (pssd_cons (psd_own sc_law_indexed.nd (pf_lst (pad_cons (pd_lst (pad_cons (pd_mkx G (rz_InvalidBlocks h) (pd_var 0)) (pad_cons (pd_mkxK G (rzy_InvalidBlocks h) (pd_var 0)) pad_nil))) (pad_cons (pd_lst (pad_cons (pd_mkx G (rz_InvalidLots h) (pd_var 0)) (pad_cons (pd_mkxK G (rzy_InvalidLots h) (pd_var 0)) pad_nil))) pad_nil)))) (pssd_cons (psd_app 1 (pd_lst (pad_cons (pd_mkx G (rz_InvalidWishes h) (pd_var 0)) (pad_cons (pd_mkxK G (rzy_InvalidWishes h) (pd_var 0)) pad_nil)))) (pssd_cons (psd_app 1 (pd_lst (pad_cons (pd_mkx G (rz_InvalidChanges h) (pd_var 0)) (pad_cons (pd_mkxK G (rzy_InvalidChanges h) (pd_var 0)) pad_nil)))) (pssd_one (psd_ret (pd_op opd_add (pd_own 1) (pdb (pd_lst (pad_cons (pd_lst (pad_cons (pd_mkx G (rz_InvalidDeeds h) (pd_var 0)) (pad_cons (pd_mkxK G (rzy_InvalidDeeds h) (pd_var 0)) pad_nil))) pad_nil)))))))))
theorem v_law_indexed (h : Hd mg K) : FnV P w K mg base 3 ((fun K => He.ga K "_law_indexed") K) (spD ⟨K, Γ K⟩ (F_law_indexed U)) := by
  obtain ⟨fd, D⟩ := h.d_law_indexed
  exact (b_law_indexed h D).v D (fun _ _ _ _ _ _ us hl => match us, hl with | [_], _ => rfl)
theorem k_law_indexed (h : Hd mg K) : Kn P w K mg base (Γ K) 3 "_law_indexed" [] (F_law_indexed U) := by
  obtain ⟨fd, D⟩ := h.d_law_indexed
  exact ⟨_, h.g_law_indexed, D.kp, Cal.fn0 (v_law_indexed h)⟩
theorem sc_law_others : FnScope ["_law_thing", "_law_found"] ["_law_thing"] (defScope (top 46)) := ⟨rfl, rfl, rfl, by decide +kernel, rfl, by decide +kernel, by decide +kernel⟩
theorem b_law_others (h : Hd mg K) {fd : FuncData} (D : FunD K "_law_others" "_law_others" (defArgs (top 46)) (defBody (top 46)) (defScope (top 46)) [] [] ((fun K => He.ga K "_law_others") K) fd) : FnB P w K mg base 3 ((fun K => He.ga K "_law_others") K) fd ["_law_thing"] (spD ⟨K, Γ K⟩ (F_law_others U)) :=
  def_ok D sc_law_others _ fun cdv A outer s H E G =>
    (pssd_cons (psd_own sc_law_others.nd (pf_lst (pad_cons (pd_lst (pad_cons pd_int (pad_cons pd_int (pad_cons pd_int (pad_cons (pd_xa (live_a h (by decide)) (pdb (pd_mkx G (rz_UnknownName h) (pd_var 0)))) (pad_cons (pd_mkxK G (rzy_UnknownName h) (pd_var 0)) pad_nil)))))) pad_nil))) (pssd_cons (psd_app 1 (pd_lst (pad_cons pd_int (pad_cons pd_int (pad_cons pd_int (pad_cons (pd_xa (live_a h (by decide)) (pdb (pd_mkx G (rz_InUse h) (pd_var 0)))) (pad_cons (pd_mkxK G (rzy_InUse h) (pd_var 0)) pad_nil))))))) (pssd_cons (psd_app 1 (pd_lst (pad_cons pd_int (pad_cons pd_int (pad_cons pd_int (pad_cons (pd_xa (live_a h (by decide)) (pdb (pd_mkx G (rz_TooMany h) (pd_var 0)))) (pad_cons (pd_mkxK G (rzy_TooMany h) (pd_var 0)) pad_nil))))))) (pssd_cons (psd_app 1 (pd_lst (pad_cons pd_int (pad_cons pd_int (pad_cons pd_int (pad_cons (pd_xa (live_a h (by decide)) (pdb (pd_mkx G (rz_TooGreat h) (pd_var 0)))) (pad_cons (pd_mkxK G (rzy_TooGreat h) (pd_var 0)) pad_nil))))))) (pssd_cons (psd_app 1 (pd_lst (pad_cons pd_int (pad_cons pd_int (pad_cons pd_int (pad_cons (pd_xa (live_a h (by decide)) (pdb (pd_mkx G (rz_PegOut h) (pd_var 0)))) (pad_cons (pd_mkxK G (rzy_PegOut h) (pd_var 0)) pad_nil))))))) (pssd_cons (psd_app 1 (pd_lst (pad_cons pd_int (pad_cons pd_int (pad_cons pd_int (pad_cons (pd_xa (live_a h (by decide)) (pdb (pd_mkx G (rz_PegIn h) (pd_var 0)))) (pad_cons (pd_mkxK G (rzy_PegIn h) (pd_var 0)) pad_nil))))))) (pssd_one (psd_ret (pd_op opd_add (pd_own 1) (pdb (pd_lst (pad_cons (pd_lst (pad_cons pd_int (pad_cons pd_int (pad_cons pd_int (pad_cons (pd_xa (live_a h (by decide)) (pdb (pd_mkx G (rz_Broken h) (pd_var 0)))) (pad_cons (pd_mkxK G (rzy_Broken h) (pd_var 0)) pad_nil)))))) pad_nil))))))))))))
theorem v_law_others (h : Hd mg K) : FnV P w K mg base 3 ((fun K => He.ga K "_law_others") K) (spD ⟨K, Γ K⟩ (F_law_others U)) := by
  obtain ⟨fd, D⟩ := h.d_law_others
  exact (b_law_others h D).v D (fun _ _ _ _ _ _ us hl => match us, hl with | [_], _ => rfl)
theorem k_law_others (h : Hd mg K) : Kn P w K mg base (Γ K) 3 "_law_others" [] (F_law_others U) := by
  obtain ⟨fd, D⟩ := h.d_law_others
  exact ⟨_, h.g_law_others, D.kp, Cal.fn0 (v_law_others h)⟩
theorem sc_law_right : FnScope ["_law_cup_here", "_law_things", "_law_thing", "_law_kept", "_law_at", "_law_both", "_law_base", "_law_above", "_law_e"] ["_law_cup_here"] (defScope (top 47)) := ⟨rfl, rfl, rfl, by decide +kernel, rfl, by decide +kernel, by decide +kernel⟩
theorem b_law_right (h : Hd mg K) {fd : FuncData} (D : FunD K "_law_right" "_law_right" (defArgs (top 47)) (defBody (top 47)) (defScope (top 47)) [] [] ((fun K => He.ga K "_law_right") K) fd) : FnB P w K mg base 4 ((fun K => He.ga K "_law_right") K) fd ["_law_cup_here"] (spD ⟨K, Γ K⟩ (F_law_right U)) :=
  def_ok D sc_law_right _ fun cdv A outer s H E G =>
    (pssd_cons (psd_set sc_law_right.nd (pd_lst (pad_cons pd_non (pad_cons pd_int (pad_cons (pd_neg pd_int) (pad_cons pd_bl (pad_cons pd_str (pad_cons pd_str (pad_cons (pd_tup pad_nil) (pad_cons (pd_tup (pad_cons pd_int (pad_cons pd_int pad_nil))) (pad_cons (pd_lst pad_nil) (pad_cons (pd_lst (pad_cons pd_int pad_nil)) (pad_cons pd_dk0 (pad_cons pd_dk1 (pad_cons (pd_op opd_pow (pdb pd_int) (pdb pd_int)) (pad_cons (pd_tup (pad_cons pd_str (pad_cons pd_int pad_nil))) pad_nil)))))))))))))))) (pssd_cons (psd_set sc_law_right.nd (pd_call G (k_law_pick h) (pad_cons (pd_var 0) (pad_cons (pd_var 1) pad_nil)))) (pssd_cons (psd_for G.po G.calm (pid_enum h.b_enumerate (pd_call G (k_law_given h) (pad_cons (pd_var 2) pad_nil))) (pgd_tupL G.calm (pgsd_cons (pgd_name sc_law_right.nd) (pgsd_cons (pgd_name sc_law_right.nd) pgsd_nil))) (pssd_one (psd_if (pt_cmp (opd_ne G.rm.units) (pdb (pdf (pf_comp (own := [("_law_e", 8)]) (tup := false) (is := [8]) G.calm sc_law_right.nd (pid_seq (pd_var 5)) ⟨rfl, of_decide_eq_true (by kernel_rfl), of_decide_eq_true (by kernel_rfl), of_decide_eq_true (by kernel_rfl), of_decide_eq_true (by kernel_rfl)⟩ (fun _ _ _ _ _ => (pgc_name sc_law_right.nd)) (fun _ _ _ _ _ => ptsd_nil) (fun _ _ _ _ _ => (pd_op opd_add (pdb (pd_call (G.blk _ _ _ _ _) (k_law_classes h) (pad_cons (pd_var 8) pad_nil))) (pdb (pd_lst (pad_cons (pd_call1 (cd_reprT (G.blk _ _ _ _ _).gd (G.blk _ _ _ _ _).rm.units) h.b_repr (pdb (pd_xa (live_a h (by decide)) (pdb (pd_var 8))))) pad_nil)))))))) (pdb (pd_op opd_mul (pdb (pd_lst (pad_cons (pd_lst (pad_cons (pd_var 4) (pad_cons pd_int (pad_cons pd_int (pad_cons (pd_call1 (cd_reprT G.gd G.rm.units) h.b_repr (pdb (pd_var 2))) pad_nil))))) pad_nil))) (pdb pd_int)))) (pssd_one (psd_ret pd_bl)) pssd_nil))) (pssd_cons (psd_for G.po G.calm (pid_enum h.b_enumerate (pd_call G (k_law_indexed h) (pad_cons (pd_var 2) pad_nil))) (pgd_tupL G.calm (pgsd_cons (pgd_name sc_law_right.nd) (pgsd_cons (pgd_name sc_law_right.nd) pgsd_nil))) (pssd_one (psd_if (pt_cmp (opd_ne G.rm.units) (pdb (pdf (pf_comp (own := [("_law_e", 8)]) (tup := false) (is := [8]) G.calm sc_law_right.nd (pid_seq (pd_var 5)) ⟨rfl, of_decide_eq_true (by kernel_rfl), of_decide_eq_true (by kernel_rfl), of_decide_eq_true (by kernel_rfl), of_decide_eq_true (by kernel_rfl)⟩ (fun _ _ _ _ _ => (pgc_name sc_law_right.nd)) (fun _ _ _ _ _ => ptsd_nil) (fun _ _ _ _ _ => (pd_op opd_add (pdb (pd_call (G.blk _ _ _ _ _) (k_law_classes h) (pad_cons (pd_var 8) pad_nil))) (pdb (pd_lst (pad_cons (pd_call1 (cd_reprT (G.blk _ _ _ _ _).gd (G.blk _ _ _ _ _).rm.units) h.b_repr (pdb (pd_xa (live_a h (by decide)) (pdb (pd_var 8))))) pad_nil)))))))) (pdb (pd_op opd_mul (pdb (pd_lst (pad_cons (pd_lst (pad_cons (pd_op opd_add (pdb pd_int) (pdb (pd_var 4))) (pad_cons pd_int (pad_cons pd_int (pad_cons (pd_call1 (cd_reprT G.gd G.rm.units) h.b_repr (pdb (pd_var 2))) pad_nil))))) pad_nil))) (pdb pd_int)))) (pssd_one (psd_ret pd_bl)) pssd_nil))) (pssd_cons (psd_for G.po G.calm (pid_seq (pd_call G (k_law_others h) (pad_cons (pd_var 2) pad_nil))) (pgd_tupL G.calm (pgsd_cons (pgd_name sc_law_right.nd) (pgsd_cons (pgd_name sc_law_right.nd) (pgsd_cons (pgd_name sc_law_right.nd) (pgsd_cons (pgd_name sc_law_right.nd) (pgsd_cons (pgd_name sc_law_right.nd) pgsd_nil)))))) (pssd_one (psd_if (PW.pt (pwd_or (pt_cmp (opd_ne G.rm.units) (pdb (pd_call G (k_law_classes h) (pad_cons (pd_var 8) pad_nil))) (pdb (pd_lst (pad_cons (pd_var 4) (pad_cons (pd_var 6) (pad_cons (pd_var 7) pad_nil)))))) (pwd1 (pt_cmp (opd_ne G.rm.units) (pdb (pd_call1 (cd_reprT G.gd G.rm.units) h.b_repr (pdb (pd_var 3)))) (pdb (pd_call1 (cd_reprT G.gd G.rm.units) h.b_repr (pdb (pd_var 2))))) _))) (pssd_one (psd_ret pd_bl)) pssd_nil))) (pssd_cons (psd_set sc_law_right.nd (pd_lst (pad_cons (pd_xa (live_a h (by decide)) (pdb (pd_mkxK G (rzy_UnknownName h) (pd_var 2)))) (pad_cons (pd_xa (live_a h (by decide)) (pdb (pd_mkxK G (rzy_InUse h) (pd_var 2)))) (pad_cons (pd_xa (live_a h (by decide)) (pdb (pd_mkxK G (rzy_TooMany h) (pd_var 2)))) pad_nil))))) (pssd_cons (psd_set sc_law_right.nd (pd_op opd_add (pdb (pd_var 3)) (pdb (pd_lst (pad_cons (pd_xa (live_a h (by decide)) (pdb (pd_mkxK G (rzy_TooGreat h) (pd_var 2)))) (pad_cons (pd_xa (live_a h (by decide)) (pdb (pd_mkxK G (rzy_PegOut h) (pd_var 2)))) (pad_cons (pd_xa (live_a h (by decide)) (pdb (pd_mkxK G (rzy_PegIn h) (pd_var 2)))) pad_nil))))))) (pssd_one (psd_ret (pd_cmp (opd_eq G.rm.units) (pdb (pd_call1 (cd_reprT G.gd G.rm.units) h.b_repr (pdb (pd_op opd_add (pdb (pd_var 3)) (pdb (pd_lst (pad_cons (pd_xa (live_a h (by decide)) (pdb (pd_mkxK G (rzy_Broken h) (pd_var 2)))) pad_nil))))))) (pdb (pd_call1 (cd_reprT G.gd G.rm.units) h.b_repr (pdb (pd_op opd_mul (pdb (pd_lst (pad_cons (pd_var 2) pad_nil))) (pdb pd_int)))))))))))))))
theorem v_law_right (h : Hd mg K) : FnV P w K mg base 4 ((fun K => He.ga K "_law_right") K) (spD ⟨K, Γ K⟩ (F_law_right U)) := by
  obtain ⟨fd, D⟩ := h.d_law_right
  exact (b_law_right h D).v D (fun _ _ _ _ _ _ us hl => match us, hl with | [_], _ => rfl)
theorem k_law_right (h : Hd mg K) : Kn P w K mg base (Γ K) 4 "_law_right" [] (F_law_right U) := by
  obtain ⟨fd, D⟩ := h.d_law_right
  exact ⟨_, h.g_law_right, D.kp, Cal.fn0 (v_law_right h)⟩
theorem sc_law : FnScope ["_law_script", "_law_seen", "_law_bare", "_law_e", "_law_spot"] ["_law_script"] (defScope (top 48)) := ⟨rfl, rfl, rfl, by decide +kernel, rfl, by decide +kernel, by decide +kernel⟩
theorem b_law (h : Hd mg K) {fd : FuncData} (D : FunD K "law" "law" (defArgs (top 48)) (defBody (top 48)) (defScope (top 48)) [] [] ((fun K => He.ga K "law") K) fd) : FnB P w K mg base 5 ((fun K => He.ga K "law") K) fd ["_law_script"] (spD ⟨K, Γ K⟩ (F_law U)) :=
  def_ok D sc_law _ fun cdv A outer s H E G =>
    (pssd_cons (psd_set sc_law.nd (pd_lst (pad_cons (pd_gint h.c_MOST_BLOCKS) (pad_cons (pd_gint h.c_MOST_WORD) (pad_cons (pd_gint h.c_MOST_TIMES) (pad_cons (pd_gint h.c_MOST_MORE) (pad_cons (pd_gint h.c_MOST_WRITTEN) (pad_cons (pd_gint h.c_MOST_WOUND) (pad_cons (pd_gint h.c_MOST_CHANGES) (pad_cons (pd_gint h.c_GREATEST) pad_nil)))))))))) (pssd_cons (psd_if (pt_cmp (opd_ne G.rm.units) (pdb (pd_call1 (cd_reprT G.gd G.rm.units) h.b_repr (pdb (pd_var 1)))) (pdb (pd_call1 (cd_reprT G.gd G.rm.units) h.b_repr (pdb (pd_lst (pad_cons pd_int (pad_cons pd_int (pad_cons pd_int (pad_cons pd_int (pad_cons pd_int (pad_cons pd_int (pad_cons pd_int (pad_cons (pd_op opd_pow (pdb pd_int) (pdb pd_int)) pad_nil))))))))))))) (pssd_one (psd_ret pd_bl)) pssd_nil) (pssd_cons (psd_set sc_law.nd (pd_lst (pad_cons (pd_mkx0 (rz_NothingToUndo h)) (pad_cons (pd_mkx0 (rz_WrongValue h)) (pad_cons (pd_mkx0 (rz_WrongName h)) (pad_cons (pd_mkx0 (rz_NoAnswer h)) pad_nil)))))) (pssd_cons (psd_if (pt_cmp (opd_ne G.rm.units) (pdb (pdf (pf_comp (own := [("_law_e", 3)]) (tup := false) (is := [3]) G.calm sc_law.nd (pid_seq (pd_var 2)) ⟨rfl, of_decide_eq_true (by kernel_rfl), of_decide_eq_true (by kernel_rfl), of_decide_eq_true (by kernel_rfl), of_decide_eq_true (by kernel_rfl)⟩ (fun _ _ _ _ _ => (pgc_name sc_law.nd)) (fun _ _ _ _ _ => ptsd_nil) (fun _ _ _ _ _ => (pd_call (G.blk _ _ _ _ _) (k_law_classes h) (pad_cons (pd_var 3) pad_nil)))))) (pdb (pd_lst (pad_cons (pd_lst (pad_cons pd_int (pad_cons pd_int (pad_cons pd_int pad_nil)))) (pad_cons (pd_lst (pad_cons pd_int (pad_cons pd_int pad_nil))) (pad_cons (pd_lst (pad_cons pd_int (pad_cons pd_int pad_nil))) (pad_cons (pd_lst (pad_cons pd_int (pad_cons pd_int pad_nil))) pad_nil))))))) (pssd_one (psd_ret pd_bl)) pssd_nil) (pssd_one (psd_ret (pd_call1 (cd_all G.calm) h.b_all (pdb (pdf (pf_comp (own := [("_law_spot", 4)]) (tup := false) (is := [4]) G.calm sc_law.nd (pid_range1 h.b_range (pd_call2 (cd_max G.calm) h.b_max (pdb pd_int) (pdb (pd_call2 (cd_min G.calm) h.b_min (pdb (pd_call1 cd_len h.b_len (pdb (pd_var 0)))) (pdb pd_int))))) ⟨rfl, of_decide_eq_true (by kernel_rfl), of_decide_eq_true (by kernel_rfl), of_decide_eq_true (by kernel_rfl), of_decide_eq_true (by kernel_rfl)⟩ (fun _ _ _ _ _ => (pgc_name sc_law.nd)) (fun _ _ _ _ _ => ptsd_nil) (fun _ _ _ _ _ => (pd_call (G.blk _ _ _ _ _) (k_law_right h) (pad_cons (pd_call (G.blk _ _ _ _ _) (k_law_cup h) (pad_cons (pd_var 0) (pad_cons (pd_var 4) pad_nil))) pad_nil)))))))))))))
end
def fn : List He5.DefA := [
  ⟨fun K => He.ga K "_law_cup", "_law_cup", "_law_cup", defArgs (top 40), defBody (top 40), defScope (top 40), [], []⟩,
  ⟨fun K => He.ga K "_law_classes", "_law_classes", "_law_classes", defArgs (top 43), defBody (top 43), defScope (top 43), [], []⟩,
  ⟨fun K => He.ga K "_law_sip", "_law_sip", "_law_sip", defArgs (top 41), defBody (top 41), defScope (top 41), [], []⟩,
  ⟨fun K => He.ga K "_law_pick", "_law_pick", "_law_pick", defArgs (top 42), defBody (top 42), defScope (top 42), [], []⟩,
  ⟨fun K => He.ga K "_law_given", "_law_given", "_law_given", defArgs (top 44), defBody (top 44), defScope (top 44), [], []⟩,
  ⟨fun K => He.ga K "_law_indexed", "_law_indexed", "_law_indexed", defArgs (top 45), defBody (top 45), defScope (top 45), [], []⟩,
  ⟨fun K => He.ga K "_law_others", "_law_others", "_law_others", defArgs (top 46), defBody (top 46), defScope (top 46), [], []⟩,
  ⟨fun K => He.ga K "_law_right", "_law_right", "_law_right", defArgs (top 47), defBody (top 47), defScope (top 47), [], []⟩,
  ⟨fun K => He.ga K "law", "law", "law", defArgs (top 48), defBody (top 48), defScope (top 48), [], []⟩,
  ⟨fun K => He.ma K (He.ga K "InvalidText") "__init__", "__init__", "InvalidText.__init__", defArgs (inClass (top 3) 0), defBody (inClass (top 3) 0), defScope (inClass (top 3) 0), [], []⟩,
  ⟨fun K => He.ma K (He.ga K "NotAWinding") "__init__", "__init__", "NotAWinding.__init__", defArgs (inClass (top 2) 0), defBody (inClass (top 2) 0), defScope (inClass (top 2) 0), [], []⟩,
  ⟨fun K => He.ma K (He.ga K "InvalidPegs") "__init__", "__init__", "InvalidPegs.__init__", defArgs (inClass (top 5) 0), defBody (inClass (top 5) 0), defScope (inClass (top 5) 0), [], []⟩,
  ⟨fun K => He.ma K (He.ga K "InvalidRounds") "__init__", "__init__", "InvalidRounds.__init__", defArgs (inClass (top 4) 0), defBody (inClass (top 4) 0), defScope (inClass (top 4) 0), [], []⟩,
  ⟨fun K => He.ma K (He.ga K "InvalidPlace") "__init__", "__init__", "InvalidPlace.__init__", defArgs (inClass (top 7) 0), defBody (inClass (top 7) 0), defScope (inClass (top 7) 0), [], []⟩,
  ⟨fun K => He.ma K (He.ga K "InvalidPeg") "__init__", "__init__", "InvalidPeg.__init__", defArgs (inClass (top 6) 0), defBody (inClass (top 6) 0), defScope (inClass (top 6) 0), [], []⟩,
  ⟨fun K => He.ma K (He.ga K "InvalidWord") "__init__", "__init__", "InvalidWord.__init__", defArgs (inClass (top 9) 0), defBody (inClass (top 9) 0), defScope (inClass (top 9) 0), [], []⟩,
  ⟨fun K => He.ma K (He.ga K "InvalidFactor") "__init__", "__init__", "InvalidFactor.__init__", defArgs (inClass (top 8) 0), defBody (inClass (top 8) 0), defScope (inClass (top 8) 0), [], []⟩,
  ⟨fun K => He.ma K (He.ga K "InvalidWish") "__init__", "__init__", "InvalidWish.__init__", defArgs (inClass (top 11) 0), defBody (inClass (top 11) 0), defScope (inClass (top 11) 0), [], []⟩,
  ⟨fun K => He.ma K (He.ga K "InvalidTimes") "__init__", "__init__", "InvalidTimes.__init__", defArgs (inClass (top 10) 0), defBody (inClass (top 10) 0), defScope (inClass (top 10) 0), [], []⟩,
  ⟨fun K => He.ma K (He.ga K "InvalidClaim") "__init__", "__init__", "InvalidClaim.__init__", defArgs (inClass (top 13) 0), defBody (inClass (top 13) 0), defScope (inClass (top 13) 0), [], []⟩,
  ⟨fun K => He.ma K (He.ga K "InvalidName") "__init__", "__init__", "InvalidName.__init__", defArgs (inClass (top 12) 0), defBody (inClass (top 12) 0), defScope (inClass (top 12) 0), [], []⟩,
  ⟨fun K => He.ma K (He.ga K "InvalidLine") "__init__", "__init__", "InvalidLine.__init__", defArgs (inClass (top 15) 0), defBody (inClass (top 15) 0), defScope (inClass (top 15) 0), [], []⟩,
  ⟨fun K => He.ma K (He.ga K "InvalidIndex") "__init__", "__init__", "InvalidIndex.__init__", defArgs (inClass (top 14) 0), defBody (inClass (top 14) 0), defScope (inClass (top 14) 0), [], []⟩,
  ⟨fun K => He.ma K (He.ga K "InvalidLots") "__init__", "__init__", "InvalidLots.__init__", defArgs (inClass (top 17) 0), defBody (inClass (top 17) 0), defScope (inClass (top 17) 0), [], []⟩,
  ⟨fun K => He.ma K (He.ga K "InvalidBlocks") "__init__", "__init__", "InvalidBlocks.__init__", defArgs (inClass (top 16) 0), defBody (inClass (top 16) 0), defScope (inClass (top 16) 0), [], []⟩,
  ⟨fun K => He.ma K (He.ga K "InvalidWishes") "__init__", "__init__", "InvalidWishes.__init__", defArgs (inClass (top 18) 0), defBody (inClass (top 18) 0), defScope (inClass (top 18) 0), [], []⟩,
  ⟨fun K => He.ma K (He.ga K "InvalidChanges") "__init__", "__init__", "InvalidChanges.__init__", defArgs (inClass (top 19) 0), defBody (inClass (top 19) 0), defScope (inClass (top 19) 0), [], []⟩,
  ⟨fun K => He.ma K (He.ga K "InvalidDeeds") "__init__", "__init__", "InvalidDeeds.__init__", defArgs (inClass (top 20) 0), defBody (inClass (top 20) 0), defScope (inClass (top 20) 0), [], []⟩,
  ⟨fun K => He.ma K (He.ga K "UnknownName") "__init__", "__init__", "UnknownName.__init__", defArgs (inClass (top 22) 0), defBody (inClass (top 22) 0), defScope (inClass (top 22) 0), [], []⟩,
  ⟨fun K => He.ma K (He.ga K "InUse") "__init__", "__init__", "InUse.__init__", defArgs (inClass (top 23) 0), defBody (inClass (top 23) 0), defScope (inClass (top 23) 0), [], []⟩,
  ⟨fun K => He.ma K (He.ga K "TooMany") "__init__", "__init__", "TooMany.__init__", defArgs (inClass (top 25) 0), defBody (inClass (top 25) 0), defScope (inClass (top 25) 0), [], []⟩,
  ⟨fun K => He.ma K (He.ga K "TooGreat") "__init__", "__init__", "TooGreat.__init__", defArgs (inClass (top 26) 0), defBody (inClass (top 26) 0), defScope (inClass (top 26) 0), [], []⟩,
  ⟨fun K => He.ma K (He.ga K "PegOut") "__init__", "__init__", "PegOut.__init__", defArgs (inClass (top 27) 0), defBody (inClass (top 27) 0), defScope (inClass (top 27) 0), [], []⟩,
  ⟨fun K => He.ma K (He.ga K "PegIn") "__init__", "__init__", "PegIn.__init__", defArgs (inClass (top 28) 0), defBody (inClass (top 28) 0), defScope (inClass (top 28) 0), [], []⟩,
  ⟨fun K => He.ma K (He.ga K "Broken") "__init__", "__init__", "Broken.__init__", defArgs (inClass (top 29) 0), defBody (inClass (top 29) 0), defScope (inClass (top 29) 0), [], []⟩]
def fa0 : List He.Fa := [.free "ArithmeticError", .free "LookupError", .free "ValueError", .free "abs", .free "all", .free "divmod", .free "enumerate", .free "int", .free "isinstance", .free "len", .free "max", .free "min", .free "range", .free "repr", .int "MOST_BLOCKS" 12, .int "MOST_WORD" 12, .int "MOST_TIMES" 9, .int "MOST_MORE" 99, .int "MOST_WRITTEN" 2000, .int "MOST_WOUND" 100, .int "MOST_CHANGES" 6, .int "GREATEST" 1000000000000000000000000000000, .glo "WrongValue", .glo "NotAWinding", .glo "InvalidText"]
def fa1 : List He.Fa := [.glo "InvalidRounds", .glo "InvalidPegs", .glo "InvalidPeg", .glo "InvalidPlace", .glo "InvalidFactor", .glo "InvalidWord", .glo "InvalidTimes", .glo "InvalidWish", .glo "InvalidName", .glo "InvalidClaim", .glo "InvalidIndex", .glo "InvalidLine", .glo "InvalidBlocks", .glo "InvalidLots", .glo "InvalidWishes", .glo "InvalidChanges", .glo "InvalidDeeds", .glo "WrongName", .glo "UnknownName", .glo "InUse", .glo "NoAnswer", .glo "TooMany", .glo "TooGreat", .glo "PegOut", .glo "PegIn"]
def fa2 : List He.Fa := [.glo "Broken", .glo "NothingToUndo", .glo "_law_cup", .glo "_law_classes", .glo "_law_sip", .glo "_law_pick", .glo "_law_given", .glo "_law_indexed", .glo "_law_others", .glo "_law_right", .glo "law"]
def fa : List He.Fa := fa0 ++ (fa1 ++ (fa2))
def ex0 : List Fx := [.exc "InvalidText" "given" 0 rx_InvalidText, .exc "NotAWinding" "given" 0 rx_NotAWinding, .exc "InvalidPegs" "given" 0 rx_InvalidPegs, .exc "InvalidRounds" "given" 0 rx_InvalidRounds, .exc "InvalidPlace" "given" 0 rx_InvalidPlace, .exc "InvalidPeg" "given" 0 rx_InvalidPeg, .exc "InvalidWord" "given" 0 rx_InvalidWord, .exc "InvalidFactor" "given" 0 rx_InvalidFactor, .exc "InvalidWish" "given" 0 rx_InvalidWish, .exc "InvalidTimes" "given" 0 rx_InvalidTimes, .exc "InvalidClaim" "given" 0 rx_InvalidClaim, .exc "InvalidName" "given" 0 rx_InvalidName, .exc "InvalidLine" "given" 0 rx_InvalidLine, .exc "InvalidIndex" "given" 0 rx_InvalidIndex, .exc "InvalidLots" "index" 0 rx_InvalidLots, .exc "InvalidBlocks" "index" 0 rx_InvalidBlocks, .exc "InvalidWishes" "index" 0 rx_InvalidWishes, .exc "InvalidChanges" "index" 0 rx_InvalidChanges, .exc "InvalidDeeds" "index" 0 rx_InvalidDeeds, .exc "UnknownName" "given" 1 rx_UnknownName, .exc "InUse" "index" 1 rx_InUse, .exc "TooMany" "number" 2 rx_TooMany, .exc "TooGreat" "index" 2 rx_TooGreat, .exc "PegOut" "given" 2 rx_PegOut, .exc "PegIn" "given" 2 rx_PegIn]
def ex1 : List Fx := [.exc "Broken" "index" 2 rx_Broken, .exc0 "NoAnswer" 2 rx_NoAnswer, .exc0 "WrongName" 1 rx_WrongName, .exc0 "WrongValue" 0 rx_WrongValue, .exc0 "NothingToUndo" 2 rx_NothingToUndo]
def ex : List Fx := ex0 ++ (ex1)
def loose0 : List Str := ["WrongValue", "NotAWinding", "InvalidText", "InvalidRounds", "InvalidPegs", "InvalidPeg", "InvalidPlace", "InvalidFactor", "InvalidWord", "InvalidTimes", "InvalidWish", "InvalidName", "InvalidClaim", "InvalidIndex", "InvalidLine", "InvalidBlocks", "InvalidLots", "InvalidWishes", "InvalidChanges", "InvalidDeeds", "WrongName", "UnknownName", "InUse", "NoAnswer", "TooMany"]
def loose1 : List Str := ["TooGreat", "PegOut", "PegIn", "Broken", "NothingToUndo", "MOST_BLOCKS", "MOST_WORD", "MOST_TIMES", "MOST_MORE", "MOST_WRITTEN", "MOST_WOUND", "MOST_CHANGES", "GREATEST", "_law_cup", "_law_sip", "_law_pick", "_law_classes", "_law_given", "_law_indexed", "_law_others", "_law_right"]
def loose : List Str := loose0 ++ (loose1)
abbrev R : PySem.W.OpenRow := PySem.W.OpenLaw.row PySem.Challenge.rw_knotspools_k01_constants_and_errors
abbrev hk : PySem.W.Hook := hookM 6 fa fn ex
def ob (s : PySem.W.SharedT) : He.AlD := obsMG 6 fa fn ex (HandSHeadRun.getT s)
theorem ob_eq (s : PySem.W.SharedT) : ob s = hk.obs s.abs := obsMG_eq (HandSHeadRun.getT_eq s)
set_option maxHeartbeats 0 in
theorem run (w : World) : HandSHeadRun.RunEq R (PySem.W.view R.prog [48]) hk ob 20000 loose w := by
  intro os
  kernel_rfl
theorem hd_of {w : World} {mg : Str → Option Value} {K : PySem.W.Frag} {h : Heap} (Y : K.In h) (N : h.Ns mainGlobals mg) (c : SaysM fa fn ex K) : Hd mg K where
  b_ArithmeticError := He.free_ok Y N (c.fact 0 (f := .free "ArithmeticError"))
  b_LookupError := He.free_ok Y N (c.fact 1 (f := .free "LookupError"))
  b_ValueError := He.free_ok Y N (c.fact 2 (f := .free "ValueError"))
  b_abs := He.free_ok Y N (c.fact 3 (f := .free "abs"))
  b_all := He.free_ok Y N (c.fact 4 (f := .free "all"))
  b_divmod := He.free_ok Y N (c.fact 5 (f := .free "divmod"))
  b_enumerate := He.free_ok Y N (c.fact 6 (f := .free "enumerate"))
  b_int := He.free_ok Y N (c.fact 7 (f := .free "int"))
  b_isinstance := He.free_ok Y N (c.fact 8 (f := .free "isinstance"))
  b_len := He.free_ok Y N (c.fact 9 (f := .free "len"))
  b_max := He.free_ok Y N (c.fact 10 (f := .free "max"))
  b_min := He.free_ok Y N (c.fact 11 (f := .free "min"))
  b_range := He.free_ok Y N (c.fact 12 (f := .free "range"))
  b_repr := He.free_ok Y N (c.fact 13 (f := .free "repr"))
  c_MOST_BLOCKS := He.int_ok Y N (c.fact 14 (f := .int "MOST_BLOCKS" 12))
  c_MOST_WORD := He.int_ok Y N (c.fact 15 (f := .int "MOST_WORD" 12))
  c_MOST_TIMES := He.int_ok Y N (c.fact 16 (f := .int "MOST_TIMES" 9))
  c_MOST_MORE := He.int_ok Y N (c.fact 17 (f := .int "MOST_MORE" 99))
  c_MOST_WRITTEN := He.int_ok Y N (c.fact 18 (f := .int "MOST_WRITTEN" 2000))
  c_MOST_WOUND := He.int_ok Y N (c.fact 19 (f := .int "MOST_WOUND" 100))
  c_MOST_CHANGES := He.int_ok Y N (c.fact 20 (f := .int "MOST_CHANGES" 6))
  c_GREATEST := He.int_ok Y N (c.fact 21 (f := .int "GREATEST" 1000000000000000000000000000000))
  g_WrongValue := He.glo_ok Y N (c.fact 22 (f := .glo "WrongValue"))
  g_NotAWinding := He.glo_ok Y N (c.fact 23 (f := .glo "NotAWinding"))
  g_InvalidText := He.glo_ok Y N (c.fact 24 (f := .glo "InvalidText"))
  g_InvalidRounds := He.glo_ok Y N (c.fact 25 (f := .glo "InvalidRounds"))
  g_InvalidPegs := He.glo_ok Y N (c.fact 26 (f := .glo "InvalidPegs"))
  g_InvalidPeg := He.glo_ok Y N (c.fact 27 (f := .glo "InvalidPeg"))
  g_InvalidPlace := He.glo_ok Y N (c.fact 28 (f := .glo "InvalidPlace"))
  g_InvalidFactor := He.glo_ok Y N (c.fact 29 (f := .glo "InvalidFactor"))
  g_InvalidWord := He.glo_ok Y N (c.fact 30 (f := .glo "InvalidWord"))
  g_InvalidTimes := He.glo_ok Y N (c.fact 31 (f := .glo "InvalidTimes"))
  g_InvalidWish := He.glo_ok Y N (c.fact 32 (f := .glo "InvalidWish"))
  g_InvalidName := He.glo_ok Y N (c.fact 33 (f := .glo "InvalidName"))
  g_InvalidClaim := He.glo_ok Y N (c.fact 34 (f := .glo "InvalidClaim"))
  g_InvalidIndex := He.glo_ok Y N (c.fact 35 (f := .glo "InvalidIndex"))
  g_InvalidLine := He.glo_ok Y N (c.fact 36 (f := .glo "InvalidLine"))
  g_InvalidBlocks := He.glo_ok Y N (c.fact 37 (f := .glo "InvalidBlocks"))
  g_InvalidLots := He.glo_ok Y N (c.fact 38 (f := .glo "InvalidLots"))
  g_InvalidWishes := He.glo_ok Y N (c.fact 39 (f := .glo "InvalidWishes"))
  g_InvalidChanges := He.glo_ok Y N (c.fact 40 (f := .glo "InvalidChanges"))
  g_InvalidDeeds := He.glo_ok Y N (c.fact 41 (f := .glo "InvalidDeeds"))
  g_WrongName := He.glo_ok Y N (c.fact 42 (f := .glo "WrongName"))
  g_UnknownName := He.glo_ok Y N (c.fact 43 (f := .glo "UnknownName"))
  g_InUse := He.glo_ok Y N (c.fact 44 (f := .glo "InUse"))
  g_NoAnswer := He.glo_ok Y N (c.fact 45 (f := .glo "NoAnswer"))
  g_TooMany := He.glo_ok Y N (c.fact 46 (f := .glo "TooMany"))
  g_TooGreat := He.glo_ok Y N (c.fact 47 (f := .glo "TooGreat"))
  g_PegOut := He.glo_ok Y N (c.fact 48 (f := .glo "PegOut"))
  g_PegIn := He.glo_ok Y N (c.fact 49 (f := .glo "PegIn"))
  g_Broken := He.glo_ok Y N (c.fact 50 (f := .glo "Broken"))
  g_NothingToUndo := He.glo_ok Y N (c.fact 51 (f := .glo "NothingToUndo"))
  x_InvalidText := excB_ok (c.more 0 (f := .exc "InvalidText" "given" 0 rx_InvalidText))
  x_NotAWinding := excB_ok (c.more 1 (f := .exc "NotAWinding" "given" 0 rx_NotAWinding))
  x_InvalidPegs := excB_ok (c.more 2 (f := .exc "InvalidPegs" "given" 0 rx_InvalidPegs))
  x_InvalidRounds := excB_ok (c.more 3 (f := .exc "InvalidRounds" "given" 0 rx_InvalidRounds))
  x_InvalidPlace := excB_ok (c.more 4 (f := .exc "InvalidPlace" "given" 0 rx_InvalidPlace))
  x_InvalidPeg := excB_ok (c.more 5 (f := .exc "InvalidPeg" "given" 0 rx_InvalidPeg))
  x_InvalidWord := excB_ok (c.more 6 (f := .exc "InvalidWord" "given" 0 rx_InvalidWord))
  x_InvalidFactor := excB_ok (c.more 7 (f := .exc "InvalidFactor" "given" 0 rx_InvalidFactor))
  x_InvalidWish := excB_ok (c.more 8 (f := .exc "InvalidWish" "given" 0 rx_InvalidWish))
  x_InvalidTimes := excB_ok (c.more 9 (f := .exc "InvalidTimes" "given" 0 rx_InvalidTimes))
  x_InvalidClaim := excB_ok (c.more 10 (f := .exc "InvalidClaim" "given" 0 rx_InvalidClaim))
  x_InvalidName := excB_ok (c.more 11 (f := .exc "InvalidName" "given" 0 rx_InvalidName))
  x_InvalidLine := excB_ok (c.more 12 (f := .exc "InvalidLine" "given" 0 rx_InvalidLine))
  x_InvalidIndex := excB_ok (c.more 13 (f := .exc "InvalidIndex" "given" 0 rx_InvalidIndex))
  x_InvalidLots := excB_ok (c.more 14 (f := .exc "InvalidLots" "index" 0 rx_InvalidLots))
  x_InvalidBlocks := excB_ok (c.more 15 (f := .exc "InvalidBlocks" "index" 0 rx_InvalidBlocks))
  x_InvalidWishes := excB_ok (c.more 16 (f := .exc "InvalidWishes" "index" 0 rx_InvalidWishes))
  x_InvalidChanges := excB_ok (c.more 17 (f := .exc "InvalidChanges" "index" 0 rx_InvalidChanges))
  x_InvalidDeeds := excB_ok (c.more 18 (f := .exc "InvalidDeeds" "index" 0 rx_InvalidDeeds))
  x_UnknownName := excB_ok (c.more 19 (f := .exc "UnknownName" "given" 1 rx_UnknownName))
  x_InUse := excB_ok (c.more 20 (f := .exc "InUse" "index" 1 rx_InUse))
  x_TooMany := excB_ok (c.more 21 (f := .exc "TooMany" "number" 2 rx_TooMany))
  x_TooGreat := excB_ok (c.more 22 (f := .exc "TooGreat" "index" 2 rx_TooGreat))
  x_PegOut := excB_ok (c.more 23 (f := .exc "PegOut" "given" 2 rx_PegOut))
  x_PegIn := excB_ok (c.more 24 (f := .exc "PegIn" "given" 2 rx_PegIn))
  x_Broken := excB_ok (c.more 25 (f := .exc "Broken" "index" 2 rx_Broken))
  x_NoAnswer := exc0_ok (c.more 26 (f := .exc0 "NoAnswer" 2 rx_NoAnswer))
  x_WrongName := exc0_ok (c.more 27 (f := .exc0 "WrongName" 1 rx_WrongName))
  x_WrongValue := exc0_ok (c.more 28 (f := .exc0 "WrongValue" 0 rx_WrongValue))
  x_NothingToUndo := exc0_ok (c.more 29 (f := .exc0 "NothingToUndo" 2 rx_NothingToUndo))
  g_law_cup := He.glo_ok Y N (c.fact 52 (f := .glo "_law_cup"))
  g_law_classes := He.glo_ok Y N (c.fact 53 (f := .glo "_law_classes"))
  g_law_sip := He.glo_ok Y N (c.fact 54 (f := .glo "_law_sip"))
  g_law_pick := He.glo_ok Y N (c.fact 55 (f := .glo "_law_pick"))
  g_law_given := He.glo_ok Y N (c.fact 56 (f := .glo "_law_given"))
  g_law_indexed := He.glo_ok Y N (c.fact 57 (f := .glo "_law_indexed"))
  g_law_others := He.glo_ok Y N (c.fact 58 (f := .glo "_law_others"))
  g_law_right := He.glo_ok Y N (c.fact 59 (f := .glo "_law_right"))
  g_law := He.glo_ok Y N (c.fact 60 (f := .glo "law"))
  d_law_cup := c.def_ 0
  d_law_classes := c.def_ 1
  d_law_sip := c.def_ 2
  d_law_pick := c.def_ 3
  d_law_given := c.def_ 4
  d_law_indexed := c.def_ 5
  d_law_others := c.def_ 6
  d_law_right := c.def_ 7
  d_law := c.def_ 8
  d_InvalidText_init := c.def_ 9
  d_NotAWinding_init := c.def_ 10
  d_InvalidPegs_init := c.def_ 11
  d_InvalidRounds_init := c.def_ 12
  d_InvalidPlace_init := c.def_ 13
  d_InvalidPeg_init := c.def_ 14
  d_InvalidWord_init := c.def_ 15
  d_InvalidFactor_init := c.def_ 16
  d_InvalidWish_init := c.def_ 17
  d_InvalidTimes_init := c.def_ 18
  d_InvalidClaim_init := c.def_ 19
  d_InvalidName_init := c.def_ 20
  d_InvalidLine_init := c.def_ 21
  d_InvalidIndex_init := c.def_ 22
  d_InvalidLots_init := c.def_ 23
  d_InvalidBlocks_init := c.def_ 24
  d_InvalidWishes_init := c.def_ 25
  d_InvalidChanges_init := c.def_ 26
  d_InvalidDeeds_init := c.def_ 27
  d_UnknownName_init := c.def_ 28
  d_InUse_init := c.def_ 29
  d_TooMany_init := c.def_ 30
  d_TooGreat_init := c.def_ 31
  d_PegOut_init := c.def_ 32
  d_PegIn_init := c.def_ 33
  d_Broken_init := c.def_ 34
end K01
open PySem PySem.W PySem.Calls PyProof.Rows
theorem PySem.Challenge.cw_knotspools_k01_constants_and_errors_holds : PySem.Challenge.rw_knotspools_k01_constants_and_errors.Holds := by
  w_on; o_law
  refine HandSHeadRun.head_any (r := OpenLaw.row PySem.Challenge.rw_knotspools_k01_constants_and_errors) (q := view (OpenLaw.row PySem.Challenge.rw_knotspools_k01_constants_and_errors).prog [48]) (H := K01.hk) (ob := K01.ob) (M := 20000) (loose := K01.loose) (d := HandSHeadRun.topDef (OpenLaw.row PySem.Challenge.rw_knotspools_k01_constants_and_errors).prog 48) (kwd := []) K01.ob_eq
    (by kernel_rfl) (fun s => by kernel_rfl) K01.run (by kernel_rfl) (by kernel_rfl) (by kernel_rfl) (by rfl) (by first | assumption | decide +kernel) (by decide +kernel) ⟨rfl, rfl, rfl, rfl, rfl, by decide +kernel⟩ ?hw ?hc
  case hw => w_witness2
  case hc =>
    refine AM.law_end (l := PySem.Challenge.rw_knotspools_k01_constants_and_errors) (n := 63) (k := 5) (x := "_law_script") rfl (by decide) (by kernel_rfl) ⟨rfl, by decide, by decide⟩ ?F
    intro w mg fa h Y N hmg0
    obtain ⟨K, KX, c⟩ := Y
    have hmg : mg ("law" : PySem.Str) = some (.ref fa) := by
      have e : (HandSHeadRun.topDef (OpenLaw.row PySem.Challenge.rw_knotspools_k01_constants_and_errors).prog 48).name = ("law" : PySem.Str) := by kernel_rfl
      rw [← e]
      exact hmg0
    have H := K01.hd_of (w := w) KX N c
    obtain ⟨fd, D⟩ := H.d_law
    have e := hmg.symm.trans H.g_law
    cases e
    exact ⟨K, K01.Γ K, fd, (K01.F_law K01.U), KX, fun s v => (L2.FunD.bindsA (ps := ["_law_script"]) D fun _ _ _ _ _ _ us hl => match us, hl with | [_], _ => rfl) s [v] rfl, K01.law_true, fun base _ _ => K01.b_law H D⟩
