import PyProof.Rows.All
import Wide.All
import OpenK.AllK
import Wide.FinOn
import HandS.Head0
import HandS.Head1
import HandS.Head2
import HandS.HeadNt
import HandS.HeadHook3
import KE.KExcInit
import KE.KTryMore
import HandS.HeadHook4
import KE.KStateDown
import HandS.ForMost
import HandS.Defaults
import HandS.Exc
import HandS.IsInst
import HandS.Walk
import HandS.Flow
import HandS.Lambda
import HandS.TupAny
import HandS.TupMul
import HandS.Codes
import HandS.Deep
import HandS.Text
import HandS.FStr
import HandS.WideBits
import HandS.Star
import HandS.ExcOwn
import HandS.Property
import HandS.ExcCtx
import HandS.ClsMeth
import KE.KFmtOwn
import KE.RegKCallOwn
import HandS.Iter
import KE.GoesEnum
import HandS.Dict
import PyProof.ReprRoads
import HandS.HeadEnd
import HandS.Ends
import HandS.Wide
import KE.SortKeyHeap
import HandS.SortKw
import HandS.Style
import HandS.Conv
import PyProof.LongRange
import HandS.Replace
import HandS.ExcInit
import HandS.HotCalls
import KE.KExcIs
import PyProof.ExcBaseAll.ValueError
import PyProof.ExcBaseAll.LookupError
import PyProof.ExcBaseAll.ArithmeticError
import HandS.DictComp
import HandS.More
import KE.GoesZip
import HandS.Zip
import KE.KDictPairs
import PyProof.EqKinds
import PyProof.FactsAll.dict_1
import PySem.Challenge.RW_knotspools_k04_texts_refused
set_option Elab.async false
set_option linter.all false
set_option maxRecDepth 100000
set_option maxHeartbeats 4000000
namespace AM
open PySem PySem.Spec PyProof.Rows L2 He
def strsAre : List Value → List Str → Bool
  | .str y _ :: vs, z :: zs => decide (y = z) && strsAre vs zs
  | [], [] => true
  | _, _ => false
inductive Ty1 where
  | ty (n : String) | own (x : Str)
def Ty1.v (K : PySem.W.Frag) : Ty1 → Value
  | .ty n => .type n
  | .own x => .ref (ga K x)
inductive Fx where
  | clsI (x : Str)
  | built (x m : Str) (id : String)
  | mro (x : Str)
  | first (x : Str)
  | kit (t u : Ty1) (b : Bool)
  | prop (x f : Str)
  | stat (x m : Str)
  | sub (t u : Ty1) (b : Bool)
  | tupS (x : Str) (zs : List Str)
  | exc (x f : Str) (B : Nat) (row : List (Ty1 × Bool))
def pfA (K : PySem.W.Frag) (C : Addr) (f : Str) : Addr := match PySem.W.recIn K (ma K C f) "property" with
  | some (.ref g :: _) => g
  | _ => 0
def sfA (K : PySem.W.Frag) (C : Addr) (m : Str) : Addr := He5.wf K C "staticmethod" m
def excBm : Nat → List Value
  | 0 => [.type "ValueError", .type "Exception", .type "BaseException", .type "object"]
  | 1 => [.type "LookupError", .type "Exception", .type "BaseException", .type "object"]
  | _ => [.type "ArithmeticError", .type "Exception", .type "BaseException", .type "object"]
def excNew : Nat → String
  | 0 => "ValueError.__new__"
  | 1 => "LookupError.__new__"
  | _ => "ArithmeticError.__new__"
def rzB (K : PySem.W.Frag) (C fI : Addr) (f : Str) (B : Nat) : Bool := PySem.W.excInitIn K C (excBm B) (excNew B) && (PySem.W.excOver K C (excBm B) && (decide (PySem.W.takerIn K C f = some none) && (PySem.W.hasDictIn K C && (eqO (PySem.W.findIn K (.ref C) "__setattr__") (some (some (.builtin "object.__setattr__"))) &&
  (decide (PySem.W.subIn K (.ref C) (.type "BaseException") = some true) && (decide (PySem.W.typeIn K (.ref C) = some (.type "type")) && (PySem.W.keepIn K (.ref C) && (eqO (PySem.W.findIn K (.ref C) "__init__") (some (some (.ref fI))) && decide (PySem.W.typeIn K (.ref fI) = some (.type "function"))))))))))
def xvB (K : PySem.W.Frag) (C : Addr) : Bool := eqO (PySem.W.findIn K (.ref C) "__getattribute__") (some (some (.builtin "BaseException.__getattribute__"))) && (eqO (PySem.W.findIn K (.ref C) "__getattr__") (some none) && ((PySem.W.clsIn K C).isSome && (eqO (PySem.W.findIn K (.ref C) "__class__") (some (some (.builtin "object.__class__"))) &&
  (eqO (PySem.W.specialIn K (.builtin "object.__class__") "__get__") (some (some (.builtin "getset_descriptor.__get__"))) && (decide (PySem.W.takesIn K (.builtin "object.__class__") = some true) && decide (PySem.W.mroIn K C (.type "object") = some true))))))
def excB (K : PySem.W.Frag) (C fI : Addr) (f : Str) (B : Nat) (row : List (Ty1 × Bool)) : Bool := rzB K C fI f B && (xvB K C && (([("given" : Str), "number", "index"].all fun n => eqO (PySem.W.findIn K (.ref C) n) (some none)) && ((row.all fun r => decide (PySem.W.kitOne K (.ref C) (r.1.v K) = some r.2)) &&
  decide (PySem.W.exmAny K (.ref C) [.ref (ga K "WrongValue"), .ref (ga K "WrongName"), .ref (ga K "NoAnswer")] = some true))))
def Fx.ok (K : PySem.W.Frag) : Fx → Bool
  | .clsI x => (Fa.cls x).ok K && (eqO (PySem.W.findIn K (.ref (ga K x)) "__class__") (some (some (.builtin "object.__class__"))) && (eqO (PySem.W.specialIn K (.builtin "object.__class__") "__get__") (some (some (.builtin "getset_descriptor.__get__"))) &&
      (decide (PySem.W.takesIn K (.builtin "object.__class__") = some true) && decide (PySem.W.mroIn K (ga K x) (.type "object") = some true))))
  | .built x m id => eqO (PySem.W.findIn K (.ref (ga K x)) m) (some (some (.builtin id)))
  | .mro x => decide (PySem.W.mroIn K (ga K x) (.type "object") = some true)
  | .first x => PySem.W.selfFirst K (ga K x)
  | .exc x f B row => excB K (ga K x) (ma K (ga K x) "__init__") f B row
  | .sub t u b => decide (PySem.W.subIn K (t.v K) (u.v K) = some b)
  | .tupS x zs => eqO (PySem.W.nsIn K mainGlobals x) (some (some (.ref (ga K x)))) && (match K.lookup (ga K x) with
    | some o => decide (o.cls = .type "tuple") && (match o.data with
      | .seq its _ => decide (its.size ≤ 100) && strsAre its.toList zs
      | _ => false)
    | none => false)
  | .kit t u b => decide (PySem.W.kitOne K (t.v K) (u.v K) = some b)
  | .prop x f => (Fa.cls x).ok K && (eqO (PySem.W.findIn K (.ref (ga K x)) f) (some (some (.ref (ma K (ga K x) f)))) && (eqO (PySem.W.specialIn K (.ref (ma K (ga K x) f)) "__get__") (some (some (.builtin "property.__get__"))) &&
      (decide (PySem.W.takesIn K (.ref (ma K (ga K x) f)) = some true) && (match PySem.W.recIn K (ma K (ga K x) f) "property" with
        | some (.ref _ :: _) => true
        | _ => false))))
  | .stat x m => eqO (PySem.W.specialIn K (.ref (ga K x)) "__getattribute__") (some (some (.builtin "type.__getattribute__"))) && (decide (PySem.W.typeIn K (.ref (ga K x)) = some (.type "type")) && (PySem.W.readsIn K (ga K x) (.type "type") && (He5.wrapB K (ga K x) "staticmethod" "staticmethod.__get__" m &&
      PySem.W.keepIn K (.ref (sfA K (ga K x) m)))))
def obsM (fa : List Fa) (fn : List He5.DefA) (ex : List Fx) (K : PySem.W.Frag) : He.AlD := ((fa.all fun f => f.ok K) && ((fn.all fun d => d.ok K) && ex.all fun f => f.ok K), fn.map fun d => He5.fnA K (d.at_ K))
def SaysM (fa : List Fa) (fn : List He5.DefA) (ex : List Fx) (K : PySem.W.Frag) : Prop := obsM fa fn ex K = He5.valA fn
def walkA {α : Type} : List Addr → Nat → List Addr → (Nat → List Addr → α) → α
  | [], seen, out, k => k seen out
  | a :: r, seen, out, k => match Nat.testBit seen a with
    | true => walkA r seen out k
    | false => walkA r (seen ||| (1 <<< a)) (a :: out) k
def asM (g : Addr → Option Obj) : Nat → Nat → List Addr → List Addr
  | 0, _, front => front
  | n + 1, seen, front => front ++ walkA (front.flatMap fun a => match g a with
    | some o => refsD o
    | none => []) seen [] fun seen' out => asM g n seen' out
def asN (g : Addr → Option Obj) (n : Nat) : List Addr := asM g n (1 <<< mainGlobals) [mainGlobals] ++ [cStatics]
inductive Tv where
  | int (i : Int)
  | pair (i : Int) (c : Nat)
def Tv.b (K : PySem.W.Frag) (Γ : Nat → Addr) : Tv → Value → Bool
  | .int i, .int j _ => decide (i = j)
  | .pair i c, .ref t => (match K.lookup t with
    | some o => decide (o.cls = .type "tuple") && (match o.data with
      | .seq its _ => (match its.toList with
        | [.int j _, .ref g] => decide (j = i) && decide (g = Γ c)
        | _ => false)
      | _ => false)
    | none => false)
  | _, _ => false
def tabB (K : PySem.W.Frag) (Γ : Nat → Addr) (x : Str) (r : List (Str × Tv)) : Bool := eqO (PySem.W.nsIn K mainGlobals x) (some (some (.ref (ga K x)))) && r.all fun q => match PySem.W.nsIn K (ga K x) q.1 with
  | some (some u) => q.2.b K Γ u
  | _ => false
abbrev TabM : Type := Str × List (Str × Tv)
abbrev AlM : Type := He.AlD × (Bool × List (Option (List (Option (Str × Int)))))
def obsX (fa : List Fa) (fn : List He5.DefA) (ex : List Fx) (Γ : PySem.W.Frag → Nat → Addr) (ts : List TabM) (K : PySem.W.Frag) : AlM := (obsM fa fn ex K, ts.all fun t => tabB K (Γ K) t.1 t.2, ts.map fun t => dicW K (ga K t.1))
def valX (fn : List He5.DefA) (ts : List TabM) (w : World) : AlM := (He5.valA fn, true, ts.map fun t => some (keysIn w.params (t.2.map (·.1))))
def SaysX (fa : List Fa) (fn : List He5.DefA) (ex : List Fx) (Γ : PySem.W.Frag → Nat → Addr) (ts : List TabM) (w : World) (K : PySem.W.Frag) : Prop := obsX fa fn ex Γ ts K = valX fn ts w
end AM
namespace KP
open PySem AM
end KP
namespace AM
open PySem PySem.Spec PyProof.Rows L2 He
def apartB : List Addr → Bool
  | [] => true
  | a :: r => !(r.any fun b => decide (b = a)) && apartB r
def tabsOf (tf : List Defn) (K : PySem.W.Frag) : List (Addr × Addr) := tf.map fun p => cT K p
abbrev AlY : Type := AlM × Bool
def obsY (n : Nat) (fa : List Fa) (fn : List He5.DefA) (ex : List Fx) (Γ : PySem.W.Frag → Nat → Addr) (ts : List TabM) (tf : List Defn) (g : Addr → Option Obj) : AlY :=
  (obsX fa fn ex Γ ts (frT g (asN g n)), tabsB g tf (frT g (asN g n)) && apartB ((tabsOf tf (frT g (asN g n))).map (·.2)))
def valY (fn : List He5.DefA) (ts : List TabM) (w : World) : AlY := (valX fn ts w, true)
structure TabsH (tf : List Defn) (h : Heap) (K : PySem.W.Frag) : Prop where
  hd : ∀ p ∈ tabsOf tf K, PySem.W.codeHdIn K p.1 p.2 = true
  out : ∀ p ∈ tabsOf tf K, K.lookup p.2 = none
  empty : ∀ p ∈ tabsOf tf K, h.get? p.2 = some { cls := .none, data := .fields #[] }
  nd : ((tabsOf tf K).map (·.2)).Nodup
structure SaysY (fa : List Fa) (fn : List He5.DefA) (ex : List Fx) (Γ : PySem.W.Frag → Nat → Addr) (ts : List TabM) (tf : List Defn) (w : World) (h : Heap) (K : PySem.W.Frag) : Prop where
  x : SaysX fa fn ex Γ ts w K
  t : TabsH tf h K
theorem apart_ok : ∀ {l : List Addr}, apartB l = true → l.Nodup
  | [], _ => List.nodup_nil
  | a :: r, h => by
    obtain ⟨h1, h2⟩ := ba h
    refine List.nodup_cons.mpr ⟨fun z => ?_, apart_ok h2⟩
    have q : (r.any fun b => decide (b = a)) = true := List.any_eq_true.mpr ⟨a, z, decide_eq_true rfl⟩
    rw [q] at h1
    cases h1
section
variable {n : Nat} {fa : List Fa} {fn : List He5.DefA} {ex : List Fx} {Γ : PySem.W.Frag → Nat → Addr} {ts : List TabM} {tf : List Defn} {w : World} {h : Heap}
theorem saysY_of (e : obsY n fa fn ex Γ ts tf h.get? = valY fn ts w) : SaysY fa fn ex Γ ts tf w h (frT h.get? (asN h.get? n)) := by
  have e1 : obsX fa fn ex Γ ts (frT h.get? (asN h.get? n)) = valX fn ts w := congrArg Prod.fst e
  have e2 : (tabsB h.get? tf (frT h.get? (asN h.get? n)) && apartB ((tabsOf tf (frT h.get? (asN h.get? n))).map (·.2))) = true := congrArg Prod.snd e
  obtain ⟨h1, h2⟩ := ba e2
  have one : ∀ p ∈ tabsOf tf (frT h.get? (asN h.get? n)), PySem.W.codeHdIn (frT h.get? (asN h.get? n)) p.1 p.2 = true ∧ (frT h.get? (asN h.get? n)).lookup p.2 = none ∧ h.get? p.2 = some { cls := .none, data := .fields #[] } := fun p hp => by
    obtain ⟨d, hd, rfl⟩ := List.mem_map.mp hp
    obtain ⟨k1, k2⟩ := ba (List.all_eq_true.mp h1 d hd)
    split at k2
    · rename_i o ho
      exact ⟨k1, frT_none ho k2, by rw [ho, emptyTab_eq k2]⟩
    · cases k2
  exact ⟨e1, fun p hp => (one p hp).1, fun p hp => (one p hp).2.1, fun p hp => (one p hp).2.2, apart_ok h2⟩
end
def hookY (n : Nat) (fa : List Fa) (fn : List He5.DefA) (ex : List Fx) (Γ : PySem.W.Frag → Nat → Addr) (ts : List TabM) (tf : List Defn) : PySem.W.Hook where
  α := AlY
  obs := fun s => obsY n fa fn ex Γ ts tf s.heap.get?
  val := fun w => valY fn ts w
  says := fun w h => ∃ K : PySem.W.Frag, K.In h ∧ SaysY fa fn ex Γ ts tf w h K
  of := fun _ _ e => ⟨_, frT_in, saysY_of e⟩
  keeps := fun _ _ _ ⟨K, hK, c⟩ k => ⟨K, PySem.W.Frag.In.keeps hK k, c.x, c.t.hd, c.t.out, fun p hp => k _ _ (c.t.empty p hp), c.t.nd⟩
theorem obsY_eq {n : Nat} {fa : List Fa} {fn : List He5.DefA} {ex : List Fx} {Γ : PySem.W.Frag → Nat → Addr} {ts : List TabM} {tf : List Defn} {g : Addr → Option Obj} {s : Shared} (h : ∀ a, g a = s.heap.get? a) : obsY n fa fn ex Γ ts tf g = (hookY n fa fn ex Γ ts tf).obs s := by
  obtain rfl : g = s.heap.get? := funext h
  rfl
def gaT (cn : List Str) (tf : List Defn) (K : PySem.W.Frag) (i : Nat) : Addr := match i / 1000 with
  | 0 => ga K (cn.getD i "")
  | _ + 1 => (cT K (tf.getD (i - 1000) ("", none))).2
end AM
namespace K04
open PySem PySem.Spec PyProof.Rows L2 AM KP
def top (i : Nat) : Stmt := PySem.Challenge.pw_knotspools_k04_texts_refused.main.body.getD i (.Pass ⟨0, 0, 0, 0⟩)
def cn0 : List Str := ["WrongValue", "NotAWinding", "InvalidText", "InvalidRounds", "InvalidPegs", "InvalidPeg", "InvalidPlace", "InvalidFactor", "InvalidWord", "InvalidTimes", "InvalidWish", "InvalidName", "InvalidClaim", "InvalidIndex", "InvalidLine", "InvalidBlocks", "InvalidLots", "InvalidWishes", "InvalidChanges", "InvalidDeeds"]
def cn20 : List Str := ["WrongName", "UnknownName", "InUse", "NoAnswer", "TooMany", "TooGreat", "PegOut", "PegIn", "Broken", "NothingToUndo", "Known", "Winding", "Loosening", "State", "Earlier", "ThreadTrial", "Thread", "Kept", "Trial", "Book"]
def cn40 : List Str := ["Console", "shows_free", "shows_free_at", "shows_held_at", "shows_held", "shows_length", "shows_same", "shows_lots"]
def cn : List Str := cn0 ++ (cn20 ++ (cn40))
def tf : List He.Defn := [("_law_right", none), ("law", none)]
abbrev Γ (K : PySem.W.Frag) (i : Nat) : Addr := gaT cn tf K i
def rx_InvalidText : List (Ty1 × Bool) := [(.own "NotAWinding", false), (.own "InvalidText", true), (.own "InvalidRounds", false), (.own "InvalidPegs", false), (.own "InvalidPeg", false), (.own "InvalidPlace", false), (.own "InvalidFactor", false), (.own "InvalidWord", false), (.own "InvalidTimes", false), (.own "InvalidWish", false), (.own "InvalidName", false), (.own "InvalidClaim", false), (.own "InvalidIndex", false), (.own "InvalidLine", false), (.own "InvalidBlocks", false), (.own "InvalidLots", false), (.own "InvalidWishes", false), (.own "InvalidChanges", false), (.own "InvalidDeeds", false), (.own "UnknownName", false), (.own "InUse", false), (.own "TooMany", false), (.own "TooGreat", false), (.own "PegOut", false), (.own "PegIn", false), (.own "Broken", false), (.own "NothingToUndo", false), (.own "WrongValue", true), (.own "WrongName", false), (.own "NoAnswer", false), (.ty "ValueError", true), (.ty "LookupError", false), (.ty "ArithmeticError", false)]
def fn : List He5.DefA := [
  ⟨fun K => He.ga K "is_integer", "is_integer", "is_integer", defArgs (top 39), defBody (top 39), defScope (top 39), [], []⟩,
  ⟨fun K => He.ga K "is_between", "is_between", "is_between", defArgs (top 40), defBody (top 40), defScope (top 40), [], []⟩,
  ⟨fun K => He.ga K "is_word", "is_word", "is_word", defArgs (top 41), defBody (top 41), defScope (top 41), [], []⟩,
  ⟨fun K => He.ga K "is_block", "is_block", "is_block", defArgs (top 45), defBody (top 45), defScope (top 45), [], []⟩,
  ⟨fun K => He.ma K (He.ga K "Known") "__init__", "__init__", "Known.__init__", defArgs (inClass (top 53) 0), defBody (inClass (top 53) 0), defScope (inClass (top 53) 0), [], []⟩,
  ⟨fun K => He.ma K (He.ga K "Winding") "__init__", "__init__", "Winding.__init__", defArgs (inClass (top 54) 0), defBody (inClass (top 54) 0), defScope (inClass (top 54) 0), [], []⟩,
  ⟨fun K => He.ga K "are_blocks", "are_blocks", "are_blocks", defArgs (top 46), defBody (top 46), defScope (top 46), [], []⟩,
  ⟨fun K => He.ga K "text_of", "text_of", "text_of", defArgs (top 47), defBody (top 47), defScope (top 47), [], []⟩,
  ⟨fun K => He.ga K "integer_in", "integer_in", "integer_in", defArgs (top 48), defBody (top 48), defScope (top 48), [], []⟩,
  ⟨fun K => He.ga K "factor_in", "factor_in", "factor_in", defArgs (top 49), defBody (top 49), defScope (top 49), [], []⟩,
  ⟨fun K => He.ga K "over_in", "over_in", "over_in", defArgs (top 50), defBody (top 50), defScope (top 50), [], []⟩,
  ⟨fun K => He.ga K "block_in", "block_in", "block_in", defArgs (top 51), defBody (top 51), defScope (top 51), [], []⟩,
  ⟨fun K => He.ga K "blocks_in", "blocks_in", "blocks_in", defArgs (top 52), defBody (top 52), defScope (top 52), [], []⟩,
  ⟨fun K => sfA K (He.ga K "Winding") "read", "read", "Winding.read", defArgs (inClass (top 54) 1), defBody (inClass (top 54) 1), defScope (inClass (top 54) 1), [], []⟩,
  ⟨fun K => He.ma K (He.ga K "Winding") "__len__", "__len__", "Winding.__len__", defArgs (inClass (top 54) 9), defBody (inClass (top 54) 9), defScope (inClass (top 54) 9), [], []⟩,
  ⟨fun K => He.ga K "_law_cup", "_law_cup", "_law_cup", defArgs (top 56), defBody (top 56), defScope (top 56), [], []⟩,
  ⟨fun K => He.ma K (He.ga K "Winding") "__str__", "__str__", "Winding.__str__", defArgs (inClass (top 54) 11), defBody (inClass (top 54) 11), defScope (inClass (top 54) 11), [], []⟩,
  ⟨fun K => He.ga K "_law_sip", "_law_sip", "_law_sip", defArgs (top 57), defBody (top 57), defScope (top 57), [], []⟩,
  ⟨fun K => He.ga K "_law_pick", "_law_pick", "_law_pick", defArgs (top 58), defBody (top 58), defScope (top 58), [], []⟩,
  ⟨fun K => He.ga K "_law_strand", "_law_strand", "_law_strand", defArgs (top 59), defBody (top 59), defScope (top 59), [], []⟩,
  ⟨fun K => He.ga K "_law_block", "_law_block", "_law_block", defArgs (top 60), defBody (top 60), defScope (top 60), [], []⟩,
  ⟨fun K => He.ga K "_law_numbers", "_law_numbers", "_law_numbers", defArgs (top 63), defBody (top 63), defScope (top 63), [], []⟩,
  ⟨fun K => He.ga K "_law_power", "_law_power", "_law_power", defArgs (top 64), defBody (top 64), defScope (top 64), [], []⟩,
  ⟨fun K => He.ga K "_law_read", "_law_read", "_law_read", defArgs (top 65), defBody (top 65), defScope (top 65), [], []⟩,
  ⟨fun K => He.ga K "_law_bent", "_law_bent", "_law_bent", defArgs (top 66), defBody (top 66), defScope (top 66), [], []⟩,
  ⟨fun K => He.ga K "_law_right", "_law_right", "_law_right", defArgs (top 67), defBody (top 67), defScope (top 67), [], []⟩,
  ⟨fun K => He.ga K "law", "law", "law", defArgs (top 68), defBody (top 68), defScope (top 68), [], []⟩,
  ⟨fun K => He.ma K (He.ga K "InvalidText") "__init__", "__init__", "InvalidText.__init__", defArgs (inClass (top 4) 0), defBody (inClass (top 4) 0), defScope (inClass (top 4) 0), [], []⟩,
  ⟨fun K => He.ga K "_law_caught", "_law_caught", "_law_caught", defArgs (top 62), defBody (top 62), defScope (top 62), [], []⟩,
  ⟨fun K => He.ga K "_law_classes", "_law_classes", "_law_classes", defArgs (top 61), defBody (top 61), defScope (top 61), [], []⟩]
def fa0 : List He.Fa := [.free "ArithmeticError", .free "LookupError", .free "NotImplemented", .free "ValueError", .free "abs", .free "all", .free "any", .free "bool", .free "dict", .free "divmod", .free "enumerate", .free "int", .free "isinstance", .free "len", .free "list", .free "max", .free "min", .free "property", .free "range", .free "repr", .free "staticmethod", .free "str", .free "tuple", .int "MOST_BLOCKS" 12, .int "MOST_WORD" 12]
def fa1 : List He.Fa := [.int "MOST_TIMES" 9, .int "MOST_MORE" 99, .str "PEGS" "abcdef", .str "LETTERS" "abcdefABCDEF", .str "DIGITS" "0123456789", .int "ITEMS" 3, .glo "WrongValue", .glo "NotAWinding", .glo "InvalidText", .glo "InvalidRounds", .glo "InvalidPegs", .glo "InvalidPeg", .glo "InvalidPlace", .glo "InvalidFactor", .glo "InvalidWord", .glo "InvalidTimes", .glo "InvalidWish", .glo "InvalidName", .glo "InvalidClaim", .glo "InvalidIndex", .glo "InvalidLine", .glo "InvalidBlocks", .glo "InvalidLots", .glo "InvalidWishes", .glo "InvalidChanges"]
def fa2 : List He.Fa := [.glo "InvalidDeeds", .glo "WrongName", .glo "UnknownName", .glo "InUse", .glo "NoAnswer", .glo "TooMany", .glo "TooGreat", .glo "PegOut", .glo "PegIn", .glo "Broken", .glo "NothingToUndo", .glo "_law_caught", .glo "_law_classes", .glo "Known", .glo "Winding", .glo "is_integer", .glo "is_between", .glo "is_word", .glo "is_block", .glo "are_blocks", .glo "text_of", .glo "integer_in", .glo "factor_in", .glo "over_in", .glo "block_in"]
def fa3 : List He.Fa := [.glo "blocks_in", .glo "_law_cup", .glo "_law_sip", .glo "_law_pick", .glo "_law_strand", .glo "_law_block", .glo "_law_numbers", .glo "_law_power", .glo "_law_read", .glo "_law_bent", .glo "_law_right", .glo "law", .cls "Winding", .noat "Winding" "blocks", .cls "Known", .noat "Known" "parts", .meth "Known" "__init__", .mkr "Known", .meth "Winding" "__init__", .mkr "Winding", .meth "Winding" "__len__", .meth "Winding" "__str__"]
def fa : List He.Fa := fa0 ++ (fa1 ++ (fa2 ++ (fa3)))
def ex0 : List Fx := [.exc "InvalidText" "given" 0 rx_InvalidText, .kit (.ty "NoneType") (.ty "int") false, .kit (.ty "bool") (.ty "int") true, .kit (.ty "int") (.ty "int") true, .kit (.ty "str") (.ty "int") false, .kit (.ty "tuple") (.ty "int") false, .kit (.ty "list") (.ty "int") false, .kit (.ty "dict") (.ty "int") false, .clsI "Known", .kit (.own "Known") (.ty "int") false, .clsI "Winding", .kit (.own "Winding") (.ty "int") false, .kit (.ty "NoneType") (.ty "bool") false, .kit (.ty "bool") (.ty "bool") true, .kit (.ty "int") (.ty "bool") false, .kit (.ty "str") (.ty "bool") false, .kit (.ty "tuple") (.ty "bool") false, .kit (.ty "list") (.ty "bool") false, .kit (.ty "dict") (.ty "bool") false, .kit (.own "Known") (.ty "bool") false, .kit (.own "Winding") (.ty "bool") false, .kit (.ty "NoneType") (.ty "str") false, .kit (.ty "bool") (.ty "str") false, .kit (.ty "int") (.ty "str") false, .kit (.ty "str") (.ty "str") true]
def ex1 : List Fx := [.kit (.ty "tuple") (.ty "str") false, .kit (.ty "list") (.ty "str") false, .kit (.ty "dict") (.ty "str") false, .kit (.own "Known") (.ty "str") false, .kit (.own "Winding") (.ty "str") false, .kit (.ty "NoneType") (.ty "tuple") false, .kit (.ty "bool") (.ty "tuple") false, .kit (.ty "int") (.ty "tuple") false, .kit (.ty "str") (.ty "tuple") false, .kit (.ty "tuple") (.ty "tuple") true, .kit (.ty "list") (.ty "tuple") false, .kit (.ty "dict") (.ty "tuple") false, .kit (.own "Known") (.ty "tuple") false, .kit (.own "Winding") (.ty "tuple") false, .kit (.ty "NoneType") (.own "Known") false, .kit (.ty "bool") (.own "Known") false, .kit (.ty "int") (.own "Known") false, .kit (.ty "str") (.own "Known") false, .kit (.ty "tuple") (.own "Known") false, .kit (.ty "list") (.own "Known") false, .kit (.own "Known") (.own "Known") true, .kit (.own "Winding") (.own "Known") false, .kit (.ty "dict") (.own "Known") false, .first "Winding", .mro "Winding"]
def ex2 : List Fx := [.sub (.ty "str") (.own "Winding") false, .built "Winding" "__ne__" "object.__ne__", .built "Winding" "__format__" "object.__format__", .stat "Winding" "read"]
def ex : List Fx := ex0 ++ (ex1 ++ (ex2))
def loose0 : List Str := ["_wall", "WrongValue", "NotAWinding", "InvalidText", "InvalidRounds", "InvalidPegs", "InvalidPeg", "InvalidPlace", "InvalidFactor", "InvalidWord", "InvalidTimes", "InvalidWish", "InvalidName", "InvalidClaim", "InvalidIndex", "InvalidLine", "InvalidBlocks", "InvalidLots", "InvalidWishes", "InvalidChanges", "InvalidDeeds", "WrongName", "UnknownName", "InUse", "NoAnswer"]
def loose1 : List Str := ["TooMany", "TooGreat", "PegOut", "PegIn", "Broken", "NothingToUndo", "MOST_BLOCKS", "MOST_WORD", "MOST_TIMES", "MOST_MORE", "PEGS", "LETTERS", "is_integer", "is_between", "is_word", "DIGITS", "ITEMS", "is_block", "are_blocks", "text_of", "integer_in", "factor_in", "over_in", "block_in", "blocks_in"]
def loose2 : List Str := ["Known", "Winding", "_law_cup", "_law_sip", "_law_pick", "_law_strand", "_law_block", "_law_classes", "_law_caught", "_law_numbers", "_law_power", "_law_read", "_law_bent", "_law_right"]
def loose : List Str := loose0 ++ (loose1 ++ (loose2))
def ts : List TabM := []
abbrev R : PySem.W.OpenRow := PySem.W.OpenLaw.row PySem.Challenge.rw_knotspools_k04_texts_refused
abbrev hk : PySem.W.Hook := hookY 6 fa fn ex Γ ts tf
def ob (s : PySem.W.SharedT) : AlY := obsY 6 fa fn ex Γ ts tf (HandSHeadRun.getT s)
theorem ob_eq (s : PySem.W.SharedT) : ob s = hk.obs s.abs := obsY_eq (HandSHeadRun.getT_eq s)
set_option maxHeartbeats 0 in
theorem run (w : World) : HandSHeadRun.RunEq R (PySem.W.view R.prog [68]) hk ob 20000 loose w := by
  intro os
  kernel_rfl
end K04
namespace AM
open PySem PySem.Spec PyProof.Rows L2
abbrev St := List (Option V)
structure Ct where
  K : PySem.W.Frag
  Γ : Nat → Addr
abbrev XC (X : Cx) (Γ : Nat → Addr) : Ct := ⟨X.K, Γ⟩
inductive D where
  | non | bl (b : Bool) | int (i : Int) | str (s : Str) | ty (n : String) | cls (c : Nat)
  | tup (ds : List D) | lst (ds : List D) | fz (ds : List D) | ins (c : Nat) (fs : List (Str × D)) | hd (n : Nat) | dic (r : List (Key × D)) | exv (c : Nat) (a dx : Addr) (fs : List (Str × D))
def imV : D → Option V
  | .non => some .non
  | .bl b => some (.bl b)
  | .int i => some (.int i)
  | .str s => some (.str s)
  | _ => none
def imR : List (Key × D) → Option (List (Key × V))
  | [] => some []
  | (k, d) :: r => match imV d, imR r with
    | some v, some vs => some ((k, v) :: vs)
    | _, _ => none
inductive Cell where
  | lst (ds : List D) | obj (c : Nat) (fs : List (Str × D)) | tab (i : Nat) (q : Str)
abbrev Sto := List Cell
structure Exn where
  c : Nat
  fs : List (Str × D)
inductive Res (α : Type) where
  | ok (a : α) (st : Sto) | exc (e : Exn) (st : Sto) | bad
inductive Sl where
  | un | sh (d : D) | own (ds : List D)
abbrev AEnv := List Sl
inductive SR where
  | nx (env : AEnv) (st : Sto) | rt (d : D) (st : Sto) | bk (env : AEnv) (st : Sto) | ct (env : AEnv) (st : Sto) | exc (e : Exn) (st : Sto) | bad
abbrev EF := AEnv → Sto → Res D
abbrev EFs := AEnv → Sto → Res (List D)
abbrev TF := AEnv → Sto → Res Bool
abbrev SF := AEnv → Sto → SR
abbrev DF := List D → Sto → Res D
def SqF (K : PySem.W.Frag) (H : Hp) (S : Addr → Prop) (a : Addr) (vs : List V) : Prop := (∃ o, H a = some (.frz o (.lst vs)) ∧ ¬ S a) ∨ SqL K (fun _ => none) a vs
theorem SqF.sql {K : PySem.W.Frag} {H : Hp} {S : Addr → Prop} {a : Addr} {vs : List V} (h : SqF K H S a vs) : SqL K H a vs := by
  rcases h with ⟨o, e, _⟩ | (e | ⟨o, e⟩) | h
  · exact .inl (.inr ⟨o, e⟩)
  · cases e
  · cases e
  · exact .inr h
theorem SqF.imp {K : PySem.W.Frag} {H H' : Hp} {S S' : Addr → Prop} {a : Addr} {vs : List V} (h : SqF K H S a vs) (i : ∀ o, H a = some o → ¬ S a → H' a = some o ∧ ¬ S' a) : SqF K H' S' a vs := by
  rcases h with ⟨o, e, n⟩ | h
  · exact .inl ⟨o, i _ e n⟩
  · exact .inr h
mutual
inductive Den (K : Ct) (ρ : List Addr) (S : Addr → Prop) (H : Hp) : V → D → Prop
  | non : Den K ρ S H .non .non
  | bl (b : Bool) : Den K ρ S H (.bl b) (.bl b)
  | int (i : Int) : Den K ρ S H (.int i) (.int i)
  | str (x : Str) : Den K ρ S H (.str x) (.str x)
  | ty (n : String) : Den K ρ S H (.ty n) (.ty n)
  | cls (c : Nat) : Den K ρ S H (.ref (K.Γ c)) (.cls c)
  | tup {a : Addr} {vs : List V} {ds : List D} : SqT K.K H a vs → Dens K ρ S H vs ds → Den K ρ S H (.ref a) (.tup ds)
  | lst {a : Addr} {vs : List V} {ds : List D} : H a = some (.lst vs) → ¬ S a → Dens K ρ S H vs ds → Den K ρ S H (.ref a) (.lst ds)
  | fz {a : Addr} {vs : List V} {ds : List D} : SqF K.K H S a vs → Dens K ρ S H vs ds → Den K ρ S H (.ref a) (.fz ds)
  | ins {a dx : Addr} {c : Nat} {gs : List (Str × V)} {fs : List (Str × D)} : H a = some (.ins (K.Γ c) dx gs) → ¬ S a → DenF K ρ S H gs fs → Den K ρ S H (.ref a) (.ins c fs)
  | hd {a : Addr} {n : Nat} : ρ[n]? = some a → Den K ρ S H (.ref a) (.hd n)
  | dic {a : Addr} {r : List (Key × D)} {kvs : List (Key × V)} : H a = some (.dK kvs) → ¬ S a → imR r = some kvs → Den K ρ S H (.ref a) (.dic r)
  | exv {a dx : Addr} {c : Nat} {gs : List (Str × V)} {fs : List (Str × D)} : H dx = some (.xd gs) → ¬ S dx → DenF K ρ S H gs fs → Den K ρ S H (.ref a) (.exv c a dx fs)
inductive Dens (K : Ct) (ρ : List Addr) (S : Addr → Prop) (H : Hp) : List V → List D → Prop
  | nil : Dens K ρ S H [] []
  | cons {v : V} {d : D} {vs : List V} {ds : List D} : Den K ρ S H v d → Dens K ρ S H vs ds → Dens K ρ S H (v :: vs) (d :: ds)
inductive DenF (K : Ct) (ρ : List Addr) (S : Addr → Prop) (H : Hp) : List (Str × V) → List (Str × D) → Prop
  | nil : DenF K ρ S H [] []
  | cons {f : Str} {v : V} {d : D} {vs : List (Str × V)} {ds : List (Str × D)} : Den K ρ S H v d → DenF K ρ S H vs ds → DenF K ρ S H ((f, v) :: vs) ((f, d) :: ds)
end
structure Ext (K : Ct) (ρ : List Addr) (H : Hp) (ρ' : List Addr) (H' : Hp) : Prop where
  pre : ∃ l, ρ' = ρ ++ l
  keep : ∀ a o, H a = some o → a ∉ ρ → H' a = some o ∧ a ∉ ρ'
  tups : ∀ a vs, SqT K.K H a vs → SqT K.K H' a vs
section
variable {K : Ct} {ρ ρ' ρ2 : List Addr} {S S' : Addr → Prop} {H H' H2 : Hp}
theorem Ext.refl : Ext K ρ H ρ H := ⟨⟨[], by simp⟩, fun _ _ h n => ⟨h, n⟩, fun _ _ h => h⟩
theorem Ext.trans (a : Ext K ρ H ρ' H') (b : Ext K ρ' H' ρ2 H2) : Ext K ρ H ρ2 H2 := by
  obtain ⟨l, e⟩ := a.pre
  obtain ⟨l2, e2⟩ := b.pre
  refine ⟨⟨l ++ l2, by rw [e2, e, List.append_assoc]⟩, fun x o h n => ?_, fun x vs h => b.tups x vs (a.tups x vs h)⟩
  obtain ⟨h1, n1⟩ := a.keep x o h n
  exact b.keep x o h1 n1
theorem Ext.hd (a : Ext K ρ H ρ' H') {n : Nat} {x : Addr} (h : ρ[n]? = some x) : ρ'[n]? = some x := by
  obtain ⟨l, e⟩ := a.pre
  rw [e, List.getElem?_append_left (List.getElem?_eq_some_iff.mp h).1]
  exact h
mutual
theorem Den.mono (x : Ext K ρ H ρ' H') (hS : ∀ a, S' a → S a ∨ H a = none) (hr : ∀ a, a ∈ ρ → S a) : ∀ {v : V} {d : D}, Den K ρ S H v d → Den K ρ' S' H' v d
  | _, _, .non => .non
  | _, _, .bl b => .bl b
  | _, _, .int i => .int i
  | _, _, .str s => .str s
  | _, _, .ty n => .ty n
  | _, _, .cls a => .cls a
  | _, _, .tup h t => .tup (x.tups _ _ h) (Dens.mono x hS hr t)
  | _, _, .lst h n t => by
    refine .lst (x.keep _ _ h fun z => n (hr _ z)).1 (fun z => ?_) (Dens.mono x hS hr t)
    rcases hS _ z with q | q
    · exact n q
    · rw [q] at h; cases h
  | _, _, .fz h t => by
    refine .fz (h.imp fun o e n => ⟨(x.keep _ _ e fun z => n (hr _ z)).1, fun z => ?_⟩) (Dens.mono x hS hr t)
    rcases hS _ z with q | q
    · exact n q
    · rw [q] at e; cases e
  | _, _, .ins h n t => by
    refine .ins (x.keep _ _ h fun z => n (hr _ z)).1 (fun z => ?_) (DenF.mono x hS hr t)
    rcases hS _ z with q | q
    · exact n q
    · rw [q] at h; cases h
  | _, _, .hd h => .hd (x.hd h)
  | _, _, .exv h n t => by
    refine .exv (x.keep _ _ h fun z => n (hr _ z)).1 (fun z => ?_) (DenF.mono x hS hr t)
    rcases hS _ z with q | q
    · exact n q
    · rw [q] at h; cases h
  | _, _, .dic h n t => by
    refine .dic (x.keep _ _ h fun z => n (hr _ z)).1 (fun z => ?_) t
    rcases hS _ z with q | q
    · exact n q
    · rw [q] at h; cases h
theorem Dens.mono (x : Ext K ρ H ρ' H') (hS : ∀ a, S' a → S a ∨ H a = none) (hr : ∀ a, a ∈ ρ → S a) : ∀ {vs : List V} {ds : List D}, Dens K ρ S H vs ds → Dens K ρ' S' H' vs ds
  | _, _, .nil => .nil
  | _, _, .cons h t => .cons (Den.mono x hS hr h) (Dens.mono x hS hr t)
theorem DenF.mono (x : Ext K ρ H ρ' H') (hS : ∀ a, S' a → S a ∨ H a = none) (hr : ∀ a, a ∈ ρ → S a) : ∀ {vs : List (Str × V)} {ds : List (Str × D)}, DenF K ρ S H vs ds → DenF K ρ' S' H' vs ds
  | _, _, .nil => .nil
  | _, _, .cons h t => .cons (Den.mono x hS hr h) (DenF.mono x hS hr t)
end
theorem Dens.length : ∀ {vs : List V} {ds : List D}, Dens K ρ S H vs ds → vs.length = ds.length
  | _, _, .nil => rfl
  | _, _, .cons _ t => by rw [List.length_cons, List.length_cons, Dens.length t]
theorem Dens.get : ∀ {vs : List V} {ds : List D} {i : Nat} {d : D}, Dens K ρ S H vs ds → ds[i]? = some d → ∃ v, vs[i]? = some v ∧ Den K ρ S H v d
  | _, _, _, _, .nil, e => by simp at e
  | _, _, 0, _, .cons h _, e => by simp at e; subst e; exact ⟨_, rfl, h⟩
  | _, _, i + 1, d, .cons _ t, e => by
    obtain ⟨v, h1, h2⟩ := Dens.get (i := i) (d := d) t (by simpa using e)
    exact ⟨v, by simpa using h1, h2⟩
theorem Dens.getV : ∀ {vs : List V} {ds : List D} {i : Nat} {v : V}, Dens K ρ S H vs ds → vs[i]? = some v → ∃ d, ds[i]? = some d ∧ Den K ρ S H v d
  | _, _, _, _, .nil, e => by simp at e
  | _, _, 0, _, .cons h _, e => by simp at e; subst e; exact ⟨_, rfl, h⟩
  | _, _, i + 1, d, .cons _ t, e => by
    obtain ⟨v, h1, h2⟩ := Dens.getV (i := i) (v := d) t (by simpa using e)
    exact ⟨v, by simpa using h1, h2⟩
theorem Dens.append : ∀ {vs ws : List V} {ds es : List D}, Dens K ρ S H vs ds → Dens K ρ S H ws es → Dens K ρ S H (vs ++ ws) (ds ++ es)
  | _, _, _, _, .nil, t => t
  | _, _, _, _, .cons h r, t => .cons h (Dens.append r t)
theorem Dens.take : ∀ {vs : List V} {ds : List D} (n : Nat), Dens K ρ S H vs ds → Dens K ρ S H (vs.take n) (ds.take n)
  | _, _, 0, _ => .nil
  | _, _, _ + 1, .nil => .nil
  | _, _, n + 1, .cons h t => .cons h (Dens.take n t)
theorem Dens.drop : ∀ {vs : List V} {ds : List D} (n : Nat), Dens K ρ S H vs ds → Dens K ρ S H (vs.drop n) (ds.drop n)
  | _, _, 0, t => t
  | _, _, _ + 1, .nil => .nil
  | _, _, n + 1, .cons _ t => Dens.drop n t
theorem Dens.set : ∀ {vs : List V} {ds : List D} {v : V} {d : D} (n : Nat), Dens K ρ S H vs ds → Den K ρ S H v d → Dens K ρ S H (vs.set n v) (ds.set n d)
  | _, _, _, _, _, .nil, _ => .nil
  | _, _, _, _, 0, .cons _ t, h => .cons h t
  | _, _, _, _, n + 1, .cons q t, h => .cons q (Dens.set n t h)
theorem Dens.reverse {vs : List V} {ds : List D} (h : Dens K ρ S H vs ds) : Dens K ρ S H vs.reverse ds.reverse := by
  have go : ∀ {vs : List V} {ds : List D}, Dens K ρ S H vs ds → Dens K ρ S H vs.reverse ds.reverse := by
    intro vs
    induction vs with
    | nil => intro ds h; cases h; exact .nil
    | cons v vs ih =>
      intro ds h
      cases h with
      | cons a b =>
        rw [List.reverse_cons, List.reverse_cons]
        exact Dens.append (ih b) (.cons a .nil)
  exact go h
theorem DenF.lookup : ∀ {gs : List (Str × V)} {fs : List (Str × D)} {f : Str} {d : D}, DenF K ρ S H gs fs → fs.lookup f = some d → ∃ v, gs.lookup f = some v ∧ Den K ρ S H v d
  | _, _, f, d, .nil, e => by simp at e
  | _, _, f, d, .cons (f := g) (v := v) (d := c) h t, e => by
    by_cases q : (f == g) = true
    · rw [List.lookup_cons, q] at e
      cases e
      exact ⟨v, by rw [List.lookup_cons, q], h⟩
    · have q' : (f == g) = false := by simpa using q
      rw [List.lookup_cons, q'] at e
      obtain ⟨v, h1, h2⟩ := DenF.lookup t e
      exact ⟨v, by rw [List.lookup_cons, q']; exact h1, h2⟩
end
def XdAt (H : Hp) (S : Addr → Prop) (d : Addr) (gs : List (Str × V)) : Prop := H d = some (.xd gs) ∧ ¬ S d
theorem XdAt.back {H : Hp} {S S' : Addr → Prop} {d : Addr} {gs : List (Str × V)} (x : XdAt H S d gs) (h : ∀ a, S' a → S a ∨ H a = none) : XdAt H S' d gs := ⟨x.1, fun z => (h d z).elim x.2 fun q => by
  rw [x.1] at q; cases q⟩
structure Wd where
  ρ : List Addr
  R : Addr → Prop
  O : List (Option Addr)
def Wd.S (w : Wd) : Addr → Prop := fun a => a ∈ w.ρ ∨ w.R a ∨ some a ∈ w.O
def TabC (K : Ct) (S : Addr → Prop) (H : Hp) (a : Addr) (i : Nat) (q : Str) : Prop := a = K.Γ i ∧ ∃ ps : Array Value, H a = some (.tbl ps) ∧ TriplesOk ps.toList ∧ ∀ (pos : Pos) (cv : Value), codeAmong pos ps.toList = some cv → ∃ c, cv = .ref c ∧ H c = some (LamX.CodeO c q) ∧ ¬ S c
theorem TabC.gen {K : Ct} {S S' : Addr → Prop} {H H' : Hp} {a : Addr} {i : Nat} {q : Str} (h : TabC K S H a i q) (e : H' a = H a) (k : ∀ b o, H b = some o → ¬ S b → H' b = some o ∧ ¬ S' b) : TabC K S' H' a i q := by
  obtain ⟨h0, ps, h1, h2, h3⟩ := h
  refine ⟨h0, ps, e.trans h1, h2, fun pos cv hc => ?_⟩
  obtain ⟨c, c1, c2, c3⟩ := h3 pos cv hc
  obtain ⟨k1, k2⟩ := k c _ c2 c3
  exact ⟨c, c1, k1, k2⟩
theorem TabC.mono {K : Ct} {ρ ρ' : List Addr} {S S' : Addr → Prop} {H H' : Hp} {a : Addr} {i : Nat} {q : Str} (h : TabC K S H a i q) (e : H' a = H a) (x : Ext K ρ H ρ' H') (hS : ∀ a, S' a → S a ∨ H a = none) (hr : ∀ a, a ∈ ρ → S a) : TabC K S' H' a i q :=
  h.gen e fun b o e n => ⟨(x.keep b o e fun z => n (hr b z)).1, fun z => (hS b z).elim n fun z => by rw [e] at z; cases z⟩
def CellOk (K : Ct) (ρ : List Addr) (S : Addr → Prop) (H : Hp) (a : Addr) : Cell → Prop
  | .lst ds => ∃ vs, H a = some (.lst vs) ∧ Dens K ρ S H vs ds
  | .obj c fs => ∃ dx gs, H a = some (.ins (K.Γ c) dx gs) ∧ DenF K ρ S H gs fs
  | .tab i q => TabC K S H a i q
structure StOk (K : Ct) (ρ : List Addr) (S : Addr → Prop) (H : Hp) (st : Sto) : Prop where
  len : ρ.length = st.length
  nd : ρ.Nodup
  cell : ∀ (n : Nat) a c, ρ[n]? = some a → st[n]? = some c → CellOk K ρ S H a c
theorem CellOk.some {K : Ct} {ρ : List Addr} {S : Addr → Prop} {H : Hp} {a : Addr} {c : Cell} (h : CellOk K ρ S H a c) : ∃ o, H a = some o ∧ ∀ u, o ≠ .tup u := by
  cases c with
  | lst ds => obtain ⟨vs, e, _⟩ := h; exact ⟨_, e, fun u z => by cases z⟩
  | obj C fs => obtain ⟨dx, gs, e, _⟩ := h; exact ⟨_, e, fun u z => by cases z⟩
  | tab i q => obtain ⟨_, ps, e, _⟩ := h; exact ⟨_, e, fun u z => by cases z⟩
theorem StOk.there {K : Ct} {ρ : List Addr} {S : Addr → Prop} {H : Hp} {st : Sto} (s : StOk K ρ S H st) {a : Addr} (h : a ∈ ρ) : ∃ o, H a = some o := by
  obtain ⟨n, hn, e⟩ := List.mem_iff_getElem.mp h
  have hc : n < st.length := by rw [← s.len]; exact hn
  obtain ⟨o, z, _⟩ := (s.cell n a st[n] (by rw [List.getElem?_eq_getElem hn, e]) (by rw [List.getElem?_eq_getElem hc])).some
  exact ⟨o, z⟩
def SlotOk (K : Ct) (w : Wd) (H : Hp) : Option V → Sl → Option Addr → Prop
  | v, .sh d, o => o = none ∧ ∃ x, v = some x ∧ Den K w.ρ w.S H x d
  | v, .own ds, o => ∃ a vs, o = some a ∧ v = some (V.ref a) ∧ H a = some (.lst vs) ∧ Dens K w.ρ w.S H vs ds
  | _, .un, o => o = none
structure Rel (K : Ct) (w : Wd) (env : AEnv) (st : Sto) (σ : AM.St) (H : Hp) : Prop where
  sto : StOk K w.ρ w.S H st
  res : ∀ a, w.R a → (∃ o, H a = some o) ∧ a ∉ w.ρ
  len : σ.length = env.length
  lenO : w.O.length = env.length
  slot : ∀ (i : Nat) v s o, σ[i]? = some v → env[i]? = some s → w.O[i]? = some o → SlotOk K w H v s o
  ndO : ∀ (i j : Nat) a, w.O[i]? = some (some a) → w.O[j]? = some (some a) → i = j
  disO : ∀ a, some a ∈ w.O → a ∉ w.ρ ∧ ¬ w.R a
section
variable {K : Ct} {w w' w2 : Wd} {env env' : AEnv} {st st' : Sto} {σ σ' : AM.St} {H H' H2 : Hp}
theorem Rel.own (r : Rel K w env st σ H) {i : Nat} {a : Addr} (h : w.O[i]? = some (some a)) : ∃ ds vs, env[i]? = some (.own ds) ∧ σ[i]? = some (some (V.ref a)) ∧ H a = some (.lst vs) ∧ Dens K w.ρ w.S H vs ds := by
  have hi := (List.getElem?_eq_some_iff.mp h).1
  have h1 : i < env.length := by rw [← r.lenO]; exact hi
  have h2 : i < σ.length := by rw [r.len]; exact h1
  have q := r.slot i σ[i] env[i] (some a) (List.getElem?_eq_getElem h2) (List.getElem?_eq_getElem h1) h
  cases e : env[i] with
  | un => rw [e] at q; cases (show some a = none from q)
  | sh d => rw [e] at q; cases q.1
  | own ds =>
    rw [e] at q
    obtain ⟨b, vs, e1, e2, e3, e4⟩ := q
    cases e1
    exact ⟨ds, vs, by rw [List.getElem?_eq_getElem h1, e], by rw [List.getElem?_eq_getElem h2, e2], e3, e4⟩
theorem Rel.thereS (r : Rel K w env st σ H) {a : Addr} (h : w.S a) : ∃ o, H a = some o := by
  rcases h with h | h | h
  · exact r.sto.there h
  · exact (r.res a h).1
  · obtain ⟨i, hi, e⟩ := List.mem_iff_getElem.mp h
    obtain ⟨_, vs, _, _, z, _⟩ := r.own (i := i) (a := a) (by rw [List.getElem?_eq_getElem hi, e])
    exact ⟨_, z⟩
theorem Rel.fresh (r : Rel K w env st σ H) {a : Addr} (h : H a = none) : ¬ w.S a := fun z => by
  obtain ⟨o, e⟩ := r.thereS z
  rw [h] at e; cases e
theorem Rel.sh (r : Rel K w env st σ H) {i : Nat} {d : D} (h : env[i]? = some (.sh d)) : ∃ v, σ[i]? = some (some v) ∧ Den K w.ρ w.S H v d := by
  have h1 := (List.getElem?_eq_some_iff.mp h).1
  have h2 : i < σ.length := by rw [r.len]; exact h1
  have h3 : i < w.O.length := by rw [r.lenO]; exact h1
  obtain ⟨_, x, e, q⟩ := r.slot i σ[i] _ w.O[i] (List.getElem?_eq_getElem h2) h (List.getElem?_eq_getElem h3)
  exact ⟨x, by rw [List.getElem?_eq_getElem h2, e], q⟩
theorem Rel.ownE (r : Rel K w env st σ H) {i : Nat} {ds : List D} (h : env[i]? = some (.own ds)) : ∃ a vs, w.O[i]? = some (some a) ∧ σ[i]? = some (some (V.ref a)) ∧ H a = some (.lst vs) ∧ Dens K w.ρ w.S H vs ds := by
  have h1 := (List.getElem?_eq_some_iff.mp h).1
  have h2 : i < σ.length := by rw [r.len]; exact h1
  have h3 : i < w.O.length := by rw [r.lenO]; exact h1
  obtain ⟨a, vs, e1, e2, e3, e4⟩ := r.slot i σ[i] _ w.O[i] (List.getElem?_eq_getElem h2) h (List.getElem?_eq_getElem h3)
  exact ⟨a, vs, by rw [List.getElem?_eq_getElem h3, e1], by rw [List.getElem?_eq_getElem h2, e2], e3, e4⟩
theorem inS_ρ {a : Addr} (h : a ∈ w.ρ) : w.S a := .inl h
theorem S_ext (r : Rel K w env st σ H) {ρ' : List Addr} (x : Ext K w.ρ H ρ' H') : ∀ a, (⟨ρ', w.R, w.O⟩ : Wd).S a → w.S a ∨ H a = none := fun a h => by
  cases q : H a with
  | none => exact .inr rfl
  | some o =>
    refine .inl ?_
    by_cases hr : a ∈ w.ρ
    · exact .inl hr
    · rcases h with h | h | h
      · exact absurd h (x.keep a o q hr).2
      · exact .inr (.inl h)
      · exact .inr (.inr h)
theorem Rel.ext (r : Rel K w env st σ H) {ρ' : List Addr} (x : Ext K w.ρ H ρ' H') (s : StOk K ρ' (⟨ρ', w.R, w.O⟩ : Wd).S H' st') : Rel K ⟨ρ', w.R, w.O⟩ env st' σ H' where
  sto := s
  res := fun a h => by
    obtain ⟨⟨o, e⟩, n⟩ := r.res a h
    obtain ⟨e', n'⟩ := x.keep a o e n
    exact ⟨⟨o, e'⟩, n'⟩
  len := r.len
  lenO := r.lenO
  slot := fun i v sl o h1 h2 h3 => by
    have q := r.slot i v sl o h1 h2 h3
    have m : ∀ {v d}, Den K w.ρ w.S H v d → Den K ρ' (⟨ρ', w.R, w.O⟩ : Wd).S H' v d := fun h => h.mono x (S_ext r x) fun _ => inS_ρ
    have ms : ∀ {v d}, Dens K w.ρ w.S H v d → Dens K ρ' (⟨ρ', w.R, w.O⟩ : Wd).S H' v d := fun h => h.mono x (S_ext r x) fun _ => inS_ρ
    cases sl with
    | un => exact q
    | sh d => obtain ⟨e, z, ez, hz⟩ := q; exact ⟨e, z, ez, m hz⟩
    | own ds =>
      obtain ⟨a, vs, e1, e2, e3, e4⟩ := q
      have hm : some a ∈ w.O := by rw [e1] at h3; exact List.mem_of_getElem? h3
      exact ⟨a, vs, e1, e2, (x.keep a _ e3 (r.disO a hm).1).1, ms e4⟩
  ndO := r.ndO
  disO := fun a h => by
    obtain ⟨n1, n2⟩ := r.disO a h
    obtain ⟨i, hi, e⟩ := List.mem_iff_getElem.mp h
    obtain ⟨_, vs, _, _, z, _⟩ := r.own (i := i) (a := a) (by rw [List.getElem?_eq_getElem hi, e])
    exact ⟨(x.keep a _ z n1).2, n2⟩
end
end AM
namespace AM
open PySem PySem.Spec PyProof.Rows L2
def Res.bind {α β : Type} (r : Res α) (k : α → Sto → Res β) : Res β := match r with
  | .ok a st => k a st
  | .exc e st => .exc e st
  | .bad => .bad
abbrev DnT (β α : Type) := Ct → List Addr → (Addr → Prop) → Hp → β → α → Prop
abbrev Wd.at_ (w : Wd) (ρ : List Addr) : Wd := ⟨ρ, w.R, w.O⟩
def dnB : DnT Bool Bool := fun _ _ _ _ b c => b = c
def Post {α β : Type} (Dn : DnT β α) (K : Ct) (W : WX) (w : Wd) (H : Hp) (σ : St) (r : Res α) (Q : β → Hp → Prop) : Prop := match r with
  | .ok a st' => ∀ ρ' H' x, StOk K ρ' (w.at_ ρ').S H' st' → Ext K w.ρ H ρ' H' → Dn K ρ' (w.at_ ρ').S H' x a → Q x H'
  | .exc e st' => ∀ ρ' H' d gs, StOk K ρ' (w.at_ ρ').S H' st' → Ext K w.ρ H ρ' H' → XdAt H' (w.at_ ρ').S d gs → DenF K ρ' (w.at_ ρ').S H' gs e.fs → W (.ref (K.Γ e.c)) (some d) σ H'
  | .bad => False
def tG {α β : Type} (Dn : DnT β α) (K : Ct) (W : WX) (f : AEnv → Sto → Res α) : St → Hp → (β → Hp → Prop) → Prop := fun σ H Q =>
  ∃ w env st, Rel K w env st σ H ∧ Post Dn K W w H σ (f env st) Q
abbrev tD (K : Ct) (W : WX) (f : EF) : TE := tG (α := D) (β := V) Den K W f
abbrev tDs (K : Ct) (W : WX) (f : EFs) : TA := tG (α := List D) (β := List V) Dens K W f
abbrev tT (K : Ct) (W : WX) (f : TF) : TT := tG (α := Bool) (β := Bool) dnB K W f
section
variable {α β γ δ : Type} {Da : DnT β α} {Dg : DnT δ γ} {K : Ct} {W : WX} {w : Wd} {env : AEnv} {st : Sto} {σ : St} {H H' : Hp} {Q : δ → Hp → Prop}
theorem Post.mono {r : Res α} {Q Q' : β → Hp → Prop} (h : Post Da K W w H σ r Q) (i : ∀ x H, Q x H → Q' x H) : Post Da K W w H σ r Q' := by
  cases r with
  | ok a st => exact fun ρ' H' x h1 h2 h3 => i _ _ (h ρ' H' x h1 h2 h3)
  | exc e st => exact h
  | bad => exact h
theorem Post.back {r : Res γ} {ρ1 : List Addr} {H1 : Hp} (x : Ext K w.ρ H ρ1 H1) (h : Post Dg K W w H σ r Q) : Post Dg K W (w.at_ ρ1) H1 σ r Q := by
  cases r with
  | ok a st => exact fun ρ' H' y h1 h2 h3 => h ρ' H' y h1 (x.trans h2) h3
  | exc e st => exact fun ρ' H' d gs h1 h2 h3 h4 => h ρ' H' d gs h1 (x.trans h2) h3 h4
  | bad => exact h
theorem Post.bind {f : Res α} {g : α → Sto → Res γ} (r : Rel K w env st σ H) (h : Post Dg K W w H σ (f.bind g) Q) :
    Post Da K W w H σ f fun x H1 => ∃ w1 st1 a, Rel K w1 env st1 σ H1 ∧ (∃ ρ1, w1 = w.at_ ρ1) ∧ Ext K w.ρ H w1.ρ H1 ∧ Da K w1.ρ w1.S H1 x a ∧ Post Dg K W w1 H1 σ (g a st1) Q := by
  cases f with
  | ok a st1 =>
    intro ρ' H' x h1 h2 h3
    exact ⟨w.at_ ρ', st1, a, r.ext h2 h1, ⟨ρ', rfl⟩, h2, h3, Post.back h2 h⟩
  | exc e st1 => exact h
  | bad => exact h
theorem t1 {f : AEnv → Sto → Res α} {g : AEnv → α → Sto → Res γ} (h : tG Dg K W (fun env st => (f env st).bind (g env)) σ H Q) :
    tG Da K W f σ H fun x H1 => ∃ w env st a, Rel K w env st σ H1 ∧ Da K w.ρ w.S H1 x a ∧ Post Dg K W w H1 σ (g env a st) Q := by
  obtain ⟨w, env, st, r, p⟩ := h
  refine ⟨w, env, st, r, (Post.bind (Da := Da) r p).mono ?_⟩
  rintro x H1 ⟨w1, st1, a, r1, _, _, d, p1⟩
  exact ⟨w1, env, st1, a, r1, d, p1⟩
def Lasts {α β : Type} (Da : DnT β α) : Prop := ∀ {K : Ct} {w w' : Wd} {env : AEnv} {st : Sto} {σ : St} {H H' : Hp} {x : β} {a : α}, Rel K w env st σ H → (∃ ρ', w' = w.at_ ρ') → Ext K w.ρ H w'.ρ H' → Da K w.ρ w.S H x a → Da K w'.ρ w'.S H' x a
theorem lastsD : Lasts (α := D) (β := V) Den := fun r e x h => by
  obtain ⟨ρ', rfl⟩ := e
  exact h.mono x (S_ext r x) fun _ => inS_ρ
theorem lastsDs : Lasts (α := List D) (β := List V) Dens := fun r e x h => by
  obtain ⟨ρ', rfl⟩ := e
  exact h.mono x (S_ext r x) fun _ => inS_ρ
theorem t2 {α2 β2 : Type} {Db : DnT β2 α2} (la : Lasts Da) {f : AEnv → Sto → Res α} {g : AEnv → α → Sto → Res α2} {k : AEnv → α → α2 → Sto → Res γ}
    (h : tG Dg K W (fun env st => (f env st).bind fun a st1 => (g env a st1).bind fun b st2 => k env a b st2) σ H Q) :
    tG Da K W f σ H fun x H1 => ∃ w env st a, Rel K w env st σ H1 ∧ Da K w.ρ w.S H1 x a ∧ Post Db K W w H1 σ (g env a st) fun y H2 =>
      ∃ w st2 b, Rel K w env st2 σ H2 ∧ Da K w.ρ w.S H2 x a ∧ Db K w.ρ w.S H2 y b ∧ Post Dg K W w H2 σ (k env a b st2) Q := by
  obtain ⟨w, env, st, r, p⟩ := h
  refine ⟨w, env, st, r, (Post.bind (Da := Da) r p).mono ?_⟩
  rintro x H1 ⟨w1, st1, a, r1, _, _, d, p1⟩
  refine ⟨w1, env, st1, a, r1, d, (Post.bind (Da := Db) r1 p1).mono ?_⟩
  rintro y H2 ⟨w2, st2, b, r2, e2, x2, d2, p2⟩
  exact ⟨w2, st2, b, r2, la r1 e2 x2 d, d2, p2⟩
end
theorem peImp {X : Cx} {e : Expr} {t t' : TE} (h : PE X e t) (i : ∀ σ H Q, t' σ H Q → t σ H Q) : PE X e t' := ⟨fun pins s σ H Q I hw => h.run pins s σ H Q I (i σ H Q hw)⟩
theorem ptImp {X : Cx} {e : Expr} {t t' : TT} (h : PT X e t) (i : ∀ σ H Q, t' σ H Q → t σ H Q) : PT X e t' := ⟨fun pins s σ H Q I hw => h.run pins s σ H Q I (i σ H Q hw)⟩
theorem pwImp {X : Cx} {e : Expr} {t t' : TT} (h : PW X e t) (i : ∀ σ H Q, t' σ H Q → t σ H Q) : PW X e t' := ⟨fun wh pins s σ H Q I hw => h.run wh pins s σ H Q I (i σ H Q hw)⟩
theorem paImp {X : Cx} {e : List Expr} {t t' : TA} (h : PA X e t) (i : ∀ σ H Q, t' σ H Q → t σ H Q) : PA X e t' := ⟨fun pos pins s σ H Q I hw => h.run pos pins s σ H Q I (i σ H Q hw)⟩
theorem psImp {X : Cx} {e : Stmt} {t t' : TS} (h : PS X e t) (i : ∀ D σ H, t' D σ H → t D σ H) : PS X e t' := ⟨fun pins s σ H D I hw => h.run pins s σ H D I (i D σ H hw)⟩
theorem pssImp {X : Cx} {e : List Stmt} {t t' : TS} (h : PSs X e t) (i : ∀ D σ H, t' D σ H → t D σ H) : PSs X e t' := ⟨fun pins s σ H D I hw => h.run pins s σ H D I (i D σ H hw)⟩
section
variable {K : Ct} {W : WX} {w : Wd} {env : AEnv} {st : Sto} {σ : St} {H : Hp} {Q : VK} {p : Addr} {o : HO}
theorem SqT.upd {a : Addr} {vs : List V} (hp : H p = none) (h : SqT K.K H a vs) : SqT K.K (upd H p o) a vs := by
  rcases h with (h | ⟨u, h⟩) | h
  · exact .inl (.inl (by rw [upd_ne (ne_of_none h hp)]; exact h))
  · exact .inl (.inr ⟨u, by rw [upd_ne (ne_of_none h hp)]; exact h⟩)
  · exact .inr h
theorem Ext.new {ρ : List Addr} (hp : H p = none) : Ext K ρ H ρ (upd H p o) :=
  ⟨⟨[], by simp⟩, fun a u h n => ⟨by rw [upd_ne (ne_of_none h hp)]; exact h, n⟩, fun a vs h => SqT.upd hp h⟩
theorem StOk.ext {ρ : List Addr} {S S' : Addr → Prop} {H' : Hp} (s : StOk K ρ S H st) (x : Ext K ρ H ρ H') (hS : ∀ a, S' a → S a ∨ H a = none) (hr : ∀ a, a ∈ ρ → S a) (hc : ∀ a, a ∈ ρ → H' a = H a) : StOk K ρ S' H' st where
  len := s.len
  nd := s.nd
  cell := fun n a c h1 h2 => by
    have q := s.cell n a c h1 h2
    have e := hc a (List.mem_of_getElem? h1)
    cases c with
    | lst ds => obtain ⟨vs, z, t⟩ := q; exact ⟨vs, by rw [e]; exact z, t.mono x hS hr⟩
    | obj C fs => obtain ⟨dx, gs, z, t⟩ := q; exact ⟨dx, gs, by rw [e]; exact z, t.mono x hS hr⟩
    | tab i q' => exact TabC.mono q e x hS hr
theorem Rel.newSto (r : Rel K w env st σ H) (hp : H p = none) : StOk K w.ρ (w.at_ w.ρ).S (upd H p o) st :=
  r.sto.ext (Ext.new hp) (fun a h => .inl h) (fun a h => .inl h) fun a h => by
    obtain ⟨u, e⟩ := r.sto.there h
    exact upd_ne (ne_of_none e hp)
theorem Rel.new (r : Rel K w env st σ H) (hp : H p = none) : Rel K w env st σ (upd H p o) := r.ext (Ext.new hp) (r.newSto hp)
theorem Post.ok {α β : Type} {Da : DnT β α} {Q : β → Hp → Prop} {a : α} {x : β} (r : Rel K w env st σ H) (h : Post Da K W w H σ (.ok a st) Q) (d : Da K w.ρ w.S H x a) : Q x H := h w.ρ H x r.sto Ext.refl d
theorem Post.okNew {a : D} (r : Rel K w env st σ H) (h : Post Den K W w H σ (.ok a st) Q) (hp : H p = none) (d : Den K w.ρ w.S (upd H p o) (.ref p) a) : Q (.ref p) (upd H p o) :=
  h w.ρ (upd H p o) (.ref p) (r.newSto hp) (Ext.new hp) d
theorem Dens.new {vs : List V} {ds : List D} (r : Rel K w env st σ H) (hp : H p = none) (h : Dens K w.ρ w.S H vs ds) : Dens K w.ρ w.S (upd H p o) vs ds := h.mono (Ext.new hp) (fun a h => .inl h) fun a h => .inl h
theorem Den.new {v : V} {d : D} (r : Rel K w env st σ H) (hp : H p = none) (h : Den K w.ρ w.S H v d) : Den K w.ρ w.S (upd H p o) v d := h.mono (Ext.new hp) (fun a h => .inl h) fun a h => .inl h
theorem Post.newTup {vs : List V} {ds : List D} (r : Rel K w env st σ H) (h : Post Den K W w H σ (.ok (.tup ds) st) Q) (d : Dens K w.ρ w.S H vs ds) (hp : H p = none) : Q (.ref p) (upd H p (.tup vs)) :=
  h.okNew r hp (.tup (.inl (.inl upd_same)) (d.new r hp))
theorem Post.newLst {vs : List V} {ds : List D} (r : Rel K w env st σ H) (h : Post Den K W w H σ (.ok (.lst ds) st) Q) (d : Dens K w.ρ w.S H vs ds) (hp : H p = none) : Q (.ref p) (upd H p (.lst vs)) :=
  h.okNew r hp (.lst upd_same (r.fresh hp) (d.new r hp))
end
end AM
namespace AM
open PySem PySem.Spec PyProof.Rows L2
def DenB : DnT V D := fun K ρ S H v d => match d with
  | .lst ds => ∃ a vs, v = .ref a ∧ H a = some (.lst vs) ∧ a ∉ ρ ∧ Dens K ρ S H vs ds
  | d => Den K ρ S H v d
section
variable {K : Ct} {W : WX} {w : Wd} {env : AEnv} {st : Sto} {σ : St} {H : Hp} {v : V} {d : D}
theorem Den.b (h : Den K w.ρ w.S H v d) : DenB K w.ρ w.S H v d := by
  cases h with
  | lst a b c => exact ⟨_, _, rfl, a, fun z => b (inS_ρ z), c⟩
  | non => exact .non
  | bl b => exact .bl b
  | int i => exact .int i
  | str s => exact .str s
  | ty n => exact .ty n
  | cls a => exact .cls a
  | tup a b => exact .tup a b
  | fz a c => exact .fz a c
  | ins a b c => exact .ins a b c
  | hd a => exact .hd a
  | dic a b c => exact .dic a b c
  | exv a b c => exact .exv a b c
theorem DenB.tup {ds : List D} (h : DenB K w.ρ w.S H v (.tup ds)) : ∃ a vs, v = .ref a ∧ SqT K.K H a vs ∧ Dens K w.ρ w.S H vs ds := by
  have q : Den K w.ρ w.S H v (.tup ds) := h
  cases q with
  | tup a b => exact ⟨_, _, rfl, a, b⟩
theorem DenB.lst {ds : List D} (h : DenB K w.ρ w.S H v (.lst ds)) : ∃ a vs, v = .ref a ∧ H a = some (.lst vs) ∧ a ∉ w.ρ ∧ Dens K w.ρ w.S H vs ds := h
theorem DenB.fz {ds : List D} (h : DenB K w.ρ w.S H v (.fz ds)) : ∃ a vs, v = .ref a ∧ SqF K.K H w.S a vs ∧ Dens K w.ρ w.S H vs ds := by
  have q : Den K w.ρ w.S H v (.fz ds) := h
  cases q with
  | fz a c => exact ⟨_, _, rfl, a, c⟩
theorem DenB.str {s : Str} (h : DenB K w.ρ w.S H v (.str s)) : v = .str s := by
  have q : Den K w.ρ w.S H v (.str s) := h
  cases q with
  | str => rfl
theorem DenB.int {i : Int} (h : DenB K w.ρ w.S H v (.int i)) : v = .int i := by
  have q : Den K w.ρ w.S H v (.int i) := h
  cases q with
  | int => rfl
theorem DenB.bl {i : Bool} (h : DenB K w.ρ w.S H v (.bl i)) : v = .bl i := by
  have q : Den K w.ρ w.S H v (.bl i) := h
  cases q with
  | bl => rfl
theorem DenB.non (h : DenB K w.ρ w.S H v .non) : v = .non := by
  have q : Den K w.ρ w.S H v .non := h
  cases q with
  | non => rfl
theorem DenB.ty {n : String} (h : DenB K w.ρ w.S H v (.ty n)) : v = .ty n := by
  have q : Den K w.ρ w.S H v (.ty n) := h
  cases q with
  | ty => rfl
theorem DenB.cls {c : Nat} (h : DenB K w.ρ w.S H v (.cls c)) : v = .ref (K.Γ c) := by
  have q : Den K w.ρ w.S H v (.cls c) := h
  cases q with
  | cls => rfl
theorem DenB.hd {n : Nat} (h : DenB K w.ρ w.S H v (.hd n)) : ∃ a, v = .ref a ∧ w.ρ[n]? = some a := by
  have q : Den K w.ρ w.S H v (.hd n) := h
  cases q with
  | hd e => exact ⟨_, rfl, e⟩
theorem DenB.ins {c : Nat} {fs : List (Str × D)} (h : DenB K w.ρ w.S H v (.ins c fs)) : ∃ a dx gs, v = .ref a ∧ H a = some (.ins (K.Γ c) dx gs) ∧ ¬ w.S a ∧ DenF K w.ρ w.S H gs fs := by
  have q : Den K w.ρ w.S H v (.ins c fs) := h
  cases q with
  | ins a b c => exact ⟨_, _, _, rfl, a, b, c⟩
theorem DenB.dic {rr : List (Key × D)} (h : DenB K w.ρ w.S H v (.dic rr)) : ∃ a kvs, v = .ref a ∧ H a = some (.dK kvs) ∧ ¬ w.S a ∧ imR rr = some kvs := by
  have q : Den K w.ρ w.S H v (.dic rr) := h
  cases q with
  | dic a b c => exact ⟨_, _, rfl, a, b, c⟩
theorem Rel.cellL (r : Rel K w env st σ H) {n : Nat} {a : Addr} {ds : List D} (h : w.ρ[n]? = some a) (e : st[n]? = some (.lst ds)) : ∃ vs, H a = some (.lst vs) ∧ Dens K w.ρ w.S H vs ds := r.sto.cell n a _ h e
theorem Rel.cellO (r : Rel K w env st σ H) {n c : Nat} {a : Addr} {fs : List (Str × D)} (h : w.ρ[n]? = some a) (e : st[n]? = some (.obj c fs)) : ∃ dx gs, H a = some (.ins (K.Γ c) dx gs) ∧ DenF K w.ρ w.S H gs fs := r.sto.cell n a _ h e
end
theorem lastsDB : Lasts (α := D) (β := V) DenB := by
  intro K w w' env st σ H H' x a r e z h
  obtain ⟨ρ', rfl⟩ := e
  have m : ∀ {v d}, Den K w.ρ w.S H v d → Den K ρ' (w.at_ ρ').S H' v d := fun h => h.mono z (S_ext r z) fun _ => inS_ρ
  cases a with
  | lst ds =>
    obtain ⟨b, vs, e1, e2, n, t⟩ := h
    exact ⟨b, vs, e1, (z.keep _ _ e2 n).1, (z.keep _ _ e2 n).2, t.mono z (S_ext r z) fun _ => inS_ρ⟩
  | _ => exact m h
abbrev tDB (K : Ct) (W : WX) (f : EF) : TE := tG (α := D) (β := V) DenB K W f
section
variable {X : Cx} {Γ : Nat → Addr} {W : WX} {e a b c : Expr} {f fa fb fc : EF} {pos : Pos}
theorem pdb (h : PE X e (tD (XC X Γ) W f)) : PE X e (tDB (XC X Γ) W f) := peImp h fun σ H Q ⟨w, env, st, r, p⟩ => ⟨w, env, st, r, by
  cases q : f env st with
  | ok d st' => rw [q] at p; exact fun ρ' H' x h1 h2 h3 => p ρ' H' x h1 h2 (Den.b (w := w.at_ ρ') h3)
  | exc x st' => rw [q] at p; exact p
  | bad => rw [q] at p; exact p⟩
def dVar (i : Nat) : EF := fun env st => match env[i]? with
  | some (.sh d) => .ok d st
  | _ => .bad
def dOwn (i : Nat) : EF := fun env st => match env[i]? with
  | some (.own ds) => .ok (.lst ds) st
  | some (.sh d) => .ok d st
  | _ => .bad
def dC (d : D) : EF := fun _ st => .ok d st
theorem pd_var (i : Nat) {x : Str} (hN : X.N[i]? = some x := by rfl) (hv : Vis X.env.scope x := by first | exact Or.inl rfl | exact Or.inr (Or.inl rfl) | exact Or.inr (Or.inr rfl)) (hd : (x == ("__debug__" : Str)) = false := by decide)
    (hcd : (x == ("__classdict__" : Str)) = false := by decide) : PE X (.Name x pos) (tD (XC X Γ) W (dVar i)) := peImp (pe_var hN hv hd hcd) fun σ H Q ⟨w, env, st, r, p⟩ => by
  unfold dVar at p
  split at p
  · rename_i d e
    obtain ⟨v, e1, h⟩ := r.sh e
    exact ⟨v, e1, Post.ok r p h⟩
  · exact p.elim
theorem pd_own (i : Nat) {x : Str} (hN : X.N[i]? = some x := by rfl) (hv : Vis X.env.scope x := by first | exact Or.inl rfl | exact Or.inr (Or.inl rfl) | exact Or.inr (Or.inr rfl)) (hd : (x == ("__debug__" : Str)) = false := by decide)
    (hcd : (x == ("__classdict__" : Str)) = false := by decide) : PE X (.Name x pos) (tDB (XC X Γ) W (dOwn i)) := peImp (pe_var hN hv hd hcd) fun σ H Q ⟨w, env, st, r, p⟩ => by
  unfold dOwn at p
  split at p
  · rename_i ds e
    obtain ⟨a, vs, e0, e1, e2, h⟩ := r.ownE e
    exact ⟨_, e1, Post.ok (Da := DenB) r p ⟨a, vs, rfl, e2, (r.disO a (List.mem_of_getElem? e0)).1, h⟩⟩
  · rename_i d e
    obtain ⟨v, e1, h⟩ := r.sh e
    exact ⟨v, e1, Post.ok (Da := DenB) r p h.b⟩
  · exact p.elim
theorem pdc {v : V} {d : D} (h : PE X e (tC v)) (r : ∀ ρ S H, Den (XC X Γ) ρ S H v d) : PE X e (tD (XC X Γ) W (dC d)) := peImp h fun σ H Q ⟨w, env, st, rl, p⟩ => Post.ok rl p (r _ _ _)
theorem pd_int {i j} : PE X (.Constant (.int i) j pos) (tD (XC X Γ) W (dC (.int i))) := pdc pe_int fun _ _ _ => .int i
theorem pd_str {i j} : PE X (.Constant (.str i) j pos) (tD (XC X Γ) W (dC (.str i))) := pdc pe_str fun _ _ _ => .str i
theorem pd_bl {i j} : PE X (.Constant (.bool i) j pos) (tD (XC X Γ) W (dC (.bl i))) := pdc pe_bl fun _ _ _ => .bl i
theorem pd_non {j} : PE X (.Constant .none j pos) (tD (XC X Γ) W (dC .non)) := pdc pe_non fun _ _ _ => .non
theorem pd_glob {x : Str} {v : V} {u : Value} {d : D} (hm : X.mg x = some u) (r : RelV v u) (h : ∀ ρ S H, Den (XC X Γ) ρ S H v d) (hg : Gl X x := by rfl) (hd : (x == ("__debug__" : Str)) = false := by decide) : PE X (.Name x pos) (tD (XC X Γ) W (dC d)) := pdc (pe_glob hg hm r hd) h
abbrev Op2 := D → D → Sto → Res D
def rD2 (K : Ct) (W : WX) (k : Op2) : R2 := fun x y H Q => ∃ w env st σ a b, Rel K w env st σ H ∧ DenB K w.ρ w.S H x a ∧ DenB K w.ρ w.S H y b ∧ Post Den K W w H σ (k a b st) Q
def dOp2 (k : Op2) (fa fb : EF) : EF := fun env st => (fa env st).bind fun a st1 => (fb env st1).bind fun b st2 => k a b st2
theorem dOp2_ok {K : Ct} {k : Op2} {r : R2} {σ : St} {H : Hp} {Q : VK} (h : tD K W (dOp2 k fa fb) σ H Q) (i : ∀ x y H Q, rD2 K W k x y H Q → r x y H Q) : tOp r (tDB K W fa) (tDB K W fb) σ H Q := by
  obtain ⟨w, env, st, rl, p⟩ := t2 (Da := DenB) (Db := DenB) (g := fun env a st => fb env st) (k := fun env a b st => k a b st) lastsDB h
  refine ⟨w, env, st, rl, p.mono ?_⟩
  rintro x H1 ⟨w1, env1, st1, a, r1, d1, p1⟩
  refine ⟨w1, env1, st1, r1, p1.mono ?_⟩
  rintro y H2 ⟨w2, st2, b, r2, d2, d3, p2⟩
  exact i _ _ _ _ ⟨w2, env1, st2, σ, a, b, r2, d2, d3, p2⟩
theorem pd_op {op : Operator} {k : Op2} (ho : OpR X (binaryOp op) (rD2 (XC X Γ) W k)) (ha : PE X a (tDB (XC X Γ) W fa)) (hb : PE X b (tDB (XC X Γ) W fb)) : PE X (.BinOp a op b pos) (tD (XC X Γ) W (dOp2 k fa fb)) :=
  peImp (pe_op ho ha hb) fun _ _ _ h => dOp2_ok h fun _ _ _ _ q => q
theorem opr {f : Value → Value → Sem Value} {k : Op2} (h : ∀ (w : Wd) (env : AEnv) (st : Sto) (σ : St) (H : Hp) (x y : V) (a b : D) (Q : VK), Rel (XC X Γ) w env st σ H → DenB (XC X Γ) w.ρ w.S H x a → DenB (XC X Γ) w.ρ w.S H y b → Post Den (XC X Γ) W w H σ (k a b st) Q →
    ∃ r : R2, OpR X f r ∧ r x y H Q) : OpR X f (rD2 (XC X Γ) W k) := fun pins s σ H x y v u Q I rx ry ⟨w, env, st, σ', a, b, r, d1, d2, p⟩ => by
  obtain ⟨rr, ho, q⟩ := h w env st σ' H x y a b Q r d1 d2 p
  exact ho pins s σ H x y v u Q I rx ry q
def oAdd : Op2 := fun a b st => match a, b with
  | .int i, .int j => .ok (.int (i + j)) st
  | .str i, .str j => if i.length + j.length ≤ sizeLine then .ok (.str (i ++ j)) st else .bad
  | .tup i, .tup j => if i.length + j.length ≤ sizeLine then .ok (.tup (i ++ j)) st else .bad
  | .lst i, .lst j => if i.length + j.length ≤ sizeLine then .ok (.lst (i ++ j)) st else .bad
  | _, _ => .bad
def oSub : Op2 := fun a b st => match a, b with
  | .int i, .int j => .ok (.int (i - j)) st
  | _, _ => .bad
def small64 (i : Int) : Bool := decide (-(2 ^ 64) < i) && decide (i < 2 ^ 64)
def mk (l : List Nat) : Str := ⟨l.toArray⟩
theorem mk_tl (s : Str) : mk s.cps.toList = s := rfl
theorem mk_len (l : List Nat) : (mk l).length = l.length := by
  show l.toArray.size = l.length
  simp
theorem mk_app (a b : List Nat) : mk a ++ mk b = mk (a ++ b) := by
  show (⟨a.toArray ++ b.toArray⟩ : Str) = ⟨(a ++ b).toArray⟩
  rw [List.append_toArray]
def oMul : Op2 := fun a b st => match a, b with
  | .int i, .int j => if (small64 i || small64 j) = true then .ok (.int (i * j)) st else .bad
  | .str s, .int j => if s.length * j.toNat ≤ sizeLine ∧ -(2 ^ 62) ≤ j ∧ j < 2 ^ 62 then .ok (.str (mk (List.replicate j.toNat s.cps.toList).flatten)) st else .bad
  | .lst i, .int j => if i.length * j.toNat ≤ sizeLine ∧ -(2 ^ 63) ≤ j ∧ j < 2 ^ 63 then .ok (.lst (List.replicate j.toNat i).flatten) st else .bad
  | _, _ => .bad
def oDiv : Op2 := fun a b st => match a, b with
  | .int i, .int j => if 0 < j ∧ j < 1073741824 then .ok (.int (i / j)) st else .bad
  | _, _ => .bad
def oMod : Op2 := fun a b st => match a, b with
  | .int i, .int j => if 0 < j then .ok (.int (i % j)) st else .bad
  | _, _ => .bad
def oPow : Op2 := fun a b st => match a, b with
  | .int i, .int j => if 0 ≤ j ∧ j ≤ 1000000 ∧ i.natAbs < 2 ^ 64 then .ok (.int (i ^ j.toNat)) st else .bad
  | _, _ => .bad
theorem Str.mul_list (x : Str) (n : Nat) : (⟨(List.replicate n x.cps).foldl (· ++ ·) #[]⟩ : Str) = mk (List.replicate n x.cps.toList).flatten := by
  have go : ∀ (n : Nat) (acc : Array Nat), (List.replicate n x.cps).foldl (· ++ ·) acc = (acc.toList ++ (List.replicate n x.cps.toList).flatten).toArray := by
    intro n
    induction n with
    | zero => intro acc; simp
    | succ n ih =>
      intro acc
      rw [List.replicate_succ, List.foldl_cons, ih, List.replicate_succ, List.flatten_cons, Array.toList_append, List.append_assoc]
  rw [go]
  rfl
theorem flatten_len {α : Type} (l : List α) : ∀ n : Nat, ((List.replicate n l).flatten).length = n * l.length
  | 0 => by simp
  | n + 1 => by rw [List.replicate_succ, List.flatten_cons, List.length_append, flatten_len l n, Nat.succ_mul, Nat.add_comm]
theorem op_rep_str : OpR X (binaryOp .Mult) (fun x y H Q => ∃ s j, x = .str s ∧ y = .int j ∧ s.length * j.toNat ≤ sizeLine ∧ -(2 ^ 62) ≤ j ∧ j < 2 ^ 62 ∧ Q (.str (mk (List.replicate j.toNat s.cps.toList).flatten)) H) := by
  intro pins s σ H x y v u Q I rx ry h
  obtain ⟨z, j, rfl, rfl, hz, h1, h2, q⟩ := h
  obtain ⟨t, rfl⟩ := rx
  obtain ⟨t', rfl⟩ := ry
  have hs : sizeLine = 16777216 := sizeLine_eq
  by_cases hj : j < 1
  · refine PySem.P.mul_str_none hj (by omega) ⟨.str Str.empty, H, I.tok _, ⟨_, rfl⟩, ?_⟩
    have e : j.toNat = 0 := by omega
    rw [e] at q
    exact q
  · have hlen : z.length * j.toNat < 2 ^ 62 := by omega
    refine PySem.P.mul_str (by rw [decide_eq_false (by omega), decide_eq_false (by omega)]; rfl) (fun _ _ z0 => ?_) (fun _ _ => ?_) ?_
    · have hpos : 0 < j := by omega
      have h3 : (z.length : Int) * j ≤ 2 ^ 62 := by
        have e : ((j.toNat : Nat) : Int) = j := Int.toNat_of_nonneg (by omega)
        rw [← e]
        have := Int.ofNat_le.mpr (Nat.le_of_lt hlen)
        simpa using this
      have h4 : (z.length : Int) ≤ (2 ^ 63 - 1) / j := (Int.le_ediv_iff_mul_le hpos).mpr (by omega)
      omega
    · exact decide_eq_false (by omega)
    · rw [if_neg hj]
      rw [← Str.mul_list] at q
      by_cases hb : (j == 1 || z.length == 0) = true
      · rw [if_pos hb]
        refine ⟨.str z, H, I, ⟨t, rfl⟩, ?_⟩
        have e : (⟨(List.replicate j.toNat z.cps).foldl (· ++ ·) #[]⟩ : Str) = z := by
          rw [Str.mul_list]
          rcases Bool.or_eq_true _ _ ▸ hb with q1 | q1
          · have ej : j = 1 := by simpa using q1
            subst ej
            show mk (List.replicate 1 z.cps.toList).flatten = z
            simp [mk]
          · have ez : z.cps = #[] := Array.size_eq_zero_iff.mp (show z.length = 0 by simpa using q1)
            obtain ⟨c⟩ := z
            have ez' : c = #[] := ez
            subst ez'
            show mk (List.replicate j.toNat []).flatten = _
            simp [mk]
        rw [e] at q
        exact q
      · rw [if_neg hb]
        refine ⟨?_, .str _, H, I.tok _, ⟨_, rfl⟩, q⟩
        rw [Str.mul_list, mk_len, flatten_len]
        have : z.cps.toList.length = z.length := Array.length_toList
        rw [this, Nat.mul_comm]
        exact hz
theorem opd_add : OpR X (binaryOp .Add) (rD2 (XC X Γ) W oAdd) := opr fun w env st σ H x y a b Q r d1 d2 p => by
  cases a with
  | int i =>
    cases b with
    | int j => exact ⟨_, op_add, i, j, d1.int, d2.int, Post.ok r p (.int _)⟩
    | _ => exact p.elim
  | str i =>
    cases b with
    | str j =>
      rw [show oAdd (.str i) (.str j) st = if i.length + j.length ≤ sizeLine then .ok (.str (i ++ j)) st else .bad from rfl] at p
      split at p
      · rename_i hz
        exact ⟨_, op_add_str, i, j, d1.str, d2.str, hz, Post.ok r p (.str _)⟩
      · exact p.elim
    | _ => exact p.elim
  | tup i =>
    cases b with
    | tup j =>
      rw [show oAdd (.tup i) (.tup j) st = if i.length + j.length ≤ sizeLine then .ok (.tup (i ++ j)) st else .bad from rfl] at p
      split at p
      · rename_i hz
        obtain ⟨a1, v1, e1, q1, t1⟩ := d1.tup
        obtain ⟨a2, v2, e2, q2, t2⟩ := d2.tup
        refine ⟨_, op_catA, a1, a2, v1, v2, e1, e2, q1, q2, by rw [t1.length, t2.length]; exact hz, fun z => ?_, fun _ z => ?_, fun _ _ pp hp => ?_⟩
        · subst z
          cases t1
          exact Post.ok r p (.tup q2 t2)
        · subst z
          cases t2
          rw [List.append_nil] at p
          exact Post.ok r p (.tup q1 t1)
        · exact p.newTup r (t1.append t2) hp
      · exact p.elim
    | _ => exact p.elim
  | lst i =>
    cases b with
    | lst j =>
      rw [show oAdd (.lst i) (.lst j) st = if i.length + j.length ≤ sizeLine then .ok (.lst (i ++ j)) st else .bad from rfl] at p
      split at p
      · rename_i hz
        obtain ⟨a1, v1, e1, q1, n1, t1⟩ := d1.lst
        obtain ⟨a2, v2, e2, q2, n2, t2⟩ := d2.lst
        exact ⟨_, op_cat, a1, a2, v1, v2, e1, e2, q1, q2, by rw [t1.length, t2.length]; exact hz, fun pp hp => p.newLst r (t1.append t2) hp⟩
      · exact p.elim
    | _ => exact p.elim
  | _ => exact p.elim
end
end AM
namespace AM
open PySem PySem.Spec PyProof.Rows L2
mutual
def D.py : D → Option PyData
  | .non => some .none
  | .bl b => some (.bool b)
  | .int i => some (.int i)
  | .str s => some (.str s)
  | .tup ds => (pyL ds).map .tuple
  | .lst ds => (pyL ds).map .list
  | _ => none
def pyL : List D → Option (List PyData)
  | [] => some []
  | d :: ds => match D.py d, pyL ds with
    | some x, some xs => some (x :: xs)
    | _, _ => none
end
section
variable {K : Ct} {w : Wd} {H : Hp}
mutual
theorem Den.dp {ρ : List Addr} {S : Addr → Prop} : ∀ {d : D} {v : V} {x : PyData}, Den K ρ S H v d → d.py = some x → Dp K.K H v x
  | .non, _, _, .non, e => by cases e; exact .non
  | .bl _, _, _, .bl b, e => by cases e; exact .bl b
  | .int _, _, _, .int b, e => by cases e; exact .int b
  | .str _, _, _, .str b, e => by cases e; exact .str b
  | .tup ds, _, _, .tup h t, e => by
    unfold D.py at e
    cases q : pyL ds with
    | none => rw [q] at e; cases e
    | some xs => rw [q] at e; cases e; exact .tup h (Dens.dp t q)
  | .lst ds, _, _, .lst h _ t, e => by
    unfold D.py at e
    cases q : pyL ds with
    | none => rw [q] at e; cases e
    | some xs => rw [q] at e; cases e; exact .lst (.inl (.inl h)) (Dens.dp t q)
  | .ty _, _, _, .ty _, e => by cases e
  | .cls _, _, _, .cls _, e => by cases e
  | .fz _, _, _, .fz _ _, e => by cases e
  | .ins _ _, _, _, .ins _ _ _, e => by cases e
  | .hd _, _, _, .hd _, e => by cases e
theorem Dens.dp {ρ : List Addr} {S : Addr → Prop} : ∀ {ds : List D} {vs : List V} {xs : List PyData}, Dens K ρ S H vs ds → pyL ds = some xs → DpAll K.K H vs xs
  | [], _, _, .nil, e => by cases e; exact .nil
  | d :: ds, _, _, .cons h t, e => by
    unfold pyL at e
    cases q1 : d.py with
    | none => rw [q1] at e; cases e
    | some x =>
      cases q2 : pyL ds with
      | none => rw [q1, q2] at e; cases e
      | some xs => rw [q1, q2] at e; cases e; exact .cons (Den.dp h q1) (Dens.dp t q2)
end
theorem DenB.dp {d : D} {v : V} {x : PyData} (h : DenB K w.ρ w.S H v d) (e : d.py = some x) : Dp K.K H v x := by
  cases d with
  | lst ds =>
    obtain ⟨a, vs, rfl, q, _, t⟩ := h
    unfold D.py at e
    cases z : pyL ds with
    | none => rw [z] at e; cases e
    | some xs => rw [z] at e; cases e; exact .lst (.inl (.inl q)) (t.dp z)
  | _ => exact Den.dp (show Den K w.ρ w.S H v _ from h) e
end
def eqD (a b : D) : Option Bool := match a.py, b.py with
  | some x, some y => if (SeqAt.shaped x && SeqAt.shaped y) = true then some (PyData.eqv x y) else none
  | _, _ => none
def oOf (r : Option Bool) (st : Sto) : Res D := match r with
  | some b => .ok (.bl b) st
  | none => .bad
def oEq : Op2 := fun a b st => oOf (eqD a b) st
def oNe : Op2 := fun a b st => oOf ((eqD a b).map not) st
theorem eqD_some {a b : D} {r : Bool} (h : eqD a b = some r) : ∃ x y, a.py = some x ∧ b.py = some y ∧ SeqAt.shaped x = true ∧ SeqAt.shaped y = true ∧ r = PyData.eqv x y := by
  unfold eqD at h
  cases e1 : a.py with
  | none => rw [e1] at h; cases h
  | some x =>
    cases e2 : b.py with
    | none => rw [e1, e2] at h; cases h
    | some y =>
      rw [e1, e2] at h
      have h2 : (if (SeqAt.shaped x && SeqAt.shaped y) = true then some (PyData.eqv x y) else none) = some r := h
      split at h2
      · rename_i c
        obtain ⟨c1, c2⟩ := Bool.and_eq_true_iff.mp c
        exact ⟨x, y, rfl, rfl, c1, c2, (Option.some.inj h2).symm⟩
      · cases h2
def inStr (x z : Str) : Bool := match x.cps.toList with
  | [c] => decide (c ∈ z.cps.toList)
  | _ => !(Builtin.Str.occurrences z x 0 z.length 1).isEmpty
def inD (a b : D) : Option Bool := match b with
  | .str z => (match a with
    | .str x => some (inStr x z)
    | _ => none)
  | .tup ds => inSeq a ds
  | .lst ds => inSeq a ds
  | _ => none
where
  inSeq (a : D) (ds : List D) : Option Bool := match a.py, pyL ds with
    | some x, some xs => if (SeqAt.shaped x && SeqAt.shaped (.list xs)) = true then some (xs.any fun z => PyData.eqv z x) else none
    | _, _ => none
def oIn : Op2 := fun a b st => oOf (inD a b) st
def oNotIn : Op2 := fun a b st => oOf ((inD a b).map not) st
def D.isNon : D → Bool
  | .non => true
  | _ => false
def oIs : Op2 := fun a b st => match b with
  | .non => .ok (.bl a.isNon) st
  | _ => .bad
def oIsNot : Op2 := fun a b st => match b with
  | .non => .ok (.bl (!a.isNon)) st
  | _ => .bad
def ltStr (a b : Str) : Bool := decide (a.cps.toList < b.cps.toList)
def oLt : Op2 := fun a b st => match a, b with
  | .int i, .int j => .ok (.bl (decide (i < j))) st
  | .str i, .str j => .ok (.bl (ltStr i j)) st
  | _, _ => .bad
def oLe : Op2 := fun a b st => match a, b with
  | .int i, .int j => .ok (.bl (decide (i ≤ j))) st
  | .str i, .str j => .ok (.bl (!ltStr j i)) st
  | _, _ => .bad
def oGt : Op2 := fun a b st => match a, b with
  | .int i, .int j => .ok (.bl (decide (j < i))) st
  | .str i, .str j => .ok (.bl (ltStr j i)) st
  | _, _ => .bad
def oGe : Op2 := fun a b st => match a, b with
  | .int i, .int j => .ok (.bl (decide (j ≤ i))) st
  | .str i, .str j => .ok (.bl (!ltStr i j)) st
  | _, _ => .bad
section
variable {X : Cx} {Γ : Nat → Addr} {W : WX}
theorem opd_int {f : Value → Value → Sem Value} {k : Op2} {g : Int → Int → Int} (ho : OpR X f (rI0 fun i j => .int (g i j))) (h1 : ∀ i j st, k (.int i) (.int j) st = .ok (.int (g i j)) st)
    (h2 : ∀ a b st, (∃ i j, a = .int i ∧ b = .int j) ∨ k a b st = .bad) : OpR X f (rD2 (XC X Γ) W k) := opr fun w env st σ H x y a b Q r d1 d2 p => by
  rcases h2 a b st with ⟨i, j, rfl, rfl⟩ | e
  · rw [h1] at p
    exact ⟨_, ho, i, j, d1.int, d2.int, Post.ok r p (.int _)⟩
  · rw [e] at p; exact p.elim
theorem opd_sub : OpR X (binaryOp .Sub) (rD2 (XC X Γ) W oSub) := opd_int op_sub (fun _ _ _ => rfl) fun a b st => by
  cases a <;> cases b <;> first | exact .inl ⟨_, _, rfl, rfl⟩ | exact .inr rfl
theorem opd_mul : OpR X (binaryOp .Mult) (rD2 (XC X Γ) W oMul) := opr fun w env st σ H x y a b Q r d1 d2 p => by
  cases a with
  | int i =>
    cases b with
    | int j =>
      rw [show oMul (.int i) (.int j) st = if (small64 i || small64 j) = true then .ok (.int (i * j)) st else .bad from rfl] at p
      split at p
      · rename_i hz
        refine ⟨_, op_mul, i, j, d1.int, d2.int, ?_, Post.ok r p (.int _)⟩
        unfold small64 at hz
        rcases Bool.or_eq_true _ _ ▸ hz with q | q
        · obtain ⟨q1, q2⟩ := Bool.and_eq_true_iff.mp q
          exact .inl ⟨of_decide_eq_true q1, of_decide_eq_true q2⟩
        · obtain ⟨q1, q2⟩ := Bool.and_eq_true_iff.mp q
          exact .inr ⟨of_decide_eq_true q1, of_decide_eq_true q2⟩
      · exact p.elim
    | _ => exact p.elim
  | str s =>
    cases b with
    | int j =>
      rw [show oMul (.str s) (.int j) st = if s.length * j.toNat ≤ sizeLine ∧ -(2 ^ 62) ≤ j ∧ j < 2 ^ 62 then .ok (.str (mk (List.replicate j.toNat s.cps.toList).flatten)) st else .bad from rfl] at p
      split at p
      · rename_i hz
        exact ⟨_, op_rep_str, s, j, d1.str, d2.int, hz.1, hz.2.1, hz.2.2, Post.ok r p (.str _)⟩
      · exact p.elim
    | _ => exact p.elim
  | lst s =>
    cases b with
    | int j =>
      rw [show oMul (.lst s) (.int j) st = if s.length * j.toNat ≤ sizeLine ∧ -(2 ^ 63) ≤ j ∧ j < 2 ^ 63 then .ok (.lst (List.replicate j.toNat s).flatten) st else .bad from rfl] at p
      split at p
      · rename_i hz
        obtain ⟨a1, v1, e1, q1, n1, t1⟩ := d1.lst
        refine ⟨_, op_rep, a1, j, v1, e1, d2.int, q1, hz.2.1, hz.2.2, by rw [t1.length]; exact hz.1, fun pp hp => p.newLst r (vs := (List.replicate j.toNat v1).flatten) ?_ hp⟩
        clear p
        generalize j.toNat = n
        induction n with
        | zero => exact .nil
        | succ n ih => rw [List.replicate_succ, List.replicate_succ, List.flatten_cons, List.flatten_cons]; exact t1.append ih
      · exact p.elim
    | _ => exact p.elim
  | _ => exact p.elim
theorem opd_div : OpR X (binaryOp .FloorDiv) (rD2 (XC X Γ) W oDiv) := opr fun w env st σ H x y a b Q r d1 d2 p => by
  cases a with
  | int i =>
    cases b with
    | int j =>
      rw [show oDiv (.int i) (.int j) st = if 0 < j ∧ j < 1073741824 then .ok (.int (i / j)) st else .bad from rfl] at p
      split at p
      · rename_i hz
        exact ⟨_, op_fdiv, i, j, d1.int, d2.int, hz, Post.ok r p (.int _)⟩
      · exact p.elim
    | _ => exact p.elim
  | _ => exact p.elim
theorem opd_mod : OpR X (binaryOp .Mod) (rD2 (XC X Γ) W oMod) := opr fun w env st σ H x y a b Q r d1 d2 p => by
  cases a with
  | int i =>
    cases b with
    | int j =>
      rw [show oMod (.int i) (.int j) st = if 0 < j then .ok (.int (i % j)) st else .bad from rfl] at p
      split at p
      · rename_i hz
        exact ⟨_, op_mod, i, j, d1.int, d2.int, hz, Post.ok r p (.int _)⟩
      · exact p.elim
    | _ => exact p.elim
  | _ => exact p.elim
theorem opd_pow : OpR X (binaryOp .Pow) (rD2 (XC X Γ) W oPow) := opr fun w env st σ H x y a b Q r d1 d2 p => by
  cases a with
  | int i =>
    cases b with
    | int j =>
      rw [show oPow (.int i) (.int j) st = if 0 ≤ j ∧ j ≤ 1000000 ∧ i.natAbs < 2 ^ 64 then .ok (.int (i ^ j.toNat)) st else .bad from rfl] at p
      split at p
      · rename_i hz
        exact ⟨_, op_pow, i, j, d1.int, d2.int, hz, Post.ok r p (.int _)⟩
      · exact p.elim
    | _ => exact p.elim
  | _ => exact p.elim
theorem opd_eq (hu : X.A.units + 64 < cLine) : OpR X (compareOp .Eq) (rD2 (XC X Γ) W oEq) := opr fun w env st σ H x y a b Q r d1 d2 p => by
  cases e : eqD a b with
  | none => rw [show oEq a b st = oOf (eqD a b) st from rfl, e] at p; exact p.elim
  | some v =>
    rw [show oEq a b st = oOf (eqD a b) st from rfl, e] at p
    obtain ⟨dx, dy, e1, e2, s1, s2, rfl⟩ := eqD_some e
    exact ⟨_, op_eqD hu, dx, dy, d1.dp e1, d2.dp e2, s1, s2, Post.ok r p (.bl _)⟩
theorem opd_ne (hu : X.A.units + 64 < cLine) : OpR X (compareOp .NotEq) (rD2 (XC X Γ) W oNe) := opr fun w env st σ H x y a b Q r d1 d2 p => by
  cases e : eqD a b with
  | none => rw [show oNe a b st = oOf ((eqD a b).map not) st from rfl, e] at p; exact p.elim
  | some v =>
    rw [show oNe a b st = oOf ((eqD a b).map not) st from rfl, e] at p
    obtain ⟨dx, dy, e1, e2, s1, s2, rfl⟩ := eqD_some e
    exact ⟨_, op_neD hu, dx, dy, d1.dp e1, d2.dp e2, s1, s2, Post.ok r p (.bl _)⟩
end
end AM
namespace AM
open PySem PySem.Spec PyProof.Rows L2
section
variable {X : Cx} {Γ : Nat → Addr} {W : WX}
def rInT (K : PySem.W.Frag) (neg : Bool) : R2 := fun x y H Q => ∃ d ds, Dp K H x d ∧ Dp K H y (.tuple ds) ∧ SeqAt.shaped d = true ∧ Q (.bl (neg ^^ ds.any fun z => PyData.eqv z d)) H ∧ SeqAt.shaped (.list ds) = true
theorem op_inTup (hu : X.A.units + 65 < cLine) : OpR X (compareOp .In) (rInT X.K false) := fun pins s σ H x y v u Q I rx ry ⟨d, ds, hd, he, sd, q, se⟩ => by
  obtain ⟨as, h1⟩ := hd.reads I d x v rx
  obtain ⟨bs, h2⟩ := he.reads I _ y u ry
  rw [Bool.false_xor] at q
  exact SeqAt.in_tuple_reads h2 h1 (SeqAt.canLay_of_shaped se) (SeqAt.canLay_of_shaped sd) (PyProof.Rows.room_in_shaped sd hu) ⟨V.bl _, H, I, rfl, q⟩
theorem op_notInTup (hu : X.A.units + 65 < cLine) : OpR X (compareOp .NotIn) (rInT X.K true) := fun pins s σ H x y v u Q I rx ry ⟨d, ds, hd, he, sd, q, se⟩ => by
  obtain ⟨as, h1⟩ := hd.reads I d x v rx
  obtain ⟨bs, h2⟩ := he.reads I _ y u ry
  rw [Bool.true_xor] at q
  exact SeqAt.notIn_tuple_reads h2 h1 (SeqAt.canLay_of_shaped se) (SeqAt.canLay_of_shaped sd) (PyProof.Rows.room_in_shaped sd hu) ⟨V.bl _, H, I, rfl, q⟩
theorem inSeq_some {a : D} {ds : List D} {r : Bool} (h : inD.inSeq a ds = some r) : ∃ x xs, a.py = some x ∧ pyL ds = some xs ∧ SeqAt.shaped x = true ∧ SeqAt.shaped (.list xs) = true ∧ r = xs.any fun z => PyData.eqv z x := by
  unfold inD.inSeq at h
  cases e1 : a.py with
  | none => rw [e1] at h; cases h
  | some x =>
    cases e2 : pyL ds with
    | none => rw [e1, e2] at h; cases h
    | some y =>
      rw [e1, e2] at h
      have h2 : (if (SeqAt.shaped x && SeqAt.shaped (.list y)) = true then some (y.any fun z => PyData.eqv z x) else none) = some r := h
      split at h2
      · rename_i c
        obtain ⟨c1, c2⟩ := Bool.and_eq_true_iff.mp c
        exact ⟨x, y, rfl, rfl, c1, c2, (Option.some.inj h2).symm⟩
      · cases h2
theorem inStr_one {x z : Str} {c : Nat} (h : x.cps.toList = [c]) : x = ⟨#[c]⟩ ∧ inStr x z = decide (c ∈ z.cps.toList) := by
  refine ⟨?_, by unfold inStr; rw [h]⟩
  obtain ⟨a⟩ := x
  show (⟨a⟩ : Str) = ⟨#[c]⟩
  congr 1
  exact Array.toList_inj.mp (by rw [show a.toList = [c] from h])
theorem inStr_many {x z : Str} (h : ∀ c, x.cps.toList ≠ [c]) : inStr x z = !(Builtin.Str.occurrences z x 0 z.length 1).isEmpty := by
  unfold inStr
  split
  · rename_i c e
    exact absurd e (h c)
  · rfl
theorem opd_inG {f : Value → Value → Sem Value} {k : Op2} {neg : Bool} (hk : ∀ a b st, k a b st = oOf ((inD a b).map fun r => neg ^^ r) st)
    (h1 : OpR X f fun x y H Q => ∃ (c : Nat) (z : Str), x = .str ⟨#[c]⟩ ∧ y = .str z ∧ Q (.bl (neg ^^ decide (c ∈ z.cps.toList))) H)
    (h2 : OpR X f fun x y H Q => ∃ i j : Str, x = .str i ∧ y = .str j ∧ Q (.bl (neg ^^ !(Builtin.Str.occurrences j i 0 j.length 1).isEmpty)) H)
    (h3 : OpR X f fun x y H Q => ∃ d ds, Dp X.K H x d ∧ Dp X.K H y (.list ds) ∧ SeqAt.shaped d = true ∧ SeqAt.shaped (.list ds) = true ∧ Q (.bl (neg ^^ ds.any fun z => PyData.eqv z d)) H)
    (h4 : OpR X f (rInT X.K neg)) : OpR X f (rD2 (XC X Γ) W k) := opr fun w env st σ H x y a b Q r d1 d2 p => by
  rw [hk] at p
  cases e : inD a b with
  | none => rw [e] at p; exact p.elim
  | some v =>
    rw [e] at p
    have p : Post Den (XC X Γ) W w H σ (.ok (.bl (neg ^^ v)) st) Q := p
    cases b with
    | str z =>
      cases a with
      | str s =>
        have e : v = inStr s z := (Option.some.inj (show some (inStr s z) = some v from e)).symm
        by_cases c : ∃ c, s.cps.toList = [c]
        · obtain ⟨c, hc⟩ := c
          obtain ⟨e1, e2⟩ := inStr_one (z := z) hc
          exact ⟨_, h1, c, z, by rw [← e1]; exact d1.str, d2.str, by rw [← e2, ← e]; exact Post.ok r p (.bl _)⟩
        · have e2 := inStr_many (z := z) fun k hk => c ⟨k, hk⟩
          exact ⟨_, h2, s, z, d1.str, d2.str, by rw [← e2, ← e]; exact Post.ok r p (.bl _)⟩
      | _ => cases e
    | tup ds =>
      obtain ⟨dx, xs, e1, e2, s1, s2, rfl⟩ := inSeq_some (show inD.inSeq a ds = some v from e)
      exact ⟨_, h4, dx, xs, d1.dp e1, d2.dp (show D.py (.tup ds) = some (.tuple xs) by unfold D.py; rw [e2] <;> rfl), s1, Post.ok r p (.bl _), s2⟩
    | lst ds =>
      obtain ⟨dx, xs, e1, e2, s1, s2, rfl⟩ := inSeq_some (show inD.inSeq a ds = some v from e)
      exact ⟨_, h3, dx, xs, d1.dp e1, d2.dp (show D.py (.lst ds) = some (.list xs) by unfold D.py; rw [e2] <;> rfl), s1, s2, Post.ok r p (.bl _)⟩
    | _ => cases e
theorem oprImp {f : Value → Value → Sem Value} {r r' : R2} (h : OpR X f r) (i : ∀ x y H Q, r' x y H Q → r x y H Q) : OpR X f r' := fun pins s σ H x y v u Q I rx ry q => h pins s σ H x y v u Q I rx ry (i _ _ _ _ q)
theorem opd_in (hu : X.A.units + 65 < cLine) : OpR X (compareOp .In) (rD2 (XC X Γ) W oIn) := opd_inG (neg := false) (fun a b st => by unfold oIn; congr 1; cases inD a b <;> simp)
  (oprImp op_in_sign fun x y H Q ⟨c, z, a, b, q⟩ => ⟨c, z, a, b, by rw [Bool.false_xor] at q; exact q⟩)
  (oprImp op_in_str fun x y H Q ⟨c, z, a, b, q⟩ => ⟨c, z, a, b, by rw [Bool.false_xor] at q; exact q⟩)
  (oprImp (op_inD hu) fun x y H Q ⟨d, ds, a, b, c, e, q⟩ => ⟨d, ds, a, b, c, e, by rw [Bool.false_xor] at q; exact q⟩) (op_inTup hu)
theorem opd_notIn (hu : X.A.units + 65 < cLine) : OpR X (compareOp .NotIn) (rD2 (XC X Γ) W oNotIn) := opd_inG (neg := true) (fun a b st => by unfold oNotIn; congr 1; cases inD a b <;> simp)
  (oprImp op_notIn_sign fun x y H Q ⟨c, z, a, b, q⟩ => ⟨c, z, a, b, by rw [Bool.true_xor] at q; exact q⟩)
  (oprImp L2.op_notIn_str fun x y H Q ⟨c, z, a, b, q⟩ => ⟨c, z, a, b, by rw [Bool.true_xor] at q; exact q⟩)
  (oprImp (op_notInD hu) fun x y H Q ⟨d, ds, a, b, c, e, q⟩ => ⟨d, ds, a, b, c, e, by rw [Bool.true_xor] at q; exact q⟩) (op_notInTup hu)
theorem isNon_of {K : Ct} {w : Wd} {H : Hp} {v : V} {d : D} (h : DenB K w.ρ w.S H v d) : decide (v = .non) = d.isNon := by
  cases d with
  | lst ds => obtain ⟨a, vs, rfl, _⟩ := h; rfl
  | _ =>
    have q : Den K w.ρ w.S H v _ := h
    cases q <;> rfl
theorem opd_is : OpR X (compareOp .Is) (rD2 (XC X Γ) W oIs) := opr fun w env st σ H x y a b Q r d1 d2 p => by
  cases b with
  | non => exact ⟨_, op_isN, d2.non, by rw [isNon_of d1]; exact Post.ok r p (.bl _)⟩
  | _ => exact p.elim
theorem opd_isNot : OpR X (compareOp .IsNot) (rD2 (XC X Γ) W oIsNot) := opr fun w env st σ H x y a b Q r d1 d2 p => by
  cases b with
  | non => exact ⟨_, op_notN, d2.non, by rw [isNon_of d1]; exact Post.ok r p (.bl _)⟩
  | _ => exact p.elim
theorem opd_lt : OpR X (compareOp .Lt) (rD2 (XC X Γ) W oLt) := opr fun w env st σ H x y a b Q r d1 d2 p => by
  cases a with
  | int i =>
    cases b with
    | int j => exact ⟨_, op_lt, i, j, d1.int, d2.int, Post.ok r p (.bl _)⟩
    | _ => exact p.elim
  | str i =>
    cases b with
    | str j => exact ⟨_, op_lt_str, i, j, d1.str, d2.str, Post.ok r p (.bl _)⟩
    | _ => exact p.elim
  | _ => exact p.elim
theorem opd_le : OpR X (compareOp .LtE) (rD2 (XC X Γ) W oLe) := opr fun w env st σ H x y a b Q r d1 d2 p => by
  cases a with
  | int i =>
    cases b with
    | int j => exact ⟨_, op_le, i, j, d1.int, d2.int, Post.ok r p (.bl _)⟩
    | _ => exact p.elim
  | str i =>
    cases b with
    | str j => exact ⟨_, op_le_str, i, j, d1.str, d2.str, Post.ok r p (.bl _)⟩
    | _ => exact p.elim
  | _ => exact p.elim
theorem opd_gt : OpR X (compareOp .Gt) (rD2 (XC X Γ) W oGt) := opr fun w env st σ H x y a b Q r d1 d2 p => by
  cases a with
  | int i =>
    cases b with
    | int j => exact ⟨_, op_gt, i, j, d1.int, d2.int, Post.ok r p (.bl _)⟩
    | _ => exact p.elim
  | str i =>
    cases b with
    | str j => exact ⟨_, op_gt_str, i, j, d1.str, d2.str, Post.ok r p (.bl _)⟩
    | _ => exact p.elim
  | _ => exact p.elim
theorem opd_ge : OpR X (compareOp .GtE) (rD2 (XC X Γ) W oGe) := opr fun w env st σ H x y a b Q r d1 d2 p => by
  cases a with
  | int i =>
    cases b with
    | int j => exact ⟨_, op_ge, i, j, d1.int, d2.int, Post.ok r p (.bl _)⟩
    | _ => exact p.elim
  | str i =>
    cases b with
    | str j => exact ⟨_, op_ge_str, i, j, d1.str, d2.str, Post.ok r p (.bl _)⟩
    | _ => exact p.elim
  | _ => exact p.elim
end
section
variable {X : Cx} {Γ : Nat → Addr} {W : WX} {e a b c : Expr} {f fa fb fc : EF} {g ga gb : TF} {pos : Pos} {op op' : CmpOp} {k k' : Op2} {rest : List Expr}
theorem pd_cmp (ho : OpR X (compareOp op) (rD2 (XC X Γ) W k)) (ha : PE X a (tDB (XC X Γ) W fa)) (hb : PE X b (tDB (XC X Γ) W fb)) (hm : behindInMarks op b = false := by first | exact nomark _ | rfl | with_unfolding_all rfl) : PE X (.Compare a [op] [b] pos) (tD (XC X Γ) W (dOp2 k fa fb)) :=
  peImp (pe_cmpR ho ha hb hm) fun _ _ _ h => dOp2_ok h fun _ _ _ _ q => q
def truD : D → Option Bool
  | .non => some false
  | .bl b => some b
  | .int i => some (i != 0)
  | .str s => if s.length ≤ sizeLine then some ((s.length : Int) != 0) else none
  | .tup ds => some (!ds.isEmpty)
  | .lst ds => some (!ds.isEmpty)
  | _ => none
def bOf (r : Option Bool) (st : Sto) : Res Bool := match r with
  | some b => .ok b st
  | none => .bad
def gTru (f : EF) : TF := fun env st => (f env st).bind fun d st => bOf (truD d) st
theorem Dens.isEmpty {K : Ct} {ρ : List Addr} {S : Addr → Prop} {H : Hp} {vs : List V} {ds : List D} (h : Dens K ρ S H vs ds) : vs.isEmpty = ds.isEmpty := by
  cases h <;> rfl
theorem pt_tru (h : PE X a (tDB (XC X Γ) W f)) (he : ∀ whole, isTrue a X.env whole = (do let v ← whole; standAt a.pos; holding [v] (truthy v)) := by intro _; rfl) : PT X a (tT (XC X Γ) W (gTru f)) :=
  ptImp (pt_truth h he) fun σ H Q hq => by
    obtain ⟨w, env, st, r, p⟩ := t1 (Da := DenB) hq
    refine ⟨w, env, st, r, p.mono ?_⟩
    rintro x H1 ⟨w1, env1, st1, d, r1, d1, p1⟩
    cases e : truD d with
    | none => rw [e] at p1; exact p1.elim
    | some k =>
      rw [e] at p1
      refine ⟨k, ?_, Post.ok (Da := dnB) (x := k) r1 p1 rfl⟩
      cases d with
      | non => rw [d1.non]; exact (Option.some.inj e).symm
      | bl i => rw [d1.bl]; exact (Option.some.inj e).symm
      | int i => rw [d1.int]; exact (Option.some.inj e).symm
      | str s =>
        rw [d1.str]
        unfold truD at e
        dsimp only at e
        split at e
        · rename_i hz
          exact ⟨hz, (Option.some.inj e).symm⟩
        · cases e
      | tup ds =>
        obtain ⟨a, vs, rfl, q, t⟩ := d1.tup
        exact .inr (.inl ⟨vs, q, by rw [t.isEmpty]; exact (Option.some.inj e).symm⟩)
      | lst ds =>
        obtain ⟨a, vs, rfl, q, _, t⟩ := d1.lst
        exact .inl ⟨vs, SqL.of q, by rw [t.isEmpty]; exact (Option.some.inj e).symm⟩
      | _ => cases e
def gBl (f : EF) : TF := fun env st => (f env st).bind fun d st => match d with
  | .bl b => .ok b st
  | _ => .bad
theorem gBl_ok {K : Ct} {t : TE} {σ : St} {H : Hp} {Q : Bool → Hp → Prop} (h : tT K W (gBl f) σ H Q) : tD K W f σ H fun x H1 => ∃ k, x = .bl k ∧ Q k H1 := by
  obtain ⟨w, env, st, r, p⟩ := t1 (Da := Den) h
  refine ⟨w, env, st, r, p.mono ?_⟩
  rintro x H1 ⟨w1, env1, st1, d, r1, d1, p1⟩
  cases d with
  | bl b => exact ⟨b, DenB.bl (w := w1) d1.b, Post.ok (Da := dnB) (x := b) r1 p1 rfl⟩
  | _ => exact p1.elim
theorem pt_cmp (ho : OpR X (compareOp op) (rD2 (XC X Γ) W k)) (ha : PE X a (tDB (XC X Γ) W fa)) (hb : PE X b (tDB (XC X Γ) W fb)) (hm : behindInMarks op b = false := by first | exact nomark _ | rfl | with_unfolding_all rfl) : PT X (.Compare a [op] [b] pos) (tT (XC X Γ) W (gBl (dOp2 k fa fb))) :=
  ptImp (pt_cmpR ho ha hb hm) fun σ H Q h => dOp2_ok (gBl_ok (t := tD (XC X Γ) W (dOp2 k fa fb)) h) fun _ _ _ _ q => q
def dChain (k k' : Op2) (fa fb fc : EF) : EF := fun env st => (fa env st).bind fun a st1 => (fb env st1).bind fun b st2 => (k a b st2).bind fun r st3 => match r with
  | .bl true => (fc env st3).bind fun c st4 => k' b c st4
  | .bl false => .ok (.bl false) st3
  | _ => .bad
theorem dChain_ok {K : Ct} {r r' : R2} {σ : St} {H : Hp} {Q : VK} (h : tD K W (dChain k k' fa fb fc) σ H Q) (i : ∀ x y H Q, rD2 K W k x y H Q → r x y H Q) (i' : ∀ x y H Q, rD2 K W k' x y H Q → r' x y H Q) :
    tChain r r' (tDB K W fa) (tDB K W fb) (tDB K W fc) σ H Q := by
  obtain ⟨w, env, st, rl, p⟩ := t2 (Da := DenB) (Db := DenB) (g := fun env a st => fb env st) (k := fun env a b st2 => (k a b st2).bind fun r st3 => match r with
    | .bl true => (fc env st3).bind fun c st4 => k' b c st4
    | .bl false => .ok (.bl false) st3
    | _ => .bad) lastsDB h
  refine ⟨w, env, st, rl, p.mono ?_⟩
  rintro x H1 ⟨w1, env1, st1, a, r1, d1, p1⟩
  refine ⟨w1, env1, st1, r1, p1.mono ?_⟩
  rintro y H2 ⟨w2, st2, b, r2, d2, d3, p2⟩
  refine i _ _ _ _ ⟨w2, env1, st2, σ, a, b, r2, d2, d3, (Post.bind (Da := Den) r2 p2).mono ?_⟩
  rintro z H3 ⟨w3, st3, c, r3, e3, x3, d4, p3⟩
  have d3' := lastsDB r2 e3 x3 d3
  cases c with
  | bl v =>
    refine ⟨v, DenB.bl (w := w3) d4.b, ?_⟩
    cases v with
    | true =>
      rw [if_pos rfl]
      refine ⟨w3, env1, st3, r3, (Post.bind (Da := DenB) r3 p3).mono ?_⟩
      rintro z2 H4 ⟨w4, st4, c2, r4, e4, x4, d5, p4⟩
      exact i' _ _ _ _ ⟨w4, env1, st4, σ, b, c2, r4, lastsDB r3 e4 x4 d3', d5, p4⟩
    | false =>
      rw [if_neg Bool.false_ne_true]
      exact Post.ok r3 p3 (.bl _)
  | _ => exact p3.elim
theorem pd_chain (ho : OpR X (compareOp op) (rD2 (XC X Γ) W k)) (ho' : OpR X (compareOp op') (rD2 (XC X Γ) W k')) (ha : PE X a (tDB (XC X Γ) W fa)) (hb : PE X b (tDB (XC X Γ) W fb)) (hc : PE X c (tDB (XC X Γ) W fc)) (hm : lastMarks [op, op'] [b, c] = false := by with_unfolding_all rfl) :
    PE X (.Compare a [op, op'] [b, c] pos) (tD (XC X Γ) W (dChain k k' fa fb fc)) := peImp (pe_chain ho ho' ha hb hc hm) fun σ H Q h => dChain_ok h (fun _ _ _ _ q => q) fun _ _ _ _ q => q
theorem pt_chainD (ho : OpR X (compareOp op) (rD2 (XC X Γ) W k)) (ho' : OpR X (compareOp op') (rD2 (XC X Γ) W k')) (ha : PE X a (tDB (XC X Γ) W fa)) (hb : PE X b (tDB (XC X Γ) W fb)) (hc : PE X c (tDB (XC X Γ) W fc)) (hm : lastMarks [op, op'] [b, c] = false := by with_unfolding_all rfl) :
    PT X (.Compare a [op, op'] [b, c] pos) (tT (XC X Γ) W (gBl (dChain k k' fa fb fc))) := ptImp (pt_chain ho ho' ha hb hc hm) fun σ H Q h => dChain_ok (gBl_ok (t := tD (XC X Γ) W (dChain k k' fa fb fc)) h) (fun _ _ _ _ q => q) fun _ _ _ _ q => q
def gAnd (g h : TF) : TF := fun env st => (g env st).bind fun b st => if b = true then h env st else .ok false st
def gOr (g h : TF) : TF := fun env st => (g env st).bind fun b st => if b = true then .ok true st else h env st
def gNot (g : TF) : TF := fun env st => (g env st).bind fun b st => .ok (!b) st
theorem pwd1 {t : TT} (h : PT X a t) (op : BoolOp) : PW X (.BoolOp op [a] pos) t := by
  cases op with
  | And => exact pw_and1 h
  | Or => exact pw_or1 h
theorem pwd_and (ha : PT X a (tT (XC X Γ) W ga)) (hb : PW X (.BoolOp .And (b :: rest) pos) (tT (XC X Γ) W gb)) : PW X (.BoolOp .And (a :: b :: rest) pos) (tT (XC X Γ) W (gAnd ga gb)) := pwImp (pw_and ha hb) fun σ H Q h => by
  obtain ⟨w, env, st, r, p⟩ := t1 (Da := dnB) h
  refine ⟨w, env, st, r, p.mono ?_⟩
  rintro x H1 ⟨w1, env1, st1, d, r1, d1, p1⟩
  cases (show x = d from d1)
  cases x with
  | true =>
    rw [if_pos rfl] at p1 ⊢
    exact ⟨w1, env1, st1, r1, p1⟩
  | false =>
    rw [if_neg Bool.false_ne_true] at p1 ⊢
    exact Post.ok (Da := dnB) (x := false) r1 p1 rfl
theorem pwd_or (ha : PT X a (tT (XC X Γ) W ga)) (hb : PW X (.BoolOp .Or (b :: rest) pos) (tT (XC X Γ) W gb)) : PW X (.BoolOp .Or (a :: b :: rest) pos) (tT (XC X Γ) W (gOr ga gb)) := pwImp (pw_or ha hb) fun σ H Q h => by
  obtain ⟨w, env, st, r, p⟩ := t1 (Da := dnB) h
  refine ⟨w, env, st, r, p.mono ?_⟩
  rintro x H1 ⟨w1, env1, st1, d, r1, d1, p1⟩
  cases (show x = d from d1)
  cases x with
  | true =>
    rw [if_pos rfl] at p1 ⊢
    exact Post.ok (Da := dnB) (x := true) r1 p1 rfl
  | false =>
    rw [if_neg Bool.false_ne_true] at p1 ⊢
    exact ⟨w1, env1, st1, r1, p1⟩
theorem ptd_not (ha : PT X a (tT (XC X Γ) W ga)) : PT X (.UnaryOp .Not a pos) (tT (XC X Γ) W (gNot ga)) := ptImp (pt_not ha) fun σ H Q h => by
  obtain ⟨w, env, st, r, p⟩ := t1 (Da := dnB) h
  refine ⟨w, env, st, r, p.mono ?_⟩
  rintro x H1 ⟨w1, env1, st1, d, r1, d1, p1⟩
  cases (show x = d from d1)
  exact Post.ok (Da := dnB) (x := !x) r1 p1 rfl
def dAnd (f g : EF) : EF := fun env st => (f env st).bind fun d st => match d with
  | .bl true => g env st
  | .bl false => .ok (.bl false) st
  | _ => .bad
def dOr (f g : EF) : EF := fun env st => (f env st).bind fun d st => match d with
  | .bl true => .ok (.bl true) st
  | .bl false => g env st
  | _ => .bad
def dNot (f : EF) : EF := fun env st => (f env st).bind fun d st => match d with
  | .bl b => .ok (.bl (!b)) st
  | _ => .bad
theorem pd_one {op : BoolOp} {t : TE} (h : PE X a t) : PE X (.BoolOp op [a] pos) t := pe_one h
theorem pd_and (ha : PE X a (tD (XC X Γ) W fa)) (hb : PE X (.BoolOp .And (b :: rest) pos) (tD (XC X Γ) W fb)) : PE X (.BoolOp .And (a :: b :: rest) pos) (tD (XC X Γ) W (dAnd fa fb)) := peImp (pe_and ha hb) fun σ H Q h => by
  obtain ⟨w, env, st, r, p⟩ := t1 (Da := Den) h
  refine ⟨w, env, st, r, p.mono ?_⟩
  rintro x H1 ⟨w1, env1, st1, d, r1, d1, p1⟩
  cases d with
  | bl v =>
    refine ⟨v, DenB.bl (w := w1) d1.b, ?_⟩
    cases v with
    | true =>
      rw [if_pos rfl]
      exact ⟨w1, env1, st1, r1, p1⟩
    | false =>
      rw [if_neg Bool.false_ne_true]
      exact Post.ok r1 p1 (.bl _)
  | _ => exact p1.elim
theorem pd_not (ha : PE X a (tD (XC X Γ) W fa)) : PE X (.UnaryOp .Not a pos) (tD (XC X Γ) W (dNot fa)) := peImp (pe_not ha) fun σ H Q h => by
  obtain ⟨w, env, st, r, p⟩ := t1 (Da := Den) h
  refine ⟨w, env, st, r, p.mono ?_⟩
  rintro x H1 ⟨w1, env1, st1, d, r1, d1, p1⟩
  cases d with
  | bl v => exact ⟨v, DenB.bl (w := w1) d1.b, Post.ok r1 p1 (.bl _)⟩
  | _ => exact p1.elim
def dIf (g : TF) (f h : EF) : EF := fun env st => (g env st).bind fun b st => if b = true then f env st else h env st
theorem pd_if (hc : PT X c (tT (XC X Γ) W g)) (ha : PE X a (tD (XC X Γ) W fa)) (hb : PE X b (tD (XC X Γ) W fb)) : PE X (.IfExp c a b pos) (tD (XC X Γ) W (dIf g fa fb)) := peImp (pe_ifExp hc ha hb) fun σ H Q h => by
  obtain ⟨w, env, st, r, p⟩ := t1 (Da := dnB) h
  refine ⟨w, env, st, r, p.mono ?_⟩
  rintro x H1 ⟨w1, env1, st1, d, r1, d1, p1⟩
  cases (show x = d from d1)
  cases x with
  | true =>
    rw [if_pos rfl] at p1 ⊢
    exact ⟨w1, env1, st1, r1, p1⟩
  | false =>
    rw [if_neg Bool.false_ne_true] at p1 ⊢
    exact ⟨w1, env1, st1, r1, p1⟩
def dNeg (f : EF) : EF := fun env st => (f env st).bind fun d st => match d with
  | .int i => .ok (.int (-i)) st
  | _ => .bad
theorem pd_neg (ha : PE X a (tD (XC X Γ) W fa)) : PE X (.UnaryOp .USub a pos) (tD (XC X Γ) W (dNeg fa)) := peImp (pe_un un_neg ha) fun σ H Q h => by
  obtain ⟨w, env, st, r, p⟩ := t1 (Da := Den) h
  refine ⟨w, env, st, r, p.mono ?_⟩
  rintro x H1 ⟨w1, env1, st1, d, r1, d1, p1⟩
  cases d with
  | int v => exact ⟨v, DenB.int (w := w1) d1.b, Post.ok r1 p1 (.int _)⟩
  | _ => exact p1.elim
end
end AM
namespace AM
open PySem PySem.Spec PyProof.Rows L2
section
variable {X : Cx} {Γ : Nat → Addr} {W : WX} {e a b c : Expr} {es : List Expr} {f fa fb fc : EF} {fs : EFs} {pos : Pos}
def dNil : EFs := fun _ st => .ok [] st
def dCons (f : EF) (fs : EFs) : EFs := fun env st => (f env st).bind fun d st1 => (fs env st1).bind fun ds st2 => .ok (d :: ds) st2
theorem pad_nil : PA X [] (tDs (XC X Γ) W dNil) := paImp pa_nil fun σ H Q ⟨w, env, st, r, p⟩ => Post.ok (Da := Dens) r p .nil
theorem pad_cons (ha : PE X e (tD (XC X Γ) W f)) (hr : PA X es (tDs (XC X Γ) W fs)) (hs : starEach (e :: es) X.env = (false, eval e X.env) :: starEach es X.env := by rfl) : PA X (e :: es) (tDs (XC X Γ) W (dCons f fs)) :=
  paImp (pa_cons ha hr hs) fun σ H Q h => by
    obtain ⟨w, env, st, rl, p⟩ := t2 (Da := Den) (Db := Dens) (g := fun env a st => fs env st) (k := fun env a b st => .ok (a :: b) st) lastsD h
    refine ⟨w, env, st, rl, p.mono ?_⟩
    rintro x H1 ⟨w1, env1, st1, a, r1, d1, p1⟩
    refine ⟨w1, env1, st1, r1, p1.mono ?_⟩
    rintro y H2 ⟨w2, st2, b, r2, d2, d3, p2⟩
    exact Post.ok (Da := Dens) r2 p2 (.cons d2 d3)
def dTup (fs : EFs) : EF := fun env st => (fs env st).bind fun ds st => if ds.length ≤ sizeLine then .ok (.tup ds) st else .bad
def dLst (fs : EFs) : EF := fun env st => (fs env st).bind fun ds st => if ds.length ≤ sizeLine then .ok (.lst ds) st else .bad
theorem pd_tup {x1} (h : PA X es (tDs (XC X Γ) W fs)) : PE X (.Tuple es x1 pos) (tD (XC X Γ) W (dTup fs)) := peImp (pe_tup h) fun σ H Q hq => by
  obtain ⟨w, env, st, r, p⟩ := t1 (Da := Dens) hq
  refine ⟨w, env, st, r, p.mono ?_⟩
  rintro x H1 ⟨w1, env1, st1, d, r1, d1, p1⟩
  by_cases hz : d.length ≤ sizeLine
  · rw [if_pos hz] at p1
    exact ⟨by rw [d1.length]; exact hz, fun pp hp => p1.newTup r1 d1 hp⟩
  · rw [if_neg hz] at p1; exact p1.elim
theorem pd_lst (h : PA X es (tDs (XC X Γ) W fs)) : PE X (.List es pos) (tD (XC X Γ) W (dLst fs)) := peImp (pe_lst h) fun σ H Q hq => by
  obtain ⟨w, env, st, r, p⟩ := t1 (Da := Dens) hq
  refine ⟨w, env, st, r, p.mono ?_⟩
  rintro x H1 ⟨w1, env1, st1, d, r1, d1, p1⟩
  by_cases hz : d.length ≤ sizeLine
  · rw [if_pos hz] at p1
    exact ⟨by rw [d1.length]; exact hz, fun pp hp => p1.newLst r1 d1 hp⟩
  · rw [if_neg hz] at p1; exact p1.elim
def oIx : Op2 := fun a b st => match b with
  | .int i => (match a with
    | .tup ds => go (atI ds i) st
    | .lst ds => go (atI ds i) st
    | .fz ds => go (atI ds i) st
    | .str s => if s.length ≤ sizeLine then go ((atI s.cps.toList i).map fun c => .str (mk [c])) st else .bad
    | .hd n => (match st[n]? with
      | some (.lst ds) => go (atI ds i) st
      | _ => .bad)
    | _ => .bad)
  | _ => .bad
where
  go (o : Option D) (st : Sto) : Res D := match o with
    | some d => .ok d st
    | none => .bad
theorem Dens.atI {K : Ct} {ρ : List Addr} {S : Addr → Prop} {H : Hp} {vs : List V} {ds : List D} {i : Int} {d : D} (h : Dens K ρ S H vs ds) (e : L2.atI ds i = some d) : ∃ v, L2.atI vs i = some v ∧ Den K ρ S H v d := by
  unfold L2.atI at e ⊢
  rw [h.length]
  cases q : ixN ds.length i with
  | none => rw [q] at e; cases e
  | some j => rw [q] at e; exact h.get e
theorem ixr {k : Op2} (h : ∀ (w : Wd) (env : AEnv) (st : Sto) (σ : St) (H : Hp) (x y : V) (a b : D) (Q : VK), Rel (XC X Γ) w env st σ H → DenB (XC X Γ) w.ρ w.S H x a → DenB (XC X Γ) w.ρ w.S H y b → Post Den (XC X Γ) W w H σ (k a b st) Q →
    ∃ r : R2, IxR X r ∧ r x y H Q) : IxR X (rD2 (XC X Γ) W k) := fun value slice pins s σ H x y v u Q I rx ry ⟨w, env, st, σ', a, b, r, d1, d2, p⟩ hs => by
  obtain ⟨rr, ho, q⟩ := h w env st σ' H x y a b Q r d1 d2 p
  exact ho value slice pins s σ H x y v u Q I rx ry q hs
theorem ixd : IxR X (rD2 (XC X Γ) W oIx) := ixr fun w env st σ H x y a b Q r d1 d2 p => by
  cases b with
  | int i =>
    have li : ∀ {ds : List D} {vs : List V} {q : Addr}, Dens (XC X Γ) w.ρ w.S H vs ds → x = .ref q → SqL X.K H q vs → Post Den (XC X Γ) W w H σ (oIx.go (atI ds i) st) Q → ∃ r : R2, IxR X r ∧ r x y H Q := fun {ds vs q} t e1 hq p => by
      cases e : atI ds i with
      | none => rw [e] at p; exact p.elim
      | some d =>
        rw [e] at p
        obtain ⟨v, h1, h2⟩ := t.atI e
        exact ⟨_, ix_list, q, vs, i, v, e1, d2.int, hq, h1, Post.ok r p h2⟩
    cases a with
    | tup ds =>
      obtain ⟨q, vs, e1, hq, t⟩ := d1.tup
      have p : Post Den (XC X Γ) W w H σ (oIx.go (atI ds i) st) Q := p
      cases e : atI ds i with
      | none => rw [e] at p; exact p.elim
      | some d =>
        rw [e] at p
        obtain ⟨v, h1, h2⟩ := t.atI e
        exact ⟨_, ix_tup, q, vs, i, v, e1, d2.int, hq, h1, Post.ok r p h2⟩
    | lst ds =>
      obtain ⟨q, vs, e1, hq, _, t⟩ := d1.lst
      exact li t e1 (SqL.of hq) p
    | fz ds =>
      obtain ⟨q, vs, e1, hq, t⟩ := d1.fz
      exact li t e1 hq.sql p
    | str s =>
      have p : Post Den (XC X Γ) W w H σ (if s.length ≤ sizeLine then oIx.go ((atI s.cps.toList i).map fun c => .str (mk [c])) st else .bad) Q := p
      split at p
      · rename_i hz
        cases e : atI s.cps.toList i with
        | none => rw [e] at p; exact p.elim
        | some d =>
          rw [e] at p
          exact ⟨_, ix_str, s, i, d, d1.str, d2.int, hz, e, Post.ok r p (.str _)⟩
      · exact p.elim
    | hd n =>
      obtain ⟨q, e1, e2⟩ := d1.hd
      have p : Post Den (XC X Γ) W w H σ (match st[n]? with
        | some (.lst ds) => oIx.go (atI ds i) st
        | _ => .bad) Q := p
      split at p
      · rename_i ds e3
        obtain ⟨vs, hq, t⟩ := r.cellL e2 e3
        exact li t e1 (SqL.of hq) p
      · exact p.elim
    | _ => exact p.elim
  | _ => cases a <;> exact p.elim
theorem pd_ix (ha : PE X a (tDB (XC X Γ) W fa)) (hb : PE X b (tDB (XC X Γ) W fb)) (hs : PlainIx b := by intro _ _; rfl) : PE X (.Subscript a b pos) (tD (XC X Γ) W (dOp2 oIx fa fb)) := peImp (pe_ix ixd ha hb hs) fun _ _ _ h => dOp2_ok h fun _ _ _ _ q => q
abbrev OF := AEnv → Sto → Res (Option Int)
def dnO : DnT (Option Int) (Option Int) := fun _ _ _ _ a b => a = b
abbrev tO (K : Ct) (W : WX) (f : OF) : TO := tG (α := Option Int) (β := Option Int) dnO K W f
theorem poImp {e : Option Expr} {t t' : TO} (h : PO X e t) (i : ∀ σ H Q, t' σ H Q → t σ H Q) : PO X e t' := ⟨fun pins s σ H Q I hw => h.run pins s σ H Q I (i σ H Q hw)⟩
def oNo : OF := fun _ st => .ok none st
def oSo (f : EF) : OF := fun env st => (f env st).bind fun d st => match d with
  | .int i => .ok (some i) st
  | _ => .bad
theorem pod_none : PO X none (tO (XC X Γ) W oNo) := poImp po_none fun σ H Q ⟨w, env, st, r, p⟩ => Post.ok (Da := dnO) (x := none) r p rfl
theorem pod_some (h : PE X e (tD (XC X Γ) W f)) : PO X (some e) (tO (XC X Γ) W (oSo f)) := poImp (po_some h) fun σ H Q hq => by
  obtain ⟨w, env, st, r, p⟩ := t1 (Da := Den) hq
  refine ⟨w, env, st, r, p.mono ?_⟩
  rintro x H1 ⟨w1, env1, st1, d, r1, d1, p1⟩
  cases d with
  | int i => exact ⟨i, DenB.int (w := w1) d1.b, Post.ok (Da := dnO) (x := some i) r1 p1 rfl⟩
  | _ => exact p1.elim
def cutL {α : Type} (xs : List α) (lo hi : Option Int) : List α := (xs.drop (HT.sIx xs.length 0 lo)).take (HT.sIx xs.length xs.length hi - HT.sIx xs.length 0 lo)
def oSl (a : D) (lo hi : Option Int) (st : Sto) : Res D := match a with
  | .tup ds => .ok (.tup (cutL ds lo hi)) st
  | .lst ds => .ok (.lst (cutL ds lo hi)) st
  | .fz ds => .ok (.lst (cutL ds lo hi)) st
  | .str s => if s.length ≤ sizeLine then .ok (.str (mk (cutL s.cps.toList lo hi))) st else .bad
  | _ => .bad
def dSl (f : EF) (lo hi : OF) : EF := fun env st => (f env st).bind fun d st1 => (lo env st1).bind fun l st2 => (hi env st2).bind fun h st3 => oSl d l h st3
theorem Dens.cut {K : Ct} {ρ : List Addr} {S : Addr → Prop} {H : Hp} {vs : List V} {ds : List D} (h : Dens K ρ S H vs ds) (lo hi : Option Int) : Dens K ρ S H (cutV vs lo hi) (cutL ds lo hi) := by
  unfold cutV cutL
  rw [h.length]
  exact (h.drop _).take _
theorem pd_slice {lo hi : Option Expr} {gl gh : OF} {p2 : Pos} (he : PE X e (tDB (XC X Γ) W f)) (hl : PO X lo (tO (XC X Γ) W gl)) (hh : PO X hi (tO (XC X Γ) W gh)) : PE X (.Subscript e (.Slice lo hi none p2) pos) (tD (XC X Γ) W (dSl f gl gh)) := by
  refine peImp (pe_slice (r := fun x l h H Q => ∃ w env st σ a, Rel (XC X Γ) w env st σ H ∧ DenB (XC X Γ) w.ρ w.S H x a ∧ Post Den (XC X Γ) W w H σ (oSl a l h st) Q) ?_ he hl hh) ?_
  · intro pins s σ H x v vl vu lo hi sl Q I rx hs pl pu ⟨w, env, st, σ', a, r, d1, p⟩
    cases a with
    | tup ds =>
      obtain ⟨q, vs, e1, hq, t⟩ := d1.tup
      refine sl_tupA pins s σ H x v vl vu lo hi sl Q I rx hs pl pu ⟨q, vs, e1, hq, fun z => ?_, fun _ pp hp => p.newTup r (t.cut lo hi) hp⟩
      have e : cutL ds lo hi = ds := by
        unfold cutL
        rw [← t.length, z.1, z.2, List.drop_zero, Nat.sub_zero, t.length, List.take_length]
      have p : Post Den (XC X Γ) W w H σ' (.ok (.tup (cutL ds lo hi)) st) Q := p
      rw [e] at p
      exact Post.ok r p (.tup hq t)
    | lst ds =>
      obtain ⟨q, vs, e1, hq, _, t⟩ := d1.lst
      exact sl_list pins s σ H x v vl vu lo hi sl Q I rx hs pl pu ⟨q, vs, e1, SqL.of hq, fun pp hp => p.newLst r (t.cut lo hi) hp⟩
    | fz ds =>
      obtain ⟨q, vs, e1, hq, t⟩ := d1.fz
      exact sl_list pins s σ H x v vl vu lo hi sl Q I rx hs pl pu ⟨q, vs, e1, hq.sql, fun pp hp => p.newLst r (t.cut lo hi) hp⟩
    | str z =>
      have p : Post Den (XC X Γ) W w H σ' (if z.length ≤ sizeLine then .ok (.str (mk (cutL z.cps.toList lo hi))) st else .bad) Q := p
      split at p
      · rename_i hz
        refine sl_str pins s σ H x v vl vu lo hi sl Q I rx hs pl pu ⟨z, d1.str, hz, ?_⟩
        have e : cutS z lo hi = mk (cutL z.cps.toList lo hi) := by
          unfold cutS mk cutL
          rw [Array.length_toList]
          rfl
        rw [e]
        exact Post.ok r p (.str _)
      · exact p.elim
    | _ => exact p.elim
  · intro σ H Q h
    obtain ⟨w, env, st, rl, p⟩ := t2 (Da := DenB) (Db := dnO) (g := fun env a st => gl env st) (k := fun env a b st => (gh env st).bind fun h st3 => oSl a b h st3) lastsDB h
    refine ⟨w, env, st, rl, p.mono ?_⟩
    rintro x H1 ⟨w1, env1, st1, a, r1, d1, p1⟩
    refine ⟨w1, env1, st1, r1, p1.mono ?_⟩
    rintro y H2 ⟨w2, st2, b, r2, d2, d3, p2⟩
    cases (show y = b from d3)
    refine ⟨w2, env1, st2, r2, (Post.bind (Da := dnO) r2 p2).mono ?_⟩
    rintro z H3 ⟨w3, st3, c, r3, e3, x3, d4, p3⟩
    cases (show z = c from d4)
    exact ⟨w3, env1, st3, σ, a, r3, lastsDB r2 e3 x3 d2, p3⟩
abbrev Op1 := D → Sto → Res D
def dOp1 (k : Op1) (f : EF) : EF := fun env st => (f env st).bind fun d st => k d st
def rC1 (K : Ct) (W : WX) (k : Op1) : List V → Hp → VK → Prop := fun xs H Q => ∃ w env st σ x a, xs = [x] ∧ Rel K w env st σ H ∧ DenB K w.ρ w.S H x a ∧ Post Den K W w H σ (k a st) Q
def rC2 (K : Ct) (W : WX) (k : Op2) : List V → Hp → VK → Prop := fun xs H Q => ∃ w env st σ x y a b, xs = [x, y] ∧ Rel K w env st σ H ∧ DenB K w.ρ w.S H x a ∧ DenB K w.ρ w.S H y b ∧ Post Den K W w H σ (k a b st) Q
theorem c1_ok {K : Ct} {k : Op1} {σ : St} {H : Hp} {Q : VK} (h : tD K W (dOp1 k f) σ H Q) : tCB (rC1 K W k) (tCons (tDB K W f) tNil) σ H Q := by
  obtain ⟨w, env, st, r, p⟩ := t1 (Da := DenB) h
  refine ⟨w, env, st, r, p.mono ?_⟩
  rintro x H1 ⟨w1, env1, st1, d, r1, d1, p1⟩
  exact ⟨w1, env1, st1, σ, x, d, rfl, r1, d1, p1⟩
theorem c2_ok {K : Ct} {k : Op2} {σ : St} {H : Hp} {Q : VK} (h : tD K W (dOp2 k fa fb) σ H Q) : tCB (rC2 K W k) (tCons (tDB K W fa) (tCons (tDB K W fb) tNil)) σ H Q := by
  obtain ⟨w, env, st, rl, p⟩ := t2 (Da := DenB) (Db := DenB) (g := fun env a st => fb env st) (k := fun env a b st => k a b st) lastsDB h
  refine ⟨w, env, st, rl, p.mono ?_⟩
  rintro x H1 ⟨w1, env1, st1, a, r1, d1, p1⟩
  refine ⟨w1, env1, st1, r1, p1.mono ?_⟩
  rintro y H2 ⟨w2, st2, b, r2, d2, d3, p2⟩
  exact ⟨w2, env1, st2, σ, x, y, a, b, rfl, r2, d2, d3, p2⟩
theorem pd_call1 {id : String} {k : Op1} {x : Str} {p : Pos} (hc : CallR X (.builtin id) (rC1 (XC X Γ) W k)) (hm : X.mg x = none) (ha : PE X e (tDB (XC X Γ) W f)) (hv : bootBuiltins x = some (.builtin id) := by decide +kernel) (hg : Gl X x := by rfl) (hn : x ≠ "__name__" := by decide) (hdb : (x == ("__debug__" : Str)) = false := by decide)
    (he : starEach (e :: []) X.env = (false, eval e X.env) :: starEach [] X.env := by rfl) (hpl : (backTo pos (starEach [] X.env)).any (·.1) = false := by rfl) : PE X (.Call (.Name x p) [e] [] pos) (tD (XC X Γ) W (dOp1 k f)) :=
  peImp (pe_callB hc hg hm hv (pa_cons ha pa_nil he) hn hdb he hpl) fun _ _ _ h => c1_ok h
theorem pd_callT1 {T : String} {k : Op1} {x : Str} {p : Pos} (hc : CallR X (.type T) (rC1 (XC X Γ) W k)) (hm : X.mg x = none) (ha : PE X e (tDB (XC X Γ) W f)) (hv : bootBuiltins x = some (.type T) := by decide +kernel) (hg : Gl X x := by rfl) (hn : x ≠ "__name__" := by decide) (hdb : (x == ("__debug__" : Str)) = false := by decide)
    (he : starEach (e :: []) X.env = (false, eval e X.env) :: starEach [] X.env := by rfl) (hpl : (backTo pos (starEach [] X.env)).any (·.1) = false := by rfl) : PE X (.Call (.Name x p) [e] [] pos) (tD (XC X Γ) W (dOp1 k f)) :=
  peImp (pe_callTy hc hg hm hv (pa_cons ha pa_nil he) hn hdb he hpl) fun _ _ _ h => c1_ok h
theorem pd_call2 {id : String} {k : Op2} {x : Str} {p : Pos} (hc : CallR X (.builtin id) (rC2 (XC X Γ) W k)) (hm : X.mg x = none) (ha : PE X a (tDB (XC X Γ) W fa)) (hb : PE X b (tDB (XC X Γ) W fb)) (hv : bootBuiltins x = some (.builtin id) := by decide +kernel) (hg : Gl X x := by rfl) (hn : x ≠ "__name__" := by decide) (hdb : (x == ("__debug__" : Str)) = false := by decide)
    (he : starEach (a :: [b]) X.env = (false, eval a X.env) :: starEach [b] X.env := by rfl) (he2 : starEach (b :: []) X.env = (false, eval b X.env) :: starEach [] X.env := by rfl) (hpl : (backTo pos (starEach [b] X.env)).any (·.1) = false := by rfl) : PE X (.Call (.Name x p) [a, b] [] pos) (tD (XC X Γ) W (dOp2 k fa fb)) :=
  peImp (pe_callB hc hg hm hv (pa_cons ha (pa_cons hb pa_nil he2) he) hn hdb he hpl) fun _ _ _ h => c2_ok h
theorem cr1 {g : Value} {k : Op1} (h : ∀ (w : Wd) (env : AEnv) (st : Sto) (σ : St) (H : Hp) (x : V) (a : D) (Q : VK), Rel (XC X Γ) w env st σ H → DenB (XC X Γ) w.ρ w.S H x a → Post Den (XC X Γ) W w H σ (k a st) Q →
    ∃ r, CallR X g r ∧ r [x] H Q) : CallR X g (rC1 (XC X Γ) W k) := fun pins s σ H xs us Q I rs ⟨w, env, st, σ', x, a, e, r, d1, p⟩ => by
  subst e
  obtain ⟨rr, ho, q⟩ := h w env st σ' H x a Q r d1 p
  exact ho pins s σ H _ us Q I rs q
theorem cr2 {g : Value} {k : Op2} (h : ∀ (w : Wd) (env : AEnv) (st : Sto) (σ : St) (H : Hp) (x y : V) (a b : D) (Q : VK), Rel (XC X Γ) w env st σ H → DenB (XC X Γ) w.ρ w.S H x a → DenB (XC X Γ) w.ρ w.S H y b → Post Den (XC X Γ) W w H σ (k a b st) Q →
    ∃ r, CallR X g r ∧ r [x, y] H Q) : CallR X g (rC2 (XC X Γ) W k) := fun pins s σ H xs us Q I rs ⟨w, env, st, σ', x, y, a, b, e, r, d1, d2, p⟩ => by
  subst e
  obtain ⟨rr, ho, q⟩ := h w env st σ' H x y a b Q r d1 d2 p
  exact ho pins s σ H _ us Q I rs q
def oLen : Op1 := fun a st => match a with
  | .tup ds => .ok (.int ds.length) st
  | .lst ds => .ok (.int ds.length) st
  | .fz ds => .ok (.int ds.length) st
  | .str s => if s.length ≤ sizeLine then .ok (.int s.length) st else .bad
  | _ => .bad
theorem cd_len : CallR X (.builtin "len") (rC1 (XC X Γ) W oLen) := cr1 fun w env st σ H x a Q r d p => by
  cases a with
  | tup ds =>
    obtain ⟨q, vs, e1, hq, t⟩ := d.tup
    exact ⟨_, call_len_seq, q, vs, by rw [e1], .inr hq, by rw [t.length]; exact Post.ok r p (.int _)⟩
  | lst ds =>
    obtain ⟨q, vs, e1, hq, _, t⟩ := d.lst
    exact ⟨_, call_len_seq, q, vs, by rw [e1], .inl (SqL.of hq), by rw [t.length]; exact Post.ok r p (.int _)⟩
  | fz ds =>
    obtain ⟨q, vs, e1, hq, t⟩ := d.fz
    exact ⟨_, call_len_seq, q, vs, by rw [e1], .inl hq.sql, by rw [t.length]; exact Post.ok r p (.int _)⟩
  | str s =>
    have p : Post Den (XC X Γ) W w H σ (if s.length ≤ sizeLine then .ok (.int s.length) st else .bad) Q := p
    split at p
    · rename_i hz
      exact ⟨_, call_len_str, s, by rw [d.str], hz, Post.ok r p (.int _)⟩
    · exact p.elim
  | _ => exact p.elim
def oAbs : Op1 := fun a st => match a with
  | .int i => .ok (.int (if i < 0 then -i else i)) st
  | _ => .bad
theorem cd_abs : CallR X (.builtin "abs") (rC1 (XC X Γ) W oAbs) := cr1 fun w env st σ H x a Q r d p => by
  cases a with
  | int i => exact ⟨_, call_abs, i, by rw [d.int], Post.ok r p (.int _)⟩
  | _ => exact p.elim
def oMax : Op2 := fun a b st => match a, b with
  | .int i, .int j => .ok (.int (if j > i then j else i)) st
  | _, _ => .bad
def oMin : Op2 := fun a b st => match a, b with
  | .int i, .int j => .ok (.int (if j < i then j else i)) st
  | _, _ => .bad
theorem cd_max (hc : X.calm = true) : CallR X (.builtin "max") (rC2 (XC X Γ) W oMax) := cr2 fun w env st σ H x y a b Q r d1 d2 p => by
  cases a with
  | int i =>
    cases b with
    | int j => exact ⟨_, call_max2 hc, i, j, by rw [d1.int, d2.int], Post.ok r p (.int _)⟩
    | _ => exact p.elim
  | _ => exact p.elim
theorem cd_min (hc : X.calm = true) : CallR X (.builtin "min") (rC2 (XC X Γ) W oMin) := cr2 fun w env st σ H x y a b Q r d1 d2 p => by
  cases a with
  | int i =>
    cases b with
    | int j => exact ⟨_, call_min2 hc, i, j, by rw [d1.int, d2.int], Post.ok r p (.int _)⟩
    | _ => exact p.elim
  | _ => exact p.elim
def oDivmod : Op2 := fun a b st => match a, b with
  | .int i, .int j => if 0 < j ∧ j.natAbs.log2 < 9000 then .ok (.tup [.int (i / j), .int (i % j)]) st else .bad
  | _, _ => .bad
theorem cd_divmod : CallR X (.builtin "divmod") (rC2 (XC X Γ) W oDivmod) := cr2 fun w env st σ H x y a b Q r d1 d2 p => by
  cases a with
  | int i =>
    cases b with
    | int j =>
      have p : Post Den (XC X Γ) W w H σ (if 0 < j ∧ j.natAbs.log2 < 9000 then .ok (.tup [.int (i / j), .int (i % j)]) st else .bad) Q := p
      split at p
      · rename_i hz
        exact ⟨_, call_divmodW, i, j, by rw [d1.int, d2.int], ⟨hz.1, PyProof.noPylong_of_log2 hz.2⟩, fun pp hp => p.newTup r (.cons (.int _) (.cons (.int _) .nil)) hp⟩
      · exact p.elim
    | _ => exact p.elim
  | _ => exact p.elim
def oIntT : Op1 := fun a st => match a with
  | .int i => .ok (.int i) st
  | .bl k => .ok (.int (if k then 1 else 0)) st
  | .str s => (match PySem.intText? s with
    | some n => if s.length ≤ 640 then .ok (.int n) st else .bad
    | none => .bad)
  | _ => .bad
theorem cd_int : CallR X (.type "int") (rC1 (XC X Γ) W oIntT) := cr1 fun w env st σ H x a Q r d p => by
  cases a with
  | int i => exact ⟨_, call_int1, .inl ⟨i, by rw [d.int], Post.ok r p (.int _)⟩⟩
  | bl k => exact ⟨_, call_int1, .inr ⟨k, by rw [d.bl], Post.ok r p (.int _)⟩⟩
  | str s =>
    have p : Post Den (XC X Γ) W w H σ (match PySem.intText? s with
    | some n => if s.length ≤ 640 then .ok (.int n) st else .bad
    | none => .bad) Q := p
    cases e : PySem.intText? s with
    | none => rw [e] at p; exact p.elim
    | some n =>
      rw [e] at p
      have p : Post Den (XC X Γ) W w H σ (if s.length ≤ 640 then .ok (.int n) st else .bad) Q := p
      split at p
      · rename_i hz
        exact ⟨_, call_int_str, s, n, by rw [d.str], e, hz, Post.ok r p (.int _)⟩
      · exact p.elim
  | _ => exact p.elim
def oStrT : Op1 := fun a st => match a with
  | .int i => if i.natAbs.log2 < 1920 then .ok (.str (toString i)) st else .bad
  | _ => .bad
theorem cd_str : CallR X (.type "str") (rC1 (XC X Γ) W oStrT) := cr1 fun w env st σ H x a Q r d p => by
  cases a with
  | int i =>
    have p : Post Den (XC X Γ) W w H σ (if i.natAbs.log2 < 1920 then .ok (.str (toString i)) st else .bad) Q := p
    split at p
    · rename_i hz
      exact ⟨_, call_str_int, i, by rw [d.int], hz, Post.ok r p (.str _)⟩
    · exact p.elim
  | _ => exact p.elim
def oTupT : Op1 := fun a st => match a with
  | .tup ds => .ok (.tup ds) st
  | .lst ds => .ok (.tup ds) st
  | _ => .bad
theorem cd_tuple : CallR X (.type "tuple") (rC1 (XC X Γ) W oTupT) := cr1 fun w env st σ H x a Q r d p => by
  cases a with
  | tup ds =>
    obtain ⟨q, vs, e1, hq, t⟩ := d.tup
    exact ⟨_, call_tuple_of, q, vs, by rw [e1], .inr ⟨hq, Post.ok r p (.tup hq t)⟩⟩
  | lst ds =>
    obtain ⟨q, vs, e1, hq, _, t⟩ := d.lst
    exact ⟨_, call_tuple_of, q, vs, by rw [e1], .inl ⟨SqL.of hq, fun pp hp => p.newTup r t hp⟩⟩
  | _ => exact p.elim
def signs (s : Str) : List D := s.cps.toList.map fun c => .str (mk [c])
def oLstT : Op1 := fun a st => match a with
  | .tup ds => .ok (.lst ds) st
  | .lst ds => .ok (.lst ds) st
  | .str s => if s.length ≤ sizeLine then .ok (.lst (signs s)) st else .bad
  | _ => .bad
theorem vals_sg : ∀ (l : List Nat) (us : List Value), us.length = l.length → (∀ (j : Nat) v, us[j]? = some v → ∃ c u, l[j]? = some c ∧ v = Value.str ⟨#[c]⟩ u) → Vals (l.map fun c => V.str (mk [c])) us
  | [], [], _, _ => .nil
  | c :: l, u :: us, hl, h => by
    obtain ⟨c', t, e1, e2⟩ := h 0 u rfl
    cases e1
    exact .cons ⟨t, e2⟩ (vals_sg l us (by simpa using hl) fun j v hj => h (j + 1) v hj)
  | [], _ :: _, hl, _ => by simp at hl
  | _ :: _, [], hl, _ => by simp at hl
theorem dens_sg {K : Ct} {ρ : List Addr} {S : Addr → Prop} {H : Hp} : ∀ l : List Nat, Dens K ρ S H (l.map fun c => V.str (mk [c])) (l.map fun c => .str (mk [c]))
  | [] => .nil
  | _ :: l => .cons (.str _) (dens_sg l)
theorem call_list_sg (hc : X.calm = true) : CallR X (.type "list") (fun xs H Q => ∃ x : Str, xs = [V.str x] ∧ x.length ≤ sizeLine ∧ ∀ p, H p = none → Q (.ref p) (upd H p (.lst (x.cps.toList.map fun c => V.str (mk [c]))))) := by
  intro pins s σ H xs us Q I r h
  obtain ⟨x, rfl, hz, q⟩ := h
  obtain ⟨u, rfl, rx⟩ := vals1 r
  obtain ⟨t, rfl⟩ := rx
  refine call_list_str (I.ok.hd hc) x t (hn := hz) fun h' tk acc' c' kp e it => ?_
  refine ⟨.ref s.heap.objs.size, _, I.laid kp (Nat.le_refl _) (show ObjOk X.prog X.w _ h' _ (.lst _) from ⟨by rw [List.length_map]; exact hz, acc'.toList, c', vals_sg _ _ (by rw [Array.length_toList, it.1]; rfl) fun j v hj => ?_, by simpa using e⟩), rfl, q _ (I.hok.fresh (Nat.le_refl _))⟩
  obtain ⟨c, u, h1, h2⟩ := it.2 j v (by rw [← Array.getElem?_toList]; exact hj)
  exact ⟨c, u, by rw [Array.getElem?_toList]; exact h1, h2⟩
theorem cd_list (hc : X.calm = true) : CallR X (.type "list") (rC1 (XC X Γ) W oLstT) := cr1 fun w env st σ H x a Q r d p => by
  cases a with
  | tup ds =>
    obtain ⟨q, vs, e1, hq, t⟩ := d.tup
    exact ⟨_, call_list_of, q, vs, by rw [e1], .inr hq, fun pp hp => p.newLst r t hp⟩
  | lst ds =>
    obtain ⟨q, vs, e1, hq, _, t⟩ := d.lst
    exact ⟨_, call_list_of, q, vs, by rw [e1], .inl (SqL.of hq), fun pp hp => p.newLst r t hp⟩
  | str x =>
    have e1 := d.str
    have p2 : Post Den (XC X Γ) W w H σ (if x.length ≤ sizeLine then .ok (.lst (signs x)) st else .bad) Q := p
    split at p2
    · rename_i hz
      refine ⟨_, call_list_sg hc, x, by rw [e1], hz, fun pp hp => p2.newLst r ?_ hp⟩
      unfold signs
      exact dens_sg _
    · exact p2.elim
  | _ => exact p.elim
def blsD : List D → Option (List Bool)
  | [] => some []
  | .bl b :: r => (blsD r).map (b :: ·)
  | _ => none
def strsD : List D → Option (List Str)
  | [] => some []
  | .str b :: r => (strsD r).map (b :: ·)
  | _ => none
theorem Dens.bls {K : Ct} {ρ : List Addr} {S : Addr → Prop} {H : Hp} : ∀ {ds : List D} {vs : List V} {bs : List Bool}, Dens K ρ S H vs ds → blsD ds = some bs → vs = bs.map V.bl
  | [], _, _, .nil, e => by cases e; rfl
  | d :: ds, _, bs, .cons h t, e => by
    cases h with
    | bl b =>
      cases q : blsD ds with
      | none => unfold blsD at e; rw [q] at e; cases e
      | some cs => unfold blsD at e; rw [q] at e; cases e; rw [Dens.bls t q]; rfl
    | _ => cases e
theorem Dens.strs {K : Ct} {ρ : List Addr} {S : Addr → Prop} {H : Hp} : ∀ {ds : List D} {vs : List V} {bs : List Str}, Dens K ρ S H vs ds → strsD ds = some bs → vs = bs.map V.str
  | [], _, _, .nil, e => by cases e; rfl
  | d :: ds, _, bs, .cons h t, e => by
    cases h with
    | str b =>
      cases q : strsD ds with
      | none => unfold strsD at e; rw [q] at e; cases e
      | some cs => unfold strsD at e; rw [q] at e; cases e; rw [Dens.strs t q]; rfl
    | _ => cases e
def oAll : Op1 := fun a st => match a with
  | .lst ds => oOf ((blsD ds).map fun bs => bs.all id) st
  | _ => .bad
def oAny : Op1 := fun a st => match a with
  | .lst ds => oOf ((blsD ds).map fun bs => bs.any id) st
  | _ => .bad
theorem cd_all (hc : X.calm = true) : CallR X (.builtin "all") (rC1 (XC X Γ) W oAll) := cr1 fun w env st σ H x a Q r d p => by
  cases a with
  | lst ds =>
    obtain ⟨q, vs, e1, hq, _, t⟩ := d.lst
    have p : Post Den (XC X Γ) W w H σ (oOf ((blsD ds).map fun bs => bs.all id) st) Q := p
    cases e : blsD ds with
    | none => rw [e] at p; exact p.elim
    | some bs =>
      rw [e] at p
      exact ⟨_, cr_all hc, q, bs, by rw [e1], by rw [← t.bls e]; exact SqL.of hq, Post.ok r p (.bl _)⟩
  | _ => exact p.elim
theorem cd_any (hc : X.calm = true) : CallR X (.builtin "any") (rC1 (XC X Γ) W oAny) := cr1 fun w env st σ H x a Q r d p => by
  cases a with
  | lst ds =>
    obtain ⟨q, vs, e1, hq, _, t⟩ := d.lst
    have p : Post Den (XC X Γ) W w H σ (oOf ((blsD ds).map fun bs => bs.any id) st) Q := p
    cases e : blsD ds with
    | none => rw [e] at p; exact p.elim
    | some bs =>
      rw [e] at p
      exact ⟨_, cr_any hc, q, bs, by rw [e1], by rw [← t.bls e]; exact SqL.of hq, Post.ok r p (.bl _)⟩
  | _ => exact p.elim
end
end AM
namespace AM
open PySem PySem.Spec PyProof.Rows L2
section
variable {X : Cx} {Γ : Nat → Addr} {W : WX} {e a b c o : Expr} {es : List Expr} {f fa fb fc : EF} {fs : EFs} {pos apos : Pos} {name : Str} {id : String}
abbrev SOp1 := Str → D → Sto → Res D
abbrev SOp0 := Str → Sto → Res D
def kM1 (k : SOp1) (fb : EF) (env : AEnv) : D → Sto → Res D := fun a st1 => match a with
  | .str s => (fb env st1).bind fun b st2 => k s b st2
  | _ => .bad
def dM1 (k : SOp1) (fa fb : EF) : EF := fun env st => (fa env st).bind (kM1 k fb env)
def kM0 (k : SOp0) : D → Sto → Res D := fun a st1 => match a with
  | .str s => k s st1
  | _ => .bad
def dM0 (k : SOp0) (fa : EF) : EF := fun env st => (fa env st).bind (kM0 k)
theorem pd_m1 {k : SOp1} {r : V → List V → Hp → VK → Prop} (slot : Slot "str" name id) (ty : typeOf (.builtin id) = pure (.type "method_descriptor")) (rule : MtR X id r)
    (h : ∀ (w : Wd) (env : AEnv) (st : Sto) (σ : St) (H : Hp) (s : Str) (y : V) (b : D) (Q : VK), Rel (XC X Γ) w env st σ H → DenB (XC X Γ) w.ρ w.S H y b → Post Den (XC X Γ) W w H σ (k s b st) Q → r (.str s) [y] H Q)
    (ho : PE X o (tD (XC X Γ) W fa)) (he : PE X e (tDB (XC X Γ) W fb)) (hs : starEach [e] X.env = [(false, eval e X.env)] := by rfl) (hbase : attributeBase o name X.env (eval o X.env) = eval o X.env := by rfl) (hline : (apos.endLine == pos.line) = true := by rfl) :
    PE X (.Call (.Attribute o name apos) [e] [] pos) (tD (XC X Γ) W (dM1 k fa fb)) := peImp (pe_m1 slot ty rule ho he hs hbase hline) fun σ H Q hq => by
  obtain ⟨w, env, st, rl, p⟩ := t1 (Da := Den) hq
  refine ⟨w, env, st, rl, p.mono ?_⟩
  rintro x H1 ⟨w1, env1, st1, a, r1, d1, p1⟩
  cases a with
  | str s =>
    have e1 : x = .str s := DenB.str (w := w1) d1.b
    refine ⟨⟨s, e1⟩, w1, env1, st1, r1, (Post.bind (Da := DenB) r1 p1).mono ?_⟩
    rintro y H2 ⟨w2, st2, b, r2, e2, x2, d3, p2⟩
    rw [e1]
    exact h w2 env1 st2 σ H2 s y b Q r2 d3 p2
  | _ => exact p1.elim
def joinOk (a : Str) (ys : List Str) : Bool := decide ((ys.map (·.length)).sum + ys.length * a.length ≤ 16777216)
def sJoin : SOp1 := fun a b st => match b with
  | .lst ds => go a (strsD ds) st
  | .tup ds => go a (strsD ds) st
  | _ => .bad
where
  go (a : Str) (ys : Option (List Str)) (st : Sto) : Res D := match ys with
    | some ys => if joinOk a ys = true then .ok (.str (Txt.join a ys)) st else .bad
    | none => .bad
theorem pd_join (ho : PE X o (tD (XC X Γ) W fa)) (he : PE X e (tDB (XC X Γ) W fb)) (hs : starEach [e] X.env = [(false, eval e X.env)] := by rfl) (hbase : attributeBase o "join" X.env (eval o X.env) = eval o X.env := by rfl) (hline : (apos.endLine == pos.line) = true := by rfl) :
    PE X (.Call (.Attribute o "join" apos) [e] [] pos) (tD (XC X Γ) W (dM1 sJoin fa fb)) :=
  pd_m1 F.slot_str_join F.type_str_join mt_join (fun w env st σ H s y b Q r d p => by
    have go : ∀ {ds : List D} {vs : List V} {q : Addr}, Dens (XC X Γ) w.ρ w.S H vs ds → y = .ref q → (SqL X.K H q vs ∨ SqT X.K H q vs) → Post Den (XC X Γ) W w H σ (sJoin.go s (strsD ds) st) Q →
        ∃ (a : Str) (p : Addr) (ys : List Str), V.str s = .str a ∧ [y] = [.ref p] ∧ (SqL X.K H p (ys.map V.str) ∨ SqT X.K H p (ys.map V.str)) ∧ (ys.map (·.length)).sum + ys.length * a.length ≤ 16777216 ∧ Q (.str (Txt.join a ys)) H := fun {ds vs q} t e1 hq p => by
      cases e : strsD ds with
      | none => rw [e] at p; exact p.elim
      | some ys =>
        rw [e] at p
        have p : Post Den (XC X Γ) W w H σ (if joinOk s ys = true then .ok (.str (Txt.join s ys)) st else .bad) Q := p
        split at p
        · rename_i hz
          exact ⟨s, q, ys, rfl, by rw [e1], by rw [← t.strs e]; exact hq, of_decide_eq_true hz, Post.ok r p (.str _)⟩
        · exact p.elim
    cases b with
    | lst ds =>
      obtain ⟨q, vs, e1, hq, _, t⟩ := d.lst
      exact go t e1 (.inl (SqL.of hq)) p
    | tup ds =>
      obtain ⟨q, vs, e1, hq, t⟩ := d.tup
      exact go t e1 (.inr hq) p
    | _ => exact p.elim) ho he hs hbase hline
def sSplit : SOp1 := fun a b st => match b with
  | .str b => if (b.length == 0) = false ∧ a.length + 2 ≤ sizeLine then .ok (.lst ((Txt.split a b).map D.str)) st else .bad
  | _ => .bad
theorem Dens.ofStrs {K : Ct} {ρ : List Addr} {S : Addr → Prop} {H : Hp} : ∀ ys : List Str, Dens K ρ S H (ys.map V.str) (ys.map D.str)
  | [] => .nil
  | y :: ys => .cons (.str y) (Dens.ofStrs ys)
theorem pd_split (ho : PE X o (tD (XC X Γ) W fa)) (he : PE X e (tDB (XC X Γ) W fb)) (hs : starEach [e] X.env = [(false, eval e X.env)] := by rfl) (hbase : attributeBase o "split" X.env (eval o X.env) = eval o X.env := by rfl) (hline : (apos.endLine == pos.line) = true := by rfl) :
    PE X (.Call (.Attribute o "split" apos) [e] [] pos) (tD (XC X Γ) W (dM1 sSplit fa fb)) :=
  pd_m1 F.slot_str_split F.type_str_split mt_split (fun w env st σ H s y b Q r d p => by
    cases b with
    | str z =>
      have p : Post Den (XC X Γ) W w H σ (if (z.length == 0) = false ∧ s.length + 2 ≤ sizeLine then .ok (.lst ((Txt.split s z).map D.str)) st else .bad) Q := p
      split at p
      · rename_i hz
        exact ⟨s, z, rfl, by rw [d.str], hz.1, hz.2, fun pp hp => p.newLst r (Dens.ofStrs _) hp⟩
      · exact p.elim
    | _ => exact p.elim) ho he hs hbase hline
def sPartition : SOp1 := fun a b st => match b with
  | .str b => if (b.length == 0) = false ∧ a.length ≤ sizeLine then .ok (.tup [.str (Txt.partition a b).1, .str (Txt.partition a b).2.1, .str (Txt.partition a b).2.2]) st else .bad
  | _ => .bad
theorem pd_partition (ho : PE X o (tD (XC X Γ) W fa)) (he : PE X e (tDB (XC X Γ) W fb)) (hs : starEach [e] X.env = [(false, eval e X.env)] := by rfl) (hbase : attributeBase o "partition" X.env (eval o X.env) = eval o X.env := by rfl) (hline : (apos.endLine == pos.line) = true := by rfl) :
    PE X (.Call (.Attribute o "partition" apos) [e] [] pos) (tD (XC X Γ) W (dM1 sPartition fa fb)) :=
  pd_m1 F.slot_str_partition F.type_str_partition mt_partition (fun w env st σ H s y b Q r d p => by
    cases b with
    | str z =>
      have p : Post Den (XC X Γ) W w H σ (if (z.length == 0) = false ∧ s.length ≤ sizeLine then .ok (.tup [.str (Txt.partition s z).1, .str (Txt.partition s z).2.1, .str (Txt.partition s z).2.2]) st else .bad) Q := p
      split at p
      · rename_i hz
        exact ⟨s, z, rfl, by rw [d.str], hz.1, hz.2, fun pp hp => p.newTup r (.cons (.str _) (.cons (.str _) (.cons (.str _) .nil))) hp⟩
      · exact p.elim
    | _ => exact p.elim) ho he hs hbase hline
def oFmt : Op1 := fun a st => match a with
  | .str s => if s.length ≤ sizeLine then .ok (.str s) st else .bad
  | .int i => if i.natAbs.log2 < 1920 then .ok (.str (toString i)) st else .bad
  | _ => .bad
theorem pd_fmt (he : PE X e (tDB (XC X Γ) W f)) : PE X (.FormattedValue e (-1) none pos) (tD (XC X Γ) W (dOp1 oFmt f)) := peImp (pe_fmt he) fun σ H Q h => by
  obtain ⟨w, env, st, r, p⟩ := t1 (Da := DenB) (g := fun env d st => oFmt d st) h
  refine ⟨w, env, st, r, p.mono ?_⟩
  rintro x H1 ⟨w1, env1, st1, d, r1, d1, p1⟩
  cases d with
  | str s =>
    have p : Post Den (XC X Γ) W w1 H1 σ (if s.length ≤ sizeLine then .ok (.str s) st1 else .bad) Q := p1
    split at p
    · rename_i hz
      exact .inl ⟨s, d1.str, hz, Post.ok r1 p (.str _)⟩
    · exact p.elim
  | int i =>
    have p : Post Den (XC X Γ) W w1 H1 σ (if i.natAbs.log2 < 1920 then .ok (.str (toString i)) st1 else .bad) Q := p1
    split at p
    · rename_i hz
      exact .inr ⟨i, d1.int, hz, Post.ok r1 p (.str _)⟩
    · exact p.elim
  | _ => exact p1.elim
def kJ (acc : Str) (k : Str → AEnv → Sto → Res D) (env : AEnv) : D → Sto → Res D := fun d st => match d with
  | .str y => if (acc ++ y).length ≤ sizeLine then k (acc ++ y) env st else .bad
  | _ => .bad
def dJs : List EF → Str → AEnv → Sto → Res D
  | [], acc => fun _ st => .ok (.str acc) st
  | f :: fs, acc => fun env st => (f env st).bind (kJ acc (dJs fs) env)
inductive PDJ (X : Cx) (Γ : Nat → Addr) (W : WX) : List Expr → List EF → Prop where
  | nil : PDJ X Γ W [] []
  | cons {e : Expr} {f : EF} {es : List Expr} {fs : List EF} (h : PE X e (tD (XC X Γ) W f)) (r : PDJ X Γ W es fs) : PDJ X Γ W (e :: es) (f :: fs)
theorem PDJ.pj {es : List Expr} {fs : List EF} (h : PDJ X Γ W es fs) : PJ X es (fs.map fun f => tD (XC X Γ) W f) := by
  induction h with
  | nil => exact .nil
  | cons h _ ih => exact .cons h ih
theorem dJs_ok {σ : St} {Q : VK} : ∀ (fs : List EF) (acc : Str) (H : Hp), tD (XC X Γ) W (dJs fs acc) σ H Q → tJs (fs.map fun f => tD (XC X Γ) W f) acc σ H fun out H1 => Q (.str out) H1
  | [], acc, H, ⟨w, env, st, r, p⟩ => Post.ok r p (.str _)
  | f :: fs, acc, H, h => by
    obtain ⟨w, env, st, r, p⟩ := t1 (Da := Den) (f := f) (g := kJ acc (dJs fs)) h
    refine ⟨w, env, st, r, p.mono ?_⟩
    rintro x H1 ⟨w1, env1, st1, d, r1, d1, p1⟩
    cases d with
    | str y =>
      have p : Post Den (XC X Γ) W w1 H1 σ (if (acc ++ y).length ≤ sizeLine then dJs fs (acc ++ y) env1 st1 else .bad) Q := p1
      split at p
      · rename_i hz
        exact ⟨y, DenB.str (w := w1) d1.b, hz, dJs_ok fs (acc ++ y) H1 ⟨w1, env1, st1, r1, p⟩⟩
      · exact p.elim
    | _ => exact p1.elim
theorem pd_joined {v1 v2 : Expr} {rest : List Expr} {fs : List EF} (h : PDJ X Γ W (v1 :: v2 :: rest) fs) : PE X (.JoinedStr (v1 :: v2 :: rest) pos) (tD (XC X Γ) W (dJs fs Str.empty)) := peImp (pe_joined h.pj) fun σ H Q hq => dJs_ok fs _ H hq
theorem pd_joined1 (h : PE X e (tD (XC X Γ) W f)) : PE X (.JoinedStr [e] pos) (tD (XC X Γ) W f) := pe_joined1 h
end
end AM
namespace AM
open PySem PySem.Spec PyProof.Rows L2
structure ExtS (K : Ct) (w : Wd) (H : Hp) (w' : Wd) (H' : Hp) : Prop where
  pre : ∃ l, w'.ρ = w.ρ ++ l
  keep : ∀ a o, H a = some o → a ∉ w.ρ → some a ∉ w.O → H' a = some o ∧ a ∉ w'.ρ ∧ some a ∉ w'.O
  res : ∀ a, w'.R a → w.R a ∨ H a = none
  there : ∀ a o, H a = some o → ∃ o', H' a = some o'
  tups : ∀ a vs, SqT K.K H a vs → SqT K.K H' a vs
  resK : ∀ a, w.R a → w'.R a
section
variable {K : Ct} {w w' w2 : Wd} {env env' : AEnv} {st st' : Sto} {σ σ' : St} {H H' H2 : Hp}
theorem ExtS.refl : ExtS K w H w H := ⟨⟨[], by simp⟩, fun _ _ h n m => ⟨h, n, m⟩, fun _ h => .inl h, fun _ o h => ⟨o, h⟩, fun _ _ h => h, fun _ h => h⟩
theorem ExtS.trans (a : ExtS K w H w' H') (b : ExtS K w' H' w2 H2) : ExtS K w H w2 H2 := by
  obtain ⟨l, e⟩ := a.pre
  obtain ⟨l2, e2⟩ := b.pre
  refine ⟨⟨l ++ l2, by rw [e2, e, List.append_assoc]⟩, fun x o h n m => ?_, fun x h => ?_, fun x o h => ?_, fun x vs h => b.tups x vs (a.tups x vs h), fun x h => b.resK x (a.resK x h)⟩
  · obtain ⟨h1, n1, m1⟩ := a.keep x o h n m
    exact b.keep x o h1 n1 m1
  · rcases b.res x h with q | q
    · exact a.res x q
    · cases z : H x with
      | none => exact .inr rfl
      | some o =>
        obtain ⟨o', e⟩ := a.there x o z
        rw [q] at e; cases e
  · obtain ⟨o', e⟩ := a.there x o h
    exact b.there x o' e
theorem ExtS.hd (a : ExtS K w H w' H') {n : Nat} {x : Addr} (h : w.ρ[n]? = some x) : w'.ρ[n]? = some x := by
  obtain ⟨l, e⟩ := a.pre
  rw [e, List.getElem?_append_left (List.getElem?_eq_some_iff.mp h).1]
  exact h
mutual
theorem Den.monoS (x : ExtS K w H w' H') : ∀ {v : V} {d : D}, Den K w.ρ w.S H v d → Den K w'.ρ w'.S H' v d
  | _, _, .non => .non
  | _, _, .bl b => .bl b
  | _, _, .int i => .int i
  | _, _, .str s => .str s
  | _, _, .ty n => .ty n
  | _, _, .cls a => .cls a
  | _, _, .tup h t => .tup (x.tups _ _ h) (Dens.monoS x t)
  | _, _, .lst h n t => by
    obtain ⟨h1, h2, h3⟩ := x.keep _ _ h (fun z => n (.inl z)) (fun z => n (.inr (.inr z)))
    refine .lst h1 (fun z => ?_) (Dens.monoS x t)
    rcases z with z | z | z
    · exact h2 z
    · rcases x.res _ z with q | q
      · exact n (.inr (.inl q))
      · rw [h] at q; cases q
    · exact h3 z
  | _, _, .fz h t => by
    refine .fz (h.imp fun o e n => ?_) (Dens.monoS x t)
    obtain ⟨h1, h2, h3⟩ := x.keep _ _ e (fun z => n (.inl z)) (fun z => n (.inr (.inr z)))
    refine ⟨h1, fun z => ?_⟩
    rcases z with z | z | z
    · exact h2 z
    · rcases x.res _ z with q | q
      · exact n (.inr (.inl q))
      · rw [e] at q; cases q
    · exact h3 z
  | _, _, .ins h n t => by
    obtain ⟨h1, h2, h3⟩ := x.keep _ _ h (fun z => n (.inl z)) (fun z => n (.inr (.inr z)))
    refine .ins h1 (fun z => ?_) (DenF.monoS x t)
    rcases z with z | z | z
    · exact h2 z
    · rcases x.res _ z with q | q
      · exact n (.inr (.inl q))
      · rw [h] at q; cases q
    · exact h3 z
  | _, _, .hd h => .hd (x.hd h)
  | _, _, .exv h n t => by
    obtain ⟨h1, h2, h3⟩ := x.keep _ _ h (fun z => n (.inl z)) (fun z => n (.inr (.inr z)))
    refine .exv h1 (fun z => ?_) (DenF.monoS x t)
    rcases z with z | z | z
    · exact h2 z
    · rcases x.res _ z with q | q
      · exact n (.inr (.inl q))
      · rw [h] at q; cases q
    · exact h3 z
  | _, _, .dic h n t => by
    obtain ⟨h1, h2, h3⟩ := x.keep _ _ h (fun z => n (.inl z)) (fun z => n (.inr (.inr z)))
    refine .dic h1 (fun z => ?_) t
    rcases z with z | z | z
    · exact h2 z
    · rcases x.res _ z with q | q
      · exact n (.inr (.inl q))
      · rw [h] at q; cases q
    · exact h3 z
theorem Dens.monoS (x : ExtS K w H w' H') : ∀ {vs : List V} {ds : List D}, Dens K w.ρ w.S H vs ds → Dens K w'.ρ w'.S H' vs ds
  | _, _, .nil => .nil
  | _, _, .cons h t => .cons (Den.monoS x h) (Dens.monoS x t)
theorem DenF.monoS (x : ExtS K w H w' H') : ∀ {vs : List (Str × V)} {ds : List (Str × D)}, DenF K w.ρ w.S H vs ds → DenF K w'.ρ w'.S H' vs ds
  | _, _, .nil => .nil
  | _, _, .cons h t => .cons (Den.monoS x h) (DenF.monoS x t)
end
theorem CellOk.monoS {a : Addr} {c : Cell} (x : ExtS K w H w' H') (h : CellOk K w.ρ w.S H a c) (e : H' a = H a) : CellOk K w'.ρ w'.S H' a c := by
  cases c with
  | lst ds => obtain ⟨vs, q, t⟩ := h; exact ⟨vs, by rw [e]; exact q, t.monoS x⟩
  | obj C fs => obtain ⟨dx, gs, q, t⟩ := h; exact ⟨dx, gs, by rw [e]; exact q, t.monoS x⟩
  | tab i q =>
    refine TabC.gen h e fun b o eb n => ?_
    obtain ⟨h1, h2, h3⟩ := x.keep b o eb (fun z => n (.inl z)) fun z => n (.inr (.inr z))
    refine ⟨h1, fun z => ?_⟩
    rcases z with z | z | z
    · exact h2 z
    · rcases x.res b z with z | z
      · exact n (.inr (.inl z))
      · rw [eb] at z; cases z
    · exact h3 z
theorem Ext.toS {ρ' : List Addr} (r : Rel K w env st σ H) (x : Ext K w.ρ H ρ' H') (s : StOk K ρ' (w.at_ ρ').S H' st') : ExtS K w H (w.at_ ρ') H' := by
  refine ⟨x.pre, fun a o h n m => ?_, fun a h => .inl h, fun a o h => ?_, x.tups, fun _ h => h⟩
  · obtain ⟨h1, h2⟩ := x.keep a o h n
    exact ⟨h1, h2, m⟩
  · by_cases hr : a ∈ w.ρ
    · obtain ⟨l, e⟩ := x.pre
      exact s.there (a := a) (by rw [e]; exact List.mem_append_left _ hr)
    · exact ⟨o, (x.keep a o h hr).1⟩
theorem ExtS.toE (x : ExtS K w H w' H') (h : ∀ a, some a ∉ w.O) : Ext K w.ρ H w'.ρ H' := ⟨x.pre, fun a o e n => let ⟨h1, h2, _⟩ := x.keep a o e n (h a); ⟨h1, h2⟩, x.tups⟩
end
def PostS (K : Ct) (W : WX) (w : Wd) (H : Hp) (σ0 : St) (r : SR) (D : Ends) : Prop := match r with
  | .nx env' st' => ∀ w' σ' H', Rel K w' env' st' σ' H' → ExtS K w H w' H' → D.nx σ' H'
  | .bk env' st' => ∀ w' σ' H', Rel K w' env' st' σ' H' → ExtS K w H w' H' → D.bk σ' H'
  | .ct env' st' => ∀ w' σ' H', Rel K w' env' st' σ' H' → ExtS K w H w' H' → D.ct σ' H'
  | .rt d st' => ∀ w' H' v, StOk K w'.ρ w'.S H' st' → ExtS K w H w' H' → Den K w'.ρ w'.S H' v d → D.rt v H'
  | .exc e st' => ∀ w' σ' H' d gs, StOk K w'.ρ w'.S H' st' → ExtS K w H w' H' → XdAt H' w'.S d gs → DenF K w'.ρ w'.S H' gs e.fs → W (.ref (K.Γ e.c)) (some d) σ' H'
  | .bad => False
def tS (K : Ct) (W : WX) (g : SF) : TS := fun D σ H => ∃ w env st, Rel K w env st σ H ∧ PostS K W w H σ (g env st) D
def SR.bind (r : SR) (k : AEnv → Sto → SR) : SR := match r with
  | .nx env st => k env st
  | r => r
def Res.then {α : Type} (r : Res α) (k : α → Sto → SR) : SR := match r with
  | .ok a st => k a st
  | .exc e st => .exc e st
  | .bad => .bad
section
variable {K : Ct} {W : WX} {w w' : Wd} {env : AEnv} {st : Sto} {σ σ' : St} {H H' : Hp} {D D' : Ends}
theorem PostS.back {r : SR} (x : ExtS K w H w' H') (h : PostS K W w H σ r D) : PostS K W w' H' σ' r D := by
  cases r with
  | nx e s => exact fun w' σ' H' h1 h2 => h w' σ' H' h1 (x.trans h2)
  | bk e s => exact fun w' σ' H' h1 h2 => h w' σ' H' h1 (x.trans h2)
  | ct e s => exact fun w' σ' H' h1 h2 => h w' σ' H' h1 (x.trans h2)
  | rt d s => exact fun w' H' v h1 h2 h3 => h w' H' v h1 (x.trans h2) h3
  | exc e s => exact fun w' σ' H' d gs h1 h2 h3 h4 => h w' σ' H' d gs h1 (x.trans h2) h3 h4
  | bad => exact h
theorem PostS.bind {r : SR} {k : AEnv → Sto → SR} (h : PostS K W w H σ (r.bind k) D) : PostS K W w H σ r { D with nx := tS K W k D } := by
  cases r with
  | nx e s => exact fun w' σ' H' h1 h2 => ⟨w', e, s, h1, PostS.back h2 h⟩
  | bk e s => exact h
  | ct e s => exact h
  | rt d s => exact h
  | exc e s => exact h
  | bad => exact h
theorem Post.then {α β : Type} {Da : DnT β α} {f : Res α} {k : α → Sto → SR} (r : Rel K w env st σ H) (h : PostS K W w H σ (f.then k) D) :
    Post Da K W w H σ f fun x H1 => ∃ w1 st1 a, Rel K w1 env st1 σ H1 ∧ ExtS K w H w1 H1 ∧ Da K w1.ρ w1.S H1 x a ∧ PostS K W w1 H1 σ (k a st1) D := by
  cases f with
  | ok a st1 =>
    intro ρ' H' x h1 h2 h3
    have z := h2.toS r h1
    exact ⟨w.at_ ρ', st1, a, r.ext h2 h1, z, h3, PostS.back z h⟩
  | exc e st1 =>
    intro ρ' H' d gs h1 h2 h3 h4
    exact h (w.at_ ρ') σ H' d gs h1 (h2.toS r h1) h3 h4
  | bad => exact h
theorem t1S {α β : Type} {Da : DnT β α} {f : AEnv → Sto → Res α} {k : AEnv → α → Sto → SR} (h : tS K W (fun env st => (f env st).then (k env)) D σ H) :
    tG Da K W f σ H fun x H1 => ∃ w env st a, Rel K w env st σ H1 ∧ Da K w.ρ w.S H1 x a ∧ PostS K W w H1 σ (k env a st) D := by
  obtain ⟨w, env, st, r, p⟩ := h
  refine ⟨w, env, st, r, (Post.then (Da := Da) r p).mono ?_⟩
  rintro x H1 ⟨w1, st1, a, r1, _, d, p1⟩
  exact ⟨w1, env, st1, a, r1, d, p1⟩
theorem PostS.nxt (r : Rel K w env st σ H) (h : PostS K W w H σ' (.nx env st) D) : D.nx σ H := h w σ H r ExtS.refl
end
section
variable {K : Ct} {w w' : Wd} {env : AEnv} {st : Sto} {σ : St} {H : Hp} {v : V} {d : D} {i : Nat}
def Wd.free (w : Wd) (i : Nat) : Wd := ⟨w.ρ, w.R, w.O.set i none⟩
theorem free_S (a : Addr) (h : (w.free i).S a) : w.S a := by
  rcases h with h | h | h
  · exact .inl h
  · exact .inr (.inl h)
  · refine .inr (.inr ?_)
    have h : some a ∈ w.O.set i none := h
    rcases List.mem_or_eq_of_mem_set h with q | q
    · exact q
    · cases q
theorem free_ext (r : Rel K w env st σ H) : ExtS K w H (w.free i) H := ⟨⟨[], by simp [Wd.free]⟩, fun a o h n m => ⟨h, n, fun z => by
  have z : some a ∈ w.O.set i none := z
  rcases List.mem_or_eq_of_mem_set z with q | q
  · exact m q
  · cases q⟩, fun a h => .inl h, fun a o h => ⟨o, h⟩, fun _ _ h => h, fun _ h => h⟩
theorem Den.free (h : Den K w.ρ w.S H v d) : Den K (w.free i).ρ (w.free i).S H v d := h.mono Ext.refl (fun a h => .inl (free_S a h)) fun a h => .inl h
theorem Dens.free {vs : List V} {ds : List D} (h : Dens K w.ρ w.S H vs ds) : Dens K (w.free i).ρ (w.free i).S H vs ds := h.mono Ext.refl (fun a h => .inl (free_S a h)) fun a h => .inl h
theorem Rel.freeSto (r : Rel K w env st σ H) : StOk K (w.free i).ρ (w.free i).S H st := r.sto.ext Ext.refl (fun a h => .inl (free_S a h)) (fun a h => .inl h) fun _ _ => rfl
theorem get_set {α : Type} {l : List α} {i j : Nat} {a b : α} (h : (l.set i a)[j]? = some b) : (j = i ∧ a = b ∧ i < l.length) ∨ (j ≠ i ∧ l[j]? = some b) := by
  by_cases e : i = j
  · subst e
    by_cases hi : i < l.length
    · rw [List.getElem?_set_self hi] at h
      exact .inl ⟨rfl, Option.some.inj h, hi⟩
    · rw [List.getElem?_eq_none (by rw [List.length_set]; omega)] at h; cases h
  · rw [List.getElem?_set_ne e] at h
    exact .inr ⟨fun z => e z.symm, h⟩
theorem Rel.setSh (r : Rel K w env st σ H) (h : Den K w.ρ w.S H v d) : Rel K (w.free i) (env.set i (.sh d)) st (σ.set i (some v)) H where
  sto := r.freeSto
  res := r.res
  len := by rw [List.length_set, List.length_set, r.len]
  lenO := by show (w.O.set i none).length = _; rw [List.length_set, List.length_set, r.lenO]
  slot := fun j v' s o h1 h2 h3 => by
    rcases get_set h1 with ⟨rfl, rfl, hi⟩ | ⟨hj, h1⟩
    · rcases get_set h2 with ⟨_, rfl, _⟩ | ⟨q, _⟩
      · rcases get_set (show (w.O.set j none)[j]? = some o from h3) with ⟨_, rfl, _⟩ | ⟨q, _⟩
        · exact ⟨rfl, v, rfl, h.free⟩
        · exact absurd rfl q
      · exact absurd rfl q
    · rcases get_set h2 with ⟨q, _⟩ | ⟨_, h2⟩
      · exact absurd q hj
      · rcases get_set (show (w.O.set i none)[j]? = some o from h3) with ⟨q, _⟩ | ⟨_, h3⟩
        · exact absurd q hj
        · have q := r.slot j v' s o h1 h2 h3
          cases s with
          | un => exact q
          | sh d' => obtain ⟨e, x, ex, dx⟩ := q; exact ⟨e, x, ex, dx.free⟩
          | own ds => obtain ⟨a, vs, e1, e2, e3, e4⟩ := q; exact ⟨a, vs, e1, e2, e3, e4.free⟩
  ndO := fun j k a h1 h2 => by
    rcases get_set (show (w.O.set i none)[j]? = some (some a) from h1) with ⟨_, q, _⟩ | ⟨_, h1⟩
    · cases q
    · rcases get_set (show (w.O.set i none)[k]? = some (some a) from h2) with ⟨_, q, _⟩ | ⟨_, h2⟩
      · cases q
      · exact r.ndO j k a h1 h2
  disO := fun a h => by
    rcases List.mem_or_eq_of_mem_set (show some a ∈ w.O.set i none from h) with q | q
    · exact r.disO a q
    · cases q
theorem Rel.setOwn {p : Addr} {vs : List V} {ds : List D} (r : Rel K w env st σ H) (hp : H p = none) (h : Dens K w.ρ w.S H vs ds) : Rel K ⟨w.ρ, w.R, w.O.set i (some p)⟩ (env.set i (.own ds)) st (σ.set i (some (V.ref p))) (upd H p (.lst vs)) := by
  have nS : ¬ w.S p := r.fresh hp
  have hS : ∀ a, (⟨w.ρ, w.R, w.O.set i (some p)⟩ : Wd).S a → w.S a ∨ H a = none := fun a q => by
    rcases q with q | q | q
    · exact .inl (.inl q)
    · exact .inl (.inr (.inl q))
    · rcases List.mem_or_eq_of_mem_set (show some a ∈ w.O.set i (some p) from q) with z | z
      · exact .inl (.inr (.inr z))
      · cases z; exact .inr hp
  have m : ∀ {v d}, Den K w.ρ w.S H v d → Den K w.ρ (⟨w.ρ, w.R, w.O.set i (some p)⟩ : Wd).S (upd H p (.lst vs)) v d := fun h => h.mono (Ext.new hp) hS fun a h => .inl h
  have ms : ∀ {v d}, Dens K w.ρ w.S H v d → Dens K w.ρ (⟨w.ρ, w.R, w.O.set i (some p)⟩ : Wd).S (upd H p (.lst vs)) v d := fun h => h.mono (Ext.new hp) hS fun a h => .inl h
  have ne : ∀ a o, H a = some o → upd H p (.lst vs) a = H a := fun a o e => upd_ne (ne_of_none e hp)
  refine ⟨r.sto.ext (Ext.new hp) hS (fun a h => .inl h) fun a h => ?_, fun a h => ?_, by rw [List.length_set, List.length_set, r.len], by show (w.O.set i (some p)).length = _; rw [List.length_set, List.length_set, r.lenO], fun j v' s o h1 h2 h3 => ?_, fun j k a h1 h2 => ?_, fun a h => ?_⟩
  · obtain ⟨o, e⟩ := r.sto.there h
    exact ne a o e
  · obtain ⟨⟨o, e⟩, n⟩ := r.res a h
    exact ⟨⟨o, by rw [ne a o e]; exact e⟩, n⟩
  · rcases get_set h1 with ⟨rfl, rfl, hi⟩ | ⟨hj, h1⟩
    · rcases get_set h2 with ⟨_, rfl, _⟩ | ⟨q, _⟩
      · rcases get_set (show (w.O.set j (some p))[j]? = some o from h3) with ⟨_, rfl, _⟩ | ⟨q, _⟩
        · exact ⟨p, vs, rfl, rfl, upd_same, ms h⟩
        · exact absurd rfl q
      · exact absurd rfl q
    · rcases get_set h2 with ⟨q, _⟩ | ⟨_, h2⟩
      · exact absurd q hj
      · rcases get_set (show (w.O.set i (some p))[j]? = some o from h3) with ⟨q, _⟩ | ⟨_, h3⟩
        · exact absurd q hj
        · have q := r.slot j v' s o h1 h2 h3
          cases s with
          | un => exact q
          | sh d' => obtain ⟨e, x, ex, dx⟩ := q; exact ⟨e, x, ex, m dx⟩
          | own ds => obtain ⟨a, us, e1, e2, e3, e4⟩ := q; exact ⟨a, us, e1, e2, by rw [ne a _ e3]; exact e3, ms e4⟩
  · have np : ∀ k a, w.O[k]? = some (some a) → a ≠ p := fun k a e z => nS (.inr (.inr (by rw [← z]; exact List.mem_of_getElem? e)))
    rcases get_set (show (w.O.set i (some p))[j]? = some (some a) from h1) with ⟨e1, q, _⟩ | ⟨_, h1⟩
    · cases q
      rcases get_set (show (w.O.set i (some p))[k]? = some (some p) from h2) with ⟨e2, _, _⟩ | ⟨_, h2⟩
      · rw [e1, e2]
      · exact absurd rfl (np k p h2)
    · rcases get_set (show (w.O.set i (some p))[k]? = some (some a) from h2) with ⟨_, q, _⟩ | ⟨_, h2⟩
      · cases q; exact absurd rfl (np j p h1)
      · exact r.ndO j k a h1 h2
  · rcases List.mem_or_eq_of_mem_set (show some a ∈ w.O.set i (some p) from h) with q | q
    · exact r.disO a q
    · cases q
      exact ⟨fun z => nS (.inl z), fun z => nS (.inr (.inl z))⟩
theorem own_ext {p : Addr} {vs : List V} (r : Rel K w env st σ H) (hp : H p = none) : ExtS K w H ⟨w.ρ, w.R, w.O.set i (some p)⟩ (upd H p (.lst vs)) :=
  ⟨⟨[], by simp⟩, fun a o h n m => ⟨by rw [upd_ne (ne_of_none h hp)]; exact h, n, fun z => by
    rcases List.mem_or_eq_of_mem_set (show some a ∈ w.O.set i (some p) from z) with q | q
    · exact m q
    · cases q; rw [hp] at h; cases h⟩, fun a h => .inl h, fun a o h => ⟨o, by rw [upd_ne (ne_of_none h hp)]; exact h⟩, fun _ _ h => SqT.upd hp h, fun _ h => h⟩
theorem Rel.putOwn {a : Addr} {vs ws : List V} {ds es : List D} (r : Rel K w env st σ H) (hi : env[i]? = some (.own ds)) (ho : w.O[i]? = some (some a)) (hH : H a = some (.lst vs)) (h : Dens K w.ρ w.S H ws es) :
    Rel K w (env.set i (.own es)) st σ (upd H a (.lst ws)) ∧ ExtS K w H w (upd H a (.lst ws)) := by
  have hm : some a ∈ w.O := List.mem_of_getElem? ho
  obtain ⟨nρ, nR⟩ := r.disO a hm
  have tu : ∀ b us, SqT K.K H b us → SqT K.K (upd H a (.lst ws)) b us := fun b us q => by
    rcases q with (q | ⟨o, q⟩) | q
    · exact .inl (.inl (by rw [upd_ne (ne_of q hH (by intro z; cases z))]; exact q))
    · exact .inl (.inr ⟨o, by rw [upd_ne (ne_of q hH (by intro z; cases z))]; exact q⟩)
    · exact .inr q
  have X : ExtS K w H w (upd H a (.lst ws)) := ⟨⟨[], by simp⟩, fun b o h n m => ⟨by rw [upd_ne (fun z => m (by rw [z]; exact hm))]; exact h, n, m⟩, fun b h => .inl h, fun b o h => by
    by_cases e : b = a
    · exact ⟨_, by rw [e]; exact upd_same⟩
    · exact ⟨o, by rw [upd_ne e]; exact h⟩, tu, fun _ h => h⟩
  refine ⟨⟨⟨r.sto.len, r.sto.nd, fun n b c h1 h2 => (r.sto.cell n b c h1 h2).monoS X (upd_ne fun z => nρ (by rw [← z]; exact List.mem_of_getElem? h1))⟩, fun b q => ?_, by rw [List.length_set]; exact r.len, by rw [List.length_set]; exact r.lenO, fun j v' s o h1 h2 h3 => ?_, r.ndO, r.disO⟩, X⟩
  · obtain ⟨⟨o, e⟩, n⟩ := r.res b q
    exact ⟨X.there b o e, n⟩
  · rcases get_set h2 with ⟨rfl, rfl, _⟩ | ⟨hj, h2⟩
    · have q := r.slot j v' _ o h1 hi h3
      rw [ho] at h3
      cases h3
      obtain ⟨b, us, e1, e2, e3, _⟩ := q
      cases e1
      exact ⟨a, ws, rfl, e2, upd_same, h.monoS X⟩
    · have q := r.slot j v' s o h1 h2 h3
      cases s with
      | un => exact q
      | sh d' => obtain ⟨e, x, ex, dx⟩ := q; exact ⟨e, x, ex, dx.monoS X⟩
      | own ds' =>
        obtain ⟨b, us, e1, e2, e3, e4⟩ := q
        subst e1
        have nb : b ≠ a := fun z => hj (r.ndO j i b h3 (by rw [z]; exact ho))
        exact ⟨b, us, rfl, e2, by rw [upd_ne nb]; exact e3, e4.monoS X⟩
theorem Rel.freeze {ds : List D} (r : Rel K w env st σ H) (hi : env[i]? = some (.own ds)) : Rel K (w.free i) (env.set i (.sh (.lst ds))) st σ H := by
  obtain ⟨a, vs, e0, e1, e2, t⟩ := r.ownE hi
  have hm : some a ∈ w.O := List.mem_of_getElem? e0
  obtain ⟨nρ, nR⟩ := r.disO a hm
  have nS : ¬ (w.free i).S a := fun z => by
    rcases z with z | z | z
    · exact nρ z
    · exact nR z
    · obtain ⟨j, hj⟩ := List.mem_iff_getElem?.mp (show some a ∈ w.O.set i none from z)
      rcases get_set hj with ⟨_, q, _⟩ | ⟨q, hj⟩
      · cases q
      · exact q (r.ndO j i a hj e0)
  have d : Den K (w.free i).ρ (w.free i).S H (.ref a) (.lst ds) := .lst e2 nS t.free
  have q := (Rel.setSh (i := i) (v := .non) (d := .non) r .non)
  refine ⟨q.sto, q.res, by rw [List.length_set]; exact r.len, by rw [List.length_set]; show (w.O.set i none).length = _; rw [List.length_set, r.lenO], fun j v' s o h1 h2 h3 => ?_, q.ndO, q.disO⟩
  rcases get_set h2 with ⟨rfl, rfl, _⟩ | ⟨hj, h2⟩
  · rw [e1] at h1
    cases h1
    rcases get_set (show (w.O.set j none)[j]? = some o from h3) with ⟨_, rfl, _⟩ | ⟨z, _⟩
    · exact ⟨rfl, _, rfl, d⟩
    · exact absurd rfl z
  · rcases get_set (show (w.O.set i none)[j]? = some o from h3) with ⟨z, _⟩ | ⟨_, h3⟩
    · exact absurd z hj
    · have q := r.slot j v' s o h1 h2 h3
      cases s with
      | un => exact q
      | sh d' => obtain ⟨e, x, ex, dx⟩ := q; exact ⟨e, x, ex, dx.free⟩
      | own ds => obtain ⟨a, vs, e1, e2, e3, e4⟩ := q; exact ⟨a, vs, e1, e2, e3, e4.free⟩
end
end AM
namespace AM
open PySem PySem.Spec PyProof.Rows L2
section
variable {X : Cx} {Γ : Nat → Addr} {W : WX} {e a b c : Expr} {f fa fb : EF} {s : Stmt} {ss rest : List Stmt} {g h : SF} {t : TF} {pos : Pos}
def sSeq (g h : SF) : SF := fun env st => (g env st).bind h
def sPass : SF := fun env st => .nx env st
theorem pssd_cons (h1 : PS X s (tS (XC X Γ) W g)) (h2 : PSs X rest (tS (XC X Γ) W h)) : PSs X (s :: rest) (tS (XC X Γ) W (sSeq g h)) := pssImp (pss_cons h1 h2) fun D σ H ⟨w, env, st, r, p⟩ => ⟨w, env, st, r, p.bind⟩
theorem pssd_one (h1 : PS X s (tS (XC X Γ) W g)) : PSs X [s] (tS (XC X Γ) W g) := pss_one h1
theorem pssd_nil : PSs X [] (tS (XC X Γ) W sPass) := pssImp pss_nil fun D σ H ⟨w, env, st, r, p⟩ => p.nxt r
def sNever : SF := fun _ _ => .bad
theorem psd_never : PS X s (tS (XC X Γ) W sNever) := psImp ps_never fun D σ H ⟨w, env, st, r, p⟩ => p.elim
def sRet (f : EF) : SF := fun env st => (f env st).then fun d st => .rt d st
theorem psd_ret (he : PE X e (tD (XC X Γ) W f)) : PS X (.Return (some e) pos) (tS (XC X Γ) W (sRet f)) := psImp (ps_ret he) fun D σ H h => by
  obtain ⟨w, env, st, r, p⟩ := t1S (Da := Den) (k := fun env d st => .rt d st) h
  refine ⟨w, env, st, r, p.mono ?_⟩
  rintro x H1 ⟨w1, env1, st1, d, r1, d1, p1⟩
  exact p1 w1 H1 x r1.sto ExtS.refl d1
def sExpr (f : EF) : SF := fun env st => (f env st).then fun _ st => .nx env st
def sIf (t : TF) (g h : SF) : SF := fun env st => (t env st).then fun b st => if b = true then g env st else h env st
theorem psd_if {p q : List Stmt} (hc : PT X c (tT (XC X Γ) W t)) (ha : PSs X p (tS (XC X Γ) W g)) (hb : PSs X q (tS (XC X Γ) W h)) : PS X (.If c p q pos) (tS (XC X Γ) W (sIf t g h)) := psImp (ps_if hc ha hb) fun D σ H h' => by
  obtain ⟨w, env, st, r, p⟩ := t1S (Da := dnB) (k := fun env b st => if b = true then g env st else h env st) h'
  refine ⟨w, env, st, r, p.mono ?_⟩
  rintro x H1 ⟨w1, env1, st1, d, r1, d1, p1⟩
  cases (show x = d from d1)
  cases x with
  | true =>
    rw [if_pos rfl] at p1 ⊢
    exact ⟨w1, env1, st1, r1, p1⟩
  | false =>
    rw [if_neg Bool.false_ne_true] at p1 ⊢
    exact ⟨w1, env1, st1, r1, p1⟩
abbrev GF := D → AEnv → Sto → SR
def tgG (K : Ct) (W : WX) (g : GF) : TG := fun v σ H Q => ∃ w env st d, Rel K w env st σ H ∧ Den K w.ρ w.S H v d ∧ PostS K W w H σ (g d env st) { nx := Q, rt := fun _ _ => False }
def gNm (i : Nat) : GF := fun d env st => .nx (env.set i (.sh d)) st
theorem pgd_name {i : Nat} {x : Str} (hN : X.N.Nodup) (hi : X.N[i]? = some x := by rfl) (hx : Loc X.env.scope x := by first | exact Or.inl rfl | exact Or.inr rfl) (hf : X.fn x = true ∨ X.env.scope.names.lookup x = some .local := by first | exact .inl rfl | exact .inr rfl) : PG X (.Name x pos) (tgG (XC X Γ) W (gNm i)) := by
  refine ⟨fun pins s σ H v u Q I rv h => (pg_name hN hi hx hf).run pins s σ H v u Q I rv ?_⟩
  obtain ⟨w, env, st, d, r, hd, p⟩ := h
  exact p (w.free i) _ H (r.setSh hd) (free_ext r)
def sSet (i : Nat) (f : EF) : SF := fun env st => (f env st).then fun d st => .nx (env.set i (.sh d)) st
theorem psd_set {i : Nat} {x : Str} {pos' : Pos} (hN : X.N.Nodup) (he : PE X e (tD (XC X Γ) W f)) (hi : X.N[i]? = some x := by rfl) (hx : Loc X.env.scope x := by first | exact Or.inl rfl | exact Or.inr rfl) (hs : swapsWith e (some (.Name x pos')) pos.line X.env = pure false := by rfl)
    (hf : X.fn x = true ∨ X.env.scope.names.lookup x = some .local := by first | exact .inl rfl | exact .inr rfl) : PS X (.Assign [.Name x pos'] e pos) (tS (XC X Γ) W (sSet i f)) := psImp (ps_set hN hi hx he hs hf) fun D σ H h => by
  obtain ⟨w, env, st, r, p⟩ := t1S (Da := Den) (k := fun env d st => .nx (env.set i (.sh d)) st) h
  refine ⟨w, env, st, r, p.mono ?_⟩
  rintro x H1 ⟨w1, env1, st1, d, r1, d1, p1⟩
  exact p1 (w1.free i) _ H1 (r1.setSh d1) (free_ext r1)
def onlyNx : SR → SR
  | .nx env st => .nx env st
  | .exc e st => .exc e st
  | _ => .bad
theorem PostS.onlyNx {K : Ct} {w : Wd} {H : Hp} {σ : St} {r : SR} {D : Ends} (h : PostS K W w H σ (AM.onlyNx r) D) : PostS K W w H σ r { nx := D.nx, rt := fun _ _ => False } := by
  cases r with
  | nx e s => exact h
  | exc e s => exact h
  | _ => exact h.elim
def sAsg (f : EF) (g : GF) : SF := fun env st => (f env st).then fun d st => onlyNx (g d env st)
theorem psd_asg {tg : Expr} {g : GF} (he : PE X e (tD (XC X Γ) W f)) (hg : PG X tg (tgG (XC X Γ) W g)) (hs : swapsWithSole [tg] e pos.line X.env = pure false := by rfl) (hw : swappedStores [tg] e X.env = pure none := by rfl)
    (h1 : (assignEach [tg] X.env).map (·.2) = [assign tg X.env] := by rfl) : PS X (.Assign [tg] e pos) (tS (XC X Γ) W (sAsg f g)) := psImp (ps_asg he hg hs hw h1) fun D σ H h => by
  obtain ⟨w, env, st, r, p⟩ := t1S (Da := Den) (k := fun env d st => onlyNx (g d env st)) h
  refine ⟨w, env, st, r, p.mono ?_⟩
  rintro x H1 ⟨w1, env1, st1, d, r1, d1, p1⟩
  exact ⟨w1, env1, st1, d, r1, d1, (PostS.onlyNx p1)⟩
abbrev GFs := List D → AEnv → Sto → SR
def tgGs (K : Ct) (W : WX) (g : GFs) : TGs := fun vs σ H Q => ∃ w env st ds, Rel K w env st σ H ∧ Dens K w.ρ w.S H vs ds ∧ PostS K W w H σ (g ds env st) { nx := Q, rt := fun _ _ => False }
def gNilD : GFs := fun ds env st => match ds with
  | [] => .nx env st
  | _ => .bad
def gConsD (g : GF) (gs : GFs) : GFs := fun ds env st => match ds with
  | d :: ds => (onlyNx (g d env st)).bind fun env st => gs ds env st
  | [] => .bad
theorem pgsd_nil : PGs X [] (tgGs (XC X Γ) W gNilD) := by
  refine ⟨fun pins s σ H v u Q I rv h => pgs_nil.run pins s σ H v u Q I rv ?_⟩
  obtain ⟨w, env, st, ds, r, hd, p⟩ := h
  cases hd with
  | nil => exact ⟨rfl, p.nxt r⟩
  | cons _ _ => exact p.elim
theorem pgsd_cons {es : List Expr} {g : GF} {gs : GFs} (h1 : PG X e (tgG (XC X Γ) W g)) (h2 : PGs X es (tgGs (XC X Γ) W gs)) (hs : (assignEach (e :: es) X.env).map (·.2) = assign e X.env :: (assignEach es X.env).map (·.2) := by rfl) : PGs X (e :: es) (tgGs (XC X Γ) W (gConsD g gs)) := by
  refine ⟨fun pins s σ H v u Q I rv h => (pgs_cons h1 h2 hs).run pins s σ H v u Q I rv ?_⟩
  obtain ⟨w, env, st, ds, r, hd, p⟩ := h
  cases hd with
  | nil => exact p.elim
  | @cons v d vs ds hd ht =>
    refine ⟨v, vs, rfl, w, env, st, d, r, hd, ?_⟩
    have p : PostS (XC X Γ) W w H σ ((onlyNx (g d env st)).bind fun env st => gs ds env st) { nx := Q, rt := fun _ _ => False } := p
    cases q : g d env st with
    | nx e1 s1 =>
      rw [q] at p
      intro w' σ' H' r1 x1
      exact ⟨w', e1, s1, ds, r1, ht.monoS x1, PostS.back x1 p⟩
    | exc e1 s1 => rw [q] at p; exact p
    | _ => rw [q] at p; exact p.elim
def gTupD (n : Nat) (gs : GFs) : GF := fun d env st => match d with
  | .tup ds => if ds.length = n then gs ds env st else .bad
  | _ => .bad
theorem pgd_tup {es : List Expr} {k n : Nat} {gs : GFs} (hc : X.calm = true) (h : PGs X es (tgGs (XC X Γ) W gs)) (hn : (assignEach es X.env).length = n := by rfl) (hst : (assignEach es X.env).findIdx? (·.1) = none := by rfl) :
    PG X (.Tuple es k pos) (tgG (XC X Γ) W (gTupD n gs)) := by
  refine ⟨fun pins s σ H v u Q I rv h' => (pg_tup hc h hn hst).run pins s σ H v u Q I rv ?_⟩
  obtain ⟨w, env, st, d, r, hd, p⟩ := h'
  cases d with
  | tup ds =>
    obtain ⟨a, vs, e1, hq, t⟩ := DenB.tup (w := w) hd.b
    have p : PostS (XC X Γ) W w H σ (if ds.length = n then gs ds env st else .bad) { nx := Q, rt := fun _ _ => False } := p
    split at p
    · rename_i q
      exact ⟨a, vs, e1, hq, by rw [t.length, q], w, env, st, ds, r, t, p⟩
    · exact p.elim
  | _ => exact p.elim
def tF (K : Ct) (W : WX) (f : AEnv → Sto → Res (List D)) : TE := fun σ H Q => ∃ w env st, Rel K w env st σ H ∧ (match f env st with
  | .ok ds st' => ∀ ρ' H' p vs, StOk K ρ' (w.at_ ρ').S H' st' → Ext K w.ρ H ρ' H' → H' p = none → Dens K ρ' (w.at_ ρ').S H' vs ds → Q (.ref p) (upd H' p (.lst vs))
  | .exc e st' => ∀ ρ' H' d gs, StOk K ρ' (w.at_ ρ').S H' st' → Ext K w.ρ H ρ' H' → XdAt H' (w.at_ ρ').S d gs → DenF K ρ' (w.at_ ρ').S H' gs e.fs → W (.ref (K.Γ e.c)) (some d) σ H'
  | .bad => False)
def dF (f : AEnv → Sto → Res (List D)) : EF := fun env st => (f env st).bind fun ds st => .ok (.lst ds) st
theorem pdf {f : AEnv → Sto → Res (List D)} (h : PE X e (tF (XC X Γ) W f)) : PE X e (tD (XC X Γ) W (dF f)) := peImp h fun σ H Q ⟨w, env, st, r, p⟩ => ⟨w, env, st, r, by
  unfold dF at p
  cases q : f env st with
  | ok ds st' =>
    rw [q] at p
    intro ρ' H' pp vs h1 h2 h3 h4
    exact Post.newLst (r.ext h2 h1) (Post.back h2 p) h4 h3
  | exc x st' => rw [q] at p; exact p
  | bad => rw [q] at p; exact p⟩
def dLstF (fs : EFs) : AEnv → Sto → Res (List D) := fun env st => (fs env st).bind fun ds st => if ds.length ≤ sizeLine then .ok ds st else .bad
theorem pf_lst {es : List Expr} {fs : EFs} (h : PA X es (tDs (XC X Γ) W fs)) : PE X (.List es pos) (tF (XC X Γ) W (dLstF fs)) := peImp (pe_lst h) fun σ H Q ⟨w, env, st, r, p⟩ => ⟨w, env, st, r, by
  unfold dLstF at p
  cases q : fs env st with
  | ok ds st' =>
    rw [q] at p
    intro ρ' H' xs h1 h2 h3
    by_cases hz : ds.length ≤ sizeLine
    · have e : (Res.ok ds st').bind (fun ds st => if ds.length ≤ sizeLine then Res.ok ds st else .bad) = .ok ds st' := if_pos hz
      rw [e] at p
      exact ⟨by rw [h3.length]; exact hz, fun pp hp => p ρ' H' pp xs h1 h2 hp h3⟩
    · have e : (Res.ok ds st').bind (fun ds st => if ds.length ≤ sizeLine then Res.ok ds st else .bad) = .bad := if_neg hz
      rw [e] at p
      exact p.elim
  | exc x st' => rw [q] at p; exact p
  | bad => rw [q] at p; exact p⟩
def sOwn (i : Nat) (f : AEnv → Sto → Res (List D)) : SF := fun env st => (f env st).then fun ds st => .nx (env.set i (.own ds)) st
def frz (i : Nat) (g : SF) : SF := fun env st => match env[i]? with
  | some (.own ds) => g (env.set i (.sh (.lst ds))) st
  | _ => g env st
theorem psd_frz (i : Nat) (h : PS X s (tS (XC X Γ) W g)) : PS X s (tS (XC X Γ) W (frz i g)) := psImp h fun D σ H ⟨w, env, st, r, p⟩ => by
  unfold frz at p
  split at p
  · rename_i ds e
    exact ⟨w.free i, _, st, r.freeze e, PostS.back (free_ext r) p⟩
  · exact ⟨w, env, st, r, p⟩
def sApp (i : Nat) (f : EF) : SF := fun env st => match env[i]? with
  | some (.own ds) => (f env st).then fun d st => if ds.length < sizeLine then .nx (env.set i (.own (ds ++ [d]))) st else .bad
  | _ => .bad
theorem psd_app (i : Nat) {x : Str} {xp ap pos2 : Pos} (he : PE X e (tD (XC X Γ) W f)) (hN : X.N[i]? = some x := by rfl) (hv : Vis X.env.scope x := by first | exact Or.inl rfl | exact Or.inr (Or.inl rfl) | exact Or.inr (Or.inr rfl)) (hd : (x == ("__debug__" : Str)) = false := by decide) (hcd : (x == ("__classdict__" : Str)) = false := by decide)
    (hbase : attributeBase (.Name x xp) "append" X.env (eval (.Name x xp) X.env) = eval (.Name x xp) X.env := by rfl)
    (hfew : ((backTo pos (starEach (e :: []) X.env)).all (fun x => !x.1) && (backToKw pos (keywordEach [] X.env)).all (fun x => x.1.isSome)
      && decide ((e :: []).length + ([] : List Keyword).length + (if ([] : List Keyword).isEmpty then 0 else 1) < 30)) = true := by rfl)
    (hline : (ap.endLine == pos.line) = true := by rfl) (hst : starEach (e :: []) X.env = (false, eval e X.env) :: starEach [] X.env := by rfl) (hplain : (backTo pos (starEach [] X.env)).any (·.1) = false := by rfl)
    (hs : swapsWith (.Call (.Attribute (.Name x xp) "append" ap) [e] [] pos) none pos2.line X.env = pure false := by rfl) :
    PS X (.Expr (.Call (.Attribute (.Name x xp) "append" ap) [e] [] pos) pos2) (tS (XC X Γ) W (sApp i f)) := psImp (ps_expr (pe_bm F.plainAttrs_list F.slot_list_append F.type_list_append mt_append (pe_var hN hv hd hcd) (pa_cons he pa_nil hst) hbase hfew hline hst hplain) hs) fun D σ H ⟨w, env, st, r, p⟩ => by
  unfold sApp at p
  split at p
  · rename_i ds0 e0
    obtain ⟨a, vs, h1, h2, h3, h4⟩ := r.ownE e0
    refine ⟨_, h2, .inl ⟨rfl, vs, SqL.of h3⟩, w, env, st, r, (Post.then (Da := Den) r p).mono ?_⟩
    rintro y H1 ⟨w1, st1, d, r1, x1, d1, p1⟩
    obtain ⟨a', vs', g1, g2, g3, g4⟩ := r1.ownE e0
    split at p1
    · rename_i hz
      rw [h2] at g2
      cases g2
      refine ⟨a, vs', y, rfl, rfl, g3, by rw [g4.length]; exact hz, ?_⟩
      obtain ⟨r2, x2⟩ := r1.putOwn e0 g1 g3 (g4.append (.cons d1 .nil))
      exact p1 w1 σ _ r2 x2
    · exact p1.elim
  · exact p.elim
end
end AM
namespace AM
open PySem PySem.Spec PyProof.Rows L2
structure Iter (K : Ct) (w : Wd) (H : Hp) (J : It) (items : List D) : Prop where
  goes : ∀ w' H' i, ExtS K w H w' H' → i < items.length → J.go i H'
  stops : ∀ w' H', ExtS K w H w' H' → J.stop items.length H'
  yields : ∀ w' env st σ H' i x H2, Rel K w' env st σ H' → ExtS K w H w' H' → i < items.length → J.yld i H' x H2 → ∃ d, items[i]? = some d ∧ Den K w'.ρ w'.S H2 x d ∧ Rel K w' env st σ H2 ∧ Ext K w'.ρ H' w'.ρ H2
abbrev IF := AEnv → Sto → Res (List D)
def PostI (K : Ct) (W : WX) (w : Wd) (H : Hp) (σ : St) (r : Res (List D)) (R : It → Hp → Prop) : Prop := match r with
  | .ok items st' => ∀ ρ' H' J, StOk K ρ' (w.at_ ρ').S H' st' → Ext K w.ρ H ρ' H' → Iter K (w.at_ ρ') H' J items → R J H'
  | .exc e st' => ∀ ρ' H' d gs, StOk K ρ' (w.at_ ρ').S H' st' → Ext K w.ρ H ρ' H' → XdAt H' (w.at_ ρ').S d gs → DenF K ρ' (w.at_ ρ').S H' gs e.fs → W (.ref (K.Γ e.c)) (some d) σ H'
  | .bad => False
def tI (K : Ct) (W : WX) (f : IF) : TI := fun σ H R => ∃ w env st, Rel K w env st σ H ∧ PostI K W w H σ (f env st) R
section
variable {K : Ct} {w : Wd} {H : Hp}
theorem iter_list {a : Addr} {vs : List V} {ds : List D} (h : H a = some (.lst vs)) (n : ¬ w.S a) (t : Dens K w.ρ w.S H vs ds) : Iter K w H (Itl K.K a) ds := by
  have k : ∀ w' H', ExtS K w H w' H' → H' a = some (.lst vs) := fun w' H' x => (x.keep a _ h (fun z => n (.inl z)) fun z => n (.inr (.inr z))).1
  refine ⟨fun w' H' i x hi => ?_, fun w' H' x => ⟨vs, SqL.of (k w' H' x), by rw [t.length]; exact Nat.le_refl _⟩, fun w' env st σ H' i y H2 r x hi q => ?_⟩
  · have hv : i < vs.length := by rw [t.length]; exact hi
    exact ⟨vs, vs[i], SqL.of (k w' H' x), List.getElem?_eq_getElem hv⟩
  · obtain ⟨rfl, q⟩ := q
    obtain ⟨d, e1, e2⟩ := (t.monoS x).getV (q vs (SqL.of (k w' _ x)))
    exact ⟨d, e1, e2, r, Ext.refl⟩
theorem iter_frz {a : Addr} {vs : List V} {ds : List D} (h : SqF K.K H w.S a vs) (t : Dens K w.ρ w.S H vs ds) : Iter K w H (Itl K.K a) ds := by
  have k : ∀ w' H', ExtS K w H w' H' → SqL K.K H' a vs := fun w' H' x => SqF.sql (S := fun _ => False) (h.imp fun o e n => ⟨(x.keep a _ e (fun z => n (.inl z)) fun z => n (.inr (.inr z))).1, fun z => z⟩)
  refine ⟨fun w' H' i x hi => ?_, fun w' H' x => ⟨vs, k w' H' x, by rw [t.length]; exact Nat.le_refl _⟩, fun w' env st σ H' i y H2 r x hi q => ?_⟩
  · have hv : i < vs.length := by rw [t.length]; exact hi
    exact ⟨vs, vs[i], k w' H' x, List.getElem?_eq_getElem hv⟩
  · obtain ⟨rfl, q⟩ := q
    obtain ⟨d, e1, e2⟩ := (t.monoS x).getV (q vs (k w' _ x))
    exact ⟨d, e1, e2, r, Ext.refl⟩
theorem iter_tup {a : Addr} {vs : List V} {ds : List D} (h : SqT K.K H a vs) (t : Dens K w.ρ w.S H vs ds) : Iter K w H (Itt K.K a) ds := by
  refine ⟨fun w' H' i x hi => ?_, fun w' H' x => ⟨vs, x.tups _ _ h, by rw [t.length]; exact Nat.le_refl _⟩, fun w' env st σ H' i y H2 r x hi q => ?_⟩
  · have hv : i < vs.length := by rw [t.length]; exact hi
    exact ⟨vs, vs[i], x.tups _ _ h, List.getElem?_eq_getElem hv⟩
  · obtain ⟨rfl, q⟩ := q
    obtain ⟨d, e1, e2⟩ := (t.monoS x).getV (q vs (x.tups _ _ h))
    exact ⟨d, e1, e2, r, Ext.refl⟩
theorem iter_str (s : Str) : Iter K w H (Its s) (signs s) := by
  have hl : (signs s).length = s.cps.size := by unfold signs; rw [List.length_map, Array.length_toList]
  refine ⟨fun w' H' i x hi => by rw [hl] at hi; exact hi, fun w' H' x => by rw [hl]; exact Nat.le_refl _, fun w' env st σ H' i y H2 r x hi q => ?_⟩
  obtain ⟨rfl, c, e, rfl⟩ := q
  refine ⟨.str (mk [c]), ?_, .str _, r, Ext.refl⟩
  unfold signs
  rw [List.getElem?_map, Array.getElem?_toList, e]
  rfl
def rng (lo : Int) (n : Nat) : List D := (List.range n).map fun i => .int (lo + (i : Nat))
theorem iter_range (lo : Int) (n : Nat) : Iter K w H (Itr lo n) (rng lo n) := by
  have hl : (rng lo n).length = n := by unfold rng; rw [List.length_map, List.length_range]
  refine ⟨fun w' H' i x hi => by rw [hl] at hi; exact hi, fun w' H' x => by rw [hl]; exact Nat.le_refl _, fun w' env st σ H' i y H2 r x hi q => ?_⟩
  obtain ⟨rfl, rfl⟩ := q
  rw [hl] at hi
  refine ⟨.int (lo + (i : Nat)), ?_, .int _, r, Ext.refl⟩
  unfold rng
  rw [List.getElem?_map, List.getElem?_range hi]
  rfl
end
section
variable {X : Cx} {Γ : Nat → Addr} {W : WX} {e a b c tg l : Expr} {f fa fb : EF} {s : Stmt} {ss rest : List Stmt} {g h : SF} {pos : Pos}
def itemsD : D → Sto → Res (List D) := fun d st => match d with
  | .tup ds => .ok ds st
  | .lst ds => .ok ds st
  | .fz ds => .ok ds st
  | .str s => .ok (signs s) st
  | _ => .bad
def iSeq (f : EF) : IF := fun env st => (f env st).bind itemsD
theorem pid_seq (h : PE X l (tD (XC X Γ) W f)) : PI X tg l (tI (XC X Γ) W (iSeq f)) := by
  refine ⟨fun pins s σ H R I hh => ?_⟩
  obtain ⟨w, env, st, r, p⟩ := hh
  have p : PostI (XC X Γ) W w H σ ((f env st).bind itemsD) R := p
  cases q : f env st with
  | ok d st1 =>
    rw [q] at p
    cases d with
    | tup ds =>
      refine (pi_tup h).run pins s σ H R I ⟨w, env, st, r, ?_⟩
      rw [q]
      intro ρ' H' x h1 h2 h3
      obtain ⟨a, vs, e1, hq, t⟩ := DenB.tup (w := w.at_ ρ') h3.b
      exact ⟨a, e1, ⟨vs, hq⟩, p ρ' H' _ h1 h2 (iter_tup hq t)⟩
    | lst ds =>
      refine (pi_list h).run pins s σ H R I ⟨w, env, st, r, ?_⟩
      rw [q]
      intro ρ' H' x h1 h2 h3
      cases h3 with
      | lst hq n t => exact ⟨_, rfl, ⟨_, SqL.of hq⟩, p ρ' H' _ h1 h2 (iter_list hq n t)⟩
    | fz ds =>
      refine (pi_list h).run pins s σ H R I ⟨w, env, st, r, ?_⟩
      rw [q]
      intro ρ' H' x h1 h2 h3
      cases h3 with
      | fz hq t => exact ⟨_, rfl, ⟨_, hq.sql⟩, p ρ' H' _ h1 h2 (iter_frz hq t)⟩
    | str z =>
      refine (pi_str h).run pins s σ H R I ⟨w, env, st, r, ?_⟩
      rw [q]
      intro ρ' H' x h1 h2 h3
      exact ⟨z, DenB.str (w := w.at_ ρ') h3.b, p ρ' H' _ h1 h2 (iter_str z)⟩
    | _ => exact p.elim
  | exc x st1 =>
    rw [q] at p
    refine (pi_tup h).run pins s σ H R I ⟨w, env, st, r, ?_⟩
    rw [q]
    exact p
  | bad => rw [q] at p; exact p.elim
def okR (j : Int) : Bool := decide (-(2 ^ 62) ≤ j) && decide (j < 2 ^ 62)
def iRan (f : EF) : IF := fun env st => (f env st).bind fun d st => match d with
  | .int j => if okR j = true then .ok (rng 0 j.toNat) st else .bad
  | _ => .bad
theorem pid_range1 {p : Pos} (hm : X.mg "range" = none) (ha : PE X a (tD (XC X Γ) W f)) (hg : Gl X "range" := by rfl) (hst : starEach (a :: []) X.env = (false, eval a X.env) :: starEach [] X.env := by rfl) (hs : starEach [a] X.env = [(false, eval a X.env)] := by rfl) :
    PI X tg (.Call (.Name "range" p) [a] [] pos) (tI (XC X Γ) W (iRan f)) := by
  refine ⟨fun pins s σ H R I ⟨w, env, st, r, p⟩ => (pi_range1 hg hm (pa_cons ha pa_nil hst) hs).run pins s σ H R I ⟨w, env, st, r, ?_⟩⟩
  unfold iRan at p
  cases q : f env st with
  | ok d st1 =>
    rw [q] at p
    intro ρ' H' x h1 h2 h3
    cases d with
    | int j =>
      have p : PostI (XC X Γ) W w H σ (if okR j = true then .ok (rng 0 j.toNat) st1 else .bad) R := p
      split at p
      · rename_i hz
        obtain ⟨z1, z2⟩ := Bool.and_eq_true_iff.mp hz
        exact ⟨j, by rw [DenB.int (w := w.at_ ρ') h3.b], of_decide_eq_true z1, of_decide_eq_true z2, p ρ' H' _ h1 h2 (iter_range 0 j.toNat)⟩
      · exact p.elim
    | _ => exact p.elim
  | exc x st1 => rw [q] at p; exact p
  | bad => rw [q] at p; exact p.elim
def kRan2 : D → D → Sto → Res (List D) := fun a b st => match a, b with
  | .int i, .int j => if (okR i && okR j) = true then .ok (rng i (j - i).toNat) st else .bad
  | _, _ => .bad
def iRan2 (fa fb : EF) : IF := fun env st => (fa env st).bind fun a st1 => (fb env st1).bind fun b st => kRan2 a b st
theorem pid_range2 {p : Pos} (hm : X.mg "range" = none) (ha : PE X a (tD (XC X Γ) W fa)) (hb : PE X b (tD (XC X Γ) W fb)) (hg : Gl X "range" := by rfl) (hst : starEach (a :: [b]) X.env = (false, eval a X.env) :: starEach [b] X.env := by rfl) (hst2 : starEach (b :: []) X.env = (false, eval b X.env) :: starEach [] X.env := by rfl)
    (hs : starEach [a, b] X.env = [(false, eval a X.env), (false, eval b X.env)] := by rfl) (hs2 : starEach [b] X.env = [(false, eval b X.env)] := by rfl) :
    PI X tg (.Call (.Name "range" p) [a, b] [] pos) (tI (XC X Γ) W (iRan2 fa fb)) := by
  refine ⟨fun pins s σ H R I ⟨w, env, st, r, p⟩ => (pi_range2 hg hm (pa_cons ha (pa_cons hb pa_nil hst2) hst) hs hs2).run pins s σ H R I ⟨w, env, st, r, ?_⟩⟩
  unfold iRan2 at p
  cases q : fa env st with
  | ok d st1 =>
    rw [q] at p
    have p : PostI (XC X Γ) W w H σ ((fb env st1).bind fun b st => kRan2 d b st) R := p
    intro ρ' H' x h1 h2 h3
    refine ⟨w.at_ ρ', env, st1, r.ext h2 h1, ?_⟩
    cases q2 : fb env st1 with
    | ok d2 st2 =>
      rw [q2] at p
      intro ρ2 H2 y g1 g2 g3
      cases d with
      | int i =>
        cases d2 with
        | int j =>
          have p : PostI (XC X Γ) W w H σ (if (okR i && okR j) = true then .ok (rng i (j - i).toNat) st2 else .bad) R := p
          split at p
          · rename_i hz
            obtain ⟨z1, z2⟩ := Bool.and_eq_true_iff.mp hz
            obtain ⟨y1, y2⟩ := Bool.and_eq_true_iff.mp z1
            obtain ⟨y3, y4⟩ := Bool.and_eq_true_iff.mp z2
            exact ⟨i, j, by rw [DenB.int (w := w.at_ ρ') h3.b, DenB.int (w := w.at_ ρ2) (show Den (XC X Γ) ρ2 (w.at_ ρ2).S H2 y (.int j) from g3).b], ⟨of_decide_eq_true y1, of_decide_eq_true y2, of_decide_eq_true y3, of_decide_eq_true y4⟩, p ρ2 H2 _ g1 (h2.trans g2) (iter_range i (j - i).toNat)⟩
          · exact p.elim
        | _ => exact p.elim
      | _ => exact p.elim
    | exc x st2 =>
      rw [q2] at p
      intro ρ2 H2 dd gs g1 g2 g3 g4
      exact p ρ2 H2 dd gs g1 (h2.trans g2) g3 g4
    | bad => rw [q2] at p; exact p.elim
  | exc x st1 => rw [q] at p; exact p
  | bad => rw [q] at p; exact p.elim
def forL (g : GF) (h : SF) : List D → SF
  | [] => fun env st => .nx env st
  | d :: ds => fun env st => (onlyNx (g d env st)).bind fun env1 st1 => match h env1 st1 with
    | .nx env2 st2 => forL g h ds env2 st2
    | .ct env2 st2 => forL g h ds env2 st2
    | .bk env2 st2 => .nx env2 st2
    | r => r
def sFor (fi : IF) (g : GF) (h : SF) : SF := fun env st => (fi env st).then fun items st => forL g h items env st
theorem psd_for {g : GF} {fi : IF} {iter : Expr} {body : List Stmt} (hp : PassesOwn (model X.prog X.w) X.A X.env X.xe) (hc : X.calm = true) (hi : PI X tg iter (tI (XC X Γ) W fi)) (hg : PG X tg (tgG (XC X Γ) W g)) (hb : PSs X body (tS (XC X Γ) W h))
    (hs : ∀ x, foldedSetIterable iter X.env x = pure x := by intro _; rfl) : PS X (.For tg iter body [] pos) (tS (XC X Γ) W (sFor fi g h)) := psImp (ps_for hp hc hi hg hb hs) fun D σ H ⟨w, env, st, r, p⟩ => by
  refine ⟨w, env, st, r, ?_⟩
  unfold sFor at p
  cases q : fi env st with
  | ok items st1 =>
    rw [q] at p
    have p : PostS (XC X Γ) W w H σ (forL g h items env st1) D := p
    intro ρ' H1 J h1 h2 It
    have r1 := r.ext h2 h1
    have p1 := PostS.back (σ' := σ) (h2.toS r h1) p
    refine ⟨fun i m σ' H' => m = items.length - i ∧ i ≤ items.length ∧ ∃ w' env' st', Rel (XC X Γ) w' env' st' σ' H' ∧ ExtS (XC X Γ) (w.at_ ρ') H1 w' H' ∧ PostS (XC X Γ) W w' H' σ' (forL g h (items.drop i) env' st') D, ⟨items.length, rfl, Nat.zero_le _, _, env, st1, r1, ExtS.refl, p1⟩, ?_⟩
    rintro i m σ' H' ⟨rfl, hi, w', env', st', r', x', p'⟩
    by_cases hlt : i < items.length
    · refine .inr ⟨It.goes w' H' i x' hlt, fun σ2 H2 => ∃ w2 env2 st2, Rel (XC X Γ) w2 env2 st2 σ2 H2 ∧ ExtS (XC X Γ) (w.at_ ρ') H1 w2 H2 ∧ PostS (XC X Γ) W w2 H2 σ2 (forL g h (items.drop (i + 1)) env2 st2) D, fun σ2 H2 ⟨w2, env2, st2, a1, a2, a3⟩ => ⟨items.length - (i + 1), by omega, rfl, hlt, w2, env2, st2, a1, a2, a3⟩, fun x H2 y => ?_⟩
      obtain ⟨d, e1, d1, r2, x2⟩ := It.yields w' env' st' σ' H' i x H2 r' x' hlt y
      have x2s := x2.toS r' r2.sto
      have x3 : ExtS (XC X Γ) (w.at_ ρ') H1 w' H2 := x'.trans x2s
      have ed : items.drop i = d :: items.drop (i + 1) := by
        rw [List.drop_eq_getElem_cons hlt]
        congr 1
        rw [List.getElem?_eq_getElem hlt] at e1
        exact Option.some.inj e1
      rw [ed] at p'
      have p2 : PostS (XC X Γ) W w' H2 σ' ((onlyNx (g d env' st')).bind fun env1 st1 => match h env1 st1 with
        | .nx env2 st2 => forL g h (items.drop (i + 1)) env2 st2
        | .ct env2 st2 => forL g h (items.drop (i + 1)) env2 st2
        | .bk env2 st2 => .nx env2 st2
        | r => r) D := PostS.back x2s p'
      refine ⟨w', env', st', d, r2, d1, ?_⟩
      cases q3 : g d env' st' with
      | nx e3 s3 =>
        rw [q3] at p2
        intro w4 σ4 H4 r4 x4
        refine ⟨w4, e3, s3, r4, ?_⟩
        have p3 := PostS.back (σ' := σ4) x4 p2
        have p3 : PostS (XC X Γ) W w4 H4 σ4 (match h e3 s3 with
          | .nx env2 st2 => forL g h (items.drop (i + 1)) env2 st2
          | .ct env2 st2 => forL g h (items.drop (i + 1)) env2 st2
          | .bk env2 st2 => .nx env2 st2
          | r => r) D := p3
        have x5 := x3.trans x4
        cases q4 : h e3 s3 with
        | nx e5 s5 =>
          rw [q4] at p3
          intro w6 σ6 H6 r6 x6
          exact ⟨w6, e5, s5, r6, x5.trans x6, PostS.back x6 p3⟩
        | ct e5 s5 =>
          rw [q4] at p3
          intro w6 σ6 H6 r6 x6
          exact ⟨w6, e5, s5, r6, x5.trans x6, PostS.back x6 p3⟩
        | bk e5 s5 => rw [q4] at p3; exact p3
        | rt d5 s5 => rw [q4] at p3; exact p3
        | exc d5 s5 => rw [q4] at p3; exact p3
        | bad => rw [q4] at p3; exact p3.elim
      | exc e3 s3 => rw [q3] at p2; exact p2
      | _ => rw [q3] at p2; exact p2.elim
    · have e : i = items.length := by omega
      subst e
      rw [List.drop_length] at p'
      exact .inl ⟨It.stops w' H' x', p'.nxt r'⟩
  | exc x st1 =>
    rw [q] at p
    intro ρ' H' d gs h1 h2 h3 h4
    exact p (w.at_ ρ') σ H' d gs h1 (h2.toS r h1) h3 h4
  | bad => rw [q] at p; exact p.elim
end
end AM
namespace AM
open PySem PySem.Spec PyProof.Rows L2
section
variable {K : Ct} {ρ ρ' : List Addr} {S S' : Addr → Prop} {H H' : Hp}
mutual
theorem Den.gen (hk : ∀ a o, H a = some o → ¬ S a → H' a = some o ∧ ¬ S' a) (ht : ∀ a vs, SqT K.K H a vs → SqT K.K H' a vs) (hh : ∀ (n : Nat) a, ρ[n]? = some a → ρ'[n]? = some a) : ∀ {v : V} {d : D}, Den K ρ S H v d → Den K ρ' S' H' v d
  | _, _, .non => .non
  | _, _, .bl b => .bl b
  | _, _, .int i => .int i
  | _, _, .str s => .str s
  | _, _, .ty n => .ty n
  | _, _, .cls a => .cls a
  | _, _, .tup h t => .tup (ht _ _ h) (Dens.gen hk ht hh t)
  | _, _, .lst h n t => .lst (hk _ _ h n).1 (hk _ _ h n).2 (Dens.gen hk ht hh t)
  | _, _, .fz h t => .fz (h.imp fun o e n => hk _ _ e n) (Dens.gen hk ht hh t)
  | _, _, .ins h n t => .ins (hk _ _ h n).1 (hk _ _ h n).2 (DenF.gen hk ht hh t)
  | _, _, .hd h => .hd (hh _ _ h)
  | _, _, .exv h n t => .exv (hk _ _ h n).1 (hk _ _ h n).2 (DenF.gen hk ht hh t)
  | _, _, .dic h n t => .dic (hk _ _ h n).1 (hk _ _ h n).2 t
theorem Dens.gen (hk : ∀ a o, H a = some o → ¬ S a → H' a = some o ∧ ¬ S' a) (ht : ∀ a vs, SqT K.K H a vs → SqT K.K H' a vs) (hh : ∀ (n : Nat) a, ρ[n]? = some a → ρ'[n]? = some a) : ∀ {vs : List V} {ds : List D}, Dens K ρ S H vs ds → Dens K ρ' S' H' vs ds
  | _, _, .nil => .nil
  | _, _, .cons h t => .cons (Den.gen hk ht hh h) (Dens.gen hk ht hh t)
theorem DenF.gen (hk : ∀ a o, H a = some o → ¬ S a → H' a = some o ∧ ¬ S' a) (ht : ∀ a vs, SqT K.K H a vs → SqT K.K H' a vs) (hh : ∀ (n : Nat) a, ρ[n]? = some a → ρ'[n]? = some a) : ∀ {vs : List (Str × V)} {ds : List (Str × D)}, DenF K ρ S H vs ds → DenF K ρ' S' H' vs ds
  | _, _, .nil => .nil
  | _, _, .cons h t => .cons (Den.gen hk ht hh h) (DenF.gen hk ht hh t)
end
end
section
variable {K : Ct} {w : Wd} {env : AEnv} {st : Sto} {σ : St} {H H' : Hp} {a : Addr} {vs ws : List V}
def Wd.keep (w : Wd) (a : Addr) : Wd := ⟨w.ρ, fun b => w.R b ∨ b = a, w.O⟩
theorem keep_S {b : Addr} : (w.keep a).S b ↔ w.S b ∨ b = a := by
  constructor
  · rintro (h | (h | h) | h)
    · exact .inl (.inl h)
    · exact .inl (.inr (.inl h))
    · exact .inr h
    · exact .inl (.inr (.inr h))
  · rintro ((h | h | h) | h)
    · exact .inl h
    · exact .inr (.inl (.inl h))
    · exact .inr (.inr h)
    · exact .inr (.inl (.inr h))
theorem SlotOk.map {w' : Wd} {v : Option V} {s : Sl} {o : Option Addr} (h : SlotOk K w H v s o) (m : ∀ {v d}, Den K w.ρ w.S H v d → Den K w'.ρ w'.S H' v d) (ms : ∀ {v d}, Dens K w.ρ w.S H v d → Dens K w'.ρ w'.S H' v d) (ho : ∀ b us, o = some b → H b = some (.lst us) → H' b = some (.lst us)) : SlotOk K w' H' v s o := by
  cases s with
  | un => exact h
  | sh d => obtain ⟨e, x, ex, dx⟩ := h; exact ⟨e, x, ex, m dx⟩
  | own ds => obtain ⟨b, us, e1, e2, e3, e4⟩ := h; exact ⟨b, us, e1, e2, ho b us e1 e3, ms e4⟩
theorem Rel.keepNew (r : Rel K w env st σ H) (ha : H a = none) : Rel K (w.keep a) env st σ (upd H a (.lst vs)) ∧ ExtS K w H (w.keep a) (upd H a (.lst vs)) := by
  have ne : ∀ b o, H b = some o → upd H a (.lst vs) b = H b := fun b o e => upd_ne (ne_of_none e ha)
  have nb : ∀ b o, H b = some o → b ≠ a := fun b o e => ne_of_none e ha
  have hk : ∀ b o, H b = some o → ¬ w.S b → upd H a (.lst vs) b = some o ∧ ¬ (w.keep a).S b := fun b o e n => ⟨by rw [ne b o e]; exact e, fun z => (keep_S.mp z).elim n (nb b o e)⟩
  have m : ∀ {v d}, Den K w.ρ w.S H v d → Den K (w.keep a).ρ (w.keep a).S (upd H a (.lst vs)) v d := fun h => h.gen hk (fun _ _ h => SqT.upd ha h) fun _ _ h => h
  have ms : ∀ {v d}, Dens K w.ρ w.S H v d → Dens K (w.keep a).ρ (w.keep a).S (upd H a (.lst vs)) v d := fun h => h.gen hk (fun _ _ h => SqT.upd ha h) fun _ _ h => h
  have mf : ∀ {v d}, DenF K w.ρ w.S H v d → DenF K (w.keep a).ρ (w.keep a).S (upd H a (.lst vs)) v d := fun h => h.gen hk (fun _ _ h => SqT.upd ha h) fun _ _ h => h
  refine ⟨⟨⟨r.sto.len, r.sto.nd, fun n b c h1 h2 => ?_⟩, fun b h => ?_, r.len, r.lenO, fun i v s o h1 h2 h3 => (r.slot i v s o h1 h2 h3).map m ms fun b us _ e => by rw [ne b _ e]; exact e, r.ndO, fun b h => ⟨(r.disO b h).1, fun z => ?_⟩⟩,
    ⟨⟨[], by simp [Wd.keep]⟩, fun b o h n k => ⟨by rw [ne b o h]; exact h, n, k⟩, fun b h => h.elim .inl fun z => .inr (by rw [z]; exact ha), fun b o h => ⟨o, by rw [ne b o h]; exact h⟩, fun _ _ h => SqT.upd ha h, fun _ h => .inl h⟩⟩
  · have q := r.sto.cell n b c h1 h2
    cases c with
    | lst ds => obtain ⟨us, e, t⟩ := q; exact ⟨us, by rw [ne b _ e]; exact e, ms t⟩
    | obj C fs => obtain ⟨dx, gs, e, t⟩ := q; exact ⟨dx, gs, by rw [ne b _ e]; exact e, mf t⟩
    | tab i q' =>
      obtain ⟨o, eo, _⟩ := CellOk.some q
      exact TabC.gen q (ne b _ eo) hk
  · rcases h with h | h
    · obtain ⟨⟨o, e⟩, n⟩ := r.res b h
      exact ⟨⟨o, by rw [ne b o e]; exact e⟩, n⟩
    · subst h
      exact ⟨⟨_, upd_same⟩, fun z => r.fresh ha (.inl z)⟩
  · rcases z with z | z
    · exact (r.disO b h).2 z
    · subst z
      exact r.fresh ha (.inr (.inr h))
theorem SqT.put {b : Addr} {us : List V} (ha : H a = some (.lst vs)) (h : SqT K.K H b us) : SqT K.K (L2.upd H a (.lst ws)) b us := by
  rcases h with (q | ⟨o, q⟩) | q
  · exact .inl (.inl (by rw [upd_ne (ne_of q ha (by intro z; cases z))]; exact q))
  · exact .inl (.inr ⟨o, by rw [upd_ne (ne_of q ha (by intro z; cases z))]; exact q⟩)
  · exact .inr q
theorem Rel.putKept (r : Rel K w env st σ H) (hR : w.R a) (ha : H a = some (.lst vs)) : Rel K w env st σ (upd H a (.lst ws)) := by
  have nb : ∀ b, ¬ w.S b → b ≠ a := fun b n z => n (by rw [z]; exact .inr (.inl hR))
  have hk : ∀ b o, H b = some o → ¬ w.S b → upd H a (.lst ws) b = some o ∧ ¬ w.S b := fun b o e n => ⟨by rw [upd_ne (nb b n)]; exact e, n⟩
  have m : ∀ {v d}, Den K w.ρ w.S H v d → Den K w.ρ w.S (upd H a (.lst ws)) v d := fun h => h.gen hk (fun _ _ h => SqT.put ha h) fun _ _ h => h
  have ms : ∀ {v d}, Dens K w.ρ w.S H v d → Dens K w.ρ w.S (upd H a (.lst ws)) v d := fun h => h.gen hk (fun _ _ h => SqT.put ha h) fun _ _ h => h
  have mf : ∀ {v d}, DenF K w.ρ w.S H v d → DenF K w.ρ w.S (upd H a (.lst ws)) v d := fun h => h.gen hk (fun _ _ h => SqT.put ha h) fun _ _ h => h
  have nρ : ∀ b, b ∈ w.ρ → b ≠ a := fun b h z => (r.res a hR).2 (by rw [← z]; exact h)
  refine ⟨⟨r.sto.len, r.sto.nd, fun n b c h1 h2 => ?_⟩, fun b h => ?_, r.len, r.lenO, fun i v s o h1 h2 h3 => (r.slot i v s o h1 h2 h3).map m ms fun b us eo e => ?_, r.ndO, r.disO⟩
  · have q := r.sto.cell n b c h1 h2
    have e := upd_ne (H := H) (o := .lst ws) (nρ b (List.mem_of_getElem? h1))
    cases c with
    | lst ds => obtain ⟨us, q, t⟩ := q; exact ⟨us, by rw [e]; exact q, ms t⟩
    | obj C fs => obtain ⟨dx, gs, q, t⟩ := q; exact ⟨dx, gs, by rw [e]; exact q, mf t⟩
    | tab i q' => exact TabC.gen q e hk
  · obtain ⟨⟨o, e⟩, n⟩ := r.res b h
    by_cases z : b = a
    · exact ⟨⟨_, by rw [z]; exact upd_same⟩, n⟩
    · exact ⟨⟨o, by rw [upd_ne z]; exact e⟩, n⟩
  · have z : b ≠ a := fun z => (r.disO b (by rw [eo] at h3; exact List.mem_of_getElem? h3)).2 (by rw [z]; exact hR)
    rw [upd_ne z]
    exact e
def lift (H : Hp) (a : Addr) : Hp := fun b => if b = a then none else H b
theorem lift_upd (ha : H a = some (.lst vs)) : upd (lift H a) a (.lst vs) = H := by
  funext b
  by_cases e : b = a
  · subst e; rw [upd_same, ha]
  · rw [upd_ne e]; exact if_neg e
theorem lift_at : lift H a a = none := if_pos rfl
theorem lift_ne {b : Addr} (h : b ≠ a) : lift H a b = H b := if_neg h
end
def wipeE (env : AEnv) : List Nat → AEnv
  | [] => env
  | v :: vs => (wipeE env vs).set v .un
def noOwn (env : AEnv) (vs : List Nat) : Bool := vs.all fun v => match env[v]? with
  | some (.own _) => false
  | _ => true
section
variable {K : Ct} {w : Wd} {env : AEnv} {st : Sto} {σ : St} {H H' : Hp} {i : Nat}
theorem Rel.wipe1 (r : Rel K w env st σ H) (h : ∀ ds, env[i]? ≠ some (.own ds)) : Rel K w (env.set i .un) st (σ.set i none) H where
  sto := r.sto
  res := r.res
  len := by rw [List.length_set, List.length_set, r.len]
  lenO := by rw [List.length_set, r.lenO]
  slot := fun j v s o h1 h2 h3 => by
    rcases get_set h2 with ⟨rfl, rfl, _⟩ | ⟨hj, h2⟩
    · cases o with
      | none => rfl
      | some a =>
        obtain ⟨ds, _, e, _⟩ := r.own h3
        exact absurd e (h ds)
    · rcases get_set h1 with ⟨q, _⟩ | ⟨_, h1⟩
      · exact absurd q hj
      · exact r.slot j v s o h1 h2 h3
  ndO := r.ndO
  disO := r.disO
theorem wipeE_own {vs : List Nat} {j : Nat} {ds : List D} : (wipeE env vs)[j]? = some (.own ds) → env[j]? = some (.own ds) := by
  induction vs with
  | nil => exact fun h => h
  | cons v vs ih =>
    intro h
    rcases get_set (show ((wipeE env vs).set v .un)[j]? = some (.own ds) from h) with ⟨_, q, _⟩ | ⟨_, h⟩
    · cases q
    · exact ih h
theorem Rel.wipe (r : Rel K w env st σ H) : ∀ vs : List Nat, noOwn env vs = true → Rel K w (wipeE env vs) st (wipe σ vs) H
  | [], _ => r
  | v :: vs, h => by
    obtain ⟨h1, h2⟩ := Bool.and_eq_true_iff.mp (show ((match env[v]? with
      | some (.own _) => false
      | _ => true) && noOwn env vs) = true from h)
    refine (Rel.wipe r vs h2).wipe1 fun ds e => ?_
    rw [wipeE_own e] at h1
    cases h1
theorem wipe_set {α : Type} {σ : St} {vs : List Nat} {x : Option V} (h : i ∈ vs) : wipe (σ.set i x) vs = wipe σ vs := by
  induction vs with
  | nil => cases h
  | cons v vs ih =>
    show (wipe (σ.set i x) vs).set v none = (wipe σ vs).set v none
    by_cases e : i ∈ vs
    · rw [ih e]
    · have e2 : i = v := by
        rcases List.mem_cons.mp h with q | q
        · exact q
        · exact absurd q e
      subst e2
      have go : ∀ (us : List Nat) (τ : St), i ∉ us → wipe (τ.set i x) us = (wipe τ us).set i x := by
        intro us
        induction us with
        | nil => intro τ _; rfl
        | cons u us ihu =>
          intro τ hn
          show (wipe (τ.set i x) us).set u none = ((wipe τ us).set u none).set i x
          rw [ihu τ (fun z => hn (List.mem_cons_of_mem _ z)), List.set_comm]
          exact fun z => hn (by rw [z]; exact List.mem_cons_self)
      rw [go vs σ e, List.set_set]
theorem wipe_wipe (σ : St) (vs : List Nat) : wipe (wipe σ vs) vs = wipe σ vs := by
  have go : ∀ us : List Nat, (∀ u ∈ us, u ∈ vs) → wipe (wipe σ us) vs = wipe σ vs := by
    intro us
    induction us with
    | nil => intro _; rfl
    | cons u us ih =>
      intro h
      show wipe ((wipe σ us).set u none) vs = _
      rw [wipe_set (α := Unit) (h u List.mem_cons_self)]
      exact ih fun z hz => h z (List.mem_cons_of_mem _ hz)
  exact go vs fun _ h => h
def putAll (env : AEnv) : List Nat → List D → AEnv
  | i :: is, d :: ds => putAll (env.set i (.sh d)) is ds
  | _, _ => env
def putAllV (σ : St) : List Nat → List V → St
  | i :: is, d :: ds => putAllV (σ.set i (some d)) is ds
  | _, _ => σ
theorem Rel.putAll : ∀ {is : List Nat} {w : Wd} {env : AEnv} {σ : St} {ds : List D} {vs : List V}, Rel K w env st σ H → Dens K w.ρ w.S H vs ds → (∀ i ∈ is, w.O[i]? = some none ∨ w.O[i]? = none) → Rel K w (AM.putAll env is ds) st (putAllV σ is vs) H
  | [], w, env, σ, ds, vs, r, t, _ => by cases t <;> exact r
  | i :: is, w, env, σ, ds, vs, r, t, hO => by
    cases t with
    | nil => exact r
    | @cons v d vs ds h t =>
      have e : w.O.set i none = w.O := by
        apply List.ext_getElem?
        intro j
        by_cases z : i = j
        · subst z
          rcases hO i List.mem_cons_self with q | q
          · rw [List.getElem?_set_self (List.getElem?_eq_some_iff.mp q).1, q]
          · rw [q, List.getElem?_eq_none (by rw [List.length_set]; exact List.getElem?_eq_none_iff.mp q)]
        · rw [List.getElem?_set_ne z]
      have ew : w.free i = w := by
        unfold Wd.free
        rw [e]
      have r1 := r.setSh (i := i) h
      rw [ew] at r1
      show Rel K w (AM.putAll (env.set i (.sh d)) is ds) st (putAllV (σ.set i (some v)) is vs) H
      exact Rel.putAll r1 t fun j hj => hO j (List.mem_cons_of_mem _ hj)
theorem wipe_putAll {is vs : List Nat} {xs : List V} {σ : St} (h : ∀ i ∈ is, i ∈ vs) : wipe (putAllV σ is xs) vs = wipe σ vs := by
  induction is generalizing σ xs with
  | nil => cases xs <;> rfl
  | cons i is ih =>
    cases xs with
    | nil => rfl
    | cons x xs =>
      show wipe (putAllV (σ.set i (some x)) is xs) vs = _
      rw [ih fun j hj => h j (List.mem_cons_of_mem _ hj), wipe_set (α := Unit) (h i List.mem_cons_self)]
end
def tgC (tup : Bool) (is : List Nat) (d : D) : Option (List D) := match tup with
  | true => (match d with
    | .tup ds => if ds.length = is.length then some ds else none
    | _ => none)
  | false => if is.length = 1 then some [d] else none
def gsN : List Nat → TGs
  | [] => gNil
  | i :: is => gCons (gName i) (gsN is)
def gC (K : PySem.W.Frag) (tup : Bool) (is : List Nat) : TG := match tup with
  | true => gTup K is.length (gsN is)
  | false => gName (is.headD 0)
theorem gsN_ok {Q : St → Hp → Prop} {H : Hp} : ∀ {is : List Nat} {xs : List V} {σ : St}, xs.length = is.length → Q (putAllV σ is xs) H → gsN is xs σ H Q
  | [], [], σ, _, q => ⟨rfl, q⟩
  | i :: is, x :: xs, σ, h, q => ⟨x, xs, rfl, gsN_ok (is := is) (by simpa using h) q⟩
theorem gC_ok {K : Ct} {w : Wd} {H : Hp} {tup : Bool} {is : List Nat} {x : V} {d : D} {ds : List D} {σ : St} {Q : St → Hp → Prop} (e : tgC tup is d = some ds) (h : Den K w.ρ w.S H x d) : ∃ xs, Dens K w.ρ w.S H xs ds ∧ (Q (putAllV σ is xs) H → gC K.K tup is x σ H Q) := by
  cases tup with
  | true =>
    cases d with
    | tup es =>
      have e : (if es.length = is.length then some es else none) = some ds := e
      split at e
      · rename_i hl
        cases e
        obtain ⟨a, vs, e1, hq, t⟩ := DenB.tup (w := w) h.b
        exact ⟨vs, t, fun q => ⟨a, vs, e1, hq, by rw [t.length, hl], gsN_ok (by rw [t.length, hl]) q⟩⟩
      · cases e
    | _ => cases e
  | false =>
    have e : (if is.length = 1 then some [d] else none) = some ds := e
    split at e
    · rename_i hl
      cases e
      match is, hl with
      | [i], _ => exact ⟨[x], .cons h .nil, fun q => q⟩
    · cases e
def Res.bindN {α β : Type} (r : Res α) (k : α → Sto → Res β) : Res β := match r with
  | .ok a st => k a st
  | _ => .bad
def onlyOk {α : Type} (r : Res α) : Res α := match r with
  | .ok a st => .ok a st
  | _ => .bad
def compL (tup : Bool) (is vs : List Nat) (t : TF) (f : EF) (env : AEnv) : List D → List D → Sto → Res (List D)
  | acc, [], st => .ok acc st
  | acc, d :: ds, st => match tgC tup is d with
    | some es => (t (putAll (wipeE env vs) is es) st).bindN fun b st2 => if b = true then (f (putAll (wipeE env vs) is es) st2).bindN fun y st3 => (if acc.length < sizeLine then compL tup is vs t f env (acc ++ [y]) ds st3 else .bad) else compL tup is vs t f env acc ds st2
    | none => .bad
def compF (fi : IF) (tup : Bool) (is vs : List Nat) (t : TF) (f : EF) : IF := fun env st => if noOwn env vs = true ∧ (∀ i ∈ is, i ∈ vs) then (fi env st).bind fun items st => onlyOk (compL tup is vs t f env [] items st) else .bad
abbrev WN : WX := fun _ _ _ _ => False
def tYesD : TF := fun _ st => .ok true st
theorem Post.bindN {α β γ : Type} {Da : DnT β α} {K : Ct} {w : Wd} {env : AEnv} {st : Sto} {σ : St} {H : Hp} {f : Res α} {k : α → Sto → Res γ} {P : Res γ → Prop} (r : Rel K w env st σ H) (h : P (f.bindN k)) (hb : ¬ P .bad) :
    Post Da K WN w H σ f fun x H1 => ∃ ρ1 st1 a, Rel K (w.at_ ρ1) env st1 σ H1 ∧ Ext K w.ρ H ρ1 H1 ∧ Da K ρ1 (w.at_ ρ1).S H1 x a ∧ P (k a st1) := by
  cases f with
  | ok a st1 => exact fun ρ' H' x h1 h2 h3 => ⟨ρ', st1, a, r.ext h2 h1, h2, h3, h⟩
  | exc e st1 => exact (hb h).elim
  | bad => exact (hb h).elim
section
variable {X : Cx} {Γ : Nat → Addr} {W : WX} {elt tg iter : Expr} {ifs : List Expr} {f : EF} {fi : IF} {t : TF} {pos : Pos} {scope : Scope} {own : List (Str × Nat)} {tup : Bool} {is : List Nat}
theorem ptsd_nil : PTs X [] (tT (XC X Γ) W tYesD) := ⟨fun pins s σ H Q I ⟨w, env, st, r, p⟩ => pts_nil.run pins s σ H Q I (Post.ok (Da := dnB) (x := true) r p rfl)⟩
theorem ptsd_one {c : Expr} (h : PT X c (tT (XC X Γ) W t)) : PTs X [c] (tT (XC X Γ) W t) := pts_one h
def CFin (K : Ct) (w : Wd) (H1 : Hp) (ρ1 : List Addr) (D : Addr) (env : AEnv) (σ : St) (Q : VK) : Res (List AM.D) → Prop
  | .ok ds st' => ∀ ρ3 H3 vs3, Rel K ((w.at_ ρ3).keep D) env st' σ H3 → Ext K ρ1 H1 ρ3 H3 → H3 D = some (.lst vs3) → Dens K ρ3 ((w.at_ ρ3).keep D).S H3 vs3 ds → Q (.ref D) H3
  | _ => False
theorem cfin_of {K : Ct} {w : Wd} {env : AEnv} {st : Sto} {σ : St} {H H1 : Hp} {ρ' : List Addr} {D : Addr} {Q : VK} {rr : Res (List AM.D)} (r : Rel K w env st σ H) (h2 : Ext K w.ρ H ρ' H1) (hD : H1 D = none)
    (p : match onlyOk rr with
      | .ok ds st' => ∀ ρ' H' p vs, StOk K ρ' (w.at_ ρ').S H' st' → Ext K w.ρ H ρ' H' → H' p = none → Dens K ρ' (w.at_ ρ').S H' vs ds → Q (.ref p) (upd H' p (.lst vs))
      | .exc e st' => ∀ ρ' H' d gs, StOk K ρ' (w.at_ ρ').S H' st' → Ext K w.ρ H ρ' H' → XdAt H' (w.at_ ρ').S d gs → DenF K ρ' (w.at_ ρ').S H' gs e.fs → W (.ref (K.Γ e.c)) (some d) σ H'
      | .bad => False) : CFin K w H1 ρ' D env σ Q rr := by
  cases rr with
  | ok ds st' =>
    intro ρ3 H3 vs3 r3 x3 eD t3
    have hS : ∀ a, (w.at_ ρ3).S a → ((w.at_ ρ3).keep D).S a := fun a z => keep_S.mpr (.inl z)
    have SD : ((w.at_ ρ3).keep D).S D := keep_S.mpr (.inr rfl)
    have nD : ∀ a, ¬ ((w.at_ ρ3).keep D).S a → a ≠ D := fun a n z => n (by rw [z]; exact SD)
    have hk : ∀ a o, H3 a = some o → ¬ ((w.at_ ρ3).keep D).S a → lift H3 D a = some o ∧ ¬ (w.at_ ρ3).S a := fun a o e n => ⟨by rw [lift_ne (nD a n)]; exact e, fun z => n (hS a z)⟩
    have ht : ∀ a us, SqT K.K H3 a us → SqT K.K (lift H3 D) a us := fun a us z => by
      rcases z with (z | ⟨o, z⟩) | z
      · exact .inl (.inl (by rw [lift_ne (ne_of z eD (by intro q; cases q))]; exact z))
      · exact .inl (.inr ⟨o, by rw [lift_ne (ne_of z eD (by intro q; cases q))]; exact z⟩)
      · exact .inr z
    have nDρ : ∀ a, a ∈ ρ3 → a ≠ D := fun a h z => (r3.res D (.inr rfl)).2 (by rw [← z]; exact h)
    have sto : StOk K ρ3 (w.at_ ρ3).S (lift H3 D) st' := ⟨r3.sto.len, r3.sto.nd, fun n a c g1 g2 => by
      have z := r3.sto.cell n a c g1 g2
      have ea := lift_ne (H := H3) (nDρ a (List.mem_of_getElem? g1))
      cases c with
      | lst ds => obtain ⟨us, z, tt⟩ := z; exact ⟨us, by rw [ea]; exact z, tt.gen hk ht fun _ _ h => h⟩
      | obj C fs => obtain ⟨dx, gs, z, tt⟩ := z; exact ⟨dx, gs, by rw [ea]; exact z, tt.gen hk ht fun _ _ h => h⟩
      | tab i q' => exact TabC.gen z ea hk⟩
    have ext : Ext K w.ρ H ρ3 (lift H3 D) := by
      refine ⟨(h2.trans x3).pre, fun a o g n => ?_, fun a us g => ht a us (x3.tups a us (h2.tups a us g))⟩
      obtain ⟨g1, n1⟩ := h2.keep a o g n
      obtain ⟨g2, n2⟩ := x3.keep a o g1 n1
      exact ⟨by rw [lift_ne (ne_of_none g1 hD)]; exact g2, n2⟩
    have z := p ρ3 (lift H3 D) D vs3 sto ext lift_at (t3.gen hk ht fun _ _ h => h)
    rw [lift_upd eD] at z
    exact z
  | exc x st' => exact p
  | bad => exact p
theorem ext_keep {K : Ct} {w : Wd} {env : AEnv} {st : Sto} {σ : St} {H1 H3 : Hp} {ρ1 ρ3 : List Addr} {D : Addr} (x : Ext K ρ1 H1 ρ3 H3) (r : Rel K ((w.at_ ρ3).keep D) env st σ H3) (hD : H1 D = none) : ExtS K (w.at_ ρ1) H1 ((w.at_ ρ3).keep D) H3 := by
  refine ⟨x.pre, fun a o h n m => ?_, fun a h => ?_, fun a o h => ?_, x.tups, fun _ h => .inl h⟩
  · obtain ⟨g1, g2⟩ := x.keep a o h n
    exact ⟨g1, g2, m⟩
  · rcases h with h | h
    · exact .inl h
    · exact .inr (by rw [h]; exact hD)
  · by_cases hr : a ∈ ρ1
    · obtain ⟨l, e⟩ := x.pre
      exact r.sto.there (a := a) (by show a ∈ ρ3; rw [e]; exact List.mem_append_left _ hr)
    · exact ⟨o, (x.keep a o h hr).1⟩
theorem noOwn_O {K : Ct} {w : Wd} {env : AEnv} {st : Sto} {σ : St} {H : Hp} {vs : List Nat} (r : Rel K w env st σ H) (h : noOwn env vs = true) : ∀ i ∈ vs, w.O[i]? = some none ∨ w.O[i]? = none := fun i hi => by
  cases q : w.O[i]? with
  | none => exact .inr rfl
  | some o =>
    cases o with
    | none => exact .inl rfl
    | some a =>
      obtain ⟨ds, _, e, _⟩ := r.own q
      have z := List.all_eq_true.mp h i hi
      rw [e] at z
      cases z
theorem comp_ok {K : Ct} {σ : St} {H : Hp} {Q : VK} (h : tF K W (compF fi tup is (own.map (·.2)) t f) σ H Q) : tLc (tI K W fi) (gC K.K tup is) (tT K WN t) (tD K WN f) (own.map (·.2)) σ H Q := by
  obtain ⟨w, env, st, r, p⟩ := h
  generalize hvs : own.map (·.2) = vs at p
  by_cases hc : noOwn env vs = true ∧ (∀ i ∈ is, i ∈ vs)
  · obtain ⟨hc1, hc2⟩ := hc
    refine ⟨w, env, st, r, ?_⟩
    have eF : compF fi tup is vs t f env st = (fi env st).bind fun items st => onlyOk (compL tup is vs t f env [] items st) := if_pos ⟨hc1, hc2⟩
    rw [eF] at p
    cases q : fi env st with
    | exc x st1 => rw [q] at p; exact p
    | bad => rw [q] at p; exact p
    | ok items st1 =>
      rw [q] at p
      intro ρ' H1 J h1 h2 It D hD
      have r1 : Rel K (w.at_ ρ') env st1 σ H1 := r.ext h2 h1
      obtain ⟨r2, _⟩ := r1.keepNew (vs := []) hD
      have fin0 : CFin K w H1 ρ' D env σ Q (compL tup is vs t f env [] items st1) := cfin_of r h2 hD p
      refine ⟨fun i m H' => m = items.length - i ∧ i ≤ items.length ∧ ∃ ρ2 st2 acc us, Rel K ((w.at_ ρ2).keep D) env st2 σ H' ∧ Ext K ρ' H1 ρ2 H' ∧ H' D = some (.lst us) ∧ Dens K ρ2 ((w.at_ ρ2).keep D).S H' us acc ∧ CFin K w H1 ρ' D env σ Q (compL tup is vs t f env acc (items.drop i) st2),
        ⟨items.length, rfl, Nat.zero_le _, ρ', st1, [], [], r2, Ext.new hD, upd_same, .nil, fin0⟩, ?_⟩
      rintro i m H' ⟨rfl, hi, ρ2, st2, acc, us, r', x', eD, tA, fin⟩
      have xS := ext_keep x' r' hD
      by_cases hlt : i < items.length
      · refine .inr ⟨It.goes _ H' i xS hlt, fun H2 => ∃ ρ2 st2 acc us, Rel K ((w.at_ ρ2).keep D) env st2 σ H2 ∧ Ext K ρ' H1 ρ2 H2 ∧ H2 D = some (.lst us) ∧ Dens K ρ2 ((w.at_ ρ2).keep D).S H2 us acc ∧ CFin K w H1 ρ' D env σ Q (compL tup is vs t f env acc (items.drop (i + 1)) st2),
          fun H2 z => ⟨items.length - (i + 1), by omega, rfl, hlt, z⟩, fun x H2 y => ?_⟩
        obtain ⟨d, e1, d1, r3, x3⟩ := It.yields _ env st2 σ H' i x H2 r' xS hlt y
        have x4 : Ext K ρ' H1 ρ2 H2 := x'.trans x3
        have eD2 : H2 D = some (.lst us) := (x3.keep D _ eD (r'.res D (.inr rfl)).2).1
        have tA2 : Dens K ρ2 ((w.at_ ρ2).keep D).S H2 us acc := lastsDs r' ⟨ρ2, rfl⟩ x3 tA
        have ed : items.drop i = d :: items.drop (i + 1) := by
          rw [List.drop_eq_getElem_cons hlt]
          congr 1
          rw [List.getElem?_eq_getElem hlt] at e1
          exact Option.some.inj e1
        rw [ed] at fin
        have nb : ¬ CFin K w H1 ρ' D env σ Q .bad := fun z => z
        cases eg : tgC tup is d with
        | none =>
          have fin : CFin K w H1 ρ' D env σ Q (match tgC tup is d with
            | some es => (t (putAll (wipeE env vs) is es) st2).bindN fun b st2 => if b = true then (f (putAll (wipeE env vs) is es) st2).bindN fun y st3 => (if acc.length < sizeLine then compL tup is vs t f env (acc ++ [y]) (items.drop (i + 1)) st3 else .bad) else compL tup is vs t f env acc (items.drop (i + 1)) st2
            | none => .bad) := fin
          rw [eg] at fin
          exact fin.elim
        | some es =>
          have fin : CFin K w H1 ρ' D env σ Q (match tgC tup is d with
            | some es => (t (putAll (wipeE env vs) is es) st2).bindN fun b st2 => if b = true then (f (putAll (wipeE env vs) is es) st2).bindN fun y st3 => (if acc.length < sizeLine then compL tup is vs t f env (acc ++ [y]) (items.drop (i + 1)) st3 else .bad) else compL tup is vs t f env acc (items.drop (i + 1)) st2
            | none => .bad) := fin
          rw [eg] at fin
          obtain ⟨xs, tx, go⟩ := gC_ok (w := (w.at_ ρ2).keep D) (σ := wipe σ vs) (H := H2) (Q := fun σ2 H2 => wipe σ2 vs = wipe σ vs ∧ tT K WN t σ2 H2 fun b H3 =>
            if b = true then tD K WN f σ2 H3 fun y H4 => ∃ acc, H4 D = some (.lst acc) ∧ acc.length < sizeLine ∧ ∃ ρ2 st2 acc' us, Rel K ((w.at_ ρ2).keep D) env st2 σ (upd H4 D (.lst (acc ++ [y]))) ∧ Ext K ρ' H1 ρ2 (upd H4 D (.lst (acc ++ [y]))) ∧ (upd H4 D (.lst (acc ++ [y]))) D = some (.lst us) ∧ Dens K ρ2 ((w.at_ ρ2).keep D).S (upd H4 D (.lst (acc ++ [y]))) us acc' ∧ CFin K w H1 ρ' D env σ Q (compL tup is vs t f env acc' (items.drop (i + 1)) st2)
            else ∃ ρ2 st2 acc us, Rel K ((w.at_ ρ2).keep D) env st2 σ H3 ∧ Ext K ρ' H1 ρ2 H3 ∧ H3 D = some (.lst us) ∧ Dens K ρ2 ((w.at_ ρ2).keep D).S H3 us acc ∧ CFin K w H1 ρ' D env σ Q (compL tup is vs t f env acc (items.drop (i + 1)) st2)) eg d1
          refine go ⟨by rw [wipe_putAll hc2, wipe_wipe], ?_⟩
          have rw1 := (r3.wipe vs hc1).putAll tx fun i hi => noOwn_O r3 hc1 i (hc2 i hi)
          refine ⟨(w.at_ ρ2).keep D, _, st2, rw1, (Post.bindN (Da := dnB) (P := CFin K w H1 ρ' D env σ Q) rw1 fin nb).mono ?_⟩
          rintro b H3 ⟨ρ3, st3, b', r4, x5, eb, fin2⟩
          cases (show b = b' from eb)
          have r4o : Rel K ((w.at_ ρ3).keep D) env st3 σ H3 := r3.ext (ρ' := ρ3) x5 r4.sto
          have eD3 : H3 D = some (.lst us) := (x5.keep D _ eD2 (r3.res D (.inr rfl)).2).1
          have tA3 : Dens K ρ3 ((w.at_ ρ3).keep D).S H3 us acc := lastsDs r3 ⟨ρ3, rfl⟩ x5 tA2
          cases b with
          | false =>
            rw [if_neg Bool.false_ne_true] at fin2 ⊢
            exact ⟨ρ3, st3, acc, us, r4o, x4.trans x5, eD3, tA3, fin2⟩
          | true =>
            rw [if_pos rfl] at fin2 ⊢
            refine ⟨(w.at_ ρ3).keep D, _, st3, r4, (Post.bindN (Da := Den) (P := CFin K w H1 ρ' D env σ Q) r4 fin2 nb).mono ?_⟩
            rintro y2 H4 ⟨ρ4, st4, d4, r5, x6, dy, fin3⟩
            have r5o : Rel K ((w.at_ ρ4).keep D) env st4 σ H4 := r4o.ext (ρ' := ρ4) x6 r5.sto
            have eD4 : H4 D = some (.lst us) := (x6.keep D _ eD3 (r4o.res D (.inr rfl)).2).1
            have tA4 : Dens K ρ4 ((w.at_ ρ4).keep D).S H4 us acc := lastsDs r4o ⟨ρ4, rfl⟩ x6 tA3
            by_cases hz : acc.length < sizeLine
            · rw [if_pos hz] at fin3
              have SD : ((w.at_ ρ4).keep D).S D := keep_S.mpr (.inr rfl)
              have nb2 : ∀ b, ¬ ((w.at_ ρ4).keep D).S b → b ≠ D := fun b n z => n (by rw [z]; exact SD)
              have hk : ∀ b o, H4 b = some o → ¬ ((w.at_ ρ4).keep D).S b → upd H4 D (.lst (us ++ [y2])) b = some o ∧ ¬ ((w.at_ ρ4).keep D).S b := fun b o e n => ⟨by rw [upd_ne (nb2 b n)]; exact e, n⟩
              refine ⟨us, eD4, by rw [tA4.length]; exact hz, ρ4, st4, acc ++ [d4], us ++ [y2], r5o.putKept (.inr rfl) eD4, ?_, upd_same, (tA4.append (.cons dy .nil)).gen hk (fun _ _ h => SqT.put eD4 h) (fun _ _ h => h), fin3⟩
              have x7 := (x4.trans x5).trans x6
              exact ⟨x7.pre, fun b o g n => by
                obtain ⟨g1, g2⟩ := x7.keep b o g n
                exact ⟨by rw [upd_ne (ne_of_none g hD)]; exact g1, g2⟩, fun b us2 g => SqT.put eD4 (x7.tups b us2 g)⟩
            · rw [if_neg hz] at fin3
              exact fin3.elim
      · have e : i = items.length := by omega
        subst e
        rw [List.drop_length] at fin
        exact .inl ⟨It.stops _ H' xS, fin ρ2 H' us r' x' eD tA⟩
  · have eF : compF fi tup is vs t f env st = .bad := if_neg hc
    rw [eF] at p
    exact p.elim
theorem pf_comp (hc : X.calm = true) (hN : X.N.Nodup) (hi : PI X tg iter (tI (XC X Γ) W fi)) (ok : BlkOk X.N X.env.scope scope own)
    (hg : ∀ (s : Shared) (H : Hp) (C : Addr) (cl : List (Str × Addr)) (fp : List Addr), PG (X.blk s H scope (compEnvC scope cl C X.env) fp) tg (gC X.K tup is)) (ht : ∀ (s : Shared) (H : Hp) (C : Addr) (cl : List (Str × Addr)) (fp : List Addr), PTs (X.blk s H scope (compEnvC scope cl C X.env) fp) ifs (tT (XC X Γ) WN t))
    (he : ∀ (s : Shared) (H : Hp) (C : Addr) (cl : List (Str × Addr)) (fp : List Addr), PE (X.blk s H scope (compEnvC scope cl C X.env) fp) elt (tD (XC X Γ) WN f)) (hs : ∀ x, foldedSetIterable iter X.env x = pure x := by intro _; rfl) :
    PE X (.ListComp elt [⟨tg, iter, ifs, 0⟩] scope pos) (tF (XC X Γ) W (compF fi tup is (own.map (·.2)) t f)) := peImp (pe_lc hc hN hi ok hg ht he hs) fun _ _ _ h => comp_ok h
end
end AM
namespace AM
open PySem PySem.Spec PyProof.Rows L2
theorem cxUpN {P : Program} {w : World} : StX.CXUp (L2N.CX P w) := by
  intro outer s0 H0 s1 H1 E e s' u hold os0 c
  obtain ⟨a, B, H', cls, d, c1, c2, c3, c4, c5, c6, c7, c8⟩ := c
  have nx : ∀ b : Addr, b ∉ ([] : List Addr) := fun b z => nomatch z
  have U : UB (frs outer) H0 H' s0.heap B s'.heap :=
    { keep := fun b o q n m => c4.keep b o (hold b o q) (u.free b o q n (nx b)) m
      slot := fun b o q => c4.slot b o (hold b o q)
      free := fun b o q n => c4.free b o (hold b o q) (u.free b o q n (nx b))
      there := fun b o q => c4.there b o (hold b o q)
      tups := fun b xs q => c4.tups b xs (u.tups b xs q)
      frzs := fun b o xs q => c4.frzs b o xs (u.frzs b o xs q)
      tbls := fun b ps q => (u.tbls b ps q).elim fun m z => (c4.tbls b _ z).elim fun m2 z2 => ⟨m ++ m2, by rw [z2, Array.append_assoc]⟩ }
  exact ⟨a, B, H', cls, d, c1, c2, c3, U, c5, c6.trans os0, c7, c8⟩
def Wd.call (w : Wd) : Wd := ⟨w.ρ, fun a => w.R a ∨ some a ∈ w.O, []⟩
theorem call_S (w : Wd) (ρ : List Addr) : (w.call.at_ ρ).S = (w.at_ ρ).S := by
  funext a
  refine propext ⟨fun h => ?_, fun h => ?_⟩
  · rcases h with h | h | h
    · exact .inl h
    · exact .inr h
    · cases h
  · rcases h with h | h
    · exact .inl h
    · exact .inr (.inl h)
def spD (K : Ct) (F : DF) : Sp := fun vs H Q E => ∃ (w : Wd) (st : Sto) (ds : List D), w.O = [] ∧ StOk K w.ρ w.S H st ∧ (∀ a, w.R a → (∃ o, H a = some o) ∧ a ∉ w.ρ) ∧ Dens K w.ρ w.S H vs ds ∧
  Post Den K (fun c d _ H' => E c d H') w H [] (F ds st) Q
section
variable {K : Ct} {W : WX} {w : Wd} {env : AEnv} {st : Sto} {σ : St} {H : Hp} {Q : VK} {vs : List V} {ds : List D} {F : DF}
theorem Post.call {r : Res D} (h : Post Den K W w H σ r Q) : Post Den K (fun c d _ H' => W c d σ H') w.call H [] r Q := by
  cases r with
  | ok a st' => exact fun ρ' H' x h1 h2 h3 => h ρ' H' x (by rw [← call_S]; exact h1) h2 (by rw [← call_S]; exact h3)
  | exc e st' => exact fun ρ' H' d gs h1 h2 h3 h4 => h ρ' H' d gs (by rw [← call_S]; exact h1) h2 (by rw [← call_S]; exact h3) (by rw [← call_S]; exact h4)
  | bad => exact h
theorem sp_of (r : Rel K w env st σ H) (d : Dens K w.ρ w.S H vs ds) (p : Post Den K W w H σ (F ds st) Q) : spD K F vs H Q (fun c d H' => W c d σ H') := by
  have e : w.call.S = w.S := call_S w w.ρ
  refine ⟨w.call, st, ds, rfl, by rw [e]; exact r.sto, fun a h => ?_, by rw [e]; exact d, p.call⟩
  rcases h with h | h
  · exact r.res a h
  · exact ⟨r.thereS (.inr (.inr h)), (r.disO a h).1⟩
end
def runD (n N : Nat) (g : SF) : DF := fun ds st => if ds.length = n then (match g (ds.map Sl.sh ++ List.replicate (N - n) .un) st with
  | .nx _ st' => .ok .non st'
  | .rt d st' => .ok d st'
  | .exc e st' => .exc e st'
  | _ => .bad) else .bad
theorem start_get {N : List Str} {vs : List V} {i : Nat} {v : Option V} (h : (L2.start N vs)[i]? = some v) : (i < vs.length ∧ v = vs[i]?) ∨ (vs.length ≤ i ∧ v = none) := by
  unfold L2.start at h
  by_cases hi : i < vs.length
  · rw [List.getElem?_append_left (by simpa using hi), List.getElem?_map] at h
    refine .inl ⟨hi, ?_⟩
    rw [List.getElem?_eq_getElem hi] at h ⊢
    exact (Option.some.inj h).symm
  · rw [List.getElem?_append_right (by simpa using hi), List.getElem?_replicate] at h
    split at h
    · exact .inr ⟨by omega, (Option.some.inj h).symm⟩
    · cases h
theorem start_rel {K : Ct} {N : List Str} {n : Nat} {w : Wd} {st : Sto} {ds : List D} {vs : List V} {H : Hp} (hn : n ≤ N.length) (hO : w.O = []) (s : StOk K w.ρ w.S H st) (res : ∀ a, w.R a → (∃ o, H a = some o) ∧ a ∉ w.ρ) (d : Dens K w.ρ w.S H vs ds) (hl : ds.length = n) :
    Rel K ⟨w.ρ, w.R, List.replicate N.length none⟩ (ds.map Sl.sh ++ List.replicate (N.length - n) Sl.un) st (L2.start N vs) H := by
  have lv : vs.length = n := by rw [d.length, hl]
  have noO : ∀ (k : Nat) a, some a ∉ List.replicate k (none : Option Addr) := fun k a z => nomatch (List.mem_replicate.mp z).2
  have eS : (⟨w.ρ, w.R, List.replicate N.length none⟩ : Wd).S = w.S := by
    funext a
    refine propext ⟨fun h => ?_, fun h => ?_⟩
    · rcases h with h | h | h
      · exact .inl h
      · exact .inr (.inl h)
      · exact absurd h (noO _ a)
    · rcases h with h | h | h
      · exact .inl h
      · exact .inr (.inl h)
      · rw [hO] at h; cases h
  have lenE : (ds.map Sl.sh ++ List.replicate (N.length - n) Sl.un).length = N.length := by
    rw [List.length_append, List.length_map, List.length_replicate, hl]; omega
  refine ⟨by rw [eS]; exact s, res, ?_, by rw [lenE]; exact List.length_replicate, fun i v sl o h1 h2 h3 => ?_, fun i j a h1 _ => absurd (List.mem_of_getElem? h1) (noO _ a), fun a h => absurd h (noO _ a)⟩
  · rw [lenE]
    unfold L2.start
    rw [List.length_append, List.length_map, List.length_replicate]; omega
  · have eo : o = none := by
      have h3 : (List.replicate N.length (none : Option Addr))[i]? = some o := h3
      rw [List.getElem?_replicate] at h3
      split at h3
      · exact (Option.some.inj h3).symm
      · cases h3
    subst eo
    rcases start_get h1 with ⟨hi, ev⟩ | ⟨hi, ev⟩
    · obtain ⟨dd, e1, e2⟩ := d.getV (List.getElem?_eq_getElem hi)
      rw [List.getElem?_append_left (by rw [List.length_map, hl, ← lv]; exact hi), List.getElem?_map, e1] at h2
      cases (Option.some.inj h2)
      refine ⟨rfl, vs[i], by rw [ev]; exact List.getElem?_eq_getElem hi, ?_⟩
      show Den K w.ρ (⟨w.ρ, w.R, List.replicate N.length none⟩ : Wd).S H _ _
      rw [eS]
      exact e2
    · rw [List.getElem?_append_right (by rw [List.length_map, hl, ← lv]; exact hi), List.getElem?_replicate] at h2
      split at h2
      · cases (Option.some.inj h2)
        exact rfl
      · cases h2
theorem start_back {K : Ct} {n : Nat} {w w' : Wd} {H H' : Hp} (hO : w.O = []) (x : ExtS K ⟨w.ρ, w.R, List.replicate n none⟩ H w' H') : ∀ a, (w.at_ w'.ρ).S a → w'.S a ∨ H' a = none := fun a h => by
  rcases h with h | h | h
  · exact .inl (.inl h)
  · exact .inl (.inr (.inl (x.resK a h)))
  · have h : some a ∈ w.O := h
    rw [hO] at h; cases h
theorem body_ok {K : Ct} {N : List Str} {n : Nat} {g : SF} {vs : List V} {H : Hp} {Q : VK} {E : XK} (hn : n ≤ N.length) (h : spD K (runD n N.length g) vs H Q E) :
    tS K (fun c d _ H' => E c d H') g { nx := fun _ H' => Q .non H', rt := Q } (L2.start N vs) H := by
  obtain ⟨w, st, ds, hO, s, res, d, p⟩ := h
  unfold runD at p
  split at p
  · rename_i hl
    have noO : ∀ (k : Nat) a, some a ∉ List.replicate k (none : Option Addr) := fun k a z => nomatch (List.mem_replicate.mp z).2
    refine ⟨_, _, st, start_rel hn hO s res d hl, ?_⟩
    have ss : ∀ (w' : Wd) (H' : Hp) (st' : Sto), ExtS K ⟨w.ρ, w.R, List.replicate N.length none⟩ H w' H' → StOk K w'.ρ w'.S H' st' → StOk K w'.ρ (w.at_ w'.ρ).S H' st' := fun w' H' st' x q =>
      q.ext Ext.refl (start_back hO x) (fun a h => .inl h) fun _ _ => rfl
    cases q : g (ds.map Sl.sh ++ List.replicate (N.length - n) Sl.un) st with
    | nx e s1 =>
      rw [q] at p
      intro w' σ' H' r' x
      exact p w'.ρ H' .non (ss w' H' s1 x r'.sto) (x.toE (noO _)) .non
    | rt dd s1 =>
      rw [q] at p
      intro w' H' v s' x dv
      exact p w'.ρ H' v (ss w' H' s1 x s') (x.toE (noO _)) (dv.mono Ext.refl (start_back hO x) fun a h => .inl h)
    | exc e s1 =>
      rw [q] at p
      intro w' σ' H' dd gs s' x hx df
      exact p w'.ρ H' dd gs (ss w' H' s1 x s') (x.toE (noO _)) (hx.back (start_back hO x)) (df.mono Ext.refl (start_back hO x) fun a h => .inl h)
    | bk e s1 => rw [q] at p; exact p.elim
    | ct e s1 => rw [q] at p; exact p.elim
    | bad => rw [q] at p; exact p.elim
  · exact p.elim
theorem runD_len {K : Ct} {n N : Nat} {g : SF} {vs : List V} {H : Hp} {Q : VK} {E : XK} (h : spD K (runD n N g) vs H Q E) : vs.length = n := by
  obtain ⟨w, st, ds, _, _, _, d, p⟩ := h
  unfold runD at p
  split at p
  · rename_i hl
    rw [d.length, hl]
  · exact p.elim
structure Go (X : Cx) (W : WX) (k : Nat) : Prop where
  tk : L2N.Takes X W
  rm : Room k X.A
  po : PassesOwn (model X.prog X.w) X.A X.env X.xe
  calm : X.calm = true
  gd : X.A.guards = some []
structure FnB (P : Program) (w : World) (K : PySem.W.Frag) (mg : Str → Option Value) (base : Heap) (k : Nat) (f : Addr) (fd : FuncData) (ps : List Str) (sp : Sp) : Prop where
  len : ∀ vs H Q E, sp vs H Q E → vs.length = ps.length
  run : ∀ (A : Around) (outer : List Env) (s : Shared) (H : Hp) (args : Args) (us : List Value) (vs : List V) (Q : VK) (E : XK), Room k A → A.guards = some [] → Env0 P w K mg base A outer s H →
    BindsTo s fd args (ps.zip us) → Vals vs us → sp vs H Q E → codeAny (model P w) A (.call (.ref f) args) (CR (L2N.CX P w) outer P w H s Q E) s
def FnV (P : Program) (w : World) (K : PySem.W.Frag) (mg : Str → Option Value) (base : Heap) (k : Nat) (f : Addr) (sp : Sp) : Prop :=
  ∀ (A : Around) (outer : List Env) (s : Shared) (H : Hp) (us : List Value) (vs : List V) (Q : VK) (E : XK), Room k A → A.guards = some [] → Env0 P w K mg base A outer s H →
    Vals vs us → sp vs H Q E → codeAny (model P w) A (.call (.ref f) ⟨us, []⟩) (CR (L2N.CX P w) outer P w H s Q E) s
theorem go_of {P : Program} {w : World} {K : PySem.W.Frag} {mg : Str → Option Value} {base : Heap} {k : Nat} {f : Addr} {qual : Str} {scope : Scope} {cdv : Value} {N : List Str} {A : Around} {outer : List Env} {s : Shared} {H : Hp} {E : XK} (hr : Room k (A.deeper (envOfC qual scope s.heap.objs.size f cdv))) (hg : A.guards = some []) :
    Go (cxOf (L2N.CX P w) P w K mg base N qual scope f cdv A outer s H E) (fun c d _ H' => E c d H') k :=
  ⟨L2N.takes_of rfl rfl rfl rfl, hr, passes_of rfl, rfl, hg⟩
section
variable {P : Program} {w : World} {K : PySem.W.Frag} {mg : Str → Option Value} {base : Heap} {Γ : Nat → Addr} {k : Nat} {f : Addr} {x qual : Str} {params : Arguments} {body : List Stmt} {scope : Scope} {N ps : List Str} {fd : FuncData} {kws : List (Str × V)}
theorem def_ok (F : FunD K x qual params body scope [] kws f fd) (S : FnScope N ps scope) (g : SF)
    (hbody : ∀ (cdv : Value) (A : Around) (outer : List Env) (s : Shared) (H : Hp) (E : XK), Go (cxOf (L2N.CX P w) P w K mg base N qual scope f cdv A outer s H E) (fun c d _ H' => E c d H') k →
      PSs (cxOf (L2N.CX P w) P w K mg base N qual scope f cdv A outer s H E) body (tS ⟨K, Γ⟩ (fun c d _ H' => E c d H') g)) :
    FnB P w K mg base (k + 1) f fd ps (spD ⟨K, Γ⟩ (runD ps.length N.length g)) := by
  have hpl : ps.length ≤ N.length := by have := congrArg List.length S.pre; rw [List.length_take] at this; omega
  refine ⟨fun vs H Q E h => runD_len h, fun A outer s H args us vs Q E hr hg e0 hb rv hsp => ?_⟩
  obtain ⟨oc, od, dV, kV, doc, pm, an, cdv, ct, osl, rfl, lk, hcd, _, _⟩ := F.ex
  refine StX.run_bnd (G := fun xs H2 => xs = vs ∧ H2 = H) lk hcd S hr e0 (fun A' Ex Q' h => ?_) fun s2 H2 xs hx hr' => ?_
  · exact hb _ _ _ _ (h s H vs us e0 Un.refl rfl (fun _ _ z => z) rv (runD_len hsp) ⟨rfl, rfl⟩)
  · obtain ⟨rfl, rfl⟩ := hx
    exact ⟨_, hbody cdv A outer s2 H2 E (go_of hr' hg), body_ok hpl hsp⟩
def starD (n : Nat) (F : DF) : DF := fun ds st => if n ≤ ds.length ∧ ds.length ≤ sizeLine then F (ds.take n ++ [.tup (ds.drop n)]) st else .bad
theorem star_ok {pv : Str} (F : FunD K x qual params body scope [] kws f fd) (S : FnScope N (ps ++ [pv]) scope) (g : SF)
    (hb : ∀ (kV doc pm : Value) (an : Option Addr) (cdv ct : Value) (us rest : List Value), us.length = ps.length → bindArgs (PySem.W.fnOf x qual params body scope .none kV doc pm an cdv ct) ⟨us ++ rest, []⟩ = (newTuple rest >>= fun t => pure (ps.zip us ++ [(pv, t)])))
    (hbody : ∀ (cdv : Value) (A : Around) (outer : List Env) (s : Shared) (H : Hp) (E : XK), Go (cxOf (L2N.CX P w) P w K mg base N qual scope f cdv A outer s H E) (fun c d _ H' => E c d H') k →
      PSs (cxOf (L2N.CX P w) P w K mg base N qual scope f cdv A outer s H E) body (tS ⟨K, Γ⟩ (fun c d _ H' => E c d H') g)) :
    FnV P w K mg base (k + 1) f (spD ⟨K, Γ⟩ (starD ps.length (runD (ps.length + 1) N.length g))) := by
  have hpl : ps.length + 1 ≤ N.length := by have := congrArg List.length S.pre; rw [List.length_take, List.length_append] at this; simp at this; omega
  intro A outer s H us vs Q E hr hg e0 rv hsp
  obtain ⟨wd, st, ds, hO, so, res, d, p⟩ := hsp
  unfold starD at p
  split at p
  · rename_i hl
    obtain ⟨hl1, hl2⟩ := hl
    obtain ⟨oc, od, dV, kV, doc, pm, an, cdv, ct, osl, rfl, lk, hcd, hD, _⟩ := F.ex
    rcases hD with ⟨_, rfl⟩ | ⟨z, _⟩
    · have ev : vs = vs.take ps.length ++ vs.drop ps.length := (List.take_append_drop ..).symm
      have lv : (vs.take ps.length).length = ps.length := by rw [List.length_take, d.length]; omega
      obtain ⟨u1, u2, eu, r1, r2⟩ := StX.vals_split (ws := vs.take ps.length) (rest := vs.drop ps.length) (by rw [← ev]; exact rv)
      subst eu
      have hn : H s.heap.objs.size = none := e0.hok.fresh (Nat.le_refl _)
      have lu : u1.length = ps.length := by rw [← r1.length]; exact lv
      have lz : (vs.drop ps.length).length ≤ sizeLine := by rw [List.length_drop, d.length]; omega
      have lz2 : u2.length ≤ sizeLine := by rw [← r2.length]; exact lz
      refine StX.run_bnd (G := fun xs H2 => ∃ q, H q = none ∧ xs = vs.take ps.length ++ [V.ref q] ∧ H2 = upd H q (.tup (vs.drop ps.length))) lk hcd S hr e0 (fun A' Ex Q' h => ?_) fun s2 H2 xs hx hr' => ?_
      · rw [hb kV doc pm an cdv ct u1 u2 lu]
        refine wpAny_bind (wpAny_newTuple (wpAny_pure ?_) lz2)
        have ok1 : ObjOk P w (upd H s.heap.objs.size (.tup (vs.drop ps.length))) (s.heap.push ({ cls := .type "tuple", data := .seq u2.toArray } : Obj)) s.heap.objs.size (.tup (vs.drop ps.length)) :=
          ⟨lz, u2, r2, ⟨_, Heap.get?_push_size _ rfl, rfl, _, rfl⟩⟩
        have un1 := StX.un_laid (fs := frs outer) (s := s) (o := ({ cls := .type "tuple", data := .seq u2.toArray } : Obj)) (u := .tup (vs.drop ps.length)) hn
        have z := h _ _ (vs.take ps.length ++ [V.ref s.heap.objs.size]) (u1 ++ [Value.ref s.heap.objs.size]) (StX.env0_laid e0 ok1) un1 rfl
          (fun e s' => cxUpN outer s H _ _ E e s' un1 (fun b o q => Heap.get?_push_of_some _ q) rfl) (r1.append (.cons rfl .nil)) (by rw [List.length_append, List.length_append, lv]; rfl) ⟨_, hn, rfl, rfl⟩
        rw [List.zip_append lu.symm] at z
        exact z
      · obtain ⟨q, hq, rfl, rfl⟩ := hx
        refine ⟨_, hbody cdv A outer s2 _ E (go_of hr' hg), body_ok hpl ?_⟩
        have fr : ∀ a, wd.S a → H a ≠ none := fun a h z => by
          rcases h with h | h | h
          · obtain ⟨o, e⟩ := so.there h
            rw [z] at e; cases e
          · obtain ⟨⟨o, e⟩, _⟩ := res a h
            rw [z] at e; cases e
          · rw [hO] at h; cases h
        have x1 : Ext ⟨K, Γ⟩ wd.ρ H wd.ρ (upd H q (.tup (vs.drop ps.length))) := Ext.new hq
        have d1 : Dens ⟨K, Γ⟩ wd.ρ wd.S (upd H q (.tup (vs.drop ps.length))) vs ds := d.mono x1 (fun a h => .inl h) fun a h => .inl h
        refine ⟨wd, st, ds.take ps.length ++ [.tup (ds.drop ps.length)], hO, so.ext x1 (fun a h => .inl h) (fun a h => .inl h) (fun a h => upd_ne fun z => fr a (.inl h) (by rw [z]; exact hq)), fun a h => ?_,
          (d1.take _).append (.cons (.tup (.inl (.inl upd_same)) (d1.drop _)) .nil), ?_⟩
        · obtain ⟨⟨o, e⟩, n⟩ := res a h
          exact ⟨⟨o, by rw [upd_ne (ne_of_none e hq)]; exact e⟩, n⟩
        · have p2 := Post.back (Dg := Den) x1 p
          exact p2
    · exact absurd rfl z
  · exact p.elim
end
def Cal (P : Program) (w : World) (K : PySem.W.Frag) (mg : Str → Option Value) (base : Heap) (Γ : Nat → Addr) (k : Nat) (v : Value) (ks : List Str) (F : DF) : Prop :=
  ∀ (X : Cx) (W : WX), X.prog = P → X.w = w → X.K = K → X.mg = mg → X.base = base → Room k X.A → X.A.guards = some [] → L2N.Takes X W → ∀ (pins : List (Addr × Obj)) (s : Shared) (σ : St) (H : Hp) (wd : Wd) (env : AEnv) (st : Sto) (us ws : List Value) (vs : List V) (ds : List D) (Q : VK),
    Inv X pins σ H s → Vals vs (us ++ ws) → ws.length = ks.length → Rel (XC X Γ) wd env st σ H → Dens (XC X Γ) wd.ρ wd.S H vs ds → Post Den (XC X Γ) W wd H σ (F ds st) Q →
    wpAny (model X.prog X.w) X.A (call v us (ks.zip ws)) (EP X pins σ Q) X.xe s
section
variable {P : Program} {w : World} {K : PySem.W.Frag} {mg : Str → Option Value} {base : Heap} {Γ : Nat → Addr} {j k : Nat} {f : Addr} {v : Value} {x qual : Str} {params : Arguments} {body : List Stmt} {scope : Scope} {N ps ks : List Str} {fd : FuncData} {kws : List (Str × V)} {F : DF}
theorem Cal.mono (c : Cal P w K mg base Γ j v ks F) (h : j ≤ k) : Cal P w K mg base Γ k v ks F := fun X W h1 h2 h3 h4 h5 hr => c X W h1 h2 h3 h4 h5 (hr.mono h)
theorem Cal.fn0 (g : FnV P w K mg base k f (spD ⟨K, Γ⟩ F)) : Cal P w K mg base Γ k (.ref f) [] F := by
  intro X W h1 h2 h3 h4 h5 hr hg tk pins s σ H wd env st us ws vs ds Q I rv hw rl d p
  subst h1 h2 h3 h4 h5
  have e : ws = [] := List.length_eq_zero_iff.mp hw
  subst e
  rw [List.append_nil] at rv
  refine wpAny_call (codeAny_mono (g X.A X.stack s H us vs Q (fun c d H' => W c d σ H') hr hg I.env0 rv (sp_of rl d p)) fun r s' hq => ?_)
  cases r with
  | error e => exact L2N.passAt tk σ pins H s e s' I hq
  | ok fl =>
    cases fl with
    | ret u => exact I.after hq
    | next => exact False.elim hq
    | brk => exact False.elim hq
    | cont => exact False.elim hq
theorem Cal.fnK (g : FnB P w K mg base k f fd ps (spD ⟨K, Γ⟩ F)) (π : {α : Type} → List α → List α) (hV : ∀ {vs us}, Vals vs us → Vals (π vs) (π us)) (hD : ∀ {K ρ S H vs ds}, Dens K ρ S H vs ds → Dens K ρ S H (π vs) (π ds))
    (hb : ∀ (s : Shared) (us ws : List Value), K.In s.heap → ws.length = ks.length → (π (us ++ ws)).length = ps.length → BindsTo s fd ⟨us, ks.zip ws⟩ (ps.zip (π (us ++ ws)))) : Cal P w K mg base Γ k (.ref f) ks (fun ds st => F (π ds) st) := by
  intro X W h1 h2 h3 h4 h5 hr hg tk pins s σ H wd env st us ws vs ds Q I rv hw rl d p
  subst h1 h2 h3 h4 h5
  have hsp := sp_of (F := F) rl (hD d) p
  have hl : (π (us ++ ws)).length = ps.length := by rw [← (hV rv).length]; exact g.len _ _ _ _ hsp
  refine wpAny_call (codeAny_mono (g.run X.A X.stack s H ⟨us, ks.zip ws⟩ (π (us ++ ws)) (π vs) Q (fun c d H' => W c d σ H') hr hg I.env0 (hb s us ws I.kIn hw hl) (hV rv) hsp) fun r s' hq => ?_)
  cases r with
  | error e => exact L2N.passAt tk σ pins H s e s' I hq
  | ok fl =>
    cases fl with
    | ret u => exact I.after hq
    | next => exact False.elim hq
    | brk => exact False.elim hq
    | cont => exact False.elim hq
theorem Cal.fn (D : FunD K x qual params body scope [] kws f fd) (g : FnB P w K mg base k f fd ps (spD ⟨K, Γ⟩ F))
    (h : ∀ (kV doc pm : Value) (an : Option Addr) (cdv ct : Value) (us : List Value), us.length = ps.length → bindArgs (PySem.W.fnOf x qual params body scope .none kV doc pm an cdv ct) ⟨us, []⟩ = pure (ps.zip us)) : Cal P w K mg base Γ k (.ref f) [] F :=
  Cal.fnK (ks := []) g (fun l => l) (fun h => h) (fun h => h) fun s us ws X hw hl => by
    have e : ws = [] := List.length_eq_zero_iff.mp hw
    subst e
    rw [List.append_nil] at hl ⊢
    exact FunD.bindsA D h s us hl
structure Kn (P : Program) (w : World) (K : PySem.W.Frag) (mg : Str → Option Value) (base : Heap) (Γ : Nat → Addr) (k : Nat) (x : Str) (ks : List Str) (F : DF) : Prop where
  ex : ∃ v, mg x = some v ∧ PySem.W.keepIn K v = true ∧ Cal P w K mg base Γ k v ks F
theorem Kn.mono (c : Kn P w K mg base Γ j x ks F) (h : j ≤ k) : Kn P w K mg base Γ k x ks F := let ⟨v, a, b, d⟩ := c.ex; ⟨v, a, b, d.mono h⟩
end
def dCall (F : DF) (fs : EFs) : EF := fun env st => (fs env st).bind F
section
variable {X : Cx} {Γ : Nat → Addr} {W : WX} {e o : Expr} {es : List Expr} {f fo : EF} {fs : EFs} {F : DF} {pos p apos : Pos} {j k : Nat} {x m : Str} {ks : List Str}
theorem pd_call (G : Go X W k) (c : Kn X.prog X.w X.K X.mg X.base Γ j x [] F) (ha : PA X (e :: es) (tDs (XC X Γ) W fs)) (hj : j ≤ k := by decide) (hg : Gl X x := by rfl) (hdb : (x == ("__debug__" : Str)) = false := by decide)
    (he : starEach (e :: es) X.env = (false, eval e X.env) :: starEach es X.env := by rfl) (hpl : (backTo pos (starEach es X.env)).any (·.1) = false := by rfl) :
    PE X (.Call (.Name x p) (e :: es) [] pos) (tD (XC X Γ) W (dCall F fs)) := by
  obtain ⟨v, hm, hk, c⟩ := c.ex
  refine ⟨fun pins s σ H Q I h => ?_⟩
  refine wpAny_Call_Name_kw (ld_glob I hg hm ?_ hdb)
  refine PySem.W.callWith_K (h₀ := X.base) I.ok.mod.kin hk (thn (ha.run pos pins s σ H _ I (t1 (Da := Dens) h)) fun us s1 ⟨vs, H1, I1, r, w, env, st, a, rl, d, p1⟩ => ⟨I1.kIn, ?_⟩) he hpl
  exact c X W rfl rfl rfl rfl rfl (G.rm.mono hj) G.gd G.tk pins s1 σ H1 w env st us [] vs a Q I1 (by rw [List.append_nil]; exact r) rfl rl d p1
theorem pd_call0 (G : Go X W k) (c : Kn X.prog X.w X.K X.mg X.base Γ j x [] F) (hj : j ≤ k := by decide) (hg : Gl X x := by rfl) (hdb : (x == ("__debug__" : Str)) = false := by decide) :
    PE X (.Call (.Name x p) [] [] pos) (tD (XC X Γ) W (dCall F dNil)) := by
  obtain ⟨v, hm, hk, c⟩ := c.ex
  refine ⟨fun pins s σ H Q I h => ?_⟩
  obtain ⟨w, env, st, rl, p1⟩ := h
  refine wpAny_Call_Name_kw (ld_glob I hg hm ?_ hdb)
  refine PySem.W.callWith_K0 I.kIn hk ?_
  exact c X W rfl rfl rfl rfl rfl (G.rm.mono hj) G.gd G.tk pins s σ H w env st [] [] [] [] Q I .nil rfl rl .nil p1
end
end AM
namespace AM
open PySem PySem.Spec PyProof.Rows L2
mutual
def D.hb (n : Nat) : D → Bool
  | .tup ds => hbs n ds
  | .lst ds => hbs n ds
  | .fz ds => hbs n ds
  | .ins _ fs => hbF n fs
  | .hd m => decide (m < n)
  | .dic _ => true
  | .exv _ _ _ fs => hbF n fs
  | .non => true
  | .bl _ => true
  | .int _ => true
  | .str _ => true
  | .ty _ => true
  | .cls _ => true
def hbs (n : Nat) : List D → Bool
  | [] => true
  | d :: ds => D.hb n d && hbs n ds
def hbF (n : Nat) : List (Str × D) → Bool
  | [] => true
  | (_, d) :: ds => D.hb n d && hbF n ds
end
section
variable {K : Ct} {ρ l : List Addr} {S S' : Addr → Prop} {H : Hp}
mutual
theorem Den.reach : ∀ {v : V} {d : D}, Den K ρ S H v d → D.hb ρ.length d = true
  | _, _, .non => rfl
  | _, _, .bl b => rfl
  | _, _, .int i => rfl
  | _, _, .str s => rfl
  | _, _, .ty n => rfl
  | _, _, .cls a => rfl
  | _, _, .tup h t => by unfold D.hb; exact Dens.reach t
  | _, _, .lst h n t => by unfold D.hb; exact Dens.reach t
  | _, _, .fz h t => by unfold D.hb; exact Dens.reach t
  | _, _, .ins h n t => by unfold D.hb; exact DenF.reach t
  | _, _, .hd h => by unfold D.hb; exact decide_eq_true (List.getElem?_eq_some_iff.mp h).1
  | _, _, .dic h n t => rfl
  | _, _, .exv h n t => by unfold D.hb; exact DenF.reach t
theorem Dens.reach : ∀ {vs : List V} {ds : List D}, Dens K ρ S H vs ds → hbs ρ.length ds = true
  | _, _, .nil => rfl
  | _, _, .cons h t => by unfold hbs; rw [Den.reach h, Dens.reach t]; rfl
theorem DenF.reach : ∀ {vs : List (Str × V)} {ds : List (Str × D)}, DenF K ρ S H vs ds → hbF ρ.length ds = true
  | _, _, .nil => rfl
  | _, _, .cons h t => by unfold hbF; rw [Den.reach h, DenF.reach t]; rfl
end
mutual
theorem Den.trim (hS : ∀ a, S' a → S a) : ∀ {v : V} {d : D}, Den K (ρ ++ l) S H v d → D.hb ρ.length d = true → Den K ρ S' H v d
  | _, _, .non, _ => .non
  | _, _, .bl b, _ => .bl b
  | _, _, .int i, _ => .int i
  | _, _, .str s, _ => .str s
  | _, _, .ty n, _ => .ty n
  | _, _, .cls a, _ => .cls a
  | _, _, .tup h t, e => .tup h (Dens.trim hS t (by unfold D.hb at e; exact e))
  | _, _, .lst h n t, e => .lst h (fun z => n (hS _ z)) (Dens.trim hS t (by unfold D.hb at e; exact e))
  | _, _, .fz h t, e => .fz (h.imp fun o q n => ⟨q, fun z => n (hS _ z)⟩) (Dens.trim hS t (by unfold D.hb at e; exact e))
  | _, _, .ins h n t, e => .ins h (fun z => n (hS _ z)) (DenF.trim hS t (by unfold D.hb at e; exact e))
  | _, _, .hd h, e => .hd (by
    unfold D.hb at e
    rw [List.getElem?_append_left (of_decide_eq_true e)] at h
    exact h)
  | _, _, .exv h n t, e => .exv h (fun z => n (hS _ z)) (DenF.trim hS t (by unfold D.hb at e; exact e))
  | _, _, .dic h n t, _ => .dic h (fun z => n (hS _ z)) t
theorem Dens.trim (hS : ∀ a, S' a → S a) : ∀ {vs : List V} {ds : List D}, Dens K (ρ ++ l) S H vs ds → hbs ρ.length ds = true → Dens K ρ S' H vs ds
  | _, _, .nil, _ => .nil
  | _, _, .cons h t, e => by
    unfold hbs at e
    obtain ⟨e1, e2⟩ := Bool.and_eq_true_iff.mp e
    exact .cons (Den.trim hS h e1) (Dens.trim hS t e2)
theorem DenF.trim (hS : ∀ a, S' a → S a) : ∀ {vs : List (Str × V)} {ds : List (Str × D)}, DenF K (ρ ++ l) S H vs ds → hbF ρ.length ds = true → DenF K ρ S' H vs ds
  | _, _, .nil, _ => .nil
  | _, _, .cons h t, e => by
    unfold hbF at e
    obtain ⟨e1, e2⟩ := Bool.and_eq_true_iff.mp e
    exact .cons (Den.trim hS h e1) (DenF.trim hS t e2)
end
end
mutual
theorem D.hb_mono {n m : Nat} (h : n ≤ m) : ∀ {d : D}, D.hb n d = true → D.hb m d = true
  | .tup ds, e => by unfold D.hb at e ⊢; exact hbs_mono h e
  | .lst ds, e => by unfold D.hb at e ⊢; exact hbs_mono h e
  | .fz ds, e => by unfold D.hb at e ⊢; exact hbs_mono h e
  | .ins _ fs, e => by unfold D.hb at e ⊢; exact hbF_mono h e
  | .hd k, e => by unfold D.hb at e ⊢; exact decide_eq_true (Nat.lt_of_lt_of_le (of_decide_eq_true e) h)
  | .non, _ => rfl
  | .bl _, _ => rfl
  | .int _, _ => rfl
  | .str _, _ => rfl
  | .ty _, _ => rfl
  | .cls _, _ => rfl
  | .dic _, _ => rfl
  | .exv _ _ _ fs, e => by unfold D.hb at e ⊢; exact hbF_mono h e
theorem hbs_mono {n m : Nat} (h : n ≤ m) : ∀ {ds : List D}, hbs n ds = true → hbs m ds = true
  | [], _ => rfl
  | d :: ds, e => by
    unfold hbs at e ⊢
    obtain ⟨e1, e2⟩ := Bool.and_eq_true_iff.mp e
    rw [D.hb_mono h e1, hbs_mono h e2]; rfl
theorem hbF_mono {n m : Nat} (h : n ≤ m) : ∀ {ds : List (Str × D)}, hbF n ds = true → hbF m ds = true
  | [], _ => rfl
  | (_, d) :: ds, e => by
    unfold hbF at e ⊢
    obtain ⟨e1, e2⟩ := Bool.and_eq_true_iff.mp e
    rw [D.hb_mono h e1, hbF_mono h e2]; rfl
end
theorem StOk.trim {K : Ct} {ρ l : List Addr} {S S' S0 : Addr → Prop} {H H0 : Hp} {st more : Sto} (s0 : StOk K ρ S0 H0 st) (s : StOk K (ρ ++ l) S H (st ++ more)) (hS : ∀ a, S' a → S a) : StOk K ρ S' H st where
  len := s0.len
  nd := s0.nd
  cell := fun n a c h1 h2 => by
    have q := s.cell n a c (by rw [List.getElem?_append_left (List.getElem?_eq_some_iff.mp h1).1]; exact h1) (by rw [List.getElem?_append_left (List.getElem?_eq_some_iff.mp h2).1]; exact h2)
    have q0 := s0.cell n a c h1 h2
    cases c with
    | lst ds =>
      obtain ⟨vs, z, t⟩ := q
      obtain ⟨_, _, t0⟩ := q0
      exact ⟨vs, z, t.trim hS t0.reach⟩
    | obj C fs =>
      obtain ⟨dx, gs, z, t⟩ := q
      obtain ⟨_, _, _, t0⟩ := q0
      exact ⟨dx, gs, z, t.trim hS t0.reach⟩
    | tab i q' => exact TabC.gen q rfl fun b o e n => ⟨e, fun z => n (hS b z)⟩
theorem StOk.more {K : Ct} {ρ : List Addr} {S S' : Addr → Prop} {H H' : Hp} {st : Sto} {p : Addr} {c : Cell} (s : StOk K ρ S H st) (k : ∀ a o, H a = some o → H' a = some o) (hp : H p = none) (hS : ∀ a, S' a → S a ∨ H a = none) (hr : ∀ a, a ∈ ρ → S a)
    (hc : CellOk K (ρ ++ [p]) S' H' p c) (ht : ∀ a vs, SqT K.K H a vs → SqT K.K H' a vs) : StOk K (ρ ++ [p]) S' H' (st ++ [c]) ∧ Ext K ρ H (ρ ++ [p]) H' := by
  have np : p ∉ ρ := fun z => by
    obtain ⟨o, e⟩ := s.there z
    rw [hp] at e; cases e
  have x : Ext K ρ H (ρ ++ [p]) H' := ⟨⟨[p], rfl⟩, fun a o e n => ⟨k a o e, fun z => by
    rcases List.mem_append.mp z with z | z
    · exact n z
    · rw [List.mem_singleton.mp z, hp] at e; cases e⟩, ht⟩
  refine ⟨⟨by rw [List.length_append, List.length_append, s.len]; rfl, List.nodup_append.mpr ⟨s.nd, by simp, fun a h b h2 z => np (by rw [List.mem_singleton.mp h2] at z; rw [← z]; exact h)⟩, fun n a d h1 h2 => ?_⟩, x⟩
  by_cases hn : n < ρ.length
  · rw [List.getElem?_append_left hn] at h1
    rw [List.getElem?_append_left (by rw [← s.len]; exact hn)] at h2
    have q := s.cell n a d h1 h2
    cases d with
    | lst ds => obtain ⟨vs, z, t⟩ := q; exact ⟨vs, k _ _ z, t.mono x hS hr⟩
    | obj C fs => obtain ⟨dx, gs, z, t⟩ := q; exact ⟨dx, gs, k _ _ z, t.mono x hS hr⟩
    | tab i q' =>
      obtain ⟨o, eo, _⟩ := CellOk.some q
      exact TabC.mono q ((k _ _ eo).trans eo.symm) x hS hr
  · rw [List.getElem?_append_right (by omega)] at h1
    rw [List.getElem?_append_right (by rw [← s.len]; omega), ← s.len] at h2
    cases q : n - ρ.length with
    | zero =>
      rw [q] at h1 h2
      cases h1; cases h2
      exact hc
    | succ m => rw [q] at h1; cases h1
section
variable {X : Cx} {Γ : Nat → Addr} {W : WX} {e o a b : Expr} {es : List Expr} {f fo fa fb : EF} {fs : EFs} {F : DF} {pos p apos : Pos} {j k : Nat} {x m : Str} {ks : List Str}
def dNew (f : AEnv → Sto → Res (List D)) : EF := fun env st => (f env st).bind fun ds st => .ok (.hd st.length) (st ++ [.lst ds])
theorem pd_new {f : AEnv → Sto → Res (List D)} (h : PE X e (tF (XC X Γ) W f)) : PE X e (tD (XC X Γ) W (dNew f)) := peImp h fun σ H Q ⟨w, env, st, r, p⟩ => ⟨w, env, st, r, by
  unfold dNew at p
  cases q : f env st with
  | ok ds st' =>
    rw [q] at p
    intro ρ' H' pp vs h1 h2 h3 h4
    have r1 := r.ext h2 h1
    have nS := r1.fresh h3
    have hS : ∀ a, (w.at_ (ρ' ++ [pp])).S a → (w.at_ ρ').S a ∨ H' a = none := fun a h => by
      rcases h with h | h
      · rcases List.mem_append.mp h with h | h
        · exact .inl (.inl h)
        · exact .inr (by rw [List.mem_singleton.mp h]; exact h3)
      · exact .inl (.inr h)
    have k1 : ∀ a o, H' a = some o → upd H' pp (.lst vs) a = some o := fun a o e => by rw [upd_ne (ne_of_none e h3)]; exact e
    have x1 : Ext (XC X Γ) ρ' H' (ρ' ++ [pp]) (upd H' pp (.lst vs)) := ⟨⟨[pp], rfl⟩, fun a o e n => ⟨k1 a o e, fun z => by
      rcases List.mem_append.mp z with z | z
      · exact n z
      · rw [List.mem_singleton.mp z, h3] at e; cases e⟩, fun _ _ h => SqT.upd h3 h⟩
    obtain ⟨s2, x2⟩ := r1.sto.more (c := .lst ds) (S' := (w.at_ (ρ' ++ [pp])).S) k1 h3 hS (fun a h => .inl h) ⟨vs, upd_same, h4.mono x1 hS fun a h => .inl h⟩ (fun _ _ h => SqT.upd h3 h)
    have p2 : Post Den (XC X Γ) W w H σ (.ok (.hd st'.length) (st' ++ [.lst ds])) Q := p
    exact p2 (ρ' ++ [pp]) _ (.ref pp) s2 (h2.trans x2) (.hd (by rw [List.getElem?_append_right (by rw [h1.len]; exact Nat.le_refl _), ← h1.len, Nat.sub_self]; rfl))
  | exc x st' => rw [q] at p; exact p
  | bad => rw [q] at p; exact p⟩
def fldOf (cs : List Nat) (f : Str) (d : D) (st : Sto) : Option D := match d with
  | .ins c fs => if cs.contains c = true then fs.lookup f else none
  | .hd n => match st[n]? with
    | some (.obj c fs) => if cs.contains c = true then fs.lookup f else none
    | _ => none
  | _ => none
def optR (o : Option D) (st : Sto) : Res D := match o with
  | some d => .ok d st
  | none => .bad
def dFld (cs : List Nat) (x : Str) (fo : EF) : EF := fun env st => (fo env st).bind fun d st => optR (fldOf cs x d st) st
theorem fld_get {K : Ct} {w : Wd} {env : AEnv} {st : Sto} {σ : St} {H : Hp} {v : V} {d r : D} {cs : List Nat} {f : Str} (rl : Rel K w env st σ H) (h : Den K w.ρ w.S H v d) (e : fldOf cs f d st = some r) :
    ∃ a c dx gs u, v = .ref a ∧ c ∈ cs ∧ H a = some (.ins (K.Γ c) dx gs) ∧ gs.lookup f = some u ∧ Den K w.ρ w.S H u r := by
  have fin : ∀ {a dx : Addr} {c : Nat} {gs : List (Str × V)} {fs : List (Str × D)}, v = .ref a → H a = some (.ins (K.Γ c) dx gs) → DenF K w.ρ w.S H gs fs → (if cs.contains c = true then fs.lookup f else none) = some r →
      ∃ a c dx gs u, v = .ref a ∧ c ∈ cs ∧ H a = some (.ins (K.Γ c) dx gs) ∧ gs.lookup f = some u ∧ Den K w.ρ w.S H u r := fun {a dx c gs fs} ev ha t q => by
    split at q
    · rename_i hc
      obtain ⟨u, h1, h2⟩ := t.lookup q
      exact ⟨a, c, dx, gs, u, ev, by simpa using hc, ha, h1, h2⟩
    · cases q
  cases h with
  | ins ha n t => exact fin rfl ha t e
  | @hd a n hn =>
    have e : (match st[n]? with
      | some (.obj c fs) => if cs.contains c = true then fs.lookup f else none
      | _ => none) = some r := e
    split at e
    · rename_i c fs es
      obtain ⟨dx, gs, hq, t⟩ := rl.cellO hn es
      exact fin rfl hq t e
    · cases e
  | _ => cases e
theorem pd_fld (cs : List Nat) (hc : ∀ c ∈ cs, Cls X.K (Γ c) ∧ NoAttr X.K (Γ c) x) (he : PE X o (tD (XC X Γ) W fo)) (hb : attributeBase o x X.env (eval o X.env) = eval o X.env := by rfl) : PE X (.Attribute o x pos) (tD (XC X Γ) W (dFld cs x fo)) :=
  peImp (pe_fld he hb) fun σ H Q h => by
    obtain ⟨w, env, st, r, p⟩ := t1 (Da := Den) h
    refine ⟨w, env, st, r, p.mono ?_⟩
    rintro v H1 ⟨w1, env1, st1, d, r1, d1, p1⟩
    cases q : fldOf cs x d st1 with
    | none => rw [q] at p1; exact p1.elim
    | some z =>
      rw [q] at p1
      obtain ⟨a, c, dx, gs, u, e1, e2, e3, e4, e5⟩ := fld_get r1 d1 q
      exact ⟨a, Γ c, dx, gs, u, e1, e3, (hc c e2).1, (hc c e2).2, e4, Post.ok r1 p1 e5⟩
def isC (c : Nat) (m : Str) (d : D) (st : Sto) : Bool := match d with
  | .ins c' fs => c' == c && (fs.lookup m).isNone
  | .hd n => match st[n]? with
    | some (.obj c' fs) => c' == c && (fs.lookup m).isNone
    | _ => false
  | _ => false
structure KnM (P : Program) (w : World) (K : PySem.W.Frag) (mg : Str → Option Value) (base : Heap) (Γ : Nat → Addr) (k : Nat) (c : Nat) (m : Str) (ks : List Str) (F : DF) : Prop where
  cl : Cls K (Γ c)
  ex : ∃ g, Meth K (Γ c) m g ∧ Cal P w K mg base Γ k (.ref g) ks F
def dMeth (c : Nat) (m : Str) (F : DF) (fo : EF) (fs : EFs) : EF := fun env st => (fo env st).bind fun d st1 => (if isC c m d st1 = true then fs env st1 else .bad).bind fun ds st2 => F (d :: ds) st2
structure KnP (P : Program) (w : World) (K : PySem.W.Frag) (mg : Str → Option Value) (base : Heap) (Γ : Nat → Addr) (k : Nat) (c : Nat) (f : Str) (F : DF) : Prop where
  cl : Cls K (Γ c)
  ex : ∃ p g, PropOf K (Γ c) f p g ∧ FnV P w K mg base k g (spD ⟨K, Γ⟩ F)
def isI (c : Nat) (d : D) (st : Sto) : Bool := match d with
  | .ins c' fs => c' == c
  | .hd n => match st[n]? with
    | some (.obj c' fs) => c' == c
    | _ => false
  | _ => false
theorem isI_get {K : Ct} {w : Wd} {env : AEnv} {st : Sto} {σ : St} {H : Hp} {v : V} {d : D} {c : Nat} (rl : Rel K w env st σ H) (h : Den K w.ρ w.S H v d) (e : isI c d st = true) :
    ∃ a dx gs, v = .ref a ∧ H a = some (.ins (K.Γ c) dx gs) := by
  cases h with
  | @ins a dx c' gs fs ha n t =>
    have ec : c' = c := by simpa [isI] using e
    subst ec
    exact ⟨_, _, _, rfl, ha⟩
  | @hd a n hn =>
    have e : (match st[n]? with
      | some (.obj c' fs) => c' == c
      | _ => false) = true := e
    split at e
    · rename_i c' fs es
      obtain ⟨dx, gs, hq, t⟩ := rl.cellO hn es
      have ec : c' = c := by simpa using e
      subst ec
      exact ⟨_, _, _, rfl, hq⟩
    · cases e
  | _ => cases e
def noX {α : Type} (r : Res α) : Res α := match r with
  | .exc _ _ => .bad
  | r => r
theorem Post.noX {α β : Type} {Da : DnT β α} {K : Ct} {W W' : WX} {w : Wd} {H : Hp} {σ : St} {Q : β → Hp → Prop} {r : Res α} (h : Post Da K W w H σ (AM.noX r) Q) : Post Da K W' w H σ r Q := by
  cases r with
  | ok a st => exact h
  | exc e st => exact h.elim
  | bad => exact h
def dProp (c : Nat) (F : DF) (fo : EF) : EF := fun env st => (fo env st).bind fun d st => if isI c d st = true then AM.noX (F [d] st) else .bad
end
end AM
namespace AM
open PySem PySem.Spec PyProof.Rows L2
theorem nodup_at {α : Type} : ∀ {l : List α} {i j : Nat} {a : α}, l.Nodup → l[i]? = some a → l[j]? = some a → i = j
  | [], _, _, _, _, h, _ => by simp at h
  | _ :: _, 0, 0, _, _, _, _ => rfl
  | b :: l, 0, j + 1, a, n, h1, h2 => by
    have h1 : b = a := by simpa using h1
    have h2 : l[j]? = some a := by simpa using h2
    exact absurd (List.mem_of_getElem? h2) (by rw [← h1]; exact (List.nodup_cons.mp n).1)
  | b :: l, i + 1, 0, a, n, h1, h2 => by
    have h2 : b = a := by simpa using h2
    have h1 : l[i]? = some a := by simpa using h1
    exact absurd (List.mem_of_getElem? h1) (by rw [← h2]; exact (List.nodup_cons.mp n).1)
  | b :: l, i + 1, j + 1, a, n, h1, h2 => by
    exact congrArg Nat.succ (nodup_at (a := a) (List.nodup_cons.mp n).2 (by simpa using h1) (by simpa using h2))
section
variable {K : Ct} {w : Wd} {env : AEnv} {st : Sto} {σ : St} {H : Hp}
theorem Rel.putCell {a : Addr} {n : Nat} {c : Cell} {o o' : HO} (r : Rel K w env st σ H) (hn : w.ρ[n]? = some a) (hs : n < st.length) (hH : H a = some o) (ho : ∀ u, o ≠ .tup u) (hf : ∀ q u, o ≠ .frz q u) (hc : ∀ H', ExtS K w H w H' → H' a = some o' → CellOk K w.ρ w.S H' a c) :
    Rel K w env (st.set n c) σ (upd H a o') ∧ ExtS K w H w (upd H a o') := by
  have hm : a ∈ w.ρ := List.mem_of_getElem? hn
  have tu : ∀ b us, SqT K.K H b us → SqT K.K (upd H a o') b us := fun b us q => by
    rcases q with (q | ⟨z, q⟩) | q
    · exact .inl (.inl (by rw [upd_ne (ne_of q hH (fun z => ho _ z.symm))]; exact q))
    · exact .inl (.inr ⟨z, by rw [upd_ne (ne_of q hH (fun z => hf _ _ z.symm))]; exact q⟩)
    · exact .inr q
  have X : ExtS K w H w (upd H a o') := ⟨⟨[], by simp⟩, fun b u h n1 m => ⟨by rw [upd_ne (fun z => n1 (by rw [z]; exact hm))]; exact h, n1, m⟩, fun b h => .inl h, fun b u h => by
    by_cases e : b = a
    · exact ⟨_, by rw [e]; exact upd_same⟩
    · exact ⟨u, by rw [upd_ne e]; exact h⟩, tu, fun _ h => h⟩
  have m : ∀ {v d}, Den K w.ρ w.S H v d → Den K w.ρ w.S (upd H a o') v d := fun h => h.monoS X
  refine ⟨⟨⟨by rw [List.length_set]; exact r.sto.len, r.sto.nd, fun k b e h1 h2 => ?_⟩, fun b q => ?_, r.len, r.lenO, fun j v' s o h1 h2 h3 => ?_, r.ndO, r.disO⟩, X⟩
  · rcases get_set h2 with ⟨rfl, rfl, _⟩ | ⟨hk, h2⟩
    · rw [hn] at h1; cases h1
      exact hc _ X upd_same
    · have nb : b ≠ a := fun z => hk (by
        subst z
        exact nodup_at r.sto.nd h1 hn)
      exact (r.sto.cell k b e h1 h2).monoS X (upd_ne nb)
  · obtain ⟨⟨u, e⟩, n1⟩ := r.res b q
    exact ⟨X.there b u e, n1⟩
  · have q := r.slot j v' s o h1 h2 h3
    cases s with
    | un => exact q
    | sh d' => obtain ⟨e, x, ex, dx⟩ := q; exact ⟨e, x, ex, m dx⟩
    | own ds' =>
      obtain ⟨b, us, e1, e2, e3, e4⟩ := q
      have nb : b ≠ a := fun z => (r.disO b (by rw [e1] at h3; exact List.mem_of_getElem? h3)).1 (by rw [z]; exact hm)
      exact ⟨b, us, e1, e2, by rw [upd_ne nb]; exact e3, e4.monoS X⟩
def putD (f : Str) (d : D) : List (Str × D) → List (Str × D)
  | [] => [(f, d)]
  | (g, e) :: r => if g = f then (g, d) :: r else (g, e) :: putD f d r
theorem DenF.put {ρ : List Addr} {S : Addr → Prop} {f : Str} {v : V} {d : D} (h : Den K ρ S H v d) : ∀ {gs : List (Str × V)} {fs : List (Str × D)}, DenF K ρ S H gs fs → DenF K ρ S H (putF f v gs) (putD f d fs)
  | _, _, .nil => .cons h .nil
  | _, _, .cons (f := g) (vs := gs) (ds := fs) q t => by
    unfold putF putD
    split
    · exact .cons h t
    · exact .cons q (DenF.put h t)
theorem DenF.len {ρ : List Addr} {S : Addr → Prop} : ∀ {gs : List (Str × V)} {fs : List (Str × D)}, DenF K ρ S H gs fs → gs.length = fs.length
  | _, _, .nil => rfl
  | _, _, .cons _ t => by rw [List.length_cons, List.length_cons, DenF.len t]
end
def putIx (o i d : D) (env : AEnv) (st : Sto) : SR := match o, i with
  | .hd n, .int k => (match st[n]? with
    | some (.lst ds) => (match ixN ds.length k with
      | some j => .nx env (st.set n (.lst (ds.set j d)))
      | none => .bad)
    | _ => .bad)
  | _, _ => .bad
def gIx (fo fi : EF) : GF := fun d env st => (fo env st).then fun o st1 => (fi env st1).then fun i st2 => putIx o i d env st2
def putFd (cs : List Nat) (f : Str) (o d : D) (env : AEnv) (st : Sto) : SR := match o with
  | .hd n => (match st[n]? with
    | some (.obj c fs) => if (cs.contains c && decide (fs.length < 1000)) = true then .nx env (st.set n (.obj c (putD f d fs))) else .bad
    | _ => .bad)
  | _ => .bad
def sFldD (cs : List Nat) (f : Str) (fo fv : EF) : SF := fun env st => (fv env st).then fun d st1 => (fo env st1).then fun o st2 => putFd cs f o d env st2
section
variable {X : Cx} {Γ : Nat → Addr} {W : WX} {e o i a b : Expr} {es : List Expr} {f fo fi fv fa fb : EF} {fs : EFs} {F : DF} {pos p apos : Pos} {j k : Nat} {x m : Str} {ks : List Str}
theorem pgd_ix (ho : PE X o (tD (XC X Γ) W fo)) (hi : PE X i (tD (XC X Γ) W fi))
    (ha : ∀ v, assign (.Subscript o i pos) X.env v = (holding [v] (eval o X.env) >>= fun ov => holding [v, ov] (eval i X.env) >>= fun iv => standAt pos >>= fun _ => holding [v, ov, iv] (setItem ov iv v) >>= fun _ => release [v, ov, iv] []) := by intro _; rfl) :
    PG X (.Subscript o i pos) (tgG (XC X Γ) W (gIx fo fi)) := by
  refine ⟨fun pins s σ H v u Q I rv h => (pg_sub ho hi set_list ha).run pins s σ H v u Q I rv ?_⟩
  obtain ⟨w, env, st, d, r, hd, p⟩ := h
  refine ⟨w, env, st, r, (Post.then (Da := Den) r p).mono ?_⟩
  rintro y H1 ⟨w1, st1, c, r1, x1, d1, p1⟩
  refine ⟨w1, env, st1, r1, (Post.then (Da := Den) r1 p1).mono ?_⟩
  rintro z H2 ⟨w2, st2, c2, r2, x2, d2, p2⟩
  have p2 : PostS (XC X Γ) W w2 H2 σ (putIx c c2 d env st2) { nx := Q, rt := fun _ _ => False } := p2
  have dc := d1.monoS x2
  have dd := (hd.monoS x1).monoS x2
  unfold putIx at p2
  split at p2
  · rename_i n kk _
    obtain ⟨q, eq, hn⟩ := DenB.hd (w := w2) dc.b
    have ei := DenB.int (w := w2) d2.b
    split at p2
    · rename_i ds es
      obtain ⟨vs, hq, t⟩ := r2.cellL hn es
      split at p2
      · rename_i jj hj
        have hj' : ixN vs.length kk = some jj := by rw [t.length]; exact hj
        refine ⟨q, vs, kk, jj, eq, ei, hq, hj', ?_⟩
        obtain ⟨r3, x3⟩ := r2.putCell (c := .lst (ds.set jj d)) (o' := .lst (vs.set jj v)) hn (List.getElem?_eq_some_iff.mp es).1 hq (fun u z => nomatch z) (fun a u z => nomatch z) fun H' X' e' => ⟨_, e', (t.monoS X').set jj (dd.monoS X')⟩
        exact p2 _ _ _ r3 x3
      · exact p2.elim
    · exact p2.elim
  · exact p2.elim
theorem psd_fld {p' : Pos} (cs : List Nat) (hc : ∀ c ∈ cs, Cls X.K (Γ c) ∧ NoAttr X.K (Γ c) x) (ho : PE X o (tD (XC X Γ) W fo)) (he : PE X e (tD (XC X Γ) W fv)) (hs : swapsWith e (some (.Attribute o x p')) pos.line X.env = pure false := by rfl) :
    PS X (.Assign [.Attribute o x p'] e pos) (tS (XC X Γ) W (sFldD cs x fo fv)) := psImp (ps_fld ho he hs) fun D σ H ⟨w, env, st, r, p⟩ => by
  refine ⟨w, env, st, r, (Post.then (Da := Den) r p).mono ?_⟩
  rintro y H1 ⟨w1, st1, d, r1, x1, d1, p1⟩
  refine ⟨w1, env, st1, r1, (Post.then (Da := Den) r1 p1).mono ?_⟩
  rintro z H2 ⟨w2, st2, c, r2, x2, d2, p2⟩
  have p2 : PostS (XC X Γ) W w2 H2 σ (putFd cs x c d env st2) D := p2
  unfold putFd at p2
  split at p2
  · rename_i n
    obtain ⟨q, eq, hn⟩ := DenB.hd (w := w2) d2.b
    split at p2
    · rename_i cc fs es
      obtain ⟨dx, gs, hq, t⟩ := r2.cellO hn es
      split at p2
      · rename_i hz
        obtain ⟨z1, z2⟩ := Bool.and_eq_true_iff.mp hz
        have hcc := hc cc (by simpa using z1)
        refine ⟨q, Γ cc, dx, gs, eq, hq, hcc.1, hcc.2, by rw [t.len]; exact of_decide_eq_true z2, ?_⟩
        obtain ⟨r3, x3⟩ := r2.putCell (c := .obj cc (putD x d fs)) (o' := .ins (Γ cc) dx (putF x y gs)) hn (List.getElem?_eq_some_iff.mp es).1 hq (fun u z => nomatch z) (fun a u z => nomatch z) fun H' X' e' => ⟨dx, _, e', (t.monoS X').put ((d1.monoS x2).monoS X')⟩
        exact p2 _ _ _ r3 x3
      · exact p2.elim
    · exact p2.elim
  · exact p2.elim
end
end AM
namespace AM
open PySem PySem.Spec PyProof.Rows L2
def MkOk (c : Nat) (F : DF) (G : List D → Res (List (Str × D))) : Prop := ∀ (ds : List D) (st : Sto), match G ds with
  | .ok fs _ => F (.hd st.length :: ds) (st ++ [.obj c []]) = .ok .non (st ++ [.obj c fs]) ∧ hbF 0 fs = true
  | .exc e _ => (∃ fs, F (.hd st.length :: ds) (st ++ [.obj c []]) = .exc e (st ++ [.obj c fs])) ∧ hbF 0 e.fs = true
  | .bad => True
def mkI (c : Nat) (G : List D → Res (List (Str × D))) : DF := fun ds st => match G ds with
  | .ok fs _ => .ok (.ins c fs) st
  | .exc e _ => .exc e st
  | .bad => .bad
section
variable {P : Program} {w : World} {K : PySem.W.Frag} {mg : Str → Option Value} {base : Heap} {Γ : Nat → Addr} {j k c : Nat} {f : Addr} {F : DF}
theorem new_thing {K : Ct} {wd : Wd} {env : AEnv} {st : Sto} {σ : St} {H : Hp} {x dx : Addr} {vs : List V} {ds : List D} {c : Nat} (rl : Rel K wd env st σ H) (hx : H x = none) (hd : H dx = none) (ne : dx ≠ x) (d : Dens K wd.ρ wd.S H vs ds) :
    ∃ H2 : Hp, H2 = upd (upd H dx (.own x)) x (.ins (K.Γ c) dx []) ∧ (∀ a o, H a = some o → H2 a = some o) ∧
      Ext K wd.ρ H (wd.ρ ++ [x]) H2 ∧ StOk K (wd.ρ ++ [x]) (wd.at_ (wd.ρ ++ [x])).S H2 (st ++ [.obj c []]) ∧ Dens K (wd.ρ ++ [x]) (wd.at_ (wd.ρ ++ [x])).S H2 (.ref x :: vs) (.hd st.length :: ds) ∧
      (∀ a, (wd.at_ (wd.ρ ++ [x])).S a → wd.S a ∨ H a = none) := by
  have k : ∀ a o, H a = some o → upd (upd H dx (.own x)) x (.ins (K.Γ c) dx []) a = some o := fun a o e => by rw [upd_ne (ne_of_none e hx), upd_ne (ne_of_none e hd)]; exact e
  have ht : ∀ a vs, SqT K.K H a vs → SqT K.K (upd (upd H dx (.own x)) x (.ins (K.Γ c) dx [])) a vs := fun a vs h => by
    rcases h with (h | ⟨u, h⟩) | h
    · exact .inl (.inl (k _ _ h))
    · exact .inl (.inr ⟨u, k _ _ h⟩)
    · exact .inr h
  have hS : ∀ a, (wd.at_ (wd.ρ ++ [x])).S a → wd.S a ∨ H a = none := fun a h => by
    rcases h with h | h
    · rcases List.mem_append.mp h with h | h
      · exact .inl (.inl h)
      · exact .inr (by rw [List.mem_singleton.mp h]; exact hx)
    · exact .inl (.inr h)
  obtain ⟨s2, x2⟩ := rl.sto.more (c := .obj c []) (S' := (wd.at_ (wd.ρ ++ [x])).S) k hx hS (fun a h => .inl h) ⟨dx, [], upd_same, .nil⟩ ht
  exact ⟨_, rfl, k, x2, s2, .cons (.hd (by rw [← rl.sto.len, List.getElem?_append_right (Nat.le_refl _), Nat.sub_self]; rfl)) (d.mono x2 hS fun a h => .inl h), hS⟩
theorem run_new {X : Cx} {W : WX} {pins : List (Addr × Obj)} {s : Shared} {σ : St} {H : Hp} {wd : Wd} {env : AEnv} {st : Sto} {us : List Value} {vs : List V} {ds : List D} {Q : VK} (M : Mk X.K (Γ c) f) (g : FnV X.prog X.w X.K X.mg X.base k f (spD ⟨X.K, Γ⟩ F)) (hr : Room (k + 1) X.A) (hg : X.A.guards = some []) (tk : L2N.Takes X W)
    (I : Inv X pins σ H s) (rv : Vals vs us) (rl : Rel (XC X Γ) wd env st σ H) (d : Dens (XC X Γ) wd.ρ wd.S H vs ds)
    (p : ∀ x dx H2, H x = none → H dx = none → (∀ a o, H a = some o → H2 a = some o) → Ext (XC X Γ) wd.ρ H (wd.ρ ++ [x]) H2 → (∀ a, (wd.at_ (wd.ρ ++ [x])).S a → wd.S a ∨ H a = none) →
      Post Den (XC X Γ) W (wd.at_ (wd.ρ ++ [x])) H2 σ (F (.hd st.length :: ds) (st ++ [.obj c []])) fun v H3 => v = .non ∧ Q (.ref x) H3) :
    wpAny (model X.prog X.w) X.A (call (.ref (Γ c)) us) (EP X pins σ Q) X.xe s := by
  have ax : H (s.heap.objs.size + 1) = none := I.hok.fresh (Nat.le_succ _)
  have ad : H s.heap.objs.size = none := I.hok.fresh (Nat.le_refl _)
  have nd : s.heap.objs.size ≠ s.heap.objs.size + 1 := Nat.ne_of_lt (Nat.lt_succ_self _)
  obtain ⟨H2, eH, kk, x2, s2, d2, hS⟩ := new_thing (c := c) rl ax ad nd d
  have I2 := Inv.made (C := Γ c) I
  have p2 := p _ _ H2 ax ad kk x2 hS
  subst eH
  have res : ∀ a, (wd.at_ (wd.ρ ++ [s.heap.objs.size + 1])).call.R a → (∃ o, upd (upd H s.heap.objs.size (.own (s.heap.objs.size + 1))) (s.heap.objs.size + 1) (.ins ((XC X Γ).Γ c) s.heap.objs.size []) a = some o) ∧ a ∉ wd.ρ ++ [s.heap.objs.size + 1] := fun a h => by
    have q : (∃ o, H a = some o) ∧ a ∉ wd.ρ := by
      rcases h with h | h
      · exact rl.res a h
      · exact ⟨rl.thereS (.inr (.inr h)), (rl.disO a h).1⟩
    obtain ⟨⟨o, e⟩, n⟩ := q
    exact ⟨⟨o, kk a o e⟩, fun z => by
      rcases List.mem_append.mp z with z | z
      · exact n z
      · rw [List.mem_singleton.mp z, ax] at e; cases e⟩
  have eS : (wd.at_ (wd.ρ ++ [s.heap.objs.size + 1])).call.S = (wd.at_ (wd.ρ ++ [s.heap.objs.size + 1])).S := call_S wd _
  have sp : spD ⟨X.K, Γ⟩ F (.ref (s.heap.objs.size + 1) :: vs) _ (fun v H3 => v = .non ∧ Q (.ref (s.heap.objs.size + 1)) H3) (fun c d H' => W c d σ H') :=
    ⟨(wd.at_ (wd.ρ ++ [s.heap.objs.size + 1])).call, st ++ [.obj c []], .hd st.length :: ds, rfl, by rw [eS]; exact s2, res, by rw [eS]; exact d2, p2.call⟩
  have rmk : Room k (X.A.under (.builtin "type.__call__" ⟨.ref (Γ c) :: us, []⟩)) := hr.make (Γ c) us []
  have gmk : (X.A.under (.builtin "type.__call__" ⟨.ref (Γ c) :: us, []⟩)).guards = some [] := by
    unfold PySem.Around.under
    simp only [hg]
    rfl
  refine wpAny_call (make_map (f := f) I.kIn M.makes M.init (beq_iff_eq.mp M.fn) (codeAny_mono (g _ X.stack _ _ (.ref (s.heap.objs.size + 1) :: us) (.ref (s.heap.objs.size + 1) :: vs) _ (fun c d H' => W c d σ H') rmk gmk (I2.env0.make (Γ c) us []) (.cons rfl rv) sp) fun r s' hq => ?_))
  cases r with
  | error e => exact L2N.passAt tk σ pins _ _ e s' I2 hq
  | ok fl =>
    cases fl with
    | ret u =>
      obtain ⟨v, H', I3, rv', ev, q3⟩ := I2.after hq
      subst ev
      exact ⟨rv', ⟨V.ref (s.heap.objs.size + 1), H', I3, rfl, q3⟩⟩
    | next => exact hq.elim
    | brk => exact hq.elim
    | cont => exact hq.elim
theorem Cal.mkI {G : List D → Res (List (Str × D))} (M : Mk K (Γ c) f) (g : FnV P w K mg base k f (spD ⟨K, Γ⟩ F)) (hG : MkOk c F G) : Cal P w K mg base Γ (k + 1) (.ref (Γ c)) [] (AM.mkI c G) := by
  intro X W h1 h2 h3 h4 h5 hr hg tk pins s σ H wd env st us ws vs ds Q I rv hw rl d p
  subst h1 h2 h3 h4 h5
  have e : ws = [] := List.length_eq_zero_iff.mp hw
  subst e
  rw [List.append_nil] at rv
  refine run_new M g hr hg tk I rv rl d fun x dx H2 hx hd kk x2 hS => ?_
  have q := hG ds st
  unfold AM.mkI at p
  -- behind __init__: the store without the new thing
  have back : ∀ (ρ' : List Addr) (H' : Hp) (fs : List (Str × D)), StOk (XC X Γ) ρ' ((wd.at_ (wd.ρ ++ [x])).at_ ρ').S H' (st ++ [.obj c fs]) → Ext (XC X Γ) (wd.ρ ++ [x]) H2 ρ' H' →
      ρ' = wd.ρ ++ [x] ∧ StOk (XC X Γ) wd.ρ (wd.at_ wd.ρ).S H' st ∧ Ext (XC X Γ) wd.ρ H wd.ρ H' ∧ ∃ dx gs, H' x = some (.ins (Γ c) dx gs) ∧ DenF (XC X Γ) ρ' ((wd.at_ (wd.ρ ++ [x])).at_ ρ').S H' gs fs := fun ρ' H' fs h1 h2 => by
    obtain ⟨l, el⟩ := h2.pre
    have hl : l = [] := by
      have a1 := h1.len
      rw [el, List.length_append, List.length_append, List.length_append, rl.sto.len] at a1
      have b1 : [x].length = 1 := rfl
      have b2 : [Cell.obj c fs].length = 1 := rfl
      exact List.length_eq_zero_iff.mp (by omega)
    subst hl
    rw [List.append_nil] at el
    subst el
    have sS : ∀ a, (wd.at_ wd.ρ).S a → ((wd.at_ (wd.ρ ++ [x])).at_ (wd.ρ ++ [x])).S a := fun a h => by
      rcases h with h | h
      · exact .inl (List.mem_append_left _ h)
      · exact .inr h
    obtain ⟨dx', gs, e1, e2⟩ := h1.cell st.length x (.obj c fs) (by rw [← rl.sto.len, List.getElem?_append_right (Nat.le_refl _), Nat.sub_self]; rfl) (by rw [List.getElem?_append_right (Nat.le_refl _), Nat.sub_self]; rfl)
    refine ⟨rfl, rl.sto.trim h1 sS, ⟨⟨[], by simp⟩, fun a o h n => ?_, fun a vs h => h2.tups a vs (x2.tups a vs h)⟩, dx', gs, e1, e2⟩
    have na : a ∉ wd.ρ ++ [x] := fun z => by
      rcases List.mem_append.mp z with z | z
      · exact n z
      · rw [List.mem_singleton.mp z, hx] at h; cases h
    exact ⟨(h2.keep a o (kk a o h) na).1, n⟩
  have sS2 : ∀ a, (wd.at_ wd.ρ).S a → ((wd.at_ (wd.ρ ++ [x])).at_ (wd.ρ ++ [x])).S a := fun a h => by
    rcases h with h | h
    · exact .inl (List.mem_append_left _ h)
    · exact .inr h
  cases r : G ds with
  | ok fs z =>
    rw [r] at p q
    obtain ⟨q1, q2⟩ := q
    rw [q1]
    intro ρ' H' v h1 h2 h3
    cases h3
    have p : Post Den (XC X Γ) W wd H σ (.ok (.ins c fs) st) Q := p
    obtain ⟨rfl, b1, b2, dx', gs, b3, b4⟩ := back ρ' H' fs h1 h2
    refine ⟨rfl, p wd.ρ H' (.ref x) b1 b2 (.ins b3 (fun z => rl.fresh hx z) (b4.trim sS2 (hbF_mono (Nat.zero_le _) q2)))⟩
  | exc e z =>
    rw [r] at p q
    obtain ⟨⟨fs, q1⟩, q2⟩ := q
    rw [q1]
    intro ρ' H' dd gs h1 h2 h3 h4
    have p : Post Den (XC X Γ) W wd H σ (.exc e st) Q := p
    obtain ⟨rfl, b1, b2, _⟩ := back ρ' H' fs h1 h2
    exact p wd.ρ H' dd gs b1 b2 (h3.back fun a h => .inl (sS2 a h)) (h4.trim sS2 (hbF_mono (Nat.zero_le _) q2))
  | bad => rw [r] at p; exact p.elim
end
end AM
namespace PySem.W
open PySem PySem.Calls PyProof.Rows Builtin
section
variable {prog : Program} {w : World} {A : Around} {E : Value → Shared → Prop} {s : Shared} {K : Frag} {x C f : Addr} {ox : Obj} {od : Option Obj} {b tb : Value}
end
end PySem.W
namespace AM
open PySem PySem.Spec PyProof.Rows L2
structure KnS (P : Program) (w : World) (K : PySem.W.Frag) (mg : Str → Option Value) (base : Heap) (Γ : Nat → Addr) (k : Nat) (c : Nat) (m : Str) (F : DF) : Prop where
  ex : ∃ g, PySem.W.findIn K (.ref (Γ c)) m = some (some (.ref g)) ∧ PySem.W.isFn K (.ref g) = true ∧ FnV P w K mg base k g (spD ⟨K, Γ⟩ F)
theorem isI_den {c : Nat} {K : Ct} {w : Wd} {H : Hp} {v : V} {d : D} {st : Sto} (h : DenB K w.ρ w.S H v d) (e : isI c d st = true) : Den K w.ρ w.S H v d := by
  cases d with
  | ins c' fs => exact h
  | hd n => exact h
  | _ => cases e
def strR (r : Res D) : Res D := match r with
  | .ok (.str b) st => .ok (.str b) st
  | _ => .bad
def lenR (r : Res D) : Res D := match r with
  | .ok (.int n) st => if 0 ≤ n ∧ n < 2 ^ 63 then .ok (.int n) st else .bad
  | _ => .bad
section
variable {X : Cx} {Γ : Nat → Addr} {W : WX} {e o a b : Expr} {es : List Expr} {f fo fa fb : EF} {fs : EFs} {F : DF} {pos p apos : Pos} {j k c : Nat} {x m : Str} {ks : List Str}
theorem Post.strR {K : Ct} {w : Wd} {H : Hp} {σ : St} {Q : VK} {r : Res D} (h : Post Den K W w H σ (AM.strR r) Q) : Post Den K (fun _ _ _ _ => False) w H σ r fun v H' => ∃ b, v = .str b ∧ Q (.str b) H' := by
  cases r with
  | ok d st =>
    cases d with
    | str b =>
      intro ρ' H' v h1 h2 h3
      cases h3
      exact ⟨b, rfl, h ρ' H' _ h1 h2 (.str b)⟩
    | _ => exact h.elim
  | exc e st => exact h.elim
  | bad => exact h.elim
theorem Post.lenR {K : Ct} {w : Wd} {H : Hp} {σ : St} {Q : VK} {r : Res D} (h : Post Den K W w H σ (AM.lenR r) Q) : Post Den K (fun _ _ _ _ => False) w H σ r fun v H' => ∃ n, v = .int n ∧ (0 ≤ n ∧ n < 2 ^ 63) ∧ Q (.int n) H' := by
  cases r with
  | ok d st =>
    cases d with
    | int b =>
      have h : Post Den K W w H σ (if 0 ≤ b ∧ b < 2 ^ 63 then .ok (.int b) st else .bad) Q := h
      split at h
      · rename_i hz
        intro ρ' H' v h1 h2 h3
        cases h3
        exact ⟨b, rfl, hz, h ρ' H' _ h1 h2 (.int b)⟩
      · exact h.elim
    | _ => exact h.elim
  | exc e st => exact h.elim
  | bad => exact h.elim
theorem run_no {A : Around} {E' : Value → Shared → Prop} {g : Addr} {pins : List (Addr × Obj)} {s : Shared} {σ σ' : St} {H : Hp} {wd : Wd} {env : AEnv} {st : Sto} {us : List Value} {vs : List V} {ds : List D} {Q : VK} (g1 : FnV X.prog X.w X.K X.mg X.base j g (spD (XC X Γ) F)) (hr : Room j A) (hg : A.guards = some []) (hf : A.frames = X.A.frames)
    (I : Inv X pins σ H s) (rv : Vals vs us) (rl : Rel (XC X Γ) wd env st σ' H) (d : Dens (XC X Γ) wd.ρ wd.S H vs ds) (p : Post Den (XC X Γ) (fun _ _ _ _ => False) wd H σ' (F ds st) Q) : wpAny (model X.prog X.w) A (call (.ref g) us) (EP X pins σ Q) E' s := by
  have e0 : Env0 X.prog X.w X.K X.mg X.base A X.stack s H := by
    have e := I.env0
    exact ⟨by rw [hf]; exact e.frames, e.mod, e.bs, e.bsz, e.funs, e.frf, e.hok, e.bare⟩
  have sp : spD (XC X Γ) F vs H Q (fun _ _ _ => False) := sp_of (W := fun _ _ _ _ => False) rl d p
  refine wpAny_call (codeAny_mono (g1 A X.stack s H us vs Q (fun _ _ _ => False) hr hg e0 rv sp) fun r s' hq => ?_)
  cases r with
  | error er =>
    obtain ⟨_, _, _, _, _, _, _, _, _, _, _, _, z⟩ := hq
    exact z.elim
  | ok fl =>
    cases fl with
    | ret u => exact I.after hq
    | next => exact hq.elim
    | brk => exact hq.elim
    | cont => exact hq.elim
theorem insAt {pins : List (Addr × Obj)} {s : Shared} {σ : St} {H : Hp} {q C dx : Addr} {gs : List (Str × V)} (I : Inv X pins σ H s) (h : H q = some (.ins C dx gs)) : ∃ ox od, PySem.W.InstAt s.heap q ox C od := by
  obtain ⟨mA, O, _⟩ := ins_get I.hok h
  obtain ⟨od, J, _⟩ := O.look
  exact ⟨_, _, J⟩
def dOwn2 (c : Nat) (F : DF) (fa fb : EF) : EF := fun env st => (fa env st).bind fun a st1 => (fb env st1).bind fun b st2 => if (isI c a st2 && isI c b st2) = true then F [a, b] st2 else .bad
def gTruC (c : Nat) (F : DF) (f : EF) : TF := fun env st => (f env st).bind fun d st => if isI c d st = true then (match F [d] st with
  | .ok (.bl b) st' => .ok b st'
  | _ => .bad) else .bad
def oSp (c : Nat) (g : Res D → Res D) (F : DF) (k0 : Op1) : Op1 := fun a st => if isI c a st = true then g (F [a] st) else k0 a st
theorem cd_lenC {k0 : Op1} (G : Go X W k) (S : KnS X.prog X.w X.K X.mg X.base Γ j c "__len__" F) (h0 : CallR X (.builtin "len") (rC1 (XC X Γ) W k0)) (hj : j + 1 ≤ k := by decide) : CallR X (.builtin "len") (rC1 (XC X Γ) W (oSp c lenR F k0)) := by
  obtain ⟨g, hs, hf, g1⟩ := S.ex
  intro pins s σ H xs us Q I rv ⟨w, env, st, σ', x, a, e, r, d, p⟩
  unfold oSp at p
  split at p
  · rename_i ia
    obtain ⟨qa, dxa, ga, ea, ha⟩ := isI_get r (isI_den d ia) ia
    subst e ea
    obtain ⟨u, eu, ru⟩ := vals1 rv
    subst eu
    cases ru
    obtain ⟨oxa, oda, Ja⟩ := insAt I ha
    obtain ⟨mm, fr⟩ := I.fr
    have rm1 : Room j X.A.in1 := (G.rm.mono hj).in1
    refine PySem.W.len_K fr I.ok.mod.kin Ja hs hf ?_
    refine wpAny_mono (run_no g1 rm1 G.gd rfl I (us := [.ref qa]) (vs := [.ref qa]) (.cons rfl .nil) r (.cons (isI_den d ia) .nil) p.lenR) (fun z s' hz => ?_) fun _ _ z => z
    obtain ⟨v, H', I', rv, bb, ev, hb, q⟩ := hz
    subst ev
    obtain ⟨t, rfl⟩ := rv
    exact ⟨hb, .int bb, H', I'.tok _, ⟨_, rfl⟩, q⟩
  · exact h0 pins s σ H xs us Q I rv ⟨w, env, st, σ', x, a, e, r, d, p⟩
theorem cd_strC {k0 : Op1} (G : Go X W k) (S : KnS X.prog X.w X.K X.mg X.base Γ j c "__str__" F) (h0 : CallR X (.type "str") (rC1 (XC X Γ) W k0)) (hj : j + 2 ≤ k := by decide) : CallR X (.type "str") (rC1 (XC X Γ) W (oSp c strR F k0)) := by
  obtain ⟨g, hs, hf, g1⟩ := S.ex
  intro pins s σ H xs us Q I rv ⟨w, env, st, σ', x, a, e, r, d, p⟩
  unfold oSp at p
  split at p
  · rename_i ia
    obtain ⟨qa, dxa, ga, ea, ha⟩ := isI_get r (isI_den d ia) ia
    subst e ea
    obtain ⟨u, eu, ru⟩ := vals1 rv
    subst eu
    cases ru
    obtain ⟨oxa, oda, Ja⟩ := insAt I ha
    have rm1 : Room j X.A.in1.in1 := Room.in1 (Room.in1 (G.rm.mono hj))
    refine PySem.W.kso_call rm1.units0 I.kIn Ja hs hf ?_
    refine wpAny_mono (run_no g1 rm1 G.gd rfl I (us := [.ref qa]) (vs := [.ref qa]) (.cons rfl .nil) r (.cons (isI_den d ia) .nil) p.strR) (fun z s' hz => ?_) fun _ _ z => z
    obtain ⟨v, H', I', rv, bb, ev, q⟩ := hz
    subst ev
    obtain ⟨t, rfl⟩ := rv
    exact ⟨.str bb, H', I', ⟨_, rfl⟩, q⟩
  · exact h0 pins s σ H xs us Q I rv ⟨w, env, st, σ', x, a, e, r, d, p⟩
structure ClsI (K : PySem.W.Frag) (C : Addr) : Prop where
  cl : Cls K C
  ha : PySem.W.findIn K (.ref C) "__class__" = some (some (.builtin "object.__class__"))
  hn : PySem.W.specialIn K (.builtin "object.__class__") "__get__" = some (some (.builtin "getset_descriptor.__get__"))
  htk : PySem.W.takesIn K (.builtin "object.__class__") = some true
  hm : PySem.W.mroIn K C (.type "object") = some true
def tyK (d : D) (st : Sto) : Option (String ⊕ Nat) := match d with
  | .non => some (.inl "NoneType")
  | .bl _ => some (.inl "bool")
  | .int _ => some (.inl "int")
  | .str _ => some (.inl "str")
  | .tup _ => some (.inl "tuple")
  | .lst _ => some (.inl "list")
  | .fz _ => some (.inl "list")
  | .dic _ => some (.inl "dict")
  | .ins c _ => some (.inr c)
  | .hd n => (match st[n]? with
    | some (.lst _) => some (.inl "list")
    | some (.obj c _) => some (.inr c)
    | some (.tab _ _) => none
    | none => none)
  | _ => none
def IsT (K : PySem.W.Frag) (Γ : Nat → Addr) (u : Value) (tb : List ((String ⊕ Nat) × Bool)) : Prop := ∀ p ∈ tb, match p.1 with
  | .inl n => PySem.W.kitOne K (.type n) u = some p.2
  | .inr c => ClsI K (Γ c) ∧ PySem.W.kitOne K (.ref (Γ c)) u = some p.2
def tyLk (tb : List ((String ⊕ Nat) × Bool)) (t : String ⊕ Nat) : Option Bool := (tb.find? fun p => decide (p.1 = t)).map (·.2)
def oIsi (tb : List ((String ⊕ Nat) × Bool)) : Op1 := fun a st => match (tyK a st).bind (tyLk tb) with
  | some b => .ok (.bl b) st
  | none => .bad
theorem ty_of {K : Ct} {w : Wd} {env : AEnv} {st : Sto} {σ : St} {H : Hp} {v : V} {d : D} {u : Value} {b : Bool} {tb : List ((String ⊕ Nat) × Bool)} (rl : Rel K w env st σ H) (h : DenB K w.ρ w.S H v d) (T : IsT K.K K.Γ u tb) (e : ((tyK d st).bind (tyLk tb)) = some b) :
    ∃ t, TyX K.K H v t ∧ PySem.W.kitOne K.K t u = some b := by
  cases q : tyK d st with
  | none => rw [q] at e; cases e
  | some t =>
    rw [q] at e
    have hm : (match t with
      | .inl n => PySem.W.kitOne K.K (.type n) u = some b
      | .inr c => ClsI K.K (K.Γ c) ∧ PySem.W.kitOne K.K (.ref (K.Γ c)) u = some b) := by
      have e : tyLk tb t = some b := e
      unfold tyLk at e
      cases z : tb.find? fun p => decide (p.1 = t) with
      | none => rw [z] at e; cases e
      | some p =>
        rw [z] at e
        have h1 := T p (List.mem_of_find?_eq_some z)
        have h2 : p.1 = t := of_decide_eq_true (by simpa using List.find?_some z)
        obtain ⟨p1, p2⟩ := p
        have h2 : p1 = t := h2
        have h3 : p2 = b := Option.some.inj e
        subst h2 h3
        cases p1 <;> exact h1
    have cls : ∀ {c : Nat} {a dx : Addr} {gs : List (Str × V)}, t = .inr c → v = .ref a → H a = some (.ins (K.Γ c) dx gs) → ∃ t, TyX K.K H v t ∧ PySem.W.kitOne K.K t u = some b := fun {c a dx gs} et ev ha => by
      subst et ev
      exact ⟨_, .base (.ins ha hm.1.cl hm.1.ha hm.1.hn hm.1.htk hm.1.hm), hm.2⟩
    have bas : ∀ {n : String} {t' : Value}, t = .inl n → t' = .type n → TyX K.K H v t' → ∃ t, TyX K.K H v t ∧ PySem.W.kitOne K.K t u = some b := fun {n t'} et e2 ty => by
      subst et e2
      exact ⟨_, ty, hm⟩
    cases d with
    | non => rw [h.non]; exact bas (Option.some.inj q).symm rfl (by rw [h.non]; exact .base .non) |> fun z => by rw [h.non] at z; exact z
    | bl i => exact bas (Option.some.inj q).symm rfl (by rw [h.bl]; exact .base (.bl i))
    | int i => exact bas (Option.some.inj q).symm rfl (by rw [h.int]; exact .base (.int i))
    | str i => exact bas (Option.some.inj q).symm rfl (by rw [h.str]; exact .base (.str i))
    | tup ds =>
      obtain ⟨a, vs, ev, hq, _⟩ := h.tup
      refine bas (Option.some.inj q).symm rfl ?_
      rw [ev]
      rcases hq with (hq | ⟨o, hq⟩) | hq
      · exact .base (.tup hq)
      · exact .fTuple hq
      · obtain ⟨o, _, _, e1, e2, _⟩ := hq
        exact .kTuple e1 e2
    | lst ds =>
      obtain ⟨a, vs, ev, hq, _, _⟩ := h.lst
      exact bas (Option.some.inj q).symm rfl (by rw [ev]; exact .base (.lst hq))
    | fz ds =>
      obtain ⟨a, vs, ev, hq, _⟩ := h.fz
      refine bas (Option.some.inj q).symm rfl ?_
      rw [ev]
      rcases hq with ⟨o, e, _⟩ | (e | ⟨o, e⟩) | ⟨o, _, _, e1, e2, _⟩
      · exact .base (.frz e)
      · cases e
      · cases e
      · exact .kList e1 e2
    | dic rr =>
      obtain ⟨a, kvs, ev, hq, _, _⟩ := h.dic
      exact bas (Option.some.inj q).symm rfl (by rw [ev]; exact .base (.dK hq))
    | ins c fs =>
      obtain ⟨a, dx, gs, ev, ha, _, _⟩ := h.ins
      exact cls (Option.some.inj q).symm ev ha
    | hd n =>
      obtain ⟨a, ev, hn⟩ := h.hd
      have q : (match st[n]? with
        | some (.lst _) => some (.inl "list")
        | some (.obj c _) => some (.inr c)
        | some (.tab _ _) => none
        | none => none) = some t := q
      split at q
      · rename_i ds es
        obtain ⟨vs, hq, _⟩ := rl.cellL hn es
        exact bas (Option.some.inj q).symm rfl (by rw [ev]; exact .base (.lst hq))
      · rename_i c fs es
        obtain ⟨dx, gs, hq, _⟩ := rl.cellO hn es
        exact cls (Option.some.inj q).symm ev hq
      · cases q
      · cases q
    | _ => cases q
theorem pd_isi {tb : List ((String ⊕ Nat) × Bool)} {v : V} {u : Value} (T : IsT X.K Γ u tb) (hc : ClsV v u) (he : PE X e (tDB (XC X Γ) W f)) (hb : PE X b (tC v)) (hm : X.mg "isinstance" = none) (hg : Gl X "isinstance" := by rfl)
    (hs : starEach (e :: [b]) X.env = (false, eval e X.env) :: starEach [b] X.env := by rfl) (hs2 : starEach (b :: []) X.env = (false, eval b X.env) :: starEach [] X.env := by rfl) (hpl : (backTo pos (starEach [b] X.env)).any (·.1) = false := by rfl) :
    PE X (.Call (.Name "isinstance" p) [e, b] [] pos) (tD (XC X Γ) W (dOp1 (oIsi tb) f)) := peImp (pe_callB call_isi hg hm (by decide +kernel) (pa_cons he (pa_cons hb pa_nil hs2) hs) (by decide) (by decide) hs hpl) fun σ H Q h => by
  obtain ⟨w, env, st, r, p⟩ := t1 (Da := DenB) (g := fun env d st => oIsi tb d st) h
  refine ⟨w, env, st, r, p.mono ?_⟩
  rintro x H1 ⟨w1, env1, st1, d, r1, d1, p1⟩
  unfold oIsi at p1
  split at p1
  · rename_i bb eb
    obtain ⟨t, ty, kk⟩ := ty_of r1 d1 T eb
    exact ⟨x, v, t, u, bb, rfl, hc, ty, kk, Post.ok r1 p1 (.bl bb)⟩
  · exact p1.elim
end
end AM
namespace PySem
open Builtin
theorem am_enum_new {v : Value} {o : Obj} {H : Heap → Prop} (B : Begins v o H) :
    Meets (Builtin.«enumerate.__new__» ⟨[.type "enumerate", v], []⟩) (fun _ R s => H s.heap ∧
      R (.ok (.ret (.ref (s.heap.push o).objs.size))) { s with heap := (s.heap.push o).push { cls := .type "enumerate", data := .fields #[.none, .bool false, .ref s.heap.objs.size, rawInt 0, .none, .none] } }) := by
  refine Meets.of_wp fun prog w A R s hh => ?_
  obtain ⟨h1, h⟩ := hh
  obtain ⟨hp, g, d, tk, os⟩ := s
  have ty1 := sub_enumerate
  have begin_ : ∀ {A' : Around} {E : Value → Shared → Prop} {Q : Value → Shared → Prop}, Q (.ref hp.objs.size) ⟨hp.push o, g, d, tk, os⟩ → wpAny (model prog w) A' (pyIter v) Q E ⟨hp, g, d, tk, os⟩ := fun q => B.iter prog w _ _ _ _ h1 q
  wp_walk using begin_
  refine wpAny_stack_any fun stk => wpAny_pure ?_
  split
  · rename_i c _ _ _ _ _
    cases hc : (c == Value.type "enumerate") with
    | true =>
      wp_walk using begin_
      exact ⟨_, rfl, h⟩
    | false =>
      wp_walk using begin_
      exact ⟨_, rfl, h⟩
  · wp_walk using begin_
    exact ⟨_, rfl, h⟩
theorem am_enum {prog : Program} {w : World} {A : Around} {E : Value → Shared → Prop} {s : Shared} {v : Value} {o : Obj} {H : Heap → Prop} {Q : Value → Shared → Prop} (B : Begins v o H) (h1 : H s.heap)
    (h : ∀ h', IsEnum h' (s.heap.objs.size + 1) s.heap.objs.size 0 .none → h'.get? s.heap.objs.size = some o → (∀ b u, s.heap.get? b = some u → h'.get? b = some u) → Q (.ref (s.heap.objs.size + 1)) { s with heap := h' }) :
    wpAny (model prog w) A (call (.type "enumerate") [v]) Q E s := by
  refine callType_new F.called_enumerate (by decide) (F.typeCall_enumerate_1 _) (F.newCall_enumerate_1 _) (fun obj => F.args_object_init_2 obj _) F.entry_enumerate_new (am_enum_new B) ⟨h1, ?_⟩
  have z1 : (s.heap.push o).objs.size = s.heap.objs.size + 1 := Heap.size_push ..
  have at1 : ((s.heap.push o).push { cls := .type "enumerate", data := .fields #[.none, .bool false, .ref s.heap.objs.size, rawInt 0, .none, .none] }).get? (s.heap.push o).objs.size = some { cls := .type "enumerate", data := .fields #[.none, .bool false, .ref s.heap.objs.size, rawInt 0, .none, .none] } := Heap.get?_push_size _ rfl
  show _ ∧ _
  rw [z1] at at1 ⊢
  exact ⟨⟨_, at1, rfl⟩, h _ at1 (Heap.get?_push_of_some _ (Heap.get?_push_size _ B.free)) fun b u x => Heap.get?_push_of_some _ (Heap.get?_push_of_some _ x)⟩
end PySem
namespace AM
open PySem PySem.Spec PyProof.Rows L2
def IteT (K : PySem.W.Frag) (a : Addr) : It :=
  ⟨fun i H => ∃ us u, SqT K H a us ∧ us[i]? = some u, fun i H v H' => ∃ q u, v = .ref q ∧ H q = none ∧ H' = upd H q (.tup [.int (i : Nat), u]) ∧ ∀ us, SqT K H a us → us[i]? = some u, fun i H => ∃ us, SqT K H a us ∧ us.length ≤ i⟩
theorem turn_enumT {P : Program} {w : World} {K : PySem.W.Frag} {elts : List Expr} {kk : Nat} {tpos : Pos} (a e it : Addr) :
    Turn P w K (.Tuple elts kk tpos) (IteT K a) [e, it] e (fun i h => (∃ o, IsEnum h e it ((i : Nat) : Int) o) ∧ h.IsTupleIter it a i ∧ e ≠ it) where
  mem := List.mem_cons_self
  obj := fun i h st b hb => by
    obtain ⟨⟨o1, he⟩, ⟨o2, h2, _, d2⟩, _⟩ := st
    rcases List.mem_cons.mp hb with z | z
    · exact ⟨_, by rw [z]; exact he, fun v q => by cases q⟩
    · exact ⟨o2, by rw [List.mem_singleton.mp z]; exact h2, fun v q => by rw [d2] at q; cases q⟩
  keep := fun i h h' st k => by
    obtain ⟨⟨o1, he⟩, hi, ne⟩ := st
    exact ⟨⟨o1, k e List.mem_cons_self _ he⟩, hi.at fun o q => k it (List.mem_cons_of_mem _ List.mem_cons_self) o q, ne⟩
  item := by
    rintro X rfl rfl rfl hcalm i pins s σ H E I hf ⟨⟨o1, he⟩, hit, ne⟩ ⟨us, u, hq, hu⟩
    obtain ⟨its, rv, tp, _⟩ := I.tuple hq
    have ez : e < s.heap.objs.size := Heap.lt_size he
    have iz : it < s.heap.objs.size := let ⟨_, q, _⟩ := hit; Heap.lt_size q
    have nai : a ≠ it := fun z => by
      obtain ⟨o, ho, hcl, _⟩ := tp
      obtain ⟨o', ho', hcl', _⟩ := hit
      rw [z, ho'] at ho
      cases ho
      exact absurd (Value.type.inj (hcl.symm.trans hcl')) (by decide)
    have nae : a ≠ e := fun z => by
      obtain ⟨o, ho, hcl, _⟩ := tp
      rw [z, he] at ho
      cases ho
      exact absurd (Value.type.inj hcl) (by decide)
    have ilt : i < its.toArray.size := by
      rw [List.size_toArray, ← rv.length]
      exact (List.getElem?_eq_some_iff.mp hu).1
    refine wpAny_pyNext_enum_itemD (Draws.tuple (A := X.A.in1) (I.ok.hd hcalm) it a nai its.toArray) he ⟨hit, tp⟩ ilt ne (by simp [ne, Ne.symm nae]) fun y h' tk hy ho st' hT hz hk => ?_
    obtain ⟨y', hy', ry⟩ := rv.get hu
    have ey : y = y' := by
      have h1 : its.toArray[i]? = some y := hy
      rw [List.getElem?_toArray, hy'] at h1
      exact (Option.some.inj h1).symm
    subst ey
    refine ⟨_, rfl, wpAny_letOwnedTupleGo_enum (s := { s with heap := h', toks := tk + 1 }) ho fun h2 he2 sb => ?_⟩
    have keep2 : ∀ b, b ≠ e → h2.get? b = h'.get? b := fun b hb => sb.2 b hb
    have obj : ObjOk X.prog X.w (upd H s.heap.objs.size (.tup [.int (i : Nat), u])) h2 s.heap.objs.size (.tup [.int (i : Nat), u]) :=
      ⟨by show 2 ≤ sizeLine; decide, [.int i tk, y], .cons ⟨_, rfl⟩ (.cons ry .nil), ⟨_, (keep2 _ (Nat.ne_of_gt ez)).trans hT, rfl, _, rfl⟩⟩
    have J := I.turnedNew (t' := tk + 1) (ch := [e, it]) (h' := h2) (T := s.heap.objs.size) (ob := .tup [.int (i : Nat), u]) (fun b o hb q => by
      have n1 : b ≠ e := fun z => hb (by rw [z]; exact List.mem_cons_self)
      have n2 : b ≠ it := fun z => hb (by rw [z]; exact List.mem_cons_of_mem _ List.mem_cons_self)
      exact (keep2 b n1).trans (hk b o n1 n2 q)) hf (Nat.le_refl _) obj
    refine ⟨.ref s.heap.objs.size, _, J, rfl, ⟨_, u, rfl, I.hok.fresh (Nat.le_refl _), rfl, fun ws hw => by rw [I.tuple_inj hw hq]; exact hu⟩, ⟨⟨y, ?_⟩, st'.1.at fun o q => (keep2 it (Ne.symm ne)).trans q, ne⟩, fun b hb => ?_⟩
    · rw [show ((i + 1 : Nat) : Int) = (i : Int) + 1 by omega]
      exact he2
    · have bz : b < s.heap.objs.size := by
        rcases List.mem_cons.mp hb with z | z
        · rw [z]; exact ez
        · rw [List.mem_singleton.mp z]; exact iz
      rw [upd_ne (Nat.ne_of_lt bz)]
      exact (hf b hb).1
  done := by
    rintro X rfl rfl rfl hcalm i pins s σ H E I hf ⟨⟨o1, he⟩, hit, ne⟩ ⟨us, hq, hle⟩
    obtain ⟨its, rv, tp, _⟩ := I.tuple hq
    obtain ⟨f0, f1, f2, f3, f4, f5⟩ := hf it (List.mem_cons_of_mem _ List.mem_cons_self)
    have nai : a ≠ it := fun z => by
      obtain ⟨o, ho, hcl, _⟩ := tp
      obtain ⟨o', ho', hcl', _⟩ := hit
      rw [z, ho'] at ho
      cases ho
      exact absurd (Value.type.inj (hcl.symm.trans hcl')) (by decide)
    have hT : s.TypeIs (.ref e) "enumerate" := ⟨_, he, rfl⟩
    have hx : its.toArray[i]? = none := by
      rw [List.getElem?_toArray]
      exact List.getElem?_eq_none (by rw [← rv.length]; exact hle)
    have D : Draws X.prog X.w X.A.in1 it [it, a] i (fun _ _ => False) (fun j h => j = i ∧ h.IsTupleIter it a i ∧ h.IsTuple a its.toArray) := {
      live := fun _ _ st => let ⟨o, ho, _⟩ := st.2.1; ⟨o, ho⟩
      frame := fun _ _ _ st k => ⟨st.1, st.2.1.at fun o z => k it (by simp) o z, st.2.2.at fun o z => k a (by simp) o z⟩
      item := fun j s Q E hj st _ => absurd st.1 (Nat.ne_of_lt hj)
      done := fun s Q E st hE => wpAny_nextOf_tuple_end (I.ok.hd hcalm) st.2.1 st.2.2 hx hE }
    exact wpAny_pyNext_enum_endD D he ⟨rfl, hit, tp⟩ fun h' eb => ⟨rfl, I.turned (t' := s.toks) (fun b o hb q => eb b o hb q) f0 f1 f3 f4 f5⟩
  self := fun A i s Q E st h => let ⟨⟨_, he⟩, _⟩ := st; wpAny_pyIter_enum he h
def iEnumT (K : PySem.W.Frag) (t : TA) : TI := fun σ H R => t σ H fun vs H1 => ∃ a us, vs = [.ref a] ∧ SqT K H1 a us ∧ R (IteT K a) H1
section
variable {X : Cx} {Γ : Nat → Addr} {W : WX} {e tg : Expr} {t : TA} {f : EF} {pos p tpos : Pos} {elts : List Expr} {kk : Nat}
theorem pi_enumT (hm : X.mg "enumerate" = none) (ha : PA X [e] t) (hg : Gl X "enumerate" := by rfl) (hs : starEach [e] X.env = [(false, eval e X.env)] := by rfl) :
    PI X (.Tuple elts kk tpos) (.Call (.Name "enumerate" p) [e] [] pos) (iEnumT X.K t) := by
  refine ⟨fun pins s σ H R I h => ?_⟩
  refine Call_ (ld_blt I hg hm boot_enumerate (PyProof.Rows.callWith_type1 (thn (ha.run pos pins s σ H _ I h) fun ws s1 ⟨vs, H1, I1, r1, a, us, ev, hq, q⟩ => ?_) hs rfl))
  · subst ev
    cases r1 with
    | cons r rr =>
      cases rr
      cases r
      obtain ⟨its, rv, tp, _⟩ := I1.tuple hq
      refine am_enum (begins_tuple a its.toArray) tp fun h' he hit hk => wpAny_pyIter_enum he ?_
      have J : Inv X pins σ H1 { s1 with heap := h' } := I1.kept (t' := s1.toks) hk
      refine ⟨s1.heap.objs.size + 1, [s1.heap.objs.size + 1, s1.heap.objs.size], _, _, H1, rfl, J, turn_enumT a (s1.heap.objs.size + 1) s1.heap.objs.size, ⟨⟨.none, he⟩, ⟨_, hit, rfl, rfl⟩, Nat.succ_ne_self _⟩, fun b hb => ?_, q⟩
      have hle : s1.heap.objs.size ≤ b := by
        rcases List.mem_cons.mp hb with z | z
        · rw [z]; exact Nat.le_succ _
        · rw [List.mem_singleton.mp z]; exact Nat.le_refl _
      exact I1.fpOk hle (I1.hok.fresh hle)
end
def enm (ds : List D) : List D := ds.zipIdx.map fun p => .tup [.int (p.2 : Nat), p.1]
theorem enm_len (ds : List D) : (enm ds).length = ds.length := by unfold enm; rw [List.length_map, List.length_zipIdx]
theorem enm_get {ds : List D} {i : Nat} {d : D} (h : ds[i]? = some d) : (enm ds)[i]? = some (.tup [.int (i : Nat), d]) := by
  unfold enm
  rw [List.getElem?_map, List.getElem?_zipIdx, h]
  simp
section
variable {K : Ct} {w : Wd} {H : Hp} {a : Addr} {vs : List V} {ds : List D}
theorem new_pair {w' : Wd} {env : AEnv} {st : Sto} {σ : St} {H' : Hp} {i : Nat} {q : Addr} {u : V} {d : D} (r : Rel K w' env st σ H') (hq : H' q = none) (h : Den K w'.ρ w'.S H' u d) :
    Den K w'.ρ w'.S (upd H' q (.tup [.int (i : Nat), u])) (.ref q) (.tup [.int (i : Nat), d]) ∧ Rel K w' env st σ (upd H' q (.tup [.int (i : Nat), u])) ∧ Ext K w'.ρ H' w'.ρ (upd H' q (.tup [.int (i : Nat), u])) :=
  ⟨.tup (.inl (.inl upd_same)) (.cons (.int _) (.cons (h.new r hq) .nil)), r.new hq, Ext.new hq⟩
theorem iter_enumT (h : SqT K.K H a vs) (t : Dens K w.ρ w.S H vs ds) : Iter K w H (IteT K.K a) (enm ds) := by
  refine ⟨fun w' H' i x hi => ?_, fun w' H' x => ⟨vs, x.tups _ _ h, by rw [enm_len, t.length]; exact Nat.le_refl _⟩, fun w' env st σ H' i y H2 r x hi q => ?_⟩
  · have hv : i < vs.length := by rw [t.length, ← enm_len]; exact hi
    exact ⟨vs, vs[i], x.tups _ _ h, List.getElem?_eq_getElem hv⟩
  · obtain ⟨q, u, rfl, hq, rfl, hu⟩ := q
    obtain ⟨d, e1, e2⟩ := (t.monoS x).getV (hu vs (x.tups _ _ h))
    obtain ⟨a1, a2, a3⟩ := new_pair (i := i) r hq e2
    exact ⟨_, enm_get e1, a1, a2, a3⟩
theorem iter_enumL (k : ∀ w' H', ExtS K w H w' H' → SqL K.K H' a vs) (t : Dens K w.ρ w.S H vs ds) : Iter K w H (Ite K.K a) (enm ds) := by
  refine ⟨fun w' H' i x hi => ?_, fun w' H' x => ⟨vs, k w' H' x, by rw [enm_len, t.length]; exact Nat.le_refl _⟩, fun w' env st σ H' i y H2 r x hi q => ?_⟩
  · have hv : i < vs.length := by rw [t.length, ← enm_len]; exact hi
    exact ⟨vs, vs[i], k w' H' x, List.getElem?_eq_getElem hv⟩
  · obtain ⟨q, u, rfl, hq, rfl, hu⟩ := q
    obtain ⟨d, e1, e2⟩ := (t.monoS x).getV (hu vs (k w' H' x))
    obtain ⟨a1, a2, a3⟩ := new_pair (i := i) r hq e2
    exact ⟨_, enm_get e1, a1, a2, a3⟩
end
section
variable {X : Cx} {Γ : Nat → Addr} {W : WX} {e tg : Expr} {t : TA} {f : EF} {pos p tpos : Pos} {elts : List Expr} {kk : Nat}
def iEnm (f : EF) : IF := fun env st => (f env st).bind fun d st => match d with
  | .tup ds => .ok (enm ds) st
  | .lst ds => .ok (enm ds) st
  | _ => .bad
theorem pid_enum (hm : X.mg "enumerate" = none) (he : PE X e (tD (XC X Γ) W f)) (hg : Gl X "enumerate" := by rfl) (hst : starEach (e :: []) X.env = (false, eval e X.env) :: starEach [] X.env := by rfl) (hs : starEach [e] X.env = [(false, eval e X.env)] := by rfl) :
    PI X (.Tuple elts kk tpos) (.Call (.Name "enumerate" p) [e] [] pos) (tI (XC X Γ) W (iEnm f)) := by
  refine ⟨fun pins s σ H R I hh => ?_⟩
  obtain ⟨w, env, st, r, p⟩ := hh
  unfold iEnm at p
  have ha := pa_cons he pa_nil hst
  cases q : f env st with
  | ok d st1 =>
    rw [q] at p
    cases d with
    | tup ds =>
      refine (pi_enumT hm ha hg hs).run pins s σ H R I ⟨w, env, st, r, ?_⟩
      rw [q]
      intro ρ' H' x h1 h2 h3
      obtain ⟨a, vs, e1, hq, t⟩ := DenB.tup (w := w.at_ ρ') h3.b
      exact ⟨a, vs, by rw [e1], hq, p ρ' H' _ h1 h2 (iter_enumT hq t)⟩
    | lst ds =>
      refine (pi_enum hg hm ha hs).run pins s σ H R I ⟨w, env, st, r, ?_⟩
      rw [q]
      intro ρ' H' x h1 h2 h3
      cases h3 with
      | @lst a vs _ hq n t =>
        exact ⟨a, vs, rfl, SqL.of hq, p ρ' H' _ h1 h2 (iter_enumL (fun w' H2 x => SqL.of (x.keep a _ hq (fun z => n (.inl z)) fun z => n (.inr (.inr z))).1) t)⟩
    | _ => exact p.elim
  | exc x st1 =>
    rw [q] at p
    refine (pi_enumT hm ha hg hs).run pins s σ H R I ⟨w, env, st, r, ?_⟩
    rw [q]
    exact p
  | bad => rw [q] at p; exact p.elim
end
end AM
namespace AM
open PySem PySem.Spec PyProof.Rows L2
section
variable {X : Cx} {Γ : Nat → Addr} {W : WX} {e o a b : Expr} {es : List Expr} {f fo fa fb fe ff : EF} {fs : EFs} {F : DF} {pos p apos cpos : Pos} {j k : Nat} {x m : Str} {ks : List Str}
theorem imV_den {d : D} {v : V} (h : imV d = some v) (K : Ct) (ρ : List Addr) (S : Addr → Prop) (H : Hp) : Den K ρ S H v d := by
  cases d with
  | non => cases h; exact .non
  | bl b => cases h; exact .bl b
  | int b => cases h; exact .int b
  | str b => cases h; exact .str b
  | _ => cases h
def keyD : D → Option Key
  | .int i => some (.inl i)
  | .str s => some (.inr s)
  | _ => none
inductive PDC (X : Cx) (pos : Pos) : List (Option Expr) → List Expr → List (Key × D) → List (TE × TE) → List (Key × V) → Prop where
  | nil : PDC X pos [] [] [] [] []
  | cons {k v : Expr} {ks : List (Option Expr)} {vs : List Expr} {r : List (Key × D)} {trs : List (TE × TE)} {kvs : List (Key × V)} {kk : Key} {d : D} {u : V} (hk : PE X k (tC (kV kk))) (hv : PE X v (tC u)) (hd : imV d = some u) (hr : PDC X pos ks vs r trs kvs) :
      PDC X pos (some k :: ks) (v :: vs) ((kk, d) :: r) ((tC (kV kk), tC u) :: trs) ((kk, u) :: kvs)
theorem PDC.pps {pos : Pos} {ks : List (Option Expr)} {vs : List Expr} {r : List (Key × D)} {trs : List (TE × TE)} {kvs : List (Key × V)} (h : PDC X pos ks vs r trs kvs) : PPs X pos ks vs trs := by
  induction h with
  | nil => exact pps_nil
  | cons hk hv hd hr ih => exact pps_cons hk hv ih
theorem PDC.pairs {pos : Pos} {ks : List (Option Expr)} {vs : List Expr} {r : List (Key × D)} {trs : List (TE × TE)} {kvs : List (Key × V)} (h : PDC X pos ks vs r trs kvs) : ∀ (σ : St) (H : Hp) (Q : List (V × V) → Hp → Prop), Q (kvs.map fun kv => (kV kv.1, kv.2)) H → tPairs trs σ H Q := by
  induction h with
  | nil => exact fun σ H Q q => q
  | cons hk hv hd hr ih => exact fun σ H Q q => ih σ H _ q
def valD (r : List (Key × D)) (k : Key) : Option D := (r.find? fun kv => decide (kv.1 = k)).map (·.2)
theorem PDC.val {pos : Pos} {ks : List (Option Expr)} {vs : List Expr} {r : List (Key × D)} {trs : List (TE × TE)} {kvs : List (Key × V)} (h : PDC X pos ks vs r trs kvs) (key : Key) :
    (valV kvs key = none ∧ valD r key = none) ∨ ∃ u d, valV kvs key = some u ∧ valD r key = some d ∧ imV d = some u := by
  induction h with
  | nil => exact .inl ⟨rfl, rfl⟩
  | @cons k v ks vs r trs kvs kk d u hk hv hd hr ih =>
    by_cases e : kk = key
    · exact .inr ⟨u, d, valV_pos (p := (kk, u)) e, by simp [valD, List.find?_cons, e], hd⟩
    · have e1 : valV ((kk, u) :: kvs) key = valV kvs key := valV_neg (p := (kk, u)) e
      have e2 : valD ((kk, d) :: r) key = valD r key := by simp [valD, List.find?_cons, e]
      rw [e1, e2]
      exact ih
def dDget (r : List (Key × D)) (fe ff : EF) : EF := fun env st => (fe env st).bind fun d st1 => (ff env st1).bind fun z st2 => match keyD d with
  | some k => .ok ((valD r k).getD z) st2
  | none => .bad
theorem pd_dget {keys : List (Option Expr)} {vals : List Expr} {r : List (Key × D)} {trs : List (TE × TE)} {kvs : List (Key × V)} (G : Go X W k) (h : PDC X p keys vals r trs kvs) (he : PE X a (tD (XC X Γ) W fe)) (hf : PE X b (tD (XC X Γ) W ff)) (hm : mergeK [] kvs = kvs := by rfl) (hz : kvs.length ≤ 15 := by decide)
    (hall : keys.all (·.isSome) = true := by rfl) (hl : keys.length = vals.length := by rfl) (h0 : keys ≠ [] := by intro z; cases z) (h15 : keys.length ≤ 15 := by decide)
    (m1 : attributeBase (.Dict keys vals p) "get" X.env (eval (.Dict keys vals p) X.env) = eval (.Dict keys vals p) X.env := by rfl) (m2 : ((backTo cpos (starEach [a, b] X.env)).all (fun x => !x.1) && (backToKw cpos (keywordEach [] X.env)).all (fun x => x.1.isSome)
    && decide (([a, b] : List Expr).length + ([] : List Keyword).length + (if ([] : List Keyword).isEmpty then 0 else 1) < 30)) = true := by rfl) (m3 : (apos.endLine == cpos.line) = true := by rfl) (m4 : backTo cpos (starEach [a, b] X.env) = [(false, eval a X.env), (false, eval b X.env)] := by rfl) :
    PE X (.Call (.Attribute (.Dict keys vals p) "get" apos) [a, b] [] cpos) (tD (XC X Γ) W (dDget r fe ff)) := by
  have hu : X.A.units + 1 < cLine := by have := G.rm.units; omega
  refine peImp (pe_dget2 hu (pe_disp h.pps hall hl h0 h15) he hf ⟨m1, m2, m3, m4⟩) fun σ H Q hq => ?_
  intro q hn
  refine h.pairs σ _ _ ⟨upd_same, kvs, rfl, hz, q, rfl, .inl ⟨_, .inl (by rw [upd_upd]; exact upd_same)⟩, ?_⟩
  rw [upd_upd, hm]
  obtain ⟨w, env, st, rl, pp⟩ := hq
  have r1 := rl.new (o := .dK kvs) hn
  have p1 : Post Den (XC X Γ) W w (upd H q (.dK kvs)) σ (dDget r fe ff env st) Q := Post.back (Dg := Den) (Ext.new hn) pp
  have nq : q ∉ w.ρ := fun z => rl.fresh hn (.inl z)
  refine ⟨w, env, st, r1, (Post.bind (Da := Den) r1 p1).mono ?_⟩
  rintro y H2 ⟨w2, st2, d, r2, ⟨ρ2, e2⟩, x2, dy, p2⟩
  refine ⟨w2, env, st2, r2, (Post.bind (Da := Den) r2 p2).mono ?_⟩
  rintro z H3 ⟨w3, st3, c, r3, e3, x3, dz, p3⟩
  have hq2 := x2.keep q _ upd_same nq
  have hq3 := x3.keep q _ hq2.1 hq2.2
  have dy3 := lastsD r2 e3 x3 dy
  have fin : ∀ {key : Key}, keyD d = some key → y = kV key → ∃ oo, DGet H3 q y oo ∧ Q (oo.getD z) H3 := fun {key} ek ey => by
    have p4 : Post Den (XC X Γ) W w3 H3 σ (match keyD d with
      | some k => .ok ((valD r k).getD c) st3
      | none => .bad) Q := p3
    rw [ek] at p4
    refine ⟨valV kvs key, by rw [ey]; exact .k hq3.1, ?_⟩
    rcases h.val key with ⟨v1, v2⟩ | ⟨u, dd, v1, v2, v3⟩
    · rw [v1]
      have p5 : Post Den (XC X Γ) W w3 H3 σ (.ok ((valD r key).getD c) st3) Q := p4
      rw [v2] at p5
      exact Post.ok r3 p5 dz
    · rw [v1]
      have p5 : Post Den (XC X Γ) W w3 H3 σ (.ok ((valD r key).getD c) st3) Q := p4
      rw [v2] at p5
      exact Post.ok r3 p5 (imV_den v3 _ _ _ _)
  cases d with
  | int i => exact fin rfl (DenB.int (w := w3) dy3.b)
  | str i => exact fin rfl (DenB.str (w := w3) dy3.b)
  | _ => exact p3.elim
def oRepr : Op1 := fun a st => match a.py with
  | some (.list xs) => if (PyData.showable (.list xs) && decide ((PyData.shown (.list xs)).length ≤ sizeLine) && decide (PyData.depth (.list xs) ≤ 60)) = true then .ok (.str (PyData.shown (.list xs))) st else .bad
  | some (.tuple xs) => if (PyData.showable (.tuple xs) && decide ((PyData.shown (.tuple xs)).length ≤ sizeLine) && decide (PyData.depth (.tuple xs) ≤ 60)) = true then .ok (.str (PyData.shown (.tuple xs))) st else .bad
  | _ => .bad
mutual
theorem Dp.noDict {K : PySem.W.Frag} {H : Hp} : ∀ {v : V} {x : PyData}, Dp K H v x → x.hasDict = false
  | _, _, .non => by simp only [PyData.hasDict]
  | _, _, .bl _ => by simp only [PyData.hasDict]
  | _, _, .int _ => by simp only [PyData.hasDict]
  | _, _, .str _ => by simp only [PyData.hasDict]
  | _, _, .lst _ t => by simp only [PyData.hasDict]; exact DpAll.noDict t
  | _, _, .tup _ t => by simp only [PyData.hasDict]; exact DpAll.noDict t
theorem DpAll.noDict {K : PySem.W.Frag} {H : Hp} : ∀ {v : List V} {x : List PyData}, DpAll K H v x → PyData.hasDictAll x = false
  | _, _, .nil => by simp only [PyData.hasDictAll]
  | _, _, .cons h t => by simp only [PyData.hasDictAll, Dp.noDict h, DpAll.noDict t, Bool.or_false]
end
structure PKD (X : Cx) (Γ : Nat → Addr) (W : WX) (kws : List Keyword) (fs : EFs) : Prop where
  run : ∀ (pos : Pos) (pins : List (Addr × Obj)) (s : Shared) (σ : St) (H : Hp) (Q : List V → Hp → Prop), Inv X pins σ H s → tDs (XC X Γ) W fs σ H Q → wpAny (model X.prog X.w) X.A (evalAll ((backToKw pos (keywordEach kws X.env)).map (·.2))) (AP X pins σ Q) X.xe s
theorem pkd_nil : PKD X Γ W [] dNil := ⟨fun pos pins s σ H Q I ⟨w, env, st, r, p⟩ => pk_nil.run pos pins s σ H Q I (Post.ok (Da := Dens) r p .nil)⟩
theorem pkd_cons {nm : Option Str} {kpos : Pos} {kws : List Keyword} (ha : PE X e (tD (XC X Γ) W f)) (hr : PKD X Γ W kws fs) : PKD X Γ W (⟨nm, e, kpos⟩ :: kws) (dCons f fs) := by
  refine ⟨fun pos pins s σ H Q I h => ?_⟩
  obtain ⟨w, env, st, rl, p⟩ := t2 (Da := Den) (Db := Dens) (g := fun env a st => fs env st) (k := fun env a b st => .ok (a :: b) st) lastsD h
  have hr' : PK X kws (tDs (XC X Γ) W fs) := ⟨hr.run⟩
  refine (pk_cons (nm := nm) (kpos := kpos) ha hr').run pos pins s σ H Q I ⟨w, env, st, rl, p.mono ?_⟩
  rintro x H1 ⟨w1, env1, st1, a, r1, d1, p1⟩
  refine ⟨w1, env1, st1, r1, p1.mono ?_⟩
  rintro y H2 ⟨w2, st2, b, r2, d2, d3, p2⟩
  exact Post.ok (Da := Dens) r2 p2 (.cons d2 d3)
end
end AM
namespace AM
open PySem PySem.Spec PyProof.Rows L2
structure KnT (P : Program) (w : World) (K : PySem.W.Frag) (mg : Str → Option Value) (base : Heap) (Γ : Nat → Addr) (k : Nat) (c : Nat) (m : Str) (ks : List Str) (F : DF) : Prop where
  gat : PySem.W.specialIn K (.ref (Γ c)) "__getattribute__" = some (some (.builtin "type.__getattribute__"))
  ty : PySem.W.typeIn K (.ref (Γ c)) = some (.type "type")
  rd : PySem.W.readsIn K (Γ c) (.type "type") = true
  ex : ∃ p g rest, PySem.W.findCls K (.ref (Γ c)) (.type "type") m = some (.get (.builtin "staticmethod.__get__") (.ref p) .none (.ref (Γ c))) ∧ PySem.W.recIn K p "staticmethod" = some (.ref g :: rest) ∧ PySem.W.keepIn K (.ref g) = true ∧ Cal P w K mg base Γ k (.ref g) ks F
section
variable {X : Cx} {Γ : Nat → Addr} {W : WX} {e o a b : Expr} {es : List Expr} {f fo fa fb fe ff : EF} {fs : EFs} {F : DF} {pos p apos cpos : Pos} {j k c : Nat} {x m : Str} {ks : List Str}
theorem pd_stat {pl : Sem Bool} (G : Go X W k) (T : KnT X.prog X.w X.K X.mg X.base Γ j c m [] F) (ho : PE X o (tC (.ref (Γ c)))) (ha : PA X (e :: es) (tDs (XC X Γ) W fs)) (hj : j ≤ k := by decide)
    (hst : starEach (e :: es) X.env = (false, eval e X.env) :: starEach es X.env := by rfl) (hpl : (backTo pos (starEach es X.env)).any (·.1) = false := by rfl)
    (ht : eval (.Call (.Attribute o m apos) (e :: es) [] pos) X.env = (eval o X.env >>= fun ov => standAt apos.atName >>= fun _ => holding [ov] (getMethod ov m pl) >>= fun fx => callWith pos fx.1 fx.2 (backTo pos (starEach (e :: es) X.env)) (backToKw pos (keywordEach [] X.env))) := by rfl) :
    PE X (.Call (.Attribute o m apos) (e :: es) [] pos) (tD (XC X Γ) W (dCall F fs)) := by
  obtain ⟨pp, g, rest, h1, h2, hk, cal⟩ := T.ex
  refine ⟨fun pins s σ H Q I h => ?_⟩
  have q0 := t1 (Da := Dens) h
  refine PySem.W.methodCall_KW (pl := pl) (thn (ho.run pins s σ H (fun v H1 => v = .ref (Γ c) ∧ H1 = H) I ⟨rfl, rfl⟩) fun u s1 ⟨v, H1, I1, rv, ev, eH⟩ => ?_) ht
  subst ev eH
  obtain rfl : u = Value.ref (Γ c) := rv
  obtain ⟨mm, fr⟩ := I1.fr
  refine PySem.W.method_cls I1.kIn T.gat (PySem.W.cls_sm fr I1.ok.mod.kin T.ty T.rd h1 h2 (handed_of (v := .ref g) rfl) ?_)
  refine PySem.W.callWith_K (first := []) (h₀ := X.base) I.ok.mod.kin hk (thn (ha.run pos pins _ σ H1 _ (I1.tok _) q0) fun us s2 ⟨vs, H2, I2, rr, w2, env2, st2, ds, r2, d2, p2⟩ => ⟨I2.kIn, ?_⟩) hst hpl
  exact cal X W rfl rfl rfl rfl rfl (G.rm.mono hj) G.gd G.tk pins s2 σ H2 w2 env2 st2 us [] vs ds Q I2 (by rw [List.append_nil]; exact rr) rfl r2 d2 p2
theorem pd_statK0 {pl : Sem Bool} {kws : List Keyword} (G : Go X W k) (T : KnT X.prog X.w X.K X.mg X.base Γ j c m ks F) (ho : PE X o (tC (.ref (Γ c)))) (hkw : PKD X Γ W kws fs) (hlen : ∀ env st ds st', fs env st = .ok ds st' → ds.length = ks.length) (hj : j ≤ k := by decide)
    (hall : (backToKw pos (keywordEach kws X.env)).all (·.1.isSome) = true := by rfl) (hks : (backToKw pos (keywordEach kws X.env)).filterMap (·.1) = ks := by rfl)
    (hpl : ((backTo pos (starEach [] X.env)).any (·.1) || (backToKw pos (keywordEach kws X.env)).any (·.1.isNone)) = false := by rfl)
    (ht : eval (.Call (.Attribute o m apos) [] kws pos) X.env = (eval o X.env >>= fun ov => standAt apos.atName >>= fun _ => holding [ov] (getMethod ov m pl) >>= fun fx => callWith pos fx.1 fx.2 (backTo pos (starEach [] X.env)) (backToKw pos (keywordEach kws X.env))) := by rfl) :
    PE X (.Call (.Attribute o m apos) [] kws pos) (tD (XC X Γ) W (dCall F fs)) := by
  obtain ⟨pp, g, rest, h1, h2, hk, cal⟩ := T.ex
  refine ⟨fun pins s σ H Q I h => ?_⟩
  refine PySem.W.methodCall_KW (pl := pl) (thn (ho.run pins s σ H (fun v H1 => v = .ref (Γ c) ∧ H1 = H) I ⟨rfl, rfl⟩) fun u s1 ⟨v, H1, I1, rv, ev, eH⟩ => ?_) ht
  subst ev eH
  obtain rfl : u = Value.ref (Γ c) := rv
  obtain ⟨mm, fr⟩ := I1.fr
  refine PySem.W.method_cls I1.kIn T.gat (PySem.W.cls_sm fr I1.ok.mod.kin T.ty T.rd h1 h2 (handed_of (v := .ref g) rfl) ?_)
  obtain ⟨w, env, st, rl, p0⟩ := h
  have q2 : tDs (XC X Γ) W fs σ H1 fun vs H2 => ∃ w st ds, Rel (XC X Γ) w env st σ H2 ∧ Dens (XC X Γ) w.ρ w.S H2 vs ds ∧ ds.length = ks.length ∧ Post Den (XC X Γ) W w H2 σ (F ds st) Q := by
    refine ⟨w, env, st, rl, ?_⟩
    have p1 : Post Den (XC X Γ) W w H1 σ ((fs env st).bind F) Q := p0
    cases z : fs env st with
    | ok ds st' =>
      rw [z] at p1
      exact fun ρ' H' x h1 h2 h3 => ⟨w.at_ ρ', st', ds, rl.ext h2 h1, h3, hlen _ _ _ _ z, Post.back (Dg := Den) h2 p1⟩
    | exc e st' => rw [z] at p1; exact p1
    | bad => rw [z] at p1; exact p1
  refine PySem.W.callWith_KW0 (first := []) (h₀ := X.base) I.ok.mod.kin hk hall (thn (hkw.run pos pins _ σ H1 _ (I1.tok _) q2) fun ws s2 ⟨vs, H2, I2, rr, w2, st2, ds, r2, d2, l2, p2⟩ => ⟨I2.kIn, ?_⟩) hpl
  rw [hks]
  exact cal X W rfl rfl rfl rfl rfl (G.rm.mono hj) G.gd G.tk pins s2 σ H2 w2 env st2 [] ws vs ds Q I2 rr (by rw [← rr.length, d2.length, l2]) r2 d2 p2
theorem pe_cls (hm : X.mg x = some (.ref (Γ c))) (hg : Gl X x := by rfl) (hd : (x == ("__debug__" : Str)) = false := by decide) : PE X (.Name x pos) (tC (.ref (Γ c))) := pe_glob hg hm rfl hd
end
end AM
namespace AM
open PySem PySem.Spec PyProof.Rows L2
theorem no_takes {X : Cx} : L2N.Takes X WN := fun u s' x => by
  obtain ⟨_, _, _, _, _, _, _, _, _, _, _, _, _, _, _, _, z⟩ := x
  exact z.elim
section
variable {X : Cx} {Γ : Nat → Addr} {W : WX} {pos : Pos} {k : Nat} {x : Str}
theorem Go.blk (G : Go X W k) (s : Shared) (H : Hp) (scope : Scope) (cenv : Env) (fp : List Addr) : Go (X.blk s H scope cenv fp) WN k := ⟨no_takes, G.rm, PassesOwn.never, G.calm, G.gd⟩
theorem pd_gint {i : Int} (h : ∃ t, X.mg x = some (.int i t)) (hg : Gl X x := by rfl) (hd : (x == ("__debug__" : Str)) = false := by decide) : PE X (.Name x pos) (tD (XC X Γ) W (dC (.int i))) := by
  obtain ⟨t, h⟩ := h
  exact pd_glob (v := .int i) h ⟨t, rfl⟩ (fun _ _ _ => .int i) hg hd
theorem pd_gstr {i : Str} (h : ∃ t, X.mg x = some (.str i t)) (hg : Gl X x := by rfl) (hd : (x == ("__debug__" : Str)) = false := by decide) : PE X (.Name x pos) (tD (XC X Γ) W (dC (.str i))) := by
  obtain ⟨t, h⟩ := h
  exact pd_glob (v := .str i) h ⟨t, rfl⟩ (fun _ _ _ => .str i) hg hd
end
end AM
namespace AM
open PySem PySem.Spec PyProof.Rows L2
structure At0 (K : PySem.W.Frag) (mg mb : Str → Option Value) (s : Shared) : Prop where
  kin : K.In s.heap
  glo : s.heap.Ns mainGlobals mg
  blt : s.heap.Ns builtinsNs mb
  mbs : ∀ x : Str, x ≠ "__name__" → mb x = bootBuiltins x
  lim : s.heap.NoLimit
  gen : s.gens = #[]
abbrev Says1 (s : Shared) (r : Result) (s' : Shared) : Prop := r = .ok (.ret (.bool true)) ∧ OldK s.heap s'.heap ∧ s'.os = s.os ∧ AllBare s'.gens
section
variable {P : Program} {w : World} {K : PySem.W.Frag} {mg mb : Str → Option Value} {Γ : Nat → Addr} {k : Nat} {fa a : Addr} {fd : FuncData} {x : Str} {F : DF} {s : Shared} {vs : List Value} {ns : List Int}
end
end AM
namespace AM
open PySem PySem.Spec PyProof.Rows L2 He
section
variable {P : Program} {w : World} {K : PySem.W.Frag} {mg : Str → Option Value} {base : Heap} {Γ : Nat → Addr} {k c : Nat} {x m f : Str} {F : DF} {ks : List Str}
theorem clsI_ok (h : (Fx.clsI x).ok K = true) : ClsI K (ga K x) := by
  obtain ⟨c1, h⟩ := ba h
  obtain ⟨c2, h⟩ := ba h
  obtain ⟨c3, h⟩ := ba h
  obtain ⟨c4, c5⟩ := ba h
  exact ⟨cls_ok c1, eqO_ok c2, eqO_ok c3, of_decide_eq_true c4, of_decide_eq_true c5⟩
theorem built_ok {id : String} (h : (Fx.built x m id).ok K = true) : PySem.W.findIn K (.ref (ga K x)) m = some (some (.builtin id)) := eqO_ok h
theorem mro_ok (h : (Fx.mro x).ok K = true) : PySem.W.mroIn K (ga K x) (.type "object") = some true := of_decide_eq_true h
theorem first_ok (h : (Fx.first x).ok K = true) : PySem.W.selfFirst K (ga K x) = true := h
theorem kit_ok {t u : Ty1} {b : Bool} (h : (Fx.kit t u b).ok K = true) : PySem.W.kitOne K (t.v K) (u.v K) = some b := of_decide_eq_true h
theorem sub_ok {t u : Ty1} {b : Bool} (h : (Fx.sub t u b).ok K = true) : PySem.W.subIn K (t.v K) (u.v K) = some b := of_decide_eq_true h
theorem prop_ok (h : (Fx.prop x f).ok K = true) : Cls K (ga K x) ∧ PropOf K (ga K x) f (ma K (ga K x) f) (pfA K (ga K x) f) := by
  obtain ⟨c1, h⟩ := ba h
  obtain ⟨c2, h⟩ := ba h
  obtain ⟨c3, h⟩ := ba h
  obtain ⟨c4, c5⟩ := ba h
  refine ⟨cls_ok c1, eqO_ok c2, eqO_ok c3, of_decide_eq_true c4, ?_⟩
  unfold pfA
  split at c5
  · rename_i g r e
    exact ⟨r, by rw [e]⟩
  · cases c5
theorem KnP.of (e : Γ c = ga K x) (h : (Fx.prop x f).ok K = true) (g : FnV P w K mg base k (pfA K (ga K x) f) (spD ⟨K, Γ⟩ F)) : KnP P w K mg base Γ k c f F := by
  obtain ⟨h1, h2⟩ := prop_ok h
  rw [← e] at h1 h2 g
  exact ⟨h1, _, _, h2, g⟩
theorem KnT.of (e : Γ c = ga K x) (h : (Fx.stat x m).ok K = true) (g : Cal P w K mg base Γ k (.ref (sfA K (ga K x) m)) ks F) : KnT P w K mg base Γ k c m ks F := by
  obtain ⟨c1, h⟩ := ba h
  obtain ⟨c2, h⟩ := ba h
  obtain ⟨c3, h⟩ := ba h
  obtain ⟨c4, c5⟩ := ba h
  obtain ⟨h1, rest, h2⟩ := He5.wrapB_ok c4
  have e1 := eqO_ok c1
  have e2 : PySem.W.typeIn K (.ref (ga K x)) = some (.type "type") := of_decide_eq_true c2
  refine ⟨by rw [e]; exact e1, by rw [e]; exact e2, by rw [e]; exact c3, ma K (ga K x) m, sfA K (ga K x) m, rest, by rw [e]; exact h1, h2, c5, g⟩
theorem KnM.of (e : Γ c = ga K x) (h1 : (Fa.cls x).ok K = true) (h : (Fa.meth x m).ok K = true) (g : Cal P w K mg base Γ k (.ref (ma K (ga K x) m)) ks F) : KnM P w K mg base Γ k c m ks F :=
  ⟨by rw [e]; exact cls_ok h1, _, by rw [e]; exact meth_ok h, g⟩
theorem KnS.of (e : Γ c = ga K x) (h : (Fa.meth x m).ok K = true) (g : FnV P w K mg base k (ma K (ga K x) m) (spD ⟨K, Γ⟩ F)) : KnS P w K mg base Γ k c m F := by
  have q := meth_ok h
  exact ⟨_, by rw [e]; exact q.at_, q.fn, g⟩
theorem FnB.v {fd : FuncData} {fa : Addr} {y qual : Str} {params : Arguments} {body : List Stmt} {scope : Scope} {kws : List (Str × V)} {ps : List Str} (D : FunD K y qual params body scope [] kws fa fd) (g : FnB P w K mg base k fa fd ps (spD ⟨K, Γ⟩ F))
    (h : ∀ (kV doc pm : Value) (an : Option Addr) (cdv ct : Value) (us : List Value), us.length = ps.length → bindArgs (PySem.W.fnOf y qual params body scope .none kV doc pm an cdv ct) ⟨us, []⟩ = pure (ps.zip us)) : FnV P w K mg base k fa (spD ⟨K, Γ⟩ F) :=
  fun A outer s H us vs Q E hr hg e0 rv hsp => g.run A outer s H ⟨us, []⟩ us vs Q E hr hg e0 (FunD.bindsA D h s us (by rw [← rv.length]; exact g.len _ _ _ _ hsp)) rv hsp
theorem FnV.mono {j : Nat} {fa : Addr} {sp : Sp} (g : FnV P w K mg base j fa sp) (h : j ≤ k) : FnV P w K mg base k fa sp := fun A outer s H us vs Q E hr => g A outer s H us vs Q E (hr.mono h)
end
section
variable {fa : List Fa} {fn : List He5.DefA} {ex : List Fx} {K : PySem.W.Frag}
theorem SaysM.alls (c : SaysM fa fn ex K) : (∀ f ∈ fa, f.ok K = true) ∧ (∀ d ∈ fn, d.ok K = true) ∧ ∀ f ∈ ex, f.ok K = true := by
  have c1 : ((fa.all fun f => f.ok K) && ((fn.all fun d => d.ok K) && ex.all fun f => f.ok K)) = true := congrArg (fun z : He.AlD => z.1) c
  obtain ⟨h1, h2⟩ := ba c1
  obtain ⟨h2, h3⟩ := ba h2
  exact ⟨List.all_eq_true.mp h1, List.all_eq_true.mp h2, List.all_eq_true.mp h3⟩
theorem SaysM.fact (c : SaysM fa fn ex K) (i : Nat) {f : Fa} (h : fa[i]? = some f := by rfl) : f.ok K = true := c.alls.1 f (List.mem_of_getElem? h)
theorem SaysM.more (c : SaysM fa fn ex K) (i : Nat) {f : Fx} (h : ex[i]? = some f := by rfl) : f.ok K = true := c.alls.2.2 f (List.mem_of_getElem? h)
theorem SaysM.def_ (c : SaysM fa fn ex K) (i : Nat) {d : He5.DefA} (h : fn[i]? = some d := by rfl) : ∃ fd, FunD K d.name d.qual d.params d.body d.scope (d.dvs K) (d.kws K) (d.at_ K) fd := by
  have e2 : (fn.map fun d => He5.fnA K (d.at_ K)) = fn.map He5.DefA.val := congrArg (fun z : He.AlD => z.2) c
  have e3 : (fn.map fun d => He5.fnA K (d.at_ K))[i]? = (fn.map He5.DefA.val)[i]? := congrArg (fun l => l[i]?) e2
  rw [List.getElem?_map, List.getElem?_map, h] at e3
  exact He5.DefA.funD (Option.some.inj e3) (c.alls.2.1 d (List.mem_of_getElem? h))
end
end AM
namespace AM
open PySem PySem.Spec PyProof.Rows L2 He
section
variable {X : Cx} {Γ : Nat → Addr} {W : WX} {e o a b c tg : Expr} {es : List Expr} {f fo fa fb fc fe ff fv : EF} {fs : EFs} {F : DF} {pos p apos cpos tpos : Pos} {j k : Nat} {x m : Str} {ks : List Str}
theorem PDC.im {pos : Pos} {ks : List (Option Expr)} {vs : List Expr} {r : List (Key × D)} {trs : List (TE × TE)} {kvs : List (Key × V)} (h : PDC X pos ks vs r trs kvs) : imR r = some kvs := by
  induction h with
  | nil => rfl
  | cons hk hv hd hr ih => unfold imR; rw [hd, ih]
theorem imR_val : ∀ {r : List (Key × D)} {kvs : List (Key × V)}, imR r = some kvs → ∀ key : Key, (valV kvs key = none ∧ valD r key = none) ∨ ∃ u d, valV kvs key = some u ∧ valD r key = some d ∧ imV d = some u
  | [], kvs, h, key => by cases h; exact .inl ⟨rfl, rfl⟩
  | (kk, d) :: r, kvs, h, key => by
    unfold imR at h
    split at h
    · rename_i u vs h1 h2
      cases h
      by_cases e : kk = key
      · exact .inr ⟨u, d, valV_pos (p := (kk, u)) e, by simp [valD, List.find?_cons, e], h1⟩
      · have e1 : valV ((kk, u) :: vs) key = valV vs key := valV_neg (p := (kk, u)) e
        have e2 : valD ((kk, d) :: r) key = valD r key := by simp [valD, List.find?_cons, e]
        rw [e1, e2]
        exact imR_val h2 key
    · cases h
def dDicGet (fo fe ff : EF) : EF := fun env st => (fo env st).bind fun d st1 => match d with
  | .dic r => (fe env st1).bind fun e st2 => (ff env st2).bind fun z st3 => (match keyD e with
    | some k => .ok ((valD r k).getD z) st3
    | none => .bad)
  | _ => .bad
theorem pd_dicget (G : Go X W k) (ho : PE X o (tD (XC X Γ) W fo)) (he : PE X a (tD (XC X Γ) W fe)) (hf : PE X b (tD (XC X Γ) W ff))
    (m1 : attributeBase o "get" X.env (eval o X.env) = eval o X.env := by rfl) (m2 : ((backTo cpos (starEach [a, b] X.env)).all (fun x => !x.1) && (backToKw cpos (keywordEach [] X.env)).all (fun x => x.1.isSome)
    && decide (([a, b] : List Expr).length + ([] : List Keyword).length + (if ([] : List Keyword).isEmpty then 0 else 1) < 30)) = true := by rfl) (m3 : (apos.endLine == cpos.line) = true := by rfl) (m4 : backTo cpos (starEach [a, b] X.env) = [(false, eval a X.env), (false, eval b X.env)] := by rfl) :
    PE X (.Call (.Attribute o "get" apos) [a, b] [] cpos) (tD (XC X Γ) W (dDicGet fo fe ff)) := by
  have hu : X.A.units + 1 < cLine := by have := G.rm.units; omega
  refine peImp (pe_dget2 hu ho he hf ⟨m1, m2, m3, m4⟩) fun σ H Q hq => ?_
  obtain ⟨w, env, st, rl, pp⟩ := hq
  refine ⟨w, env, st, rl, (Post.bind (Da := Den) rl pp).mono ?_⟩
  rintro x H1 ⟨w1, st1, d, r1, ⟨ρ1, e1⟩, x1, dx, p1⟩
  cases d with
  | dic r =>
    obtain ⟨q, kvs, ex, hq, nS, im⟩ := DenB.dic (w := w1) dx.b
    have nq : q ∉ w1.ρ := fun z => nS (inS_ρ z)
    refine ⟨q, ex, .inl ⟨kvs, .inl hq⟩, w1, env, st1, r1, (Post.bind (Da := Den) r1 p1).mono ?_⟩
    rintro y H2 ⟨w2, st2, e, r2, ⟨ρ2, e2⟩, x2, dy, p2⟩
    have hq2 := x2.keep q _ hq nq
    refine ⟨w2, env, st2, r2, (Post.bind (Da := Den) r2 p2).mono ?_⟩
    rintro z H3 ⟨w3, st3, c, r3, e3, x3, dz, p3⟩
    have hq3 := x3.keep q _ hq2.1 hq2.2
    have dy3 := lastsD r2 e3 x3 dy
    have fin : ∀ {key : Key}, keyD e = some key → y = kV key → ∃ oo, DGet H3 q y oo ∧ Q (oo.getD z) H3 := fun {key} ek ey => by
      have p4 : Post Den (XC X Γ) W w3 H3 σ (match keyD e with
        | some k => .ok ((valD r k).getD c) st3
        | none => .bad) Q := p3
      rw [ek] at p4
      refine ⟨valV kvs key, by rw [ey]; exact .k hq3.1, ?_⟩
      have p5 : Post Den (XC X Γ) W w3 H3 σ (.ok ((valD r key).getD c) st3) Q := p4
      rcases imR_val im key with ⟨v1, v2⟩ | ⟨u, dd, v1, v2, v3⟩
      · rw [v1]
        rw [v2] at p5
        exact Post.ok r3 p5 dz
      · rw [v1]
        rw [v2] at p5
        exact Post.ok r3 p5 (imV_den v3 _ _ _ _)
    cases e with
    | int i => exact fin rfl (DenB.int (w := w3) dy3.b)
    | str i => exact fin rfl (DenB.str (w := w3) dy3.b)
    | _ => exact p3.elim
  | _ => exact p1.elim
def Tv.d : Tv → D
  | .int i => .int i
  | .pair i c => .tup [.int i, .cls c]
structure Dt (K : PySem.W.Frag) (w : World) (mg : Str → Option Value) (Γ : Nat → Addr) (x : Str) (r : List (Str × D)) : Prop where
  ex : ∃ (a : Addr) (es : Array DictEntry) (n : Nat), mg x = some (.ref a) ∧ KDict K w a es n ∧ (∀ z d, r.lookup z = some d → ∃ u v, PySem.W.nsIn K a z = some (some u) ∧ RelV v u ∧ ∀ ρ S H, Den ⟨K, Γ⟩ ρ S H v d) ∧ ∀ z, r.lookup z = none → PySem.W.nsIn K a z = some none
def dInG (r : List (Str × D)) (neg : Bool) (fa : EF) : EF := fun env st => (fa env st).bind fun d st1 => match d with
  | .str s => .ok (.bl (neg != (r.lookup s).isSome)) st1
  | _ => .bad
def dIxG (r : List (Str × D)) (fb : EF) : EF := fun env st => (fb env st).bind fun d st1 => match d with
  | .str s => (match r.lookup s with
    | some v => .ok v st1
    | none => .bad)
  | _ => .bad
variable {r : List (Str × D)}
theorem Dt.is (T : Dt X.K X.w X.mg Γ x r) (s : Str) : ∃ a es n u, X.mg x = some (.ref a) ∧ KDict X.K X.w a es n ∧ PySem.W.nsIn X.K a s = some u ∧ u.isSome = (r.lookup s).isSome := by
  obtain ⟨q, es, n, hm, D, h1, h2⟩ := T.ex
  cases ez : r.lookup s with
  | none => exact ⟨q, es, n, none, hm, D, h2 s ez, rfl⟩
  | some d =>
    obtain ⟨u, v, e1, _, _⟩ := h1 s d ez
    exact ⟨q, es, n, some u, hm, D, e1, rfl⟩
def dLcall (t : List (Nat × DF)) (i : Nat) (fs : EFs) : EF := fun env st => match env[i]? with
  | some (.sh (.cls c)) => (match t.lookup c with
    | some F => (fs env st).bind F
    | none => .bad)
  | _ => .bad
def LcOk (P : Program) (w : World) (K : PySem.W.Frag) (mg : Str → Option Value) (base : Heap) (Γ : Nat → Addr) (k : Nat) (t : List (Nat × DF)) : Prop := ∀ c F, t.lookup c = some F → PySem.W.keepIn K (.ref (Γ c)) = true ∧ Cal P w K mg base Γ k (.ref (Γ c)) [] F
theorem LcOk.cons {P : Program} {w : World} {K : PySem.W.Frag} {mg : Str → Option Value} {base : Heap} {t : List (Nat × DF)} {c : Nat} (h : PySem.W.keepIn K (.ref (Γ c)) = true ∧ Cal P w K mg base Γ k (.ref (Γ c)) [] F) (r : LcOk P w K mg base Γ k t) : LcOk P w K mg base Γ k ((c, F) :: t) := fun c' F' e => by
  rw [List.lookup_cons] at e
  split at e
  · rename_i z
    cases e
    rw [show c' = c from by simpa using z]
    exact h
  · exact r c' F' e
theorem Cal.never {P : Program} {w : World} {K : PySem.W.Frag} {mg : Str → Option Value} {base : Heap} {v : Value} : Cal P w K mg base Γ k v ks (fun _ _ => .bad) := fun X W _ _ _ _ _ _ _ _ pins s σ H wd env st us ws vs ds Q I rv hw rl d p => p.elim
end
section
variable {X : Cx} {Γ : Nat → Addr} {W : WX} {a b : Expr} {fa fb : EF} {pos : Pos}
def kCat : D → D → Sto → Res (List D) := fun a b st => match a, b with
  | .lst i, .lst j => if i.length + j.length ≤ sizeLine then .ok (i ++ j) st else .bad
  | _, _ => .bad
def dCat (fa fb : EF) : AEnv → Sto → Res (List D) := fun env st => (fa env st).bind fun a st1 => (fb env st1).bind fun b st2 => kCat a b st2
end
def Tv.v : Tv → Value → V
  | .int i, _ => .int i
  | .pair _ _, .ref t => .ref t
  | _, _ => .non
theorem Tv.ok {K : PySem.W.Frag} {Γ : Nat → Addr} : ∀ {t : Tv} {u : Value}, t.b K Γ u = true → RelV (t.v u) u ∧ ∀ ρ S H, Den ⟨K, Γ⟩ ρ S H (t.v u) t.d := by
  intro t u h
  cases t with
  | int i =>
    unfold Tv.b at h
    cases u <;> try cases h
    rename_i j n
    obtain rfl := of_decide_eq_true h
    exact ⟨⟨_, rfl⟩, fun ρ S H => .int _⟩
  | pair i c =>
    unfold Tv.b at h
    cases u <;> try cases h
    rename_i a
    dsimp only at h
    split at h
    · rename_i o ho
      obtain ⟨c3, c4⟩ := ba h
      split at c4
      · rename_i its n hd
        split at c4
        · rename_i j tk g e
          obtain ⟨c5, c6⟩ := ba c4
          obtain rfl := of_decide_eq_true c5
          obtain rfl := of_decide_eq_true c6
          refine ⟨rfl, fun ρ S H => .tup (vs := [.int j, .ref (Γ c)]) (.inr ⟨o, its, n, ho, of_decide_eq_true c3, hd, ?_, ?_⟩) (.cons (.int _) (.cons (.cls _) .nil))⟩
          · have : its.size = 2 := by rw [← Array.length_toList, e]; rfl
            rw [sizeLine_eq]; omega
          · rw [e]; exact .cons ⟨_, rfl⟩ (.cons rfl .nil)
        · cases c4
      · cases c4
    · cases h
def rowsD (r : List (Str × Tv)) : List (Str × D) := r.map fun q => (q.1, q.2.d)
theorem nsIn_none {K : PySem.W.Frag} {w : World} {a : Addr} {ks : List Str} (h : dicW K a = some (keysIn w.params ks)) {z : Str} (hz : z ∉ ks) : PySem.W.nsIn K a z = some none := by
  unfold dicW at h
  split at h
  · rename_i c es n sl e
    unfold PySem.W.nsIn
    rw [e]
    split at h
    · have h := Option.some.inj h
      have g : ∀ (l : List DictEntry) (ks : List Str), l.map keyOf = keysIn w.params ks → z ∉ ks → l.find? (·.key.isStr z) = none ∧ l.any (·.refKey) = false := by
        intro l
        induction l with
        | nil => exact fun ks _ _ => ⟨rfl, rfl⟩
        | cons q l ih =>
          intro ks hk hn
          cases ks with
          | nil => cases hk
          | cons y ks =>
            rw [List.map_cons] at hk
            unfold keysIn at hk
            rw [List.map_cons] at hk
            injection hk with h1 h2
            obtain ⟨i1, i2⟩ := ih ks h2 fun m => hn (List.mem_cons_of_mem _ m)
            unfold keyOf at h1
            split at h1
            · rename_i x t ek
              have h3 := (Prod.mk.inj (Option.some.inj h1)).1
              subst h3
              have n1 : q.key.isStr z = false := by
                rw [ek]
                cases h : (Value.str x t).isStr z with
                | false => rfl
                | true => exact absurd (List.mem_cons.mpr (.inl (eq_of_beq (show (x == z) = true from h)).symm)) hn
              refine ⟨by rw [List.find?_cons, n1]; exact i1, ?_⟩
              rw [List.any_cons, i2, Bool.or_false]
              unfold DictEntry.refKey
              rw [ek]
            · cases h1
      obtain ⟨g1, g2⟩ := g _ _ h hz
      dsimp only
      rw [g1, g2]
      rfl
    · cases h
  · cases h
theorem dt_of {K : PySem.W.Frag} {h : Heap} {w : World} {mg : Str → Option Value} {Γ : Nat → Addr} {x : Str} {r : List (Str × Tv)} (Y : K.In h) (N : h.Ns mainGlobals mg) (h1 : tabB K Γ x r = true) (h2 : dicW K (ga K x) = some (keysIn w.params (r.map (·.1)))) : Dt K w mg Γ x (rowsD r) := by
  obtain ⟨c1, c2⟩ := ba h1
  obtain ⟨es, n, D⟩ := dicW_ok h2
  refine ⟨_, es, n, PySem.W.mg_of Y N (eqO_ok c1), D, fun z d e => ?_, fun z e => nsIn_none h2 fun m => ?_⟩
  · have g : ∀ r : List (Str × Tv), (rowsD r).lookup z = some d → ∃ t, (z, t) ∈ r ∧ d = t.d := by
      intro r
      induction r with
      | nil => exact fun h => by cases h
      | cons q r ih =>
        intro h
        unfold rowsD at h
        rw [List.map_cons, List.lookup_cons] at h
        split at h
        · rename_i hz
          cases h
          have : z = q.1 := by simpa using hz
          exact ⟨q.2, by rw [this]; exact List.mem_cons_self .., rfl⟩
        · obtain ⟨t, m, e⟩ := ih h
          exact ⟨t, List.mem_cons_of_mem _ m, e⟩
    obtain ⟨t, m, rfl⟩ := g r e
    have q := List.all_eq_true.mp c2 _ m
    dsimp only at q
    split at q
    · rename_i u eu
      obtain ⟨g1, g2⟩ := Tv.ok q
      exact ⟨u, t.v u, eu, g1, g2⟩
    · cases q
  · obtain ⟨q, m, e2⟩ := List.mem_map.mp m
    have g : ∀ r : List (Str × Tv), q ∈ r → (rowsD r).lookup z ≠ none := by
      intro r
      induction r with
      | nil => exact fun h => by cases h
      | cons y r ih =>
        intro h
        unfold rowsD
        rw [List.map_cons, List.lookup_cons]
        split
        · exact fun z => by cases z
        · rename_i hz
          rcases List.mem_cons.mp h with e3 | h
          · subst e3
            have : (z == q.1) = true := by rw [e2]; simp
            rw [this] at hz
            cases hz
          · exact ih h
    exact g r m e
section
variable {fa : List Fa} {fn : List He5.DefA} {ex : List Fx} {Γ : PySem.W.Frag → Nat → Addr} {ts : List TabM} {w : World} {K : PySem.W.Frag}
theorem SaysX.m (c : SaysX fa fn ex Γ ts w K) : SaysM fa fn ex K := congrArg (fun z : AlM => z.1) c
theorem SaysX.tab (c : SaysX fa fn ex Γ ts w K) (i : Nat) {t : TabM} {h : Heap} {mg : Str → Option Value} (Y : K.In h) (N : h.Ns mainGlobals mg) (e : ts[i]? = some t := by rfl) : Dt K w mg (Γ K) t.1 (rowsD t.2) := by
  have c1 : (ts.all fun t => tabB K (Γ K) t.1 t.2) = true := congrArg (fun z : AlM => z.2.1) c
  have c2 : ts.map (fun t => dicW K (ga K t.1)) = ts.map fun t => some (keysIn w.params (t.2.map (·.1))) := congrArg (fun z : AlM => z.2.2) c
  have c3 := congrArg (fun l => l[i]?) c2
  rw [List.getElem?_map, List.getElem?_map, e] at c3
  exact dt_of Y N (List.all_eq_true.mp c1 _ (List.mem_of_getElem? e)) (Option.some.inj c3)
end
end AM
namespace AM
open PySem PySem.Spec PyProof.Rows L2
def insB {α : Type} (le : α → α → Bool) (a : α) : List α → List α
  | [] => [a]
  | b :: r => bif le a b then a :: b :: r else b :: insB le a r
def isB {α : Type} (le : α → α → Bool) : List α → List α
  | [] => []
  | a :: r => insB le a (isB le r)
section
variable {α : Type} {le : α → α → Bool}
end
def keyOf (y : Str) : PyData := .tuple [.int y.length, .str y]
end AM
namespace AM
open PySem PySem.Spec PyProof.Rows L2
structure KeyS (x : Str) (params : Arguments) (scope : Scope) : Prop where
  kind : scope.kind = .function
  co : scope.isCoroutine = false
  gen : scope.isGenerator = false
  own : scope.names.lookup x = some .local
  len : scope.names.lookup ("len" : Str) = some .globalImplicit
  nocell : ∀ y ∈ scope.names, y.2 ≠ .cell
  nofree : ∀ y ∈ scope.names, y.2 ≠ .free
  bind : ∀ (q : Str) (body : Expr) (cl : List (Str × Addr)) (pm cv ctv v : Value), bindArgs (PySem.W.kla_fn "<lambda>" q params body scope cl pm cv ctv) ⟨[v], []⟩ = pure [(x, v)]
  xd : (x == ("__debug__" : Str)) = false
def LamO (f c' : Addr) (q : Str) (params : Arguments) (body : Expr) (scope : Scope) : HO := .ext fun h => ∃ pm ctv, h.get? f = some (PySem.W.kla_obj "<lambda>" q params body scope [] pm c' ctv)
end AM
namespace AM
open PySem PySem.Spec PyProof.Rows L2
def TabP (Z : Addr → Prop) (H : Hp) (P : Addr) (q : Str) : Prop := ∃ ps : Array Value, H P = some (.tbl ps) ∧ TriplesOk ps.toList ∧ ∀ (pos : Pos) (cv : Value), codeAmong pos ps.toList = some cv → ∃ c, cv = .ref c ∧ H c = some (LamX.CodeO c q) ∧ Z c
theorem codeO_tbl {c : Addr} {q : Str} (ps : Array Value) : LamX.CodeO c q ≠ .tbl ps := fun z => by
  unfold LamX.CodeO at z
  cases z
structure Made1 (Z : Addr → Prop) (H H1 : Hp) (P f c' : Addr) (q : Str) (params : Arguments) (body : Expr) (scope : Scope) : Prop where
  keep : ∀ b o, H b = some o → b ≠ P → H1 b = some o
  tab : TabP Z H1 P q
  new : H f = none
  fn : H1 f = some (LamO f c' q params body scope)
  code : H1 c' = some (LamX.CodeO c' q)
def tabCell (i : Nat) (q : Str) : Cell → Bool
  | .tab j q' => decide (j = i) && decide (q' = q)
  | _ => false
def hasTab (st : Sto) (i : Nat) (q : Str) : Bool := st.any (tabCell i q)
section
variable {K : Ct} {w : Wd} {env : AEnv} {st : Sto} {σ : AM.St} {H H1 : Hp} {i : Nat} {q : Str}
theorem tab_at (r : Rel K w env st σ H) (h : hasTab st i q = true) : (∃ n : Nat, w.ρ[n]? = some (K.Γ i) ∧ st[n]? = some (.tab i q)) ∧ K.Γ i ∈ w.ρ ∧ TabP (fun c => ¬ w.S c) H (K.Γ i) q := by
  obtain ⟨cl, hm, ht⟩ := List.any_eq_true.mp h
  obtain ⟨n, hn, e⟩ := List.mem_iff_getElem.mp hm
  cases cl with
  | lst ds => cases ht
  | obj c fs => cases ht
  | tab j q' =>
    obtain ⟨h1, h2⟩ := Bool.and_eq_true_iff.mp ht
    obtain rfl := of_decide_eq_true h1
    obtain rfl := of_decide_eq_true h2
    have hρ : n < w.ρ.length := by rw [r.sto.len]; exact hn
    obtain ⟨e1, e2⟩ := r.sto.cell n w.ρ[n] _ (List.getElem?_eq_getElem hρ) (by rw [List.getElem?_eq_getElem hn, e])
    have hP : w.ρ[n] = K.Γ j := e1
    exact ⟨⟨n, by rw [List.getElem?_eq_getElem hρ, hP], by rw [List.getElem?_eq_getElem hn, e]⟩, by rw [← hP]; exact List.getElem_mem hρ, by rw [← hP]; exact e2⟩
end
section
variable {X : Cx} {Γ : Nat → Addr} {W : WX} {e : Expr} {f : EF} {i k kk : Nat} {c : Addr} {x : Str} {params : Arguments} {scope : Scope} {p pos kpos lpos p1 p2 p3 p4 p5 : Pos}
end
end AM
namespace AM
open PySem PySem.Spec PyProof.Rows L2
def tabsSt (K : Ct) (cs : List (Addr × Addr)) (st : Sto) : Prop := cs.length = st.length ∧ ∀ (n : Nat) p c, cs[n]? = some p → st[n]? = some c → ∃ i q, c = .tab i q ∧ p.2 = K.Γ i
section
variable {P : Program} {w : World} {K : PySem.W.Frag} {mg mb : Str → Option Value} {Γ : Nat → Addr} {k : Nat} {fa a : Addr} {fd : FuncData} {x : Str} {F : DF} {s : Shared} {vs : List Value} {ns : List Int} {cs : List (Addr × Addr)} {st0 : Sto}
structure TabsS (K : PySem.W.Frag) (h : Heap) (cs : List (Addr × Addr)) : Prop where
  hd : ∀ p ∈ cs, PySem.W.CodeHd h p.1 p.2
  out : ∀ p ∈ cs, K.lookup p.2 = none
  empty : ∀ p ∈ cs, h.get? p.2 = some { cls := .none, data := .fields #[] }
  nd : (cs.map (·.2)).Nodup
def BltM (mg : Str → Option Value) (h : Heap) : Prop := ∃ (bm : Addr) (ob : Obj), mg "__builtins__" = some (.ref bm) ∧ bm ≠ builtinsNs ∧ h.get? bm = some ob ∧ ob.cls = .type "module" ∧ ob.dict = some builtinsNs ∧ ob.data = .plain
structure Trk (K : PySem.W.Frag) (cs : List (Addr × Addr)) (a : Addr) (vs : List Value) (H : Hp) : Prop where
  tab : ∀ p ∈ cs, H p.2 = some (.tbl #[])
  one : ∀ b o, H b = some o → (b = a ∧ K.lookup a = none ∧ ∃ u, o = .frz { cls := .type "list", data := .seq vs.toArray } u) ∨ ((∃ p ∈ cs, b = p.2) ∧ o = .tbl #[])
theorem end_atT (z : At0 K mg mb s) (T : TabsS K s.heap cs) (B : BltM mg s.heap) (ha : s.heap.get? a = some { cls := .type "list", data := .seq vs.toArray }) (hr : Room k callerA)
    (hF : ∀ base : Heap, K.In base → base.Ns mainGlobals mg → (∀ p ∈ cs, LamX.TabB base mg p.1 p.2) → FnB P w K mg base k fa fd [x] (spD ⟨K, Γ⟩ F))
    (hb : ∀ (s : Shared) (u : Value), BindsTo s fd ⟨[u], []⟩ [(x, u)]) (ts : tabsSt ⟨K, Γ⟩ cs st0) (ans : ∃ st, F [.fz (ns.map D.int)] st0 = .ok (.bl true) st)
    (H : Hp) (tr : Trk K cs a vs H) (hok : HOk P w H s.heap) (sc : SqF K H (fun b => ∃ p ∈ cs, b = p.2) a (ns.map V.int)) :
    codeAny (model P w) callerA (.call (.ref fa) ⟨[.ref a], []⟩) (Says1 s) s := by
  have low : ∀ b o, s.heap.get? b = some o → H b = none → (hidT s.heap H).get? b = some o := fun b o e n => hidT_get e n
  -- what is neither a row nor empty fields is not tracked
  have untr : ∀ {b : Addr} {o : Obj}, s.heap.get? b = some o → (∀ us n, o.data ≠ .seq us n) → o.data ≠ .fields #[] → H b = none := fun {b o} e q1 q2 => by
    cases h : H b with
    | none => rfl
    | some u =>
      rcases tr.one b u h with ⟨eb, _⟩ | ⟨⟨p, hp, eb⟩, _⟩
      · rw [eb, ha] at e
        obtain rfl := Option.some.inj e
        exact absurd rfl (q1 _ _)
      · rw [eb, T.empty p hp] at e
        obtain rfl := Option.some.inj e
        exact absurd rfl q2
  have ns1 : ∀ {b : Addr} {m : Str → Option Value}, s.heap.Ns b m → (hidT s.heap H).Ns b m := fun {b m} h => by
    obtain ⟨o, es, ep, e, q, rest⟩ := h
    exact ⟨o, es, ep, low b o e (untr e (fun us n z => by rw [q] at z; cases z) fun z => by rw [q] at z; cases z), q, rest⟩
  have kin : K.In (hidT s.heap H) := fun b o e => low b o (z.kin b o e) (by
    cases h : H b with
    | none => rfl
    | some u =>
      rcases tr.one b u h with ⟨eb, hk, _⟩ | ⟨⟨p, hp, eb⟩, _⟩
      · rw [eb, hk] at e
        cases e
      · rw [eb, T.out p hp] at e
        cases e)
  have tb : ∀ p ∈ cs, LamX.TabB (hidT s.heap H) mg p.1 p.2 := fun p hp => by
    have hP := T.empty p hp
    refine ⟨?_, ?_, fun q => ?_⟩
    · obtain ⟨o, us, file, tf, flags, tg, inF, text, tt, e, r1, r2, r3, rest⟩ := T.hd p hp
      exact ⟨o, us, file, tf, flags, tg, inF, text, tt, low _ _ e (untr e (fun us n z => by rw [r2] at z; cases z) fun z => by rw [r2] at z; cases z; cases r3), r1, r2, r3, rest⟩
    · obtain ⟨bm, ob, b1, b2, b3, b4, b5, b6⟩ := B
      refine ⟨bm, ob, b1, b2, fun q => ?_, fun q => ?_, low _ _ b3 (untr b3 (fun us n z => by rw [b6] at z; cases z) fun z => by rw [b6] at z; cases z), b4, b5, b6⟩
      · obtain ⟨o, es, ep, e, hd, _⟩ := z.glo
        rw [← q, b3] at e
        obtain rfl := Option.some.inj e
        rw [b6] at hd
        cases hd
      · rw [q, hP] at b3
        obtain rfl := Option.some.inj b3
        cases b6
    · obtain ⟨o, es, ep, e, hd, _⟩ := z.glo
      rw [q, hP] at e
      obtain rfl := Option.some.inj e
      cases hd
  obtain ⟨mc, c1, c2⟩ := z.lim
  have e0 : Env0 P w K mg (hidT s.heap H) callerA [] s H := {
    frames := rfl
    mod := ⟨kin, ns1 z.glo, ⟨mb, ns1 z.blt, z.mbs⟩, mc, ns1 c1, c2⟩
    bs := fun b o e => of_hidT e
    bsz := Nat.le_of_eq (hidT_size _ _)
    funs := trivial
    frf := fun b hb => by cases hb
    hok := hok
    bare := .of_eq z.gen }
  obtain ⟨st, ea⟩ := ans
  have sp : spD ⟨K, Γ⟩ F [.ref a] H (fun v _ => v = .bl true) (fun _ _ _ => False) := by
    have wS : ∀ b, (⟨cs.map (·.2), fun _ => False, []⟩ : Wd).S b → ∃ p ∈ cs, b = p.2 := fun b h => by
      rcases h with h | h | h
      · obtain ⟨p, hp, e⟩ := List.mem_map.mp h
        exact ⟨p, hp, e.symm⟩
      · exact h.elim
      · cases h
    have numL : ∀ is : List Int, Dens ⟨K, Γ⟩ (cs.map (·.2)) (⟨cs.map (·.2), fun _ => False, []⟩ : Wd).S H (is.map V.int) (is.map D.int) := fun is => by
      induction is with
      | nil => exact .nil
      | cons i is ih => exact .cons (.int i) ih
    refine ⟨⟨cs.map (·.2), fun _ => False, []⟩, st0, [.fz (ns.map D.int)], rfl, ⟨by rw [List.length_map]; exact ts.1, T.nd, fun n b c h1 h2 => ?_⟩, fun b h => h.elim, .cons (.fz (sc.imp fun o e n => ⟨e, fun q => n (wS a q)⟩) (numL ns)) .nil, ?_⟩
    · rw [List.getElem?_map] at h1
      obtain ⟨p, hp, rfl⟩ := Option.map_eq_some_iff.mp h1
      obtain ⟨i, q, rfl, ei⟩ := ts.2 n p c hp h2
      exact ⟨ei, #[], tr.tab p (List.mem_of_getElem? hp), trivial, fun pos cv hc => by cases hc⟩
    · rw [ea]
      intro ρ' H' v h1 h2 h3
      cases h3
      rfl
  refine codeAny_mono ((hF _ kin (ns1 z.glo) tb).run callerA [] s H ⟨[.ref a], []⟩ [.ref a] [.ref a] _ _ hr rfl e0 (hb s (.ref a)) (.cons rfl .nil) sp) fun r s' h => ?_
  cases r with
  | error er =>
    obtain ⟨_, _, _, _, _, _, _, _, _, _, _, _, h⟩ := h
    exact h.elim
  | ok fl =>
    cases fl with
    | next => exact h.elim
    | brk => exact h.elim
    | cont => exact h.elim
    | ret u =>
      obtain ⟨v, H', os, bare, un, hok', rv, q⟩ := h
      subst q
      cases rv
      have nof : ∀ b : Addr, b ∉ frs ([] : List Env) := fun b hb => by cases hb
      have same : ∀ b o, (∀ p ∈ cs, b ≠ p.2) → s.heap.get? b = some o → s'.heap.get? b = some o := fun b o n e => by
        cases h : H b with
        | none => exact un.keep b o e h (nof b) (by simp)
        | some u =>
          rcases tr.one b u h with ⟨eb, _, y, eo⟩ | ⟨⟨p, hp, eb⟩, _⟩
          · rw [eo] at h
            obtain ⟨g1, _⟩ := hok' b _ (un.frzs b _ y h)
            rw [eb, ha] at e
            rw [g1, ← Option.some.inj e]
          · exact absurd eb (n p hp)
      have more : ∀ p ∈ cs, ∃ ps : Array Value, s'.heap.get? p.2 = some { cls := .none, data := .fields ps } := fun p hp => by
        obtain ⟨ps, e⟩ := un.tbls p.2 #[] (tr.tab p hp)
        exact ⟨_, hok' p.2 _ e⟩
      refine ⟨rfl, ⟨fun b o e => ?_, fun b o e => ?_⟩, os, bare⟩
      · by_cases hb2 : ∃ p ∈ cs, b = p.2
        · obtain ⟨p, hp, eb⟩ := hb2
          subst eb
          rw [T.empty p hp] at e
          obtain rfl := Option.some.inj e
          obtain ⟨ps, e3⟩ := more p hp
          exact .inr (.inl ⟨PySem.Heap.TableAt.isCodeTable ((T.hd p hp).tab (T.empty p hp)), rfl, #[], ps, rfl, by rw [e3, Array.empty_append]⟩)
        · exact .inl (same b o (fun p hp q => hb2 ⟨p, hp, q⟩) e)
      · by_cases hb2 : ∃ p ∈ cs, b = p.2
        · obtain ⟨p, hp, eb⟩ := hb2
          obtain ⟨ps, e3⟩ := more p hp
          exact ⟨_, by rw [eb]; exact e3⟩
        · exact ⟨o, same b o (fun p hp q => hb2 ⟨p, hp, q⟩) e⟩
theorem end_callT (z : At0 K mg mb s) (T : TabsS K s.heap cs) (B : BltM mg s.heap) (ha : s.heap.get? a = some { cls := .type "list", data := .seq vs.toArray }) (hi : IntsAre vs ns) (hl : ns.length ≤ sizeLine) (hr : Room k callerA)
    (hF : ∀ base : Heap, K.In base → base.Ns mainGlobals mg → (∀ p ∈ cs, LamX.TabB base mg p.1 p.2) → FnB P w K mg base k fa fd [x] (spD ⟨K, Γ⟩ F))
    (hb : ∀ (s : Shared) (u : Value), BindsTo s fd ⟨[u], []⟩ [(x, u)]) (ts : tabsSt ⟨K, Γ⟩ cs st0) (ans : ∃ st, F [.fz (ns.map D.int)] st0 = .ok (.bl true) st) : codeAny (model P w) callerA (.call (.ref fa) ⟨[.ref a], []⟩) (Says1 s) s := by
  have vv : Vals (ns.map V.int) vs := vals_ints hi
  have na : ∀ p ∈ cs, a ≠ p.2 := fun p hp q => by
    have e := T.empty p hp
    rw [← q, ha] at e
    cases e
  have naT : ¬ ∃ p ∈ cs, a = p.2 := fun ⟨p, hp, q⟩ => na p hp q
  -- the tables alone
  have key : ∀ (H0 : Hp), (∀ b, H0 b = if ∃ p ∈ cs, b = p.2 then some (.tbl #[]) else none) → (∀ p ∈ cs, H0 p.2 = some (.tbl #[])) ∧ (∀ b o, H0 b = some o → (∃ p ∈ cs, b = p.2) ∧ o = .tbl #[]) := fun H0 h0 =>
    ⟨fun p hp => by rw [h0, if_pos ⟨p, hp, rfl⟩], fun b o e => by
      rw [h0] at e
      split at e
      · rename_i q
        exact ⟨q, (Option.some.inj e).symm⟩
      · cases e⟩
  have okT : ∀ p ∈ cs, ∀ b, b = p.2 → s.heap.get? b = some { cls := .none, data := .fields #[] } := fun p hp b e => by rw [e]; exact T.empty p hp
  classical
  obtain ⟨k1, k2⟩ := key (fun b => if ∃ p ∈ cs, b = p.2 then some (.tbl #[]) else none) (fun _ => rfl)
  cases hk : K.lookup a with
  | some o =>
    have e := z.kin a o hk
    rw [ha] at e
    have eo := Option.some.inj e
    refine end_atT z T B ha hr hF hb ts ans (fun b => if ∃ p ∈ cs, b = p.2 then some (.tbl #[]) else none) ⟨k1, fun b o h => .inr (k2 b o h)⟩ (fun b o h => ?_) (.inr (.inr ⟨o, vs.toArray, 0, hk, ?_, ?_, ?_, ?_, by simpa using vv⟩))
    · obtain ⟨⟨p, hp, eb⟩, rfl⟩ := k2 b o h
      exact okT p hp b eb
    · rw [← eo]
    · rw [← eo]
    · rw [← eo]
    · rw [List.size_toArray, hi.length]; exact hl
  | none =>
    have at1 : ∀ {b : Addr} {u : HO}, upd (fun b => if ∃ p ∈ cs, b = p.2 then some (.tbl #[]) else none) a (.frz { cls := .type "list", data := .seq vs.toArray } (.lst (ns.map V.int))) b = some u → (b = a ∧ u = .frz { cls := .type "list", data := .seq vs.toArray } (.lst (ns.map V.int))) ∨ ((∃ p ∈ cs, b = p.2) ∧ u = .tbl #[]) := fun {b u} h => by
      by_cases eb : b = a
      · rw [eb, upd_same] at h
        exact .inl ⟨eb, (Option.some.inj h).symm⟩
      · rw [upd_ne eb] at h
        exact .inr (k2 b u h)
    refine end_atT z T B ha hr hF hb ts ans (upd (fun b => if ∃ p ∈ cs, b = p.2 then some (.tbl #[]) else none) a (.frz { cls := .type "list", data := .seq vs.toArray } (.lst (ns.map V.int)))) ⟨fun p hp => by rw [upd_ne (Ne.symm (na p hp))]; exact k1 p hp, fun b o h => ?_⟩ (fun b o h => ?_) (.inl ⟨_, upd_same, naT⟩)
    · rcases at1 h with ⟨e1, e2⟩ | q
      · exact .inl ⟨e1, hk, _, e2⟩
      · exact .inr q
    · rcases at1 h with ⟨rfl, rfl⟩ | ⟨⟨p, hp, eb⟩, rfl⟩
      · exact ⟨ha, by rw [List.length_map]; exact hl, vs, _, vv, ha⟩
      · exact okT p hp b eb
end
def FinHypT (P : Program) (n k : Nat) (x : Str) (Y : World → Heap → Prop) : Prop := ∀ (w : World) (mg : Str → Option Value) (fa : Addr) (h : Heap), Y w h → h.Ns mainGlobals mg → mg ("law" : Str) = some (.ref fa) →
  ∃ (K : PySem.W.Frag) (Γ : Nat → Addr) (fd : FuncData) (G : DF) (cs : List (Addr × Addr)) (st0 : Sto), K.In h ∧ TabsS K h cs ∧ tabsSt ⟨K, Γ⟩ cs st0 ∧ (∀ (s : Shared) (u : Value), BindsTo s fd ⟨[u], []⟩ [(x, u)]) ∧ (∀ ns : List Int, ns.length ≤ n → ∃ st, G [.fz (ns.map D.int)] st0 = .ok (.bl true) st) ∧
    ∀ base : Heap, K.In base → base.Ns mainGlobals mg → (∀ p ∈ cs, LamX.TabB base mg p.1 p.2) → FnB P w K mg base k fa fd [x] (spD ⟨K, Γ⟩ G)
theorem law_endT {l : PySem.W.OpenLaw} {n k : Nat} {q : Program} {loose : List Str} {XP : (Str → Option Value) → Heap → Prop} {YP : World → Heap → Prop} {d : DefRec} {x : Str}
    (hn : l.most = some n) (hz : n ≤ sizeLine) (hdf : d.params.defaults = []) (hr : Room k callerA) (hd : d.name = ("law" : Str)) (F : FinHypT l.prog n k x YP) :
    PySem.W.WalkO q loose XP YP l.row.toRowW d [] (fun f vs => PySem.call f vs) := by
  refine Att.attach_call hn hdf fun w s₀ s₁ mg mb fa o pm cd doc a vs ns G Y ho hd2 hcd hmg hobj hints hlen hg => ?_
  obtain ⟨K, Γ, fd, DG, cs, st0, kin, T, ts, hb, ans, hF⟩ := F w mg fa _ Y G.T.g (by rw [← hd]; exact hmg)
  exact end_callT ⟨kin, G.T.g, G.T.b, G.T.builtins, G.T.nolimit, hg⟩ T G.T.bmain hobj hints (Nat.le_trans hlen hz) hr hF hb ts (ans ns hlen)
theorem TabsH.s {tf : List He.Defn} {h : Heap} {K : PySem.W.Frag} (t : TabsH tf h K) (kin : K.In h) : TabsS K h (tabsOf tf K) :=
  ⟨fun p hp => PySem.W.codeHd_of_K kin (t.hd p hp), t.out, t.empty, t.nd⟩
end AM
section
open PySem PySem.W PySem.Calls PyProof.Rows
theorem K04.fin (F : AM.FinHypT PySem.Challenge.rw_knotspools_k04_texts_refused.prog 63 10 "_law_script" (fun w h => ∃ K : PySem.W.Frag, K.In h ∧ AM.SaysY K04.fa K04.fn K04.ex K04.Γ K04.ts K04.tf w h K)) : PySem.Challenge.rw_knotspools_k04_texts_refused.Holds := by
  w_on; o_law
  refine HandSHeadRun.head_any (r := OpenLaw.row PySem.Challenge.rw_knotspools_k04_texts_refused) (q := view (OpenLaw.row PySem.Challenge.rw_knotspools_k04_texts_refused).prog [68]) (H := K04.hk) (ob := K04.ob) (M := 20000) (loose := K04.loose) (d := HandSHeadRun.topDef (OpenLaw.row PySem.Challenge.rw_knotspools_k04_texts_refused).prog 68) (kwd := []) K04.ob_eq
    (by kernel_rfl) (fun s => by kernel_rfl) K04.run (by kernel_rfl) (by kernel_rfl) (by kernel_rfl) (by rfl) (by first | assumption | decide +kernel) (by decide +kernel) ⟨rfl, rfl, rfl, rfl, rfl, by decide +kernel⟩ ?hw ?hc
  case hw => w_witness2
  case hc => exact AM.law_endT (l := PySem.Challenge.rw_knotspools_k04_texts_refused) (n := 63) (k := 10) (x := "_law_script") rfl (by decide) (by kernel_rfl) ⟨rfl, by decide, by decide⟩ (by kernel_rfl) F
end
namespace AM
open PySem PySem.Spec PyProof.Rows L2
section
variable {X : Cx} {Γ : Nat → Addr} {W : WX} {pos : Pos} {k i n : Nat} {x : Str} {K : PySem.W.Frag} {is : List Nat} {es : List Expr} {e : Expr}
theorem pgc_name (hN : X.N.Nodup) (hi : X.N[i]? = some x := by rfl) (hx : Loc X.env.scope x := by first | exact Or.inl rfl | exact Or.inr rfl) (hf : X.fn x = true ∨ X.env.scope.names.lookup x = some .local := by first | exact .inl rfl | exact .inr rfl) : PG X (.Name x pos) (gC X.K false [i]) := pg_name hN hi hx hf
end
end AM
namespace AM
open PySem PySem.Spec PyProof.Rows L2
def FnNi (P : Program) (w : World) (K : PySem.W.Frag) (mg : Str → Option Value) (base : Heap) (Γ : Nat → Addr) (k : Nat) (g : Addr) (T : List D → Sto → Prop) : Prop :=
  ∀ (A : Around) (outer : List Env) (s : Shared) (H : Hp) (us : List Value) (vs : List V) (wd : Wd) (st : Sto) (ds : List D), Room k A → A.guards = some [] → Env0 P w K mg base A outer s H → Vals vs us →
    wd.O = [] → StOk ⟨K, Γ⟩ wd.ρ wd.S H st → (∀ a, wd.R a → (∃ o, H a = some o) ∧ a ∉ wd.ρ) → Dens ⟨K, Γ⟩ wd.ρ wd.S H vs ds → T ds st →
    codeAny (model P w) A (.call (.ref g) ⟨us, []⟩) (fun r s' => r = .ok (.ret .notImplemented) ∧ s'.os = s.os ∧ AllBare s'.gens ∧ ∃ ρ' H', StOk ⟨K, Γ⟩ ρ' (wd.at_ ρ').S H' st ∧ Ext ⟨K, Γ⟩ wd.ρ H ρ' H' ∧ Un (frs outer) [] H H' s.heap s'.heap ∧ HOk P w H' s'.heap) s
section
variable {P : Program} {w : World} {K : PySem.W.Frag} {mg : Str → Option Value} {base : Heap} {Γ : Nat → Addr} {k : Nat} {f : Addr} {x qual : Str} {params : Arguments} {scope : Scope} {N ps : List Str} {fd : FuncData} {kws : List (Str × V)} {c : Expr} {rest : List Stmt} {p1 p2 p3 : Pos}
end
structure KnNi (P : Program) (w : World) (K : PySem.W.Frag) (mg : Str → Option Value) (base : Heap) (Γ : Nat → Addr) (k : Nat) (c : Nat) (T : List D → Sto → Prop) : Prop where
  sub : PySem.W.subIn K (.type "str") (.ref (Γ c)) = some false
  ex : ∃ g, PySem.W.findIn K (.ref (Γ c)) "__eq__" = some (some (.ref g)) ∧ PySem.W.isFn K (.ref g) = true ∧ FnNi P w K mg base Γ k g T
theorem pe_negc {X : Cx} {i : Int} {j} {p1 p2 : Pos} : PE X (.UnaryOp .USub (.Constant (.int i) j p1) p2) (tC (.int (-i))) := peImp (pe_un un_neg pe_int) fun σ H Q h => ⟨i, rfl, h⟩
theorem kw_binds {K : PySem.W.Frag} {y qual : Str} {params : Arguments} {body : List Stmt} {scope : Scope} {kws : List (Str × V)} {f : Addr} {fd : FuncData} {ps : List Str} {s : Shared} {us ws : List Value} (D : FunD K y qual params body scope [] kws f fd) (hw : ws.length = ps.length) (hl : (us ++ ws).length = ps.length)
    (h : ∀ (kV doc pm : Value) (an : Option Addr) (cdv ct : Value) (ws : List Value), ws.length = ps.length → bindArgs (PySem.W.fnOf y qual params body scope .none kV doc pm an cdv ct) ⟨[], ps.zip ws⟩ = pure (ps.zip ws)) : BindsTo s fd ⟨us, ps.zip ws⟩ (ps.zip (us ++ ws)) := by
  have e : us = [] := List.length_eq_zero_iff.mp (by rw [List.length_append] at hl; omega)
  subst e
  obtain ⟨oc, od, dV, kV, doc, pm, an, cdv, ct, osl, rfl, lk, hcd, hD, hK⟩ := D.ex
  rcases hD with ⟨_, rfl⟩ | ⟨e, _⟩
  · exact .of_eq (h kV doc pm an cdv ct ws hw)
  · exact absurd rfl e
theorem dCons_len0 {env : AEnv} {st st' : Sto} {ds : List D} (e : dNil env st = .ok ds st') : ds.length = 0 := by cases e; rfl
theorem dCons_len {f : EF} {fs : EFs} {n : Nat} {env : AEnv} {st st' : Sto} {ds : List D} (h : ∀ env st ds st', fs env st = .ok ds st' → ds.length = n) (e : dCons f fs env st = .ok ds st') : ds.length = n + 1 := by
  unfold dCons at e
  cases q : f env st with
  | ok d s1 =>
    rw [q] at e
    cases q2 : fs env s1 with
    | ok es s2 =>
      have e : (fs env s1).bind (fun ds st2 => Res.ok (d :: ds) st2) = .ok ds st' := e
      rw [q2] at e
      cases e
      rw [List.length_cons, h _ _ _ _ q2]
    | exc x s2 =>
      have e : (fs env s1).bind (fun ds st2 => Res.ok (d :: ds) st2) = .ok ds st' := e
      rw [q2] at e
      cases e
    | bad =>
      have e : (fs env s1).bind (fun ds st2 => Res.ok (d :: ds) st2) = .ok ds st' := e
      rw [q2] at e
      cases e
  | exc x s1 => rw [q] at e; cases e
  | bad => rw [q] at e; cases e
theorem dCons_len1 {f : EF} {env : AEnv} {st st' : Sto} {ds : List D} (e : dCons f dNil env st = .ok ds st') : ds.length = 1 := dCons_len (fun _ _ _ _ h => dCons_len0 h) e
end AM
namespace AM
open PySem PySem.Spec PyProof.Rows L2
def sPar (i j : Nat) (fs : EFs) : SF := fun env st => (fs env st).then fun ds st1 => match ds with
  | [d, e] => .nx ((env.set i (.sh d)).set j (.sh e)) st1
  | _ => .bad
theorem psd_par {X : Cx} {Γ : Nat → Addr} {W : WX} {i j : Nat} {x y : Str} {a b : Expr} {fs : EFs} {px py pt pos : Pos} {kt k2 pt2} (hc : X.calm = true) (hN : X.N.Nodup) (ha : PA X [a, b] (tDs (XC X Γ) W fs)) (hi : X.N[i]? = some x := by rfl) (hj : X.N[j]? = some y := by rfl) (hij : i ≠ j := by decide)
    (hx : X.env.scope.names.lookup x = some .local := by rfl) (hy : X.env.scope.names.lookup y = some .local := by rfl)
    (hw : swappedStores [.Tuple [.Name x px, .Name y py] kt pt] (.Tuple [a, b] k2 pt2) X.env = pure (some [x, y]) := by rfl) (hs : swapsWithSole [.Tuple [.Name x px, .Name y py] kt pt] (.Tuple [a, b] k2 pt2) pos.line X.env = pure false := by rfl) :
    PS X (.Assign [.Tuple [.Name x px, .Name y py] kt pt] (.Tuple [a, b] k2 pt2) pos) (tS (XC X Γ) W (sPar i j fs)) := psImp (ps_par hc hN hi hj hij hx hy ha hw hs) fun D σ H ⟨w, env, st, r, p⟩ => ⟨w, env, st, r, by
  have q := Post.then (Da := Dens) r p
  refine q.mono ?_
  rintro vs H1 ⟨w1, st1, ds, r1, x1, d1, p1⟩
  match ds, vs, d1, p1 with
  | [d, e], _, .cons (v := v) hd (.cons (v := u) he .nil), p1 =>
    refine ⟨v, u, rfl, ?_⟩
    have r2 := r1.setSh (i := i) hd
    have he2 : Den (XC X Γ) (w1.free i).ρ (w1.free i).S H1 u e := he.free
    have r3 := r2.setSh (i := j) he2
    exact p1 _ _ _ r3 ((free_ext r1).trans (free_ext r2))
  | [], _, _, p1 => exact p1.elim
  | [_], _, _, p1 => exact p1.elim
  | _ :: _ :: _ :: _, _, _, p1 => exact p1.elim⟩
end AM
namespace AM
open PySem PySem.Spec PyProof.Rows L2
theorem opd_inO {X : Cx} {Γ : Nat → Addr} {W : WX} {k : Nat} (G : Go X W k) : OpR X (compareOp .In) (rD2 (XC X Γ) W oIn) := opd_in (by have := G.rm.un; omega)
theorem opd_notInO {X : Cx} {Γ : Nat → Addr} {W : WX} {k : Nat} (G : Go X W k) : OpR X (compareOp .NotIn) (rD2 (XC X Γ) W oNotIn) := opd_notIn (by have := G.rm.un; omega)
end AM
namespace AM
open PySem PySem.Spec PyProof.Rows L2
section
variable {tup : Bool} {is vs : List Nat} {t : TF} {f : EF} {env : AEnv} {fi : IF} {st st' : Sto}
theorem compL_yes {acc ds : List D} {d y : D} {es : List D} {s1 s2 s3 : Sto} (e1 : tgC tup is d = some es) (e2 : t (putAll (wipeE env vs) is es) s1 = .ok true s2) (e3 : f (putAll (wipeE env vs) is es) s2 = .ok y s3) (hz : acc.length < sizeLine) :
    compL tup is vs t f env acc (d :: ds) s1 = compL tup is vs t f env (acc ++ [y]) ds s3 := by
  rw [compL, e1]
  simp only [e2, e3, Res.bindN, if_true, if_pos hz]
theorem compL_any (I : Sto → Prop) (P : D → Prop) : ∀ (ds acc : List D) (st : Sto), I st → (∀ d ∈ ds, ∀ st, I st → ∃ es y st', tgC tup is d = some es ∧ t (putAll (wipeE env vs) is es) st = .ok true st ∧ f (putAll (wipeE env vs) is es) st = .ok y st' ∧ P y ∧ I st') → acc.length + ds.length ≤ sizeLine →
    ∃ ys st', compL tup is vs t f env acc ds st = .ok (acc ++ ys) st' ∧ ys.length = ds.length ∧ (∀ y ∈ ys, P y) ∧ I st'
  | [], acc, st, hI, _, _ => ⟨[], st, by unfold compL; simp, rfl, (fun y hy => by simp at hy), hI⟩
  | d :: ds, acc, st, hI, h, hz => by
    obtain ⟨es, y, s1, e1, e2, e3, hy, h1⟩ := h d List.mem_cons_self st hI
    have hz' : acc.length + (ds.length + 1) ≤ sizeLine := hz
    obtain ⟨ys, s2, g1, g2, g3, g4⟩ := compL_any I P ds (acc ++ [y]) s1 h1 (fun d hd => h d (List.mem_cons_of_mem _ hd)) (by rw [List.length_append, List.length_singleton]; omega)
    refine ⟨y :: ys, s2, ?_, by rw [List.length_cons, List.length_cons, g2], fun z hz => ?_, g4⟩
    · rw [compL_yes e1 e2 e3 (by omega), g1, List.append_assoc]
      rfl
    · rcases List.mem_cons.mp hz with rfl | hz
      · exact hy
      · exact g3 z hz
theorem compF_any {items : List D} (I : Sto → Prop) (P : D → Prop) (ho : noOwn env vs = true) (hi : ∀ i ∈ is, i ∈ vs) (e : fi env st = .ok items st') (hI : I st') (h : ∀ d ∈ items, ∀ st, I st → ∃ es y st2, tgC tup is d = some es ∧ t (putAll (wipeE env vs) is es) st = .ok true st ∧ f (putAll (wipeE env vs) is es) st = .ok y st2 ∧ P y ∧ I st2)
    (hz : items.length ≤ sizeLine) : ∃ ys st2, compF fi tup is vs t f env st = .ok ys st2 ∧ ys.length = items.length ∧ (∀ y ∈ ys, P y) ∧ I st2 := by
  obtain ⟨ys, s2, g1, g2, g3, g4⟩ := compL_any (tup := tup) (is := is) (vs := vs) (t := t) (f := f) (env := env) I P items [] st' hI h (by simpa using hz)
  refine ⟨ys, s2, ?_, g2, g3, g4⟩
  unfold compF
  rw [if_pos ⟨ho, hi⟩, e]
  show onlyOk (compL tup is vs t f env [] items st') = _
  rw [g1]
  rfl
end
theorem strsD_map (ys : List Str) : strsD (ys.map D.str) = some ys := by
  induction ys with
  | nil => rfl
  | cons y ys ih => rw [List.map_cons]; unfold strsD; rw [ih]; rfl
theorem blsD_map (ys : List Bool) : blsD (ys.map D.bl) = some ys := by
  induction ys with
  | nil => rfl
  | cons y ys ih => rw [List.map_cons]; unfold blsD; rw [ih]; rfl
theorem sizeLine_val : sizeLine = 16777216 := sizeLine_eq
end AM
namespace AM
open PySem PySem.Spec PyProof.Rows L2
section
variable {α β : Type}
@[simp] theorem ev_bind_ok (a : α) (st : Sto) (k : α → Sto → Res β) : (Res.ok a st).bind k = k a st := rfl
@[simp] theorem ev_bind_exc (e : Exn) (st : Sto) (k : α → Sto → Res β) : (Res.exc e st : Res α).bind k = .exc e st := rfl
@[simp] theorem ev_bind_bad (k : α → Sto → Res β) : (Res.bad : Res α).bind k = .bad := rfl
@[simp] theorem ev_then_ok (a : α) (st : Sto) (k : α → Sto → SR) : (Res.ok a st).then k = k a st := rfl
@[simp] theorem ev_then_exc (e : Exn) (st : Sto) (k : α → Sto → SR) : (Res.exc e st : Res α).then k = .exc e st := rfl
@[simp] theorem ev_then_bad (k : α → Sto → SR) : (Res.bad : Res α).then k = .bad := rfl
@[simp] theorem ev_sb_nx (env : AEnv) (st : Sto) (k : AEnv → Sto → SR) : (SR.nx env st).bind k = k env st := rfl
@[simp] theorem ev_sb_rt (d : D) (st : Sto) (k : AEnv → Sto → SR) : (SR.rt d st).bind k = .rt d st := rfl
@[simp] theorem ev_sb_bk (env : AEnv) (st : Sto) (k : AEnv → Sto → SR) : (SR.bk env st).bind k = .bk env st := rfl
@[simp] theorem ev_sb_ct (env : AEnv) (st : Sto) (k : AEnv → Sto → SR) : (SR.ct env st).bind k = .ct env st := rfl
@[simp] theorem ev_sb_exc (e : Exn) (st : Sto) (k : AEnv → Sto → SR) : (SR.exc e st).bind k = .exc e st := rfl
@[simp] theorem ev_on_nx (env : AEnv) (st : Sto) : onlyNx (SR.nx env st) = .nx env st := rfl
@[simp] theorem ev_gNm (i : Nat) (d : D) (env : AEnv) (st : Sto) : gNm i d env st = .nx (env.set i (.sh d)) st := rfl
@[simp] theorem ev_gNilD (env : AEnv) (st : Sto) : gNilD [] env st = .nx env st := rfl
@[simp] theorem ev_gConsD (g : GF) (gs : GFs) (d : D) (ds : List D) (env : AEnv) (st : Sto) : gConsD g gs (d :: ds) env st = (onlyNx (g d env st)).bind fun env st => gs ds env st := rfl
@[simp] theorem ev_gTupD (n : Nat) (gs : GFs) (ds : List D) (env : AEnv) (st : Sto) : gTupD n gs (.tup ds) env st = if ds.length = n then gs ds env st else .bad := rfl
end
section
variable (env : AEnv) (st : Sto)
theorem ev_dVar (i : Nat) : dVar i env st = (match env[i]? with
  | some (.sh d) => .ok d st
  | _ => .bad) := rfl
@[simp] theorem ev_dVar0 (d : D) (r : AEnv) : dVar 0 (.sh d :: r) st = .ok d st := rfl
@[simp] theorem ev_dVarS (i : Nat) (s : Sl) (r : AEnv) : dVar (i + 1) (s :: r) st = dVar i r st := by
  rw [ev_dVar, ev_dVar, List.getElem?_cons_succ]
@[simp] theorem ev_dOwn0 (d : List D) (r : AEnv) : dOwn 0 (.own d :: r) st = .ok (.lst d) st := rfl
@[simp] theorem ev_dOwn0' (d : D) (r : AEnv) : dOwn 0 (.sh d :: r) st = .ok d st := rfl
@[simp] theorem ev_dOwnS (i : Nat) (s : Sl) (r : AEnv) : dOwn (i + 1) (s :: r) st = dOwn i r st := by
  unfold dOwn
  rw [List.getElem?_cons_succ]
@[simp] theorem ev_dC (d : D) : dC d env st = .ok d st := rfl
@[simp] theorem ev_dOp2 (k : Op2) (f g : EF) : dOp2 k f g env st = (f env st).bind fun a st1 => (g env st1).bind fun b st2 => k a b st2 := rfl
@[simp] theorem ev_dOp1 (k : Op1) (f : EF) : dOp1 k f env st = (f env st).bind fun d st => k d st := rfl
@[simp] theorem ev_gTru (f : EF) : gTru f env st = (f env st).bind fun d st => bOf (truD d) st := rfl
@[simp] theorem ev_gBl (f : EF) : gBl f env st = (f env st).bind fun d st => match d with
  | .bl b => .ok b st
  | _ => .bad := rfl
@[simp] theorem ev_dChain (k k' : Op2) (fa fb fc : EF) : dChain k k' fa fb fc env st = (fa env st).bind fun a st1 => (fb env st1).bind fun b st2 => (k a b st2).bind fun r st3 => match r with
  | .bl true => (fc env st3).bind fun c st4 => k' b c st4
  | .bl false => .ok (.bl false) st3
  | _ => .bad := rfl
@[simp] theorem ev_gAnd (g h : TF) : gAnd g h env st = (g env st).bind fun b st => if b = true then h env st else .ok false st := rfl
@[simp] theorem ev_gOr (g h : TF) : gOr g h env st = (g env st).bind fun b st => if b = true then .ok true st else h env st := rfl
@[simp] theorem ev_gNot (g : TF) : gNot g env st = (g env st).bind fun b st => .ok (!b) st := rfl
@[simp] theorem ev_dAnd (f g : EF) : dAnd f g env st = (f env st).bind fun d st => match d with
  | .bl true => g env st
  | .bl false => .ok (.bl false) st
  | _ => .bad := rfl
@[simp] theorem ev_dOr (f g : EF) : dOr f g env st = (f env st).bind fun d st => match d with
  | .bl true => .ok (.bl true) st
  | .bl false => g env st
  | _ => .bad := rfl
@[simp] theorem ev_dNot (f : EF) : dNot f env st = (f env st).bind fun d st => match d with
  | .bl b => .ok (.bl (!b)) st
  | _ => .bad := rfl
@[simp] theorem ev_dIf (g : TF) (f h : EF) : dIf g f h env st = (g env st).bind fun b st => if b = true then f env st else h env st := rfl
@[simp] theorem ev_dNeg (f : EF) : dNeg f env st = (f env st).bind fun d st => match d with
  | .int i => .ok (.int (-i)) st
  | _ => .bad := rfl
@[simp] theorem ev_dNil : dNil env st = .ok [] st := rfl
@[simp] theorem ev_dCons (f : EF) (fs : EFs) : dCons f fs env st = (f env st).bind fun d st1 => (fs env st1).bind fun ds st2 => .ok (d :: ds) st2 := rfl
@[simp] theorem ev_dTup (fs : EFs) : dTup fs env st = (fs env st).bind fun ds st => if ds.length ≤ sizeLine then .ok (.tup ds) st else .bad := rfl
@[simp] theorem ev_dLst (fs : EFs) : dLst fs env st = (fs env st).bind fun ds st => if ds.length ≤ sizeLine then .ok (.lst ds) st else .bad := rfl
@[simp] theorem ev_dLstF (fs : EFs) : dLstF fs env st = (fs env st).bind fun ds st => if ds.length ≤ sizeLine then .ok ds st else .bad := rfl
@[simp] theorem ev_oNo : oNo env st = .ok none st := rfl
@[simp] theorem ev_oSo (f : EF) : oSo f env st = (f env st).bind fun d st => match d with
  | .int i => .ok (some i) st
  | _ => .bad := rfl
@[simp] theorem ev_dSl (f : EF) (lo hi : OF) : dSl f lo hi env st = (f env st).bind fun d st1 => (lo env st1).bind fun l st2 => (hi env st2).bind fun h st3 => oSl d l h st3 := rfl
@[simp] theorem ev_dM1 (k : SOp1) (fa fb : EF) : dM1 k fa fb env st = (fa env st).bind (kM1 k fb env) := rfl
@[simp] theorem ev_kM1 (k : SOp1) (fb : EF) (s : Str) : kM1 k fb env (.str s) st = (fb env st).bind fun b st2 => k s b st2 := rfl
@[simp] theorem ev_dM0 (k : SOp0) (fa : EF) : dM0 k fa env st = (fa env st).bind (kM0 k) := rfl
@[simp] theorem ev_kM0 (k : SOp0) (s : Str) : kM0 k (.str s) st = k s st := rfl
@[simp] theorem ev_dJs0 (acc : Str) : dJs [] acc env st = .ok (.str acc) st := rfl
@[simp] theorem ev_dJs (f : EF) (fs : List EF) (acc : Str) : dJs (f :: fs) acc env st = (f env st).bind (kJ acc (dJs fs) env) := rfl
@[simp] theorem ev_kJ (acc : Str) (k : Str → AEnv → Sto → Res D) (y : Str) : kJ acc k env (.str y) st = if (acc ++ y).length ≤ sizeLine then k (acc ++ y) env st else .bad := rfl
@[simp] theorem ev_sSeq (g h : SF) : sSeq g h env st = (g env st).bind h := rfl
@[simp] theorem ev_sPass : sPass env st = .nx env st := rfl
@[simp] theorem ev_sRet (f : EF) : sRet f env st = (f env st).then fun d st => .rt d st := rfl
@[simp] theorem ev_sExpr (f : EF) : sExpr f env st = (f env st).then fun _ st => .nx env st := rfl
@[simp] theorem ev_sIf (t : TF) (g h : SF) : sIf t g h env st = (t env st).then fun b st => if b = true then g env st else h env st := rfl
@[simp] theorem ev_sSet (i : Nat) (f : EF) : sSet i f env st = (f env st).then fun d st => .nx (env.set i (.sh d)) st := rfl
@[simp] theorem ev_sAsg (f : EF) (g : GF) : sAsg f g env st = (f env st).then fun d st => onlyNx (g d env st) := rfl
@[simp] theorem ev_dF (f : AEnv → Sto → Res (List D)) : dF f env st = (f env st).bind fun ds st => .ok (.lst ds) st := rfl
@[simp] theorem ev_sOwn (i : Nat) (f : AEnv → Sto → Res (List D)) : sOwn i f env st = (f env st).then fun ds st => .nx (env.set i (.own ds)) st := rfl
@[simp] theorem ev_iSeq (f : EF) : iSeq f env st = (f env st).bind itemsD := rfl
theorem iRan_ok {f : EF} {env : AEnv} {st st' : Sto} {j : Int} (e : f env st = .ok (.int j) st') (h : okR j = true) : iRan f env st = .ok (rng 0 j.toNat) st' := by
  unfold iRan
  rw [e]
  exact if_pos h
theorem okR_of {j : Int} (h1 : -100000000 ≤ j) (h2 : j ≤ 100000000) : okR j = true := by
  unfold okR
  rw [Bool.and_eq_true, decide_eq_true_eq, decide_eq_true_eq]
  exact ⟨by omega, by omega⟩
@[simp] theorem ev_iEnm (f : EF) : iEnm f env st = (f env st).bind fun d st => match d with
  | .tup ds => .ok (enm ds) st
  | .lst ds => .ok (enm ds) st
  | _ => .bad := rfl
@[simp] theorem ev_dCall (F : DF) (fs : EFs) : dCall F fs env st = (fs env st).bind F := rfl
@[simp] theorem ev_dNew (f : AEnv → Sto → Res (List D)) : dNew f env st = (f env st).bind fun ds st => .ok (.hd st.length) (st ++ [.lst ds]) := rfl
@[simp] theorem ev_dFld (cs : List Nat) (x : Str) (fo : EF) : dFld cs x fo env st = (fo env st).bind fun d st => optR (fldOf cs x d st) st := rfl
@[simp] theorem ev_dProp (c : Nat) (F : DF) (fo : EF) : dProp c F fo env st = (fo env st).bind fun d st => if isI c d st = true then AM.noX (F [d] st) else .bad := rfl
@[simp] theorem ev_dOwn2 (c : Nat) (F : DF) (fa fb : EF) : dOwn2 c F fa fb env st = (fa env st).bind fun a st1 => (fb env st1).bind fun b st2 => if (isI c a st2 && isI c b st2) = true then F [a, b] st2 else .bad := rfl
@[simp] theorem ev_gTruC (c : Nat) (F : DF) (f : EF) : gTruC c F f env st = (f env st).bind fun d st => if isI c d st = true then (match F [d] st with
  | .ok (.bl b) st' => .ok b st'
  | _ => .bad) else .bad := rfl
@[simp] theorem ev_dDget (r : List (Key × D)) (fe ff : EF) : dDget r fe ff env st = (fe env st).bind fun d st1 => (ff env st1).bind fun z st2 => match keyD d with
  | some k => .ok ((valD r k).getD z) st2
  | none => .bad := rfl
@[simp] theorem ev_sPar (i j : Nat) (fs : EFs) : sPar i j fs env st = (fs env st).then fun ds st1 => match ds with
  | [d, e] => .nx ((env.set i (.sh d)).set j (.sh e)) st1
  | _ => .bad := rfl
@[simp] theorem ev_sFldD (cs : List Nat) (f : Str) (fo fv : EF) : sFldD cs f fo fv env st = (fv env st).then fun d st1 => (fo env st1).then fun o st2 => putFd cs f o d env st2 := rfl
@[simp] theorem ev_gIx (fo fi : EF) (d : D) : gIx fo fi d env st = (fo env st).then fun o st1 => (fi env st1).then fun i st2 => putIx o i d env st2 := rfl
@[simp] theorem ev_tYesD : tYesD env st = .ok true st := rfl
@[simp] theorem ev_tyL (b : Bool) : bOf (some b) st = .ok b st := rfl
@[simp] theorem ev_oOf (b : Bool) : oOf (some b) st = .ok (.bl b) st := rfl
@[simp] theorem ev_truBl (b : Bool) : truD (.bl b) = some b := rfl
@[simp] theorem ev_optR (d : D) : optR (some d) st = .ok d st := rfl
@[simp] theorem ev_int_tup (ds : List D) : itemsD (.tup ds) st = .ok ds st := rfl
@[simp] theorem ev_int_lst (ds : List D) : itemsD (.lst ds) st = .ok ds st := rfl
@[simp] theorem ev_int_fz (ds : List D) : itemsD (.fz ds) st = .ok ds st := rfl
@[simp] theorem ev_int_str (s : Str) : itemsD (.str s) st = .ok (signs s) st := rfl
@[simp] theorem ev_len_tup (ds : List D) : oLen (.tup ds) st = .ok (.int ds.length) st := rfl
@[simp] theorem ev_len_lst (ds : List D) : oLen (.lst ds) st = .ok (.int ds.length) st := rfl
@[simp] theorem ev_len_fz (ds : List D) : oLen (.fz ds) st = .ok (.int ds.length) st := rfl
@[simp] theorem ev_add (i j : Int) : oAdd (.int i) (.int j) st = .ok (.int (i + j)) st := rfl
@[simp] theorem ev_sub (i j : Int) : oSub (.int i) (.int j) st = .ok (.int (i - j)) st := rfl
@[simp] theorem ev_lt (i j : Int) : oLt (.int i) (.int j) st = .ok (.bl (decide (i < j))) st := rfl
@[simp] theorem ev_le (i j : Int) : oLe (.int i) (.int j) st = .ok (.bl (decide (i ≤ j))) st := rfl
@[simp] theorem ev_gt (i j : Int) : oGt (.int i) (.int j) st = .ok (.bl (decide (j < i))) st := rfl
@[simp] theorem ev_ge (i j : Int) : oGe (.int i) (.int j) st = .ok (.bl (decide (j ≤ i))) st := rfl
@[simp] theorem ev_abs (i : Int) : oAbs (.int i) st = .ok (.int (if i < 0 then -i else i)) st := rfl
@[simp] theorem ev_max (i j : Int) : oMax (.int i) (.int j) st = .ok (.int (if j > i then j else i)) st := rfl
@[simp] theorem ev_min (i j : Int) : oMin (.int i) (.int j) st = .ok (.int (if j < i then j else i)) st := rfl
@[simp] theorem ev_tupT1 (ds : List D) : oTupT (.tup ds) st = .ok (.tup ds) st := rfl
@[simp] theorem ev_tupT2 (ds : List D) : oTupT (.lst ds) st = .ok (.tup ds) st := rfl
@[simp] theorem ev_isNon (d : D) : oIs d .non st = .ok (.bl d.isNon) st := rfl
@[simp] theorem ev_isNotNon (d : D) : oIsNot d .non st = .ok (.bl (!d.isNon)) st := rfl
end
@[simp] theorem truD_int (i : Int) : truD (.int i) = some (i != 0) := rfl
@[simp] theorem ev_eqI (i j : Int) (st : Sto) : oEq (.int i) (.int j) st = .ok (.bl (i == j)) st := rfl
@[simp] theorem ev_neI (i j : Int) (st : Sto) : oNe (.int i) (.int j) st = .ok (.bl (!(i == j))) st := rfl
theorem shaped_str {x : Str} (h : PyData.strOk x = true) : SeqAt.shaped (.str x) = true := by
  unfold SeqAt.shaped
  rw [Bool.and_eq_true]
  exact ⟨by simpa [PyData.canLay0] using h, by simp [PyData.depth]⟩
theorem eqD_str {i j : Str} (hi : PyData.strOk i = true) (hj : PyData.strOk j = true) : eqD (.str i) (.str j) = some (i == j) := by
  unfold eqD
  show (if (SeqAt.shaped (.str i) && SeqAt.shaped (.str j)) = true then some (PyData.eqv (.str i) (.str j)) else none) = _
  rw [shaped_str hi, shaped_str hj, Bool.and_self, if_pos rfl, PyData.eqv]
theorem ev_eqS {i j : Str} (hi : PyData.strOk i = true) (hj : PyData.strOk j = true) (st : Sto) : oEq (.str i) (.str j) st = .ok (.bl (i == j)) st := by
  unfold oEq
  rw [eqD_str hi hj]
  rfl
theorem ev_neS {i j : Str} (hi : PyData.strOk i = true) (hj : PyData.strOk j = true) (st : Sto) : oNe (.str i) (.str j) st = .ok (.bl (!(i == j))) st := by
  unfold oNe
  rw [eqD_str hi hj]
  rfl
theorem runD_rt {n N : Nat} {g : SF} {ds : List D} {st st' : Sto} {d : D} (hl : ds.length = n) (h : g (ds.map Sl.sh ++ List.replicate (N - n) .un) st = .rt d st') : runD n N g ds st = .ok d st' := by
  unfold runD
  rw [if_pos hl, h]
theorem runD_nx {n N : Nat} {g : SF} {ds : List D} {env : AEnv} {st st' : Sto} (hl : ds.length = n) (h : g (ds.map Sl.sh ++ List.replicate (N - n) .un) st = .nx env st') : runD n N g ds st = .ok .non st' := by
  unfold runD
  rw [if_pos hl, h]
end AM
namespace AM
open PySem PySem.Spec PyProof.Rows L2 TL
theorem tl_mk' (a : List Nat) : tl (mk a) = a := rfl
theorem mkTl (s : Str) : mk (tl s) = s := mk_tl s
theorem mk_inj {a b : List Nat} : mk a = mk b ↔ a = b := ⟨fun h => by rw [← tl_mk' a, h, tl_mk'], fun h => by rw [h]⟩
theorem mk_beq (a b : List Nat) : (mk a == mk b) = decide (a = b) := by
  by_cases h : a = b
  · subst h; simp
  · rw [decide_eq_false h]
    exact beq_eq_false_iff_ne.mpr fun e => h (mk_inj.mp e)
def asc (l : List Nat) : Bool := l.all fun c => decide (c < 0x110000)
theorem strOk_mk {a : List Nat} (h : asc a = true) : PyData.strOk (mk a) = true := by
  unfold PyData.strOk mk
  rw [List.all_toArray]
  exact h
theorem asc_app (a b : List Nat) : asc (a ++ b) = (asc a && asc b) := List.all_append
theorem asc_cons (a : Nat) (b : List Nat) : asc (a :: b) = (decide (a < 0x110000) && asc b) := rfl
theorem ev_lenS {a : List Nat} (h : a.length ≤ 16777216) (st : Sto) : oLen (.str (mk a)) st = .ok (.int a.length) st := by
  unfold oLen
  show (if (mk a).length ≤ sizeLine then _ else _) = _
  rw [mk_len, if_pos (by rw [sizeLine_val]; exact h)]
theorem ev_fmtS {a : List Nat} (h : a.length ≤ 16777216) (st : Sto) : oFmt (.str (mk a)) st = .ok (.str (mk a)) st := by
  unfold oFmt
  show (if (mk a).length ≤ sizeLine then _ else _) = _
  rw [mk_len, if_pos (by rw [sizeLine_val]; exact h)]
theorem ev_slS {a : List Nat} (h : a.length ≤ 16777216) (lo hi : Option Int) (st : Sto) : oSl (.str (mk a)) lo hi st = .ok (.str (mk (cutL a lo hi))) st := by
  unfold oSl
  show (if (mk a).length ≤ sizeLine then _ else _) = _
  rw [mk_len, if_pos (by rw [sizeLine_val]; exact h)]
  rfl
theorem ev_addS {a b : List Nat} (h : a.length + b.length ≤ 16777216) (st : Sto) : oAdd (.str (mk a)) (.str (mk b)) st = .ok (.str (mk (a ++ b))) st := by
  unfold oAdd
  show (if (mk a).length + (mk b).length ≤ sizeLine then _ else _) = _
  rw [mk_len, mk_len, if_pos (by rw [sizeLine_val]; exact h), mk_app]
theorem ev_eqM {a b : List Nat} (ha : asc a = true) (hb : asc b = true) (st : Sto) : oEq (.str (mk a)) (.str (mk b)) st = .ok (.bl (decide (a = b))) st := by
  rw [ev_eqS (strOk_mk ha) (strOk_mk hb), mk_beq]
theorem ev_neM {a b : List Nat} (ha : asc a = true) (hb : asc b = true) (st : Sto) : oNe (.str (mk a)) (.str (mk b)) st = .ok (.bl (!decide (a = b))) st := by
  rw [ev_neS (strOk_mk ha) (strOk_mk hb), mk_beq]
theorem ev_partS {a b : List Nat} {c : Nat} (hc : c ∉ a) (h : a.length + b.length + 1 ≤ 16777216) (st : Sto) : sPartition (mk (a ++ c :: b)) (.str (mk [c])) st = .ok (.tup [.str (mk a), .str (mk [c]), .str (mk b)]) st := by
  unfold sPartition
  show (if ((mk [c]).length == 0) = false ∧ (mk (a ++ c :: b)).length ≤ sizeLine then _ else _) = _
  rw [mk_len, if_pos ⟨rfl, by rw [mk_len, sizeLine_val, List.length_append, List.length_cons]; omega⟩]
  have e : mk (a ++ c :: b) = mk a ++ mk [c] ++ mk b := by rw [mk_app, mk_app, List.append_assoc]; rfl
  rw [e, partition_app (y := mk [c]) (s := c) (S := []) rfl hc]
theorem ev_partN {a : List Nat} {c : Nat} (hc : c ∉ a) (h : a.length ≤ 16777216) (st : Sto) : sPartition (mk a) (.str (mk [c])) st = .ok (.tup [.str (mk a), .str (mk []), .str (mk [])]) st := by
  unfold sPartition
  show (if ((mk [c]).length == 0) = false ∧ (mk a).length ≤ sizeLine then _ else _) = _
  rw [mk_len, if_pos ⟨rfl, by rw [mk_len, sizeLine_val]; exact h⟩, partition_none (y := mk [c]) (s := c) (S := []) rfl hc]
  rfl
theorem join_mk (s : List Nat) (ps : List (List Nat)) : Txt.join (mk s) (ps.map mk) = mk (joinL s ps) := by
  rw [join_eq]
  refine ext_tl ?_
  rw [tl_join]
  have e : (ps.map mk).map tl = ps := by
    rw [List.map_map]
    exact List.map_id'' (fun _ => rfl) ps
  rw [e]
  rfl
theorem split_mk {c : Nat} {ps : List (List Nat)} (hc : c < 256) (hne : ps ≠ []) (h : ∀ p ∈ ps, c ∉ p) : Txt.split (mk (joinL [c] ps)) (mk [c]) = ps.map mk := by
  rw [← join_mk]
  refine split_join (y := mk [c]) (s := c) (S := []) rfl ?_ ?_ ?_
  · show #[c].all (· < 256) = true
    simp [hc]
  · intro e
    exact hne (List.map_eq_nil_iff.mp e)
  · intro p hp
    obtain ⟨q, hq, rfl⟩ := List.mem_map.mp hp
    exact h q hq
theorem ev_joinS {s : List Nat} {ps : List (List Nat)} {ds : List D} (e : ds = ps.map fun p => D.str (mk p)) (h : (ps.map List.length).sum + ps.length * s.length ≤ 16777216) (st : Sto) : sJoin (mk s) (.lst ds) st = .ok (.str (mk (joinL s ps))) st := by
  subst e
  unfold sJoin
  show sJoin.go (mk s) (strsD (ps.map fun p => D.str (mk p))) st = _
  have e : (ps.map fun p => D.str (mk p)) = (ps.map mk).map D.str := by rw [List.map_map]; rfl
  rw [e, strsD_map]
  show (if joinOk (mk s) (ps.map mk) = true then _ else _) = _
  rw [if_pos ?_, join_mk]
  unfold joinOk
  rw [List.map_map, List.length_map, mk_len]
  have e2 : (Str.length ∘ mk) = List.length := funext fun l => mk_len l
  show decide ((ps.map (Str.length ∘ mk)).sum + ps.length * s.length ≤ 16777216) = true
  rw [e2]
  exact decide_eq_true h
theorem ev_splitS {c : Nat} {ps : List (List Nat)} (hc : c < 256) (hne : ps ≠ []) (h : ∀ p ∈ ps, c ∉ p) (hz : (joinL [c] ps).length + 2 ≤ 16777216) (st : Sto) : sSplit (mk (joinL [c] ps)) (.str (mk [c])) st = .ok (.lst (ps.map fun p => .str (mk p))) st := by
  unfold sSplit
  show (if ((mk [c]).length == 0) = false ∧ (mk (joinL [c] ps)).length + 2 ≤ sizeLine then _ else _) = _
  rw [mk_len, if_pos ⟨rfl, by rw [mk_len, sizeLine_val]; exact hz⟩, split_mk hc hne h, List.map_map]
  rfl
theorem joinL_len (s : List Nat) : ∀ ps : List (List Nat), (joinL s ps).length ≤ (ps.map List.length).sum + ps.length * s.length
  | [] => by simp [joinL]
  | [p] => by simp [joinL]
  | p :: q :: r => by
    have ih := joinL_len s (q :: r)
    rw [joinL, List.length_append, List.length_append, List.map_cons, List.sum_cons, List.length_cons, Nat.succ_mul]
    omega
theorem joinL_nil : ∀ ps : List (List Nat), joinL [] ps = ps.flatten
  | [] => rfl
  | [p] => by simp [joinL]
  | p :: q :: r => by
    rw [joinL, joinL_nil (q :: r)]
    simp
theorem signs_mk (a : List Nat) : signs (mk a) = a.map fun c => .str (mk [c]) := rfl
def numI (i : Int) : List Nat := tl (Str.ofString (toString i))
theorem mk_numI (i : Int) : Str.ofString (toString i) = mk (numI i) := (mkTl _).symm
theorem numI_nn {i : Int} (h : 0 ≤ i) : numI i = numL i.natAbs := by
  obtain ⟨n, rfl⟩ := Int.eq_ofNat_of_zero_le h
  exact tl_num n
theorem numI_neg {i : Int} (h : i < 0) : numI i = 45 :: numL i.natAbs := by
  obtain ⟨m, rfl⟩ := Int.eq_negSucc_of_lt_zero h
  unfold numI
  have e : toString (Int.negSucc m) = "-" ++ Nat.repr (m + 1) := rfl
  rw [e, tl_ofString, String.toList_append, List.map_append]
  show [45] ++ _ = 45 :: numL (m + 1)
  rw [← tl_num, tl_ofString]
  rfl
theorem numI_len {i : Int} {k : Nat} (hk : 0 < k) (h : i.natAbs < 10 ^ k) : (numI i).length ≤ k + 1 := by
  by_cases hi : 0 ≤ i
  · rw [numI_nn hi]
    have := numL_len hk h
    omega
  · rw [numI_neg (by omega), List.length_cons]
    have := numL_len hk h
    omega
theorem int_numI {i : Int} (h : i.natAbs < 10 ^ 600) : intText? (mk (numI i)) = some i := by
  have hl := numL_len (by decide : 0 < 600) h
  by_cases hi : 0 ≤ i
  · rw [numI_nn hi]
    have e := PySem.intText_digits (x := mk (numL i.natAbs)) (numL_digits _) (numL_ne _) (by rw [mk_len]; omega)
    rw [e]
    show some ((NumText.digitsVal (numL i.natAbs) : Nat) : Int) = _
    rw [numL_val]
    congr 1
    omega
  · rw [numI_neg (by omega)]
    have e := PySem.intText_neg (x := mk (45 :: numL i.natAbs)) (cs := numL i.natAbs) rfl (numL_digits _) (numL_ne _) (by rw [mk_len, List.length_cons]; omega)
    rw [e, numL_val]
    congr 1
    omega
theorem log_lt {i : Int} (h : i.natAbs < 10 ^ 500) : i.natAbs.log2 < 1920 := by
  by_cases h0 : i.natAbs = 0
  · rw [h0]; decide
  · exact (Nat.log2_lt h0).mpr (Nat.lt_of_lt_of_le h (by decide))
theorem ev_fmtI {i : Int} (h : i.natAbs < 10 ^ 500) (st : Sto) : oFmt (.int i) st = .ok (.str (mk (numI i))) st := by
  unfold oFmt
  show (if i.natAbs.log2 < 1920 then _ else _) = _
  rw [if_pos (log_lt h), mk_numI]
theorem ev_strI {i : Int} (h : i.natAbs < 10 ^ 500) (st : Sto) : oStrT (.int i) st = .ok (.str (mk (numI i))) st := by
  unfold oStrT
  show (if i.natAbs.log2 < 1920 then _ else _) = _
  rw [if_pos (log_lt h), mk_numI]
theorem ev_intS {i : Int} (h : i.natAbs < 10 ^ 500) (st : Sto) : oIntT (.str (mk (numI i))) st = .ok (.int i) st := by
  unfold oIntT
  show (match PySem.intText? (mk (numI i)) with
    | some n => if (mk (numI i)).length ≤ 640 then Res.ok (D.int n) st else .bad
    | none => .bad) = _
  rw [int_numI (Nat.lt_of_lt_of_le h (by decide))]
  show (if (mk (numI i)).length ≤ 640 then Res.ok (D.int i) st else .bad) = _
  have := numI_len (by decide) h
  rw [mk_len, if_pos (by omega)]
theorem numI_asc (i : Int) : asc (numI i) = true := by
  unfold asc
  rw [List.all_eq_true]
  intro c hc
  by_cases hi : 0 ≤ i
  · rw [numI_nn hi] at hc
    have := numL_digits _ c hc
    exact decide_eq_true (by omega)
  · rw [numI_neg (by omega)] at hc
    rcases List.mem_cons.mp hc with rfl | hc
    · rfl
    · have := numL_digits _ c hc
      exact decide_eq_true (by omega)
theorem numI_free {i : Int} {s : Nat} (h : s < 48 ∨ 57 < s) (h2 : s ≠ 45) : s ∉ numI i := fun hc => by
  by_cases hi : 0 ≤ i
  · rw [numI_nn hi] at hc
    exact numL_free h hc
  · rw [numI_neg (by omega)] at hc
    rcases List.mem_cons.mp hc with e | hc
    · exact h2 e
    · exact numL_free h hc
theorem numI_ne (i : Int) : numI i ≠ [] := by
  by_cases hi : 0 ≤ i
  · rw [numI_nn hi]; exact numL_ne _
  · rw [numI_neg (by omega)]; simp
mutual
def shL : PyData → Nat
  | .none => 4
  | .bool _ => 5
  | .int i => i.natAbs.log2 + 2
  | .str x => 10 * x.length + 2
  | .list xs => shLs xs + 3
  | .tuple xs => shLs xs + 3
  | .dict _ => 0
def shLs : List PyData → Nat
  | [] => 0
  | x :: xs => shL x + 2 + shLs xs
end
mutual
theorem shL_ok : ∀ d : PyData, d.canLay0 = true → (PyData.shown d).length ≤ shL d
  | .none, _ => by simp only [PyData.shown, shL]; decide
  | .bool b, _ => by cases b <;> simp only [PyData.shown, shL] <;> decide
  | .int i, _ => by
    simp only [PyData.shown, shL]
    have := PySem.int_text_length_le (a := i) (k := i.natAbs.log2 + 1) (by omega) (by omega)
    have e : (Str.ofString (toString i)).length = (toString i).length := by
      rw [len_tl, tl_ofString, List.length_map]
      rfl
    rw [e]
    omega
  | .str x, h => by
    simp only [PyData.shown, shL]
    refine PySem.StrLaws.reprText_len x fun c hc => ?_
    have h' : PyData.strOk x = true := by simpa [PyData.canLay0] using h
    unfold PyData.strOk at h'
    rw [Array.all_eq_true_iff_forall_mem] at h'
    have := of_decide_eq_true (h' c (Array.mem_toList_iff.mp hc))
    omega
  | .list xs, h => by
    simp only [PyData.shown, shL]
    have := listText_len_le (PyData.shownAll xs)
    have h2 := shLs_ok xs (by simpa [PyData.canLay0] using h)
    omega
  | .tuple xs, h => by
    simp only [PyData.shown, shL]
    have := tupleText_len_le (PyData.shownAll xs)
    have h2 := shLs_ok xs (by simpa [PyData.canLay0] using h)
    omega
  | .dict _, h => by simp [PyData.canLay0] at h
theorem shLs_ok : ∀ ds : List PyData, PyData.canLayAll0 ds = true → ((PyData.shownAll ds).map (·.length)).sum + 2 * (PyData.shownAll ds).length ≤ shLs ds
  | [], _ => by simp [PyData.shownAll, shLs]
  | d :: ds, h => by
    simp only [PyData.canLayAll0, Bool.and_eq_true] at h
    have h1 := shL_ok d h.1
    have h2 := shLs_ok ds h.2
    simp only [PyData.shownAll, shLs, List.map_cons, List.sum_cons, List.length_cons]
    omega
end
def shD (d : D) : Bool := match d.py with
  | some x => SeqAt.shaped x
  | none => false
end AM
namespace AM
open PySem PySem.Spec PyProof.Rows L2 TL
theorem ev_mulL {i : Int} (h : small64 i = true) (j : Int) (st : Sto) : oMul (.int i) (.int j) st = .ok (.int (i * j)) st := by
  show (if (small64 i || small64 j) = true then _ else _) = _
  rw [h]; rfl
theorem ev_mulR {j : Int} (h : small64 j = true) (i : Int) (st : Sto) : oMul (.int i) (.int j) st = .ok (.int (i * j)) st := by
  show (if (small64 i || small64 j) = true then _ else _) = _
  rw [h, Bool.or_true]; rfl
theorem ev_mod {i j : Int} (h : 0 < j) (st : Sto) : oMod (.int i) (.int j) st = .ok (.int (i % j)) st := by
  show (if 0 < j then _ else _) = _
  rw [if_pos h]
theorem ev_div {i j : Int} (h : 0 < j) (h2 : j < 1073741824) (st : Sto) : oDiv (.int i) (.int j) st = .ok (.int (i / j)) st := by
  show (if 0 < j ∧ j < 1073741824 then _ else _) = _
  rw [if_pos ⟨h, h2⟩]
theorem ev_divmodW {i j : Int} (h : 0 < j) (h2 : j.natAbs.log2 < 9000) (st : Sto) : oDivmod (.int i) (.int j) st = .ok (.tup [.int (i / j), .int (i % j)]) st := by
  show (if 0 < j ∧ j.natAbs.log2 < 9000 then _ else _) = _
  rw [if_pos ⟨h, h2⟩]
theorem ev_divmod {i j : Int} (h : 0 < j) (h2 : j < 1073741824) (st : Sto) : oDivmod (.int i) (.int j) st = .ok (.tup [.int (i / j), .int (i % j)]) st := by
  have z : j.natAbs.log2 < 30 := (Nat.log2_lt (by omega)).mpr (by have e : (2 : Nat) ^ 30 = 1073741824 := by decide
                                                                  rw [e]; omega)
  exact ev_divmodW h (by omega) st
@[simp] theorem ev_intI (i : Int) (st : Sto) : oIntT (.int i) st = .ok (.int i) st := rfl
theorem ev_ixHd {n : Nat} {st : Sto} {ds : List D} {i : Int} {d : D} (h : st[n]? = some (.lst ds)) (e : atI ds i = some d) : oIx (.hd n) (.int i) st = .ok d st := by
  unfold oIx
  simp only [h]
  rw [e]; rfl
theorem ev_ixL {ds : List D} {i : Int} {d : D} (e : atI ds i = some d) (st : Sto) : oIx (.lst ds) (.int i) st = .ok d st := by
  unfold oIx
  simp only
  rw [e]; rfl
theorem ev_ixF {ds : List D} {i : Int} {d : D} (e : atI ds i = some d) (st : Sto) : oIx (.fz ds) (.int i) st = .ok d st := by
  unfold oIx
  simp only
  rw [e]; rfl
theorem atI_pos {ds : List D} {i : Int} (h0 : 0 ≤ i) (h1 : i < ds.length) : atI ds i = ds[i.toNat]? := by
  unfold atI ixN
  rw [if_pos h0, if_pos h1]
  rfl
theorem atI_nat {ds : List D} {i : Int} (h0 : 0 ≤ i) (h1 : i < ds.length) : ∃ d, atI ds i = some d ∧ d ∈ ds := by
  have hi : i.toNat < ds.length := by omega
  refine ⟨ds[i.toNat], ?_, List.getElem_mem hi⟩
  rw [atI_pos h0 h1]
  exact List.getElem?_eq_getElem hi
theorem all_ok {f : IF} {env : AEnv} {st st' : Sto} {bs : List Bool} (e : f env st = .ok (bs.map D.bl) st') : dOp1 oAll (dF f) env st = .ok (.bl (bs.all id)) st' := by
  show ((f env st).bind fun ds st => Res.ok (D.lst ds) st).bind oAll = _
  rw [e]
  show oOf ((blsD (bs.map D.bl)).map fun bs => bs.all id) st' = _
  rw [blsD_map]
  rfl
theorem any_ok {f : IF} {env : AEnv} {st st' : Sto} {bs : List Bool} (e : f env st = .ok (bs.map D.bl) st') : dOp1 oAny (dF f) env st = .ok (.bl (bs.any id)) st' := by
  show ((f env st).bind fun ds st => Res.ok (D.lst ds) st).bind oAny = _
  rw [e]
  show oOf ((blsD (bs.map D.bl)).map fun bs => bs.any id) st' = _
  rw [blsD_map]
  rfl
theorem comp1 {α : Type} {fi : IF} {i : Nat} {f : EF} {env : AEnv} {st st' : Sto} {xs : List α} {g y : α → D} (ho : noOwn env [i] = true) (e : fi env st = .ok (xs.map g) st') (h : ∀ x ∈ xs, f ((env.set i .un).set i (.sh (g x))) st' = .ok (y x) st') (hz : xs.length ≤ 16777216) :
    compF fi false [i] [i] tYesD f env st = .ok (xs.map y) st' := by
  unfold compF
  rw [if_pos ⟨ho, by simp⟩, e]
  show onlyOk (compL false [i] [i] tYesD f env [] (xs.map g) st') = _
  have key : ∀ (xs : List α) (acc : List D), (∀ x ∈ xs, f ((env.set i .un).set i (.sh (g x))) st' = .ok (y x) st') → acc.length + xs.length ≤ 16777216 → compL false [i] [i] tYesD f env acc (xs.map g) st' = .ok (acc ++ xs.map y) st' := by
    intro xs
    induction xs with
    | nil => intro acc _ _; unfold compL; simp
    | cons x xs ih =>
      intro acc h hz
      rw [List.length_cons] at hz
      rw [List.map_cons, compL_yes (es := [g x]) rfl rfl (h x List.mem_cons_self) (by rw [sizeLine_val]; omega), ih _ (fun x hx => h x (List.mem_cons_of_mem _ hx)) (by rw [List.length_append, List.length_singleton]; omega), List.append_assoc]
      rfl
  rw [key xs [] h (by simpa using hz)]
  rfl
inductive JsOk (env : AEnv) (st : Sto) : List EF → List (List Nat) → Prop where
  | nil : JsOk env st [] []
  | cons {f : EF} {y : List Nat} {fs : List EF} {ys : List (List Nat)} (h : f env st = .ok (.str (mk y)) st) (r : JsOk env st fs ys) : JsOk env st (f :: fs) (y :: ys)
theorem js_ok {env : AEnv} {st : Sto} : ∀ {fs : List EF} {ys : List (List Nat)} {acc : List Nat}, JsOk env st fs ys → acc.length + ys.flatten.length ≤ 16777216 → dJs fs (mk acc) env st = .ok (.str (mk (acc ++ ys.flatten))) st
  | _, _, acc, .nil, _ => by rw [ev_dJs0, List.flatten_nil, List.append_nil]
  | _, _, acc, .cons (y := y) (ys := ys) h r, hz => by
    rw [List.flatten_cons, List.length_append] at hz
    rw [ev_dJs, h, ev_bind_ok, ev_kJ, mk_app, if_pos (by rw [mk_len, List.length_append, sizeLine_val]; omega), js_ok r (by rw [List.length_append]; omega), List.append_assoc]
    rfl
theorem cut_head (l : List Nat) : cutL l none (some 1) = l.take 1 := by
  unfold cutL
  rw [HT.sIx_none, show HT.sIx l.length l.length (some (1 : Int)) = min 1 l.length from HT.sIx_nat _ _ 1, List.drop_zero, Nat.sub_zero]
  rcases l with _ | ⟨a, l⟩
  · rfl
  · rw [Nat.min_eq_left (by simp)]
theorem cut_tail (l : List Nat) : cutL l (some 1) none = l.drop 1 := by
  unfold cutL
  rw [HT.sIx_none, show HT.sIx l.length 0 (some (1 : Int)) = min 1 l.length from HT.sIx_nat _ _ 1]
  rcases l with _ | ⟨a, l⟩
  · rfl
  · rw [Nat.min_eq_left (by simp)]
    rw [List.take_of_length_le]
    rw [List.length_drop]
    exact Nat.le_refl _
theorem app_ok {i : Nat} {f : EF} {env : AEnv} {st st1 : Sto} {d : D} {ds : List D} (h : env[i]? = some (.own ds)) (e : f env st = .ok d st1) (hz : ds.length < 16777216) : sApp i f env st = .nx (env.set i (.own (ds ++ [d]))) st1 := by
  unfold sApp
  simp only [h]
  rw [e]
  show (if ds.length < sizeLine then _ else _) = _
  rw [if_pos (by rw [sizeLine_val]; exact hz)]
def sipF : DF := runD 2 3 (sSeq (sAsg (dOp2 oMod (dOp1 oIntT (dOp2 oAdd (dOp2 oMul (dOp2 oIx (dVar 0) (dC (.int 0))) (dC (.int 48271))) (dC (.int 11)))) (dC (.int 2147483629))) (gIx (dVar 0) (dC (.int 0)))) (sSeq (sIf (gBl (dOp2 oGt (dOp2 oIx (dVar 0) (dC (.int 1))) (dC (.int 0)))) (sSeq (sAsg (dOp2 oDivmod (dOp2 oIx (dVar 0) (dC (.int 1))) (dVar 1)) (gTupD 2 (gConsD (gIx (dVar 0) (dC (.int 1))) (gConsD (gNm 2) gNilD)))) (sRet (dVar 2))) sPass) (sRet (dOp2 oMod (dOp1 oIntT (dOp2 oDiv (dOp2 oIx (dVar 0) (dC (.int 0))) (dC (.int 1021)))) (dVar 1)))))
def pickF : DF := runD 2 2 (sRet (dOp2 oIx (dVar 1) (dCall sipF (dCons (dVar 0) (dCons (dOp1 oLen (dVar 1)) dNil)))))
def cupF : DF := runD 2 4 (sSeq (sSet 2 (dIf (gBl (dOp2 oLt (dVar 1) (dOp1 oLen (dVar 0)))) (dOp2 oIx (dVar 0) (dVar 1)) (dOp2 oAdd (dOp2 oMul (dC (.int 7919)) (dVar 1)) (dC (.int 104729))))) (sSeq (sFor (iSeq (dIf (gBl (dOp2 oGe (dVar 1) (dOp1 oLen (dVar 0)))) (dSl (dVar 0) oNo (oSo (dC (.int 2)))) (dLst dNil))) (gNm 3) (sSet 2 (dOp2 oMod (dOp1 oIntT (dOp2 oAdd (dOp2 oMul (dVar 2) (dC (.int 31))) (dVar 3))) (dC (.int 1000000007))))) (sRet (dNew (dLstF (dCons (dOp2 oMod (dOp1 oIntT (dOp2 oAdd (dOp2 oAdd (dOp2 oMul (dVar 2) (dC (.int 4099))) (dOp2 oMul (dC (.int 271)) (dVar 1))) (dC (.int 17)))) (dC (.int 2147483629))) (dCons (dIf (gOr (gBl (dOp2 oLt (dVar 2) (dC (.int 0)))) (gBl (dOp2 oGe (dVar 2) (dOp2 oPow (dC (.int 10)) (dC (.int 18)))))) (dOp1 oAbs (dVar 2)) (dC (.int 0))) dNil)))))))
def Cup (h : Nat) (st : Sto) : Prop := ∃ a b : Int, st[h]? = some (.lst [.int a, .int b])
def Mv (h : Nat) (st st' : Sto) : Prop := Cup h st' ∧ ∃ a b : Int, st' = st.set h (.lst [.int a, .int b])
theorem Cup.lt {h : Nat} {st : Sto} (c : Cup h st) : h < st.length := by
  obtain ⟨a, b, e⟩ := c
  exact (List.getElem?_eq_some_iff.mp e).1
theorem Mv.len {h : Nat} {st st' : Sto} (m : Mv h st st') : st'.length = st.length := by
  obtain ⟨_, a, b, rfl⟩ := m
  exact List.length_set
theorem Mv.off {h : Nat} {st st' : Sto} (m : Mv h st st') {n : Nat} (hn : n ≠ h) : st'[n]? = st[n]? := by
  obtain ⟨_, a, b, rfl⟩ := m
  exact List.getElem?_set_ne (by omega)
theorem Mv.of {h : Nat} {st : Sto} (c : h < st.length) (a b : Int) : Mv h st (st.set h (.lst [.int a, .int b])) :=
  ⟨⟨a, b, by rw [List.getElem?_set_self c]⟩, a, b, rfl⟩
theorem Mv.refl {h : Nat} {st : Sto} (c : Cup h st) : Mv h st st := by
  obtain ⟨a, b, e⟩ := c
  refine ⟨⟨a, b, e⟩, a, b, ?_⟩
  obtain ⟨h1, h2⟩ := List.getElem?_eq_some_iff.mp e
  rw [← h2, List.set_getElem_self]
theorem Mv.trans {h : Nat} {s1 s2 s3 : Sto} (a : Mv h s1 s2) (b : Mv h s2 s3) : Mv h s1 s3 := by
  obtain ⟨c, x, y, rfl⟩ := b
  obtain ⟨_, x', y', rfl⟩ := a
  exact ⟨c, x, y, List.set_set ..⟩
theorem sip_ok {h : Nat} {st : Sto} {m : Int} (c : Cup h st) (h0 : 0 < m) (h1 : m < 1073741824) : ∃ (r : Int) (st' : Sto), sipF [.hd h, .int m] st = .ok (.int r) st' ∧ 0 ≤ r ∧ r < m ∧ Mv h st st' := by
  obtain ⟨a, b, e⟩ := c
  have hl : h < st.length := (List.getElem?_eq_some_iff.mp e).1
  let a' := (a * 48271 + 11) % 2147483629
  have e1 : (st.set h (.lst [.int a', .int b]))[h]? = some (.lst [.int a', .int b]) := by rw [List.getElem?_set_self hl]
  have s1 : putIx (.hd h) (.int 0) (.int a') [.sh (.hd h), .sh (.int m), .un] st = .nx [.sh (.hd h), .sh (.int m), .un] (st.set h (.lst [.int a', .int b])) := by
    unfold putIx
    simp only [e]
    rfl
  by_cases hb : 0 < b
  · refine ⟨b % m, (st.set h (.lst [.int a', .int b])).set h (.lst [.int a', .int (b / m)]), ?_, Int.emod_nonneg _ (by omega), Int.emod_lt_of_pos _ h0, (Mv.of hl a' b).trans (Mv.of (by rw [List.length_set]; exact hl) a' (b / m))⟩
    have s2 : putIx (.hd h) (.int 1) (.int (b / m)) [.sh (.hd h), .sh (.int m), .un] (st.set h (.lst [.int a', .int b])) = .nx [.sh (.hd h), .sh (.int m), .un] ((st.set h (.lst [.int a', .int b])).set h (.lst [.int a', .int (b / m)])) := by
      unfold putIx
      simp only [e1]
      rfl
    unfold sipF
    refine runD_rt rfl ?_
    simp [ev_ixHd e (i := 0) (d := .int a) rfl, ev_mulR (j := 48271) rfl, ev_mod]
    rw [s1]
    simp [ev_ixHd e1 (i := 1) (d := .int b) rfl, hb, ev_divmod h0 h1]
    rw [s2]
    simp
  · refine ⟨a' / 1021 % m, st.set h (.lst [.int a', .int b]), ?_, Int.emod_nonneg _ (by omega), Int.emod_lt_of_pos _ h0, Mv.of hl a' b⟩
    unfold sipF
    refine runD_rt rfl ?_
    simp [ev_ixHd e (i := 0) (d := .int a) rfl, ev_mulR (j := 48271) rfl, ev_mod]
    rw [s1]
    simp [ev_ixHd e1 (i := 1) (d := .int b) rfl, ev_ixHd e1 (i := 0) (d := .int a') rfl, hb, ev_div, ev_mod h0]
theorem pick_ok {h : Nat} {st : Sto} {ds : List D} (c : Cup h st) (h0 : 0 < ds.length) (h1 : ds.length < 1073741824) : ∃ d st', pickF [.hd h, .lst ds] st = .ok d st' ∧ d ∈ ds ∧ Mv h st st' := by
  obtain ⟨r, st', e, g0, g1, g2⟩ := sip_ok (m := ds.length) c (by omega) (by omega)
  obtain ⟨d, e2, e3⟩ := atI_nat g0 g1
  refine ⟨d, st', ?_, e3, g2⟩
  unfold pickF
  refine runD_rt rfl ?_
  simp [e, ev_ixL e2]
theorem cup_ok {ns : List Int} {i : Int} (h0 : 0 ≤ i) (hi : i < 64) (st : Sto) : ∃ a b : Int, cupF [.fz (ns.map D.int), .int i] st = .ok (.hd st.length) (st ++ [.lst [.int a, .int b]]) := by
  have hs : small64 i = true := by simp [small64]; omega
  unfold cupF
  have key : ∀ (x : Int) (y : Sl) (st : Sto), ∃ a b : Int, (sRet (dNew (dLstF (dCons (dOp2 oMod (dOp1 oIntT (dOp2 oAdd (dOp2 oAdd (dOp2 oMul (dVar 2) (dC (.int 4099))) (dOp2 oMul (dC (.int 271)) (dVar 1))) (dC (.int 17)))) (dC (.int 2147483629))) (dCons (dIf (gOr (gBl (dOp2 oLt (dVar 2) (dC (.int 0)))) (gBl (dOp2 oGe (dVar 2) (dOp2 oPow (dC (.int 10)) (dC (.int 18)))))) (dOp1 oAbs (dVar 2)) (dC (.int 0))) dNil)))) : SF) [.sh (.fz (ns.map D.int)), .sh (.int i), .sh (.int x), y] st = .rt (.hd st.length) (st ++ [.lst [.int a, .int b]]) := by
    intro x y st
    have e10 : ∀ st, oPow (.int 10) (.int 18) st = .ok (.int (10 ^ 18)) st := fun st => rfl
    by_cases hx : x < 0 ∨ 10 ^ 18 ≤ x
    · refine ⟨(x * 4099 + 271 * i + 17) % 2147483629, (if x < 0 then -x else x), ?_⟩
      simp [ev_mulR (j := 4099) rfl, ev_mulL (i := 271) rfl, ev_mod, e10]
      by_cases h1 : x < 0
      · simp [h1, sizeLine_val]
      · have h2 : 10 ^ 18 ≤ x := hx.resolve_left h1
        simp [h1, h2, sizeLine_val]
        simp at h2
        simp [h2]
    · refine ⟨(x * 4099 + 271 * i + 17) % 2147483629, 0, ?_⟩
      simp [ev_mulR (j := 4099) rfl, ev_mulL (i := 271) rfl, ev_mod, e10]
      have h1 : ¬ x < 0 := fun h => hx (Or.inl h)
      have h2 : ¬ 10 ^ 18 ≤ x := fun h => hx (Or.inr h)
      simp at h2
      simp [h1, h2, sizeLine_val]
      have h3 : ¬ 1000000000000000000 ≤ x := by omega
      simp [h3]
  have fin : ∀ {g : SF} {x : Int} {y : Sl} {st : Sto} {e0 : AEnv}, g e0 st = .nx [.sh (.fz (ns.map D.int)), .sh (.int i), .sh (.int x), y] st → ∃ a b : Int, (sSeq g (sRet (dNew (dLstF (dCons (dOp2 oMod (dOp1 oIntT (dOp2 oAdd (dOp2 oAdd (dOp2 oMul (dVar 2) (dC (.int 4099))) (dOp2 oMul (dC (.int 271)) (dVar 1))) (dC (.int 17)))) (dC (.int 2147483629))) (dCons (dIf (gOr (gBl (dOp2 oLt (dVar 2) (dC (.int 0)))) (gBl (dOp2 oGe (dVar 2) (dOp2 oPow (dC (.int 10)) (dC (.int 18)))))) (dOp1 oAbs (dVar 2)) (dC (.int 0))) dNil)))))) e0 st = .rt (.hd st.length) (st ++ [.lst [.int a, .int b]]) := by
    intro g x y st e0 hg
    obtain ⟨a, b, e⟩ := key x y st
    refine ⟨a, b, ?_⟩
    rw [ev_sSeq, hg]
    exact e
  by_cases hl : i < ns.length
  · have hi : i.toNat < ns.length := by omega
    have ex : atI (ns.map D.int) i = some (.int ns[i.toNat]) := by
      rw [atI_pos h0 (by rw [List.length_map]; exact hl), List.getElem?_map, List.getElem?_eq_getElem hi]
      rfl
    obtain ⟨a, b, e⟩ := fin (x := ns[i.toNat]) (y := .un) (st := st) (g := sFor (iSeq (dIf (gBl (dOp2 oGe (dVar 1) (dOp1 oLen (dVar 0)))) (dSl (dVar 0) oNo (oSo (dC (.int 2)))) (dLst dNil))) (gNm 3) (sSet 2 (dOp2 oMod (dOp1 oIntT (dOp2 oAdd (dOp2 oMul (dVar 2) (dC (.int 31))) (dVar 3))) (dC (.int 1000000007))))) (e0 := [.sh (.fz (ns.map D.int)), .sh (.int i), .sh (.int ns[i.toNat]), .un]) (by
      have hn : ¬ (ns.length : Int) ≤ i := by omega
      unfold sFor
      simp [hn]
      rfl)
    refine ⟨a, b, runD_rt rfl ?_⟩
    rw [ev_sSeq]
    simp [hl, ev_ixF ex]
    exact e
  · have hs2 : ∀ (x : Int) (l : List Int) (y : Sl) (st : Sto), ∃ (x' : Int) (y' : Sl), forL (gNm 3) (sSet 2 (dOp2 oMod (dOp1 oIntT (dOp2 oAdd (dOp2 oMul (dVar 2) (dC (.int 31))) (dVar 3))) (dC (.int 1000000007)))) (l.map D.int) [.sh (.fz (ns.map D.int)), .sh (.int i), .sh (.int x), y] st = .nx [.sh (.fz (ns.map D.int)), .sh (.int i), .sh (.int x'), y'] st := by
      intro x l
      induction l generalizing x with
      | nil => exact fun y st => ⟨x, y, rfl⟩
      | cons n l ih =>
        intro y st
        obtain ⟨x', y', e⟩ := ih ((x * 31 + n) % 1000000007) (.sh (.int n)) st
        refine ⟨x', y', ?_⟩
        rw [List.map_cons]
        unfold forL
        simp [ev_mulR (j := 31) rfl, ev_mod]
        exact e
    obtain ⟨x', y', e2⟩ := hs2 (7919 * i + 104729) (cutL ns none (some 2)) .un st
    obtain ⟨a, b, e⟩ := fin (x := x') (y := y') (st := st) (g := sFor (iSeq (dIf (gBl (dOp2 oGe (dVar 1) (dOp1 oLen (dVar 0)))) (dSl (dVar 0) oNo (oSo (dC (.int 2)))) (dLst dNil))) (gNm 3) (sSet 2 (dOp2 oMod (dOp1 oIntT (dOp2 oAdd (dOp2 oMul (dVar 2) (dC (.int 31))) (dVar 3))) (dC (.int 1000000007))))) (e0 := [.sh (.fz (ns.map D.int)), .sh (.int i), .sh (.int (7919 * i + 104729)), .un]) (by
      have hn : (ns.length : Int) ≤ i := by omega
      have ec : ∀ st, oSl (.fz (ns.map D.int)) none (some 2) st = .ok (.lst ((cutL ns none (some 2)).map D.int)) st := fun st => by
        unfold oSl cutL
        simp only [List.length_map, List.map_take, List.map_drop]
      unfold sFor
      simp [hn, ec]
      exact e2)
    refine ⟨a, b, runD_rt rfl ?_⟩
    rw [ev_sSeq]
    simp [hl, ev_mulL (i := 7919) rfl]
    exact e
end AM
namespace AM
open PySem PySem.Spec PyProof.Rows L2 TL
def ShN : Nat → D → Prop
  | n, d => (match d with
    | .non => True
    | .bl _ => True
    | .int _ => True
    | .str s => PyData.strOk s = true
    | .tup ds => (match n with
      | 0 => False
      | m + 1 => ∀ e ∈ ds, ShN m e)
    | .lst ds => (match n with
      | 0 => False
      | m + 1 => ∀ e ∈ ds, ShN m e)
    | _ => False)
theorem ShN.tup {n : Nat} {ds : List D} (h : ∀ e ∈ ds, ShN n e) : ShN (n + 1) (.tup ds) := by unfold ShN; exact h
theorem ShN.lst {n : Nat} {ds : List D} (h : ∀ e ∈ ds, ShN n e) : ShN (n + 1) (.lst ds) := by unfold ShN; exact h
theorem ShN.int (n : Nat) (i : Int) : ShN n (.int i) := by unfold ShN; trivial
theorem ShN.str {n : Nat} {a : List Nat} (h : asc a = true) : ShN n (.str (mk a)) := by unfold ShN; exact strOk_mk h
def PB (s : Str) : Prop := ∀ c ∈ tl s, c < 0x110000
theorem pb_ok {s : Str} : PB s ↔ PyData.strOk s = true := by
  unfold PB PyData.strOk tl
  rw [Array.all_eq_true_iff_forall_mem]
  constructor
  · intro h c hc
    exact decide_eq_true (h c (Array.mem_toList_iff.mpr hc))
  · intro h c hc
    exact of_decide_eq_true (h c (Array.mem_toList_iff.mp hc))
theorem pb_app {a b : Str} (ha : PB a) (hb : PB b) : PB (a ++ b) := by
  intro c hc
  rw [tl_append, List.mem_append] at hc
  exact hc.elim (ha c) (hb c)
theorem char_lt (ch : Char) : ch.toNat < 0x110000 := by
  have h := ch.valid
  show ch.val.toNat < _
  rcases h with h | h
  · have : ch.val.toNat < 0xd800 := h
    omega
  · exact h.2
theorem pb_of (s : String) : PB (Str.ofString s) := by
  intro c hc
  rw [tl_ofString] at hc
  obtain ⟨ch, _, rfl⟩ := List.mem_map.mp hc
  exact char_lt ch
theorem pb_join {y : Str} (hy : PB y) : ∀ ts : List Str, (∀ t ∈ ts, PB t) → PB (Str.join y ts) := by
  intro ts h c hc
  rw [tl_join] at hc
  have : ∀ {ps : List (List Nat)}, c ∈ joinL (tl y) ps → c ∈ tl y ∨ ∃ p ∈ ps, c ∈ p := by
    intro ps
    induction ps with
    | nil => intro h; simp [joinL] at h
    | cons p ps ih =>
      cases ps with
      | nil => intro h; exact Or.inr ⟨p, List.mem_cons_self, h⟩
      | cons q r =>
        intro h
        rw [joinL, List.mem_append, List.mem_append] at h
        rcases h with h | h | h
        · exact Or.inr ⟨p, List.mem_cons_self, h⟩
        · exact Or.inl h
        · rcases ih h with h | ⟨x, hx, hc⟩
          · exact Or.inl h
          · exact Or.inr ⟨x, List.mem_cons_of_mem _ hx, hc⟩
  rcases this hc with h1 | ⟨p, hp, h1⟩
  · exact hy c h1
  · obtain ⟨t, ht, rfl⟩ := List.mem_map.mp hp
    exact h t ht c h1
theorem pb_char {q c : Nat} (hc : c < 0x110000) : ∀ x ∈ Builtin.Str.reprChar q c, x < 0x110000 := by
  intro x hx
  have hex : ∀ n, x ∈ (List.replicate (n - ((Nat.toDigits 16 c).map Char.toNat).length) 48 ++ (Nat.toDigits 16 c).map Char.toNat) → x < 0x110000 := by
    intro n h
    rcases List.mem_append.mp h with h | h
    · rw [List.eq_of_mem_replicate h]; decide
    · obtain ⟨ch, _, rfl⟩ := List.mem_map.mp h
      exact char_lt ch
  unfold Builtin.Str.reprChar at hx
  simp only at hx
  split at hx
  · simp at hx; omega
  · split at hx
    · simp at hx; omega
    · split at hx
      · simp at hx; omega
      · split at hx
        · simp at hx; omega
        · split at hx
          · simp at hx; omega
          · split at hx
            · rcases List.mem_append.mp hx with h | h
              · simp at h; omega
              · exact hex 2 h
            · split at hx
              · rcases List.mem_append.mp hx with h | h
                · simp at h; omega
                · exact hex 4 h
              · rcases List.mem_append.mp hx with h | h
                · simp at h; omega
                · exact hex 8 h
theorem pb_repr {x : Str} (h : PB x) : PB (reprText x) := by
  have hq : reprQuote x < 0x110000 := by unfold reprQuote; split <;> decide
  have key : ∀ (l : List Nat) (acc : Array Nat), (∀ c ∈ l, c < 0x110000) → (∀ c ∈ acc.toList, c < 0x110000) → ∀ c ∈ (l.foldl (fun out c => out ++ (Builtin.Str.reprChar (reprQuote x) c).toArray) acc).toList, c < 0x110000 := by
    intro l
    induction l with
    | nil => exact fun acc _ h => h
    | cons a l ih =>
      intro acc h1 h2
      refine ih _ (fun c hc => h1 c (List.mem_cons_of_mem _ hc)) ?_
      intro c hc
      rw [Array.toList_append, List.mem_append] at hc
      rcases hc with hc | hc
      · exact h2 c hc
      · exact pb_char (h1 a List.mem_cons_self) c (by simpa using hc)
  intro c hc
  unfold reprText tl at hc
  simp only [Array.toList_push, List.mem_append, List.mem_singleton] at hc
  rcases hc with hc | hc
  · rw [← Array.foldl_toList] at hc
    exact key x.cps.toList _ h (by simp; exact hq) c hc
  · rw [hc]; exact hq
mutual
theorem pb_shown : ∀ d : PyData, d.canLay0 = true → PB (PyData.shown d)
  | .none, _ => by simp only [PyData.shown]; exact pb_of _
  | .bool b, _ => by cases b <;> simp only [PyData.shown] <;> exact pb_of _
  | .int i, _ => by simp only [PyData.shown]; exact pb_of _
  | .str x, h => by
    simp only [PyData.shown]
    exact pb_repr (pb_ok.mpr (by simpa [PyData.canLay0] using h))
  | .list xs, h => by
    simp only [PyData.shown]
    rw [listText_eq_join]
    exact pb_app (pb_app (pb_of _) (pb_join (pb_of _) _ (pb_shownAll xs (by simpa [PyData.canLay0] using h)))) (pb_of _)
  | .tuple xs, h => by
    simp only [PyData.shown]
    unfold tupleText
    refine pb_app (pb_app (pb_of _) (pb_join (pb_of _) _ (pb_shownAll xs (by simpa [PyData.canLay0] using h)))) ?_
    exact pb_of _
  | .dict _, h => by simp [PyData.canLay0] at h
theorem pb_shownAll : ∀ ds : List PyData, PyData.canLayAll0 ds = true → ∀ t ∈ PyData.shownAll ds, PB t
  | [], _, t, ht => by simp [PyData.shownAll] at ht
  | d :: ds, h, t, ht => by
    simp only [PyData.canLayAll0, Bool.and_eq_true] at h
    simp only [PyData.shownAll, List.mem_cons] at ht
    rcases ht with rfl | ht
    · exact pb_shown d h.1
    · exact pb_shownAll ds h.2 t ht
end
end AM
namespace AM
open PySem PySem.Spec PyProof.Rows L2 TL
inductive Wx {α : Type} : Res α → (α → Sto → Prop) → Prop where
  | mk {a : α} {st : Sto} {P : α → Sto → Prop} (h : P a st) : Wx (.ok a st) P
inductive Ws : SR → (AEnv → Sto → Prop) → (D → Sto → Prop) → Prop where
  | nx {e : AEnv} {s : Sto} {N : AEnv → Sto → Prop} {T : D → Sto → Prop} (h : N e s) : Ws (.nx e s) N T
  | rt {d : D} {s : Sto} {N : AEnv → Sto → Prop} {T : D → Sto → Prop} (h : T d s) : Ws (.rt d s) N T
def En (N : AEnv → Sto → Prop) (E : AEnv) (s : Sto) : Prop := N E s
section
variable {α β : Type} {P : α → Sto → Prop} {Q : β → Sto → Prop} {V : D → Sto → Prop} {B : Bool → Sto → Prop} {Ls : List D → Sto → Prop} {N : AEnv → Sto → Prop} {T : D → Sto → Prop} {env : AEnv} {st st' : Sto} {f g fa fb fc : EF} {t t2 : TF} {fs : EFs} {F : DF} {k k' : Op2} {k1 : Op1} {d : D} {ds : List D} {i j : Nat} {u v : SF}
theorem en_of {E E0 : AEnv} (e : E = E0) (h : N E0 st) : En N E st := by
  subst e
  exact h
theorem wx_eq {r : Res α} {a : α} (e : r = .ok a st) (h : P a st) : Wx r P := by rw [e]; exact .mk h
theorem wx_ex {r : Res α} (h : Wx r P) : ∃ a st, r = .ok a st ∧ P a st := by
  cases h with
  | mk h => exact ⟨_, _, rfl, h⟩
theorem wx_mono {r : Res α} {P' : α → Sto → Prop} (h : Wx r P) (i : ∀ a s, P a s → P' a s) : Wx r P' := by
  cases h with
  | mk h => exact .mk (i _ _ h)
theorem ws_mono {r : SR} {N' : AEnv → Sto → Prop} {T' : D → Sto → Prop} (h : Ws r N T) (i : ∀ e s, N e s → N' e s) (i2 : ∀ d s, T d s → T' d s) : Ws r N' T' := by
  cases h with
  | nx h => exact .nx (i _ _ h)
  | rt h => exact .rt (i2 _ _ h)
theorem wx_bind {r : Res α} {h : α → Sto → Res β} (e : Wx r fun a s => Wx (h a s) Q) : Wx (r.bind h) Q := by
  cases e with
  | mk e => exact e
theorem ws_then {r : Res α} {h : α → Sto → SR} (e : Wx r fun a s => Ws (h a s) N T) : Ws (r.then h) N T := by
  cases e with
  | mk e => exact e
theorem ws_bind {r : SR} {h : AEnv → Sto → SR} (e : Ws r (fun a s => Ws (h a s) N T) T) : Ws (r.bind h) N T := by
  cases e with
  | nx e => exact e
  | rt e => exact .rt e
theorem ws_onx {r : SR} (e : Ws r N fun _ _ => False) : Ws (onlyNx r) N T := by
  cases e with
  | nx e => exact .nx e
  | rt e => exact e.elim
theorem wx_run {n M : Nat} (hl : ds.length = n) (h : En (fun E s => Ws (u E s) (fun _ s => V .non s) V) (ds.map Sl.sh ++ List.replicate (M - n) .un) st) : Wx (runD n M u ds st) V := by
  unfold runD
  rw [if_pos hl]
  have h : Ws (u (ds.map Sl.sh ++ List.replicate (M - n) .un) st) (fun _ s => V .non s) V := h
  generalize u (ds.map Sl.sh ++ List.replicate (M - n) .un) st = q at h
  cases h with
  | nx h => exact .mk h
  | rt h => exact .mk h
theorem wx_dVar (e : env[i]? = some (.sh d)) (h : V d st) : Wx (dVar i env st) V := by
  have q : dVar i env st = .ok d st := by unfold dVar; rw [e]
  rw [q]; exact .mk h
theorem wx_dOwn (e : env[i]? = some (.own ds)) (h : V (.lst ds) st) : Wx (dOwn i env st) V := by
  have q : dOwn i env st = .ok (.lst ds) st := by unfold dOwn; rw [e]
  rw [q]; exact .mk h
theorem wx_dOwn' (e : env[i]? = some (.sh d)) (h : V d st) : Wx (dOwn i env st) V := by
  have q : dOwn i env st = .ok d st := by unfold dOwn; rw [e]
  rw [q]; exact .mk h
theorem wx_dC (h : V d st) : Wx (dC d env st) V := .mk h
theorem wx_dOp2 (h : Wx (fa env st) fun a s => Wx (fb env s) fun b s => Wx (k a b s) V) : Wx (dOp2 k fa fb env st) V := wx_bind (wx_mono h fun a s h => wx_bind h)
theorem wx_dOp1 (h : Wx (fa env st) fun a s => Wx (k1 a s) V) : Wx (dOp1 k1 fa env st) V := wx_bind h
theorem wx_gTru (h : Wx (fa env st) fun a s => ∃ b, truD a = some b ∧ B b s) : Wx (gTru fa env st) B := wx_bind (wx_mono h fun a s ⟨b, e, h⟩ => by rw [e]; exact .mk h)
theorem wx_gBl (h : Wx (fa env st) fun a s => ∃ b, a = .bl b ∧ B b s) : Wx (gBl fa env st) B := wx_bind (wx_mono h fun a s ⟨b, e, h⟩ => by subst e; exact .mk h)
theorem wx_dChain (h : Wx (fa env st) fun a s => Wx (fb env s) fun b s => Wx (k a b s) fun r s => ∃ c, r = .bl c ∧ (c = true → Wx (fc env s) fun c s => Wx (k' b c s) V) ∧ (c = false → V (.bl false) s)) : Wx (dChain k k' fa fb fc env st) V :=
  wx_bind (wx_mono h fun a s h => wx_bind (wx_mono h fun b s h => wx_bind (wx_mono h fun r s ⟨c, e, h1, h2⟩ => by
    subst e
    cases c with
    | true => exact wx_bind (h1 rfl)
    | false => exact .mk (h2 rfl))))
theorem wx_gAnd (h : Wx (t env st) fun b s => (b = true → Wx (t2 env s) B) ∧ (b = false → B false s)) : Wx (gAnd t t2 env st) B := wx_bind (wx_mono h fun b s ⟨h1, h2⟩ => by
  cases b with
  | true => exact h1 rfl
  | false => exact .mk (h2 rfl))
theorem wx_gOr (h : Wx (t env st) fun b s => (b = true → B true s) ∧ (b = false → Wx (t2 env s) B)) : Wx (gOr t t2 env st) B := wx_bind (wx_mono h fun b s ⟨h1, h2⟩ => by
  cases b with
  | true => exact .mk (h1 rfl)
  | false => exact h2 rfl)
theorem wx_gNot (h : Wx (t env st) fun b s => B (!b) s) : Wx (gNot t env st) B := wx_bind (wx_mono h fun _ _ h => .mk h)
theorem wx_dAnd (h : Wx (f env st) fun d s => ∃ b, d = .bl b ∧ (b = true → Wx (g env s) V) ∧ (b = false → V (.bl false) s)) : Wx (dAnd f g env st) V := wx_bind (wx_mono h fun d s ⟨b, e, h1, h2⟩ => by
  subst e
  cases b with
  | true => exact h1 rfl
  | false => exact .mk (h2 rfl))
theorem wx_dOr (h : Wx (f env st) fun d s => ∃ b, d = .bl b ∧ (b = true → V (.bl true) s) ∧ (b = false → Wx (g env s) V)) : Wx (dOr f g env st) V := wx_bind (wx_mono h fun d s ⟨b, e, h1, h2⟩ => by
  subst e
  cases b with
  | true => exact .mk (h1 rfl)
  | false => exact h2 rfl)
theorem wx_dNot (h : Wx (f env st) fun d s => ∃ b, d = .bl b ∧ V (.bl (!b)) s) : Wx (dNot f env st) V := wx_bind (wx_mono h fun d s ⟨b, e, h⟩ => by subst e; exact .mk h)
theorem wx_dIf (h : Wx (t env st) fun b s => (b = true → Wx (f env s) V) ∧ (b = false → Wx (g env s) V)) : Wx (dIf t f g env st) V := wx_bind (wx_mono h fun b s ⟨h1, h2⟩ => by
  cases b with
  | true => exact h1 rfl
  | false => exact h2 rfl)
theorem wx_dNeg (h : Wx (f env st) fun d s => ∃ n, d = .int n ∧ V (.int (-n)) s) : Wx (dNeg f env st) V := wx_bind (wx_mono h fun d s ⟨b, e, h⟩ => by subst e; exact .mk h)
theorem wx_dNil (h : Ls [] st) : Wx (dNil env st) Ls := .mk h
theorem wx_dCons (h : Wx (f env st) fun d s => Wx (fs env s) fun ds s => Ls (d :: ds) s) : Wx (dCons f fs env st) Ls := wx_bind (wx_mono h fun d s h => wx_bind (wx_mono h fun _ _ h => .mk h))
theorem wx_dTup (h : Wx (fs env st) fun ds s => ds.length ≤ 16777216 ∧ V (.tup ds) s) : Wx (dTup fs env st) V := wx_bind (wx_mono h fun ds s ⟨h1, h2⟩ => by rw [← sizeLine_val] at h1; rw [if_pos h1]; exact .mk h2)
theorem wx_dLst (h : Wx (fs env st) fun ds s => ds.length ≤ 16777216 ∧ V (.lst ds) s) : Wx (dLst fs env st) V := wx_bind (wx_mono h fun ds s ⟨h1, h2⟩ => by rw [← sizeLine_val] at h1; rw [if_pos h1]; exact .mk h2)
theorem wx_dLstF (h : Wx (fs env st) fun ds s => ds.length ≤ 16777216 ∧ Ls ds s) : Wx (dLstF fs env st) Ls := wx_bind (wx_mono h fun ds s ⟨h1, h2⟩ => by rw [← sizeLine_val] at h1; rw [if_pos h1]; exact .mk h2)
theorem wx_dF {fi : IF} (h : Wx (fi env st) fun ds s => V (.lst ds) s) : Wx (dF fi env st) V := wx_bind (wx_mono h fun _ _ h => .mk h)
theorem wx_dCall (h : Wx (fs env st) fun ds s => Wx (F ds s) V) : Wx (dCall F fs env st) V := wx_bind h
theorem wx_oNo {O : Option Int → Sto → Prop} (h : O none st) : Wx (oNo env st) O := .mk h
theorem wx_oSo {O : Option Int → Sto → Prop} (h : Wx (f env st) fun d s => ∃ n, d = .int n ∧ O (some n) s) : Wx (oSo f env st) O := wx_bind (wx_mono h fun d s ⟨b, e, h⟩ => by subst e; exact .mk h)
theorem wx_dSl {lo hi : OF} (h : Wx (f env st) fun d s => Wx (lo env s) fun l s => Wx (hi env s) fun h s => Wx (oSl d l h s) V) : Wx (dSl f lo hi env st) V := wx_bind (wx_mono h fun d s h => wx_bind (wx_mono h fun d s h => wx_bind h))
theorem wx_dM1 {q : SOp1} (h : Wx (fa env st) fun a s => ∃ z, a = .str z ∧ Wx (fb env s) fun b s => Wx (q z b s) V) : Wx (dM1 q fa fb env st) V := wx_bind (wx_mono h fun a s ⟨z, e, h⟩ => by subst e; exact wx_bind h)
theorem wx_dM0 {q : SOp0} (h : Wx (fa env st) fun a s => ∃ z, a = .str z ∧ Wx (q z s) V) : Wx (dM0 q fa env st) V := wx_bind (wx_mono h fun a s ⟨z, e, h⟩ => by subst e; exact h)
theorem wx_dFld {cs : List Nat} {x : Str} (h : Wx (f env st) fun d s => ∃ e, fldOf cs x d s = some e ∧ V e s) : Wx (dFld cs x f env st) V := wx_bind (wx_mono h fun d s ⟨b, e, h⟩ => by rw [e]; exact .mk h)
theorem wx_dProp {c : Nat} (h : Wx (f env st) fun d s => isI c d s = true ∧ Wx (F [d] s) V) : Wx (dProp c F f env st) V := wx_bind (wx_mono h fun d s ⟨e, h⟩ => by
  rw [if_pos e]
  obtain ⟨a, s2, q, h⟩ := wx_ex h
  rw [q]; exact .mk h)
theorem wx_dOwn2 {c : Nat} (h : Wx (fa env st) fun a s => Wx (fb env s) fun b s => (isI c a s && isI c b s) = true ∧ Wx (F [a, b] s) V) : Wx (dOwn2 c F fa fb env st) V := wx_bind (wx_mono h fun a s h => wx_bind (wx_mono h fun b s ⟨e, h⟩ => by rw [if_pos e]; exact h))
theorem wx_gTruC {c : Nat} (h : Wx (f env st) fun d s => isI c d s = true ∧ Wx (F [d] s) fun r s => ∃ b, r = .bl b ∧ B b s) : Wx (gTruC c F f env st) B := wx_bind (wx_mono h fun d s ⟨e, h⟩ => by
  rw [if_pos e]
  obtain ⟨a, s2, e1, b, rfl, hb⟩ := wx_ex h
  rw [e1]; exact .mk hb)
theorem wx_iSeq (h : Wx (f env st) fun d s => Wx (itemsD d s) Ls) : Wx (iSeq f env st) Ls := wx_bind h
def okRb (n : Int) : Bool := decide (-100000000 ≤ n) && decide (n ≤ 100000000)
theorem okRb_iff {n : Int} : okRb n = true ↔ -100000000 ≤ n ∧ n ≤ 100000000 := by simp [okRb]
theorem okRb_of {n : Int} (h1 : -100000000 ≤ n) (h2 : n ≤ 100000000) : okRb n = true := okRb_iff.mpr ⟨h1, h2⟩
theorem wx_iRan (h : Wx (f env st) fun d s => ∃ n, d = .int n ∧ okRb n = true ∧ Ls (rng 0 n.toNat) s) : Wx (iRan f env st) Ls := by
  obtain ⟨d, s, e, n, rfl, h1, h⟩ := wx_ex h
  have ⟨h1, h2⟩ := okRb_iff.mp h1
  rw [iRan_ok e (okR_of h1 h2)]
  exact .mk h
theorem ws_sSeq (h : Ws (u env st) (fun e s => Ws (v e s) N T) T) : Ws (sSeq u v env st) N T := ws_bind h
theorem ws_sPass (h : N env st) : Ws (sPass env st) N T := .nx h
theorem ws_sRet (h : Wx (f env st) T) : Ws (sRet f env st) N T := ws_then (wx_mono h fun _ _ h => .rt h)
theorem ws_sExpr (h : Wx (f env st) fun _ s => N env s) : Ws (sExpr f env st) N T := ws_then (wx_mono h fun _ _ h => .nx h)
theorem ws_sSet (h : Wx (f env st) fun d s => En N (env.set i (.sh d)) s) : Ws (sSet i f env st) N T := ws_then (wx_mono h fun _ _ h => .nx h)
theorem ws_sOwn {fi : IF} (h : Wx (fi env st) fun ds s => En N (env.set i (.own ds)) s) : Ws (sOwn i fi env st) N T := ws_then (wx_mono h fun _ _ h => .nx h)
theorem ws_sIf (h : Wx (t env st) fun b s => (b = true → Ws (u env s) N T) ∧ (b = false → Ws (v env s) N T)) : Ws (sIf t u v env st) N T := ws_then (wx_mono h fun b s ⟨h1, h2⟩ => by
  cases b with
  | true => exact h1 rfl
  | false => exact h2 rfl)
theorem ws_sAsg {g : GF} (h : Wx (f env st) fun d s => Ws (g d env s) N fun _ _ => False) : Ws (sAsg f g env st) N T := ws_then (wx_mono h fun d s h => ws_onx h)
theorem ws_sPar (h : Wx (fs env st) fun ds s => ∃ d e, ds = [d, e] ∧ En N ((env.set i (.sh d)).set j (.sh e)) s) : Ws (sPar i j fs env st) N T := ws_then (wx_mono h fun ds s ⟨d, e, q, h⟩ => by subst q; exact .nx h)
theorem ws_gNm (h : En N (env.set i (.sh d)) st) : Ws (gNm i d env st) N T := .nx h
theorem ws_gTup {n : Nat} {gs : GFs} (hn : ds.length = n) (h : Ws (gs ds env st) N T) : Ws (gTupD n gs (.tup ds) env st) N T := by
  rw [ev_gTupD, if_pos hn]; exact h
theorem ws_gNil (h : N env st) : Ws (gNilD [] env st) N T := .nx h
theorem ws_gCons {g : GF} {gs : GFs} (h : Ws (g d env st) (fun e s => Ws (gs ds e s) N T) fun _ _ => False) : Ws (gConsD g gs (d :: ds) env st) N T := ws_bind (ws_onx h)
theorem ws_sApp (e : env[i]? = some (.own ds)) (h : Wx (f env st) fun d s => ds.length < 16777216 ∧ En N (env.set i (.own (ds ++ [d]))) s) : Ws (sApp i f env st) N T := by
  unfold sApp
  rw [e]
  exact ws_then (wx_mono h fun d s ⟨h1, h2⟩ => by rw [← sizeLine_val] at h1; rw [if_pos h1]; exact .nx h2)
theorem ws_frz (e : env[i]? = some (.own ds)) (h : En (fun E s => Ws (u E s) N T) (env.set i (.sh (.lst ds))) st) : Ws (frz i u env st) N T := by
  unfold frz
  rw [e]; exact h
theorem ws_frz' (e : env[i]? = some (.sh d)) (h : Ws (u env st) N T) : Ws (frz i u env st) N T := by
  unfold frz
  rw [e]; exact h
theorem ws_forL {g : GF} {h : SF} (I : List D → List D → AEnv → Sto → Prop) : ∀ (items done : List D) (env : AEnv) (st : Sto), I done items env st →
    (∀ done d rest env st, I done (d :: rest) env st → Ws (g d env st) (fun e s => Ws (h e s) (fun e s => I (done ++ [d]) rest e s) T) fun _ _ => False) → (∀ done env st, I done [] env st → N env st) → Ws (forL g h items env st) N T
  | [], done, env, st, hI, _, hN => .nx (hN done env st hI)
  | d :: ds, done, env, st, hI, hs, hN => by
    have q := hs done d ds env st hI
    unfold forL
    refine ws_bind (ws_onx ?_)
    refine ws_mono q (fun e s q => ?_) fun _ _ h => h.elim
    generalize h e s = z at q
    cases q with
    | nx q => exact ws_forL I ds (done ++ [d]) _ _ q hs hN
    | rt q => exact .rt q
theorem ws_sFor {fi : IF} {g : GF} {h : SF} (e : Wx (fi env st) fun items s => Ws (forL g h items env s) N T) : Ws (sFor fi g h env st) N T := by
  unfold sFor
  exact ws_then e
end
end AM
namespace AM
open PySem PySem.Spec PyProof.Rows L2 TL
section
variable {V : D → Sto → Prop} {B : Bool → Sto → Prop} {Ls : List D → Sto → Prop} {st : Sto} {X Y : Prop}
theorem and_t (h : X) : ((true = true) → X) ∧ ((true = false) → Y) := ⟨fun _ => h, fun e => by cases e⟩
theorem and_f (h : Y) : ((false = true) → X) ∧ ((false = false) → Y) := ⟨fun e => (by cases e), fun _ => h⟩
theorem and_nT (h : Y) : (((!true) = true) → X) ∧ (((!true) = false) → Y) := and_f h
theorem and_nF (h : X) : (((!false) = true) → X) ∧ (((!false) = false) → Y) := and_t h
theorem and_dt {c : Prop} [Decidable c] (hc : c) (h : X) : ((decide c = true) → X) ∧ ((decide c = false) → Y) := by rw [decide_eq_true hc]; exact and_t h
theorem and_df {c : Prop} [Decidable c] (hc : ¬ c) (h : Y) : ((decide c = true) → X) ∧ ((decide c = false) → Y) := by rw [decide_eq_false hc]; exact and_f h
theorem and_nt {c : Prop} [Decidable c] (hc : c) (h : Y) : (((!decide c) = true) → X) ∧ (((!decide c) = false) → Y) := by rw [decide_eq_true hc]; exact and_f h
theorem and_nf {c : Prop} [Decidable c] (hc : ¬ c) (h : X) : (((!decide c) = true) → X) ∧ (((!decide c) = false) → Y) := by rw [decide_eq_false hc]; exact and_t h
theorem and_by {c : Prop} [Decidable c] (h : c → X) (h2 : ¬ c → Y) : ((decide c = true) → X) ∧ ((decide c = false) → Y) := ⟨fun e => h (of_decide_eq_true e), fun e => h2 (of_decide_eq_false e)⟩
theorem and_nby {c : Prop} [Decidable c] (h : ¬ c → X) (h2 : c → Y) : (((!decide c) = true) → X) ∧ (((!decide c) = false) → Y) := by
  by_cases z : c
  · rw [decide_eq_true z]; exact and_f (h2 z)
  · rw [decide_eq_false z]; exact and_t (h z)
theorem wi_add {i j : Int} (h : V (.int (i + j)) st) : Wx (oAdd (.int i) (.int j) st) V := .mk h
theorem wi_sub {i j : Int} (h : V (.int (i - j)) st) : Wx (oSub (.int i) (.int j) st) V := .mk h
theorem wi_lt {i j : Int} (h : V (.bl (decide (i < j))) st) : Wx (oLt (.int i) (.int j) st) V := .mk h
theorem wi_le {i j : Int} (h : V (.bl (decide (i ≤ j))) st) : Wx (oLe (.int i) (.int j) st) V := .mk h
theorem wi_gt {i j : Int} (h : V (.bl (decide (j < i))) st) : Wx (oGt (.int i) (.int j) st) V := .mk h
theorem wi_ge {i j : Int} (h : V (.bl (decide (j ≤ i))) st) : Wx (oGe (.int i) (.int j) st) V := .mk h
theorem wi_eq {i j : Int} (h : V (.bl (decide (i = j))) st) : Wx (oEq (.int i) (.int j) st) V := .mk h
theorem wi_ne {i j : Int} (h : V (.bl (!decide (i = j))) st) : Wx (oNe (.int i) (.int j) st) V := .mk h
theorem wi_max {i j : Int} (h : V (.int (if j > i then j else i)) st) : Wx (oMax (.int i) (.int j) st) V := .mk h
theorem wi_min {i j : Int} (h : V (.int (if j < i then j else i)) st) : Wx (oMin (.int i) (.int j) st) V := .mk h
theorem wi_lenT {ds : List D} (h : V (.int ds.length) st) : Wx (oLen (.tup ds) st) V := .mk h
theorem wi_lenL {ds : List D} (h : V (.int ds.length) st) : Wx (oLen (.lst ds) st) V := .mk h
theorem wi_lenF {ds : List D} (h : V (.int ds.length) st) : Wx (oLen (.fz ds) st) V := .mk h
theorem wi_itT {ds : List D} (h : Ls ds st) : Wx (itemsD (.tup ds) st) Ls := .mk h
theorem wi_itL {ds : List D} (h : Ls ds st) : Wx (itemsD (.lst ds) st) Ls := .mk h
theorem wi_itF {ds : List D} (h : Ls ds st) : Wx (itemsD (.fz ds) st) Ls := .mk h
theorem wi_itS {a : List Nat} (h : Ls (a.map fun c => .str (mk [c])) st) : Wx (itemsD (.str (mk a)) st) Ls := .mk h
theorem wi_tupL {ds : List D} (h : V (.tup ds) st) : Wx (oTupT (.lst ds) st) V := .mk h
theorem wi_tupT {ds : List D} (h : V (.tup ds) st) : Wx (oTupT (.tup ds) st) V := .mk h
theorem wi_isN {d : D} (h : V (.bl d.isNon) st) : Wx (oIs d .non st) V := .mk h
theorem wi_isNN {d : D} (h : V (.bl (!d.isNon)) st) : Wx (oIsNot d .non st) V := .mk h
theorem wi_len {a : List Nat} (hz : a.length ≤ 16777216) (h : V (.int a.length) st) : Wx (oLen (.str (mk a)) st) V := wx_eq (ev_lenS hz st) h
theorem wi_cat {a b : List Nat} (hz : a.length + b.length ≤ 16777216) (h : V (.str (mk (a ++ b))) st) : Wx (oAdd (.str (mk a)) (.str (mk b)) st) V := wx_eq (ev_addS hz st) h
theorem wi_intT {i : Int} (h : V (.int i) st) : Wx (oIntT (.int i) st) V := .mk h
theorem wi_eqM {a b : List Nat} (ha : asc a = true) (hb : asc b = true) (h : V (.bl (decide (a = b))) st) : Wx (oEq (.str (mk a)) (.str (mk b)) st) V := wx_eq (ev_eqM ha hb st) h
theorem wi_inM {c : Nat} {z : List Nat} (h : V (.bl (decide (c ∈ z))) st) : Wx (oIn (.str (mk [c])) (.str (mk z)) st) V := .mk h
theorem wi_notInM {c : Nat} {z : List Nat} (h : V (.bl (!decide (c ∈ z))) st) : Wx (oNotIn (.str (mk [c])) (.str (mk z)) st) V := .mk h
theorem wx_all {fi : IF} {env : AEnv} (h : Wx (fi env st) fun ds s => ∃ bs : List Bool, ds = bs.map D.bl ∧ V (.bl (bs.all id)) s) : Wx (dOp1 oAll (dF fi) env st) V := by
  obtain ⟨ds, s, e, bs, rfl, h⟩ := wx_ex h
  exact wx_eq (all_ok e) h
theorem wx_any {fi : IF} {env : AEnv} (h : Wx (fi env st) fun ds s => ∃ bs : List Bool, ds = bs.map D.bl ∧ V (.bl (bs.any id)) s) : Wx (dOp1 oAny (dF fi) env st) V := by
  obtain ⟨ds, s, e, bs, rfl, h⟩ := wx_ex h
  exact wx_eq (any_ok e) h
theorem wx_comp {α : Type} {fi : IF} {i : Nat} {f : EF} {env : AEnv} {xs : List α} {g : α → D} (y : α → D) (ho : noOwn env [i] = true) (h : Wx (fi env st) fun ds s => ds = xs.map g ∧ xs.length ≤ 16777216 ∧ (∀ x ∈ xs, En (fun E s => Wx (f E s) fun d s2 => d = y x ∧ s2 = s) ((env.set i .un).set i (.sh (g x))) s) ∧ Ls (xs.map y) s) :
    Wx (compF fi false [i] [i] tYesD f env st) Ls := by
  obtain ⟨ds, s, e, rfl, hz, h1, h2⟩ := wx_ex h
  exact wx_eq (comp1 ho e (fun x hx => by
    obtain ⟨d, s2, e, rfl, rfl⟩ := wx_ex (h1 x hx)
    exact e) hz) h2
theorem wx_compS {tup : Bool} {is vs : List Nat} {fi : IF} {f : EF} {env : AEnv} (I : Sto → Prop) (P : D → Prop) (ho : noOwn env vs = true) (hi : ∀ i ∈ is, i ∈ vs)
    (h : Wx (fi env st) fun ds s => ds.length ≤ 16777216 ∧ I s ∧ (∀ d ∈ ds, ∀ s, I s → ∃ es, tgC tup is d = some es ∧ En (fun E s => Wx (f E s) fun y s2 => P y ∧ I s2) (putAll (wipeE env vs) is es) s) ∧ (∀ ys s2, ys.length = ds.length → (∀ y ∈ ys, P y) → I s2 → Ls ys s2)) :
    Wx (compF fi tup is vs tYesD f env st) Ls := by
  obtain ⟨ds, s, e, hz, h0, h1, h2⟩ := wx_ex h
  obtain ⟨ys, s2, g1, g2, g3, g4⟩ := compF_any (tup := tup) (is := is) (vs := vs) (t := tYesD) I P ho hi e h0 (fun d hd s hs => by
    obtain ⟨es, e1, hw⟩ := h1 d hd s hs
    obtain ⟨y, s2, e2, hy, hs2⟩ := wx_ex hw
    exact ⟨es, y, s2, e1, rfl, e2, hy, hs2⟩) (by rw [sizeLine_val]; exact hz)
  exact wx_eq g1 (h2 ys s2 g2 g3 g4)
end
end AM
namespace AM
open PySem PySem.Spec PyProof.Rows L2 TL
def Rp (n k : Nat) (d : D) : Prop := ∃ x, d.py = some x ∧ x.canLay0 = true ∧ x.depth ≤ n ∧ PyData.showable x = true ∧ shL x ≤ k
theorem Rp.mono {n k n' k' : Nat} {d : D} (h : Rp n k d) (hn : n ≤ n') (hk : k ≤ k') : Rp n' k' d := by
  obtain ⟨x, h1, h2, h3, h4, h5⟩ := h
  exact ⟨x, h1, h2, Nat.le_trans h3 hn, h4, Nat.le_trans h5 hk⟩
theorem Rp.non : Rp 0 4 .non := ⟨.none, by unfold D.py; rfl, by simp [PyData.canLay0], by simp [PyData.depth], by simp [PyData.showable], by simp [shL]⟩
theorem Rp.bl (b : Bool) : Rp 0 5 (.bl b) := ⟨.bool b, by unfold D.py; rfl, by simp [PyData.canLay0], by simp [PyData.depth], by simp [PyData.showable], by simp [shL]⟩
theorem Rp.int {i : Int} {k : Nat} (h : i.natAbs < 2 ^ k) (hk : k < 1920) : Rp 0 (k + 2) (.int i) := by
  have hl : i.natAbs.log2 ≤ k := by
    by_cases h0 : i.natAbs = 0
    · rw [h0]; exact Nat.zero_le _
    · exact Nat.le_of_lt ((Nat.log2_lt h0).mpr h)
  exact ⟨.int i, by unfold D.py; rfl, by simp [PyData.canLay0], by simp [PyData.depth], by simp [PyData.showable]; omega, by simp [shL]; omega⟩
theorem Rp.str {a : List Nat} (h : asc a = true) : Rp 0 (10 * a.length + 2) (.str (mk a)) := ⟨.str (mk a), by unfold D.py; rfl, by simpa [PyData.canLay0] using strOk_mk h, by simp [PyData.depth], by simp [PyData.showable], by simp [shL, mk_len]⟩
theorem Rp.all {n k : Nat} : ∀ ds : List D, (∀ d ∈ ds, Rp n k d) → ∃ xs, pyL ds = some xs ∧ PyData.canLayAll0 xs = true ∧ PyData.depthAll xs ≤ n ∧ PyData.showableAll xs = true ∧ shLs xs ≤ ds.length * (k + 2)
  | [], _ => ⟨[], by unfold pyL; rfl, by simp [PyData.canLayAll0], by simp [PyData.depthAll], by simp [PyData.showableAll], by simp [shLs]⟩
  | d :: ds, h => by
    obtain ⟨x, e1, e2, e3, e4, e5⟩ := h d List.mem_cons_self
    obtain ⟨xs, f1, f2, f3, f4, f5⟩ := Rp.all ds fun d hd => h d (List.mem_cons_of_mem _ hd)
    refine ⟨x :: xs, by unfold pyL; rw [e1, f1], by simp [PyData.canLayAll0, e2, f2], ?_, by simp [PyData.showableAll, e4, f4], ?_⟩
    · simp only [PyData.depthAll]; omega
    · simp only [shLs, List.length_cons, Nat.succ_mul]; omega
theorem Rp.tup {n k m : Nat} {ds : List D} (h : ∀ d ∈ ds, Rp n k d) (hm : ds.length ≤ m) : Rp (n + 1) (m * (k + 2) + 3) (.tup ds) := by
  obtain ⟨xs, f1, f2, f3, f4, f5⟩ := Rp.all ds h
  have : ds.length * (k + 2) ≤ m * (k + 2) := Nat.mul_le_mul_right _ hm
  exact ⟨.tuple xs, by unfold D.py; rw [f1]; rfl, by simpa [PyData.canLay0] using f2, by simp only [PyData.depth]; omega, by simpa [PyData.showable] using f4, by simp only [shL]; omega⟩
theorem Rp.lst {n k m : Nat} {ds : List D} (h : ∀ d ∈ ds, Rp n k d) (hm : ds.length ≤ m) : Rp (n + 1) (m * (k + 2) + 3) (.lst ds) := by
  obtain ⟨xs, f1, f2, f3, f4, f5⟩ := Rp.all ds h
  have : ds.length * (k + 2) ≤ m * (k + 2) := Nat.mul_le_mul_right _ hm
  exact ⟨.list xs, by unfold D.py; rw [f1]; rfl, by simpa [PyData.canLay0] using f2, by simp only [PyData.depth]; omega, by simpa [PyData.showable] using f4, by simp only [shL]; omega⟩
theorem Rp.sh {n k : Nat} {d : D} (h : Rp n k d) (hn : n ≤ 64) : shD d = true := by
  obtain ⟨x, e1, e2, e3, _⟩ := h
  unfold shD
  rw [e1]
  show SeqAt.shaped x = true
  unfold SeqAt.shaped
  rw [e2]
  exact decide_eq_true (Nat.le_trans e3 hn)
theorem Rp.repr {n k : Nat} {ds : List D} (h : Rp n k (.lst ds)) (hn : n ≤ 60) (hk : k ≤ 16777216) : ∃ s, (∀ st, oRepr (.lst ds) st = .ok (.str s) st) ∧ PyData.strOk s = true := by
  obtain ⟨x, e1, e2, e3, e4, e5⟩ := h
  have hl : ∃ xs, x = .list xs := by
    unfold D.py at e1
    cases hp : pyL ds with
    | none => rw [hp] at e1; simp at e1
    | some xs => rw [hp] at e1; exact ⟨xs, (Option.some.inj e1).symm⟩
  obtain ⟨xs, rfl⟩ := hl
  have h3 := shL_ok _ e2
  refine ⟨PyData.shown (.list xs), fun st => ?_, pb_ok.mp (pb_shown _ e2)⟩
  unfold oRepr
  rw [e1]
  show (if (PyData.showable (.list xs) && decide ((PyData.shown (.list xs)).length ≤ sizeLine) && decide (PyData.depth (.list xs) ≤ 60)) = true then _ else _) = _
  rw [if_pos]
  rw [e4, decide_eq_true (show (PyData.shown (.list xs)).length ≤ sizeLine by rw [sizeLine_val]; omega), decide_eq_true (by omega)]
  rfl
end AM
namespace AM
open PySem PySem.Spec PyProof.Rows L2 TL
local macro_rules | `(tactic| walk_at "en") => `(tactic| ((try simp only [List.map_cons, List.map_nil, List.replicate, List.replicate_zero, List.replicate_succ, List.cons_append, List.nil_append, List.set_cons_zero, List.set_cons_succ, Nat.reduceSub, Nat.reduceAdd, List.reduceReplicate, AM.putAll, AM.wipeE, List.foldl_cons, List.foldl_nil, List.zip_cons_cons, List.zip_nil_left, List.zip_nil_right]); with_unfolding_all rfl))
local macro_rules | `(tactic| walk_at "wp") => `(tactic| repeat' (with_reducible first
  | refine wx_dVar (by with_unfolding_all rfl) ?_ | refine wx_dC ?_ | refine wx_dOp2 ?_ | refine wx_all ?_ | refine wx_any ?_ | refine wx_dOp1 ?_ | refine wx_gBl ?_ | refine wx_gTru ?_ | refine wx_dCall ?_ | refine wx_dCons ?_ | refine wx_dNil ?_
  | refine en_of (by walk_at "en") ?_ | refine ws_sSeq ?_ | refine ws_sIf ?_ | refine ws_sRet ?_ | refine ws_sSet ?_ | refine ws_sAsg ?_ | refine ws_sPass ?_ | refine ws_sExpr ?_ | refine ws_sOwn ?_ | refine ws_sFor ?_ | refine ws_sPar ?_
  | refine ws_gNm ?_ | refine ws_gTup (by with_unfolding_all rfl) ?_ | refine ws_gNil ?_ | refine ws_gCons ?_
  | refine wx_dOwn (by with_unfolding_all rfl) ?_ | refine wx_dOwn' (by with_unfolding_all rfl) ?_ | refine ws_frz (by with_unfolding_all rfl) ?_ | refine ws_frz' (by with_unfolding_all rfl) ?_ | refine ws_sApp (by with_unfolding_all rfl) ?_
  | refine wx_dChain ?_ | refine wx_gAnd ?_ | refine wx_gOr ?_ | refine wx_gNot ?_ | refine wx_dAnd ?_ | refine wx_dOr ?_ | refine wx_dNot ?_ | refine wx_dIf ?_ | refine wx_dNeg ?_
  | refine wx_dTup ?_ | refine wx_dLst ?_ | refine wx_dLstF ?_ | refine wx_dF ?_ | refine wx_oNo ?_ | refine wx_oSo ?_ | refine wx_dSl ?_ | refine wx_dM1 ?_ | refine wx_dM0 ?_ | refine wx_dFld ?_ | refine wx_dProp ?_ | refine wx_dOwn2 ?_ | refine wx_gTruC ?_ | refine wx_iSeq ?_ | refine wx_iRan ?_
  | refine wi_add ?_ | refine wi_sub ?_ | refine wi_lt ?_ | refine wi_le ?_ | refine wi_gt ?_ | refine wi_ge ?_ | refine wi_eq ?_ | refine wi_ne ?_ | refine wi_max ?_ | refine wi_min ?_ | refine wi_lenT ?_ | refine wi_lenL ?_ | refine wi_lenF ?_
  | refine wi_itT ?_ | refine wi_itL ?_ | refine wi_itF ?_ | refine wi_itS ?_ | refine wi_tupL ?_ | refine wi_tupT ?_ | refine wi_isN ?_ | refine wi_isNN ?_ | refine wi_intT ?_ | refine wi_inM ?_ | refine wi_notInM ?_
  | refine and_t ?_ | refine and_f ?_ | refine and_nT ?_ | refine and_nF ?_
  | refine Exists.intro _ (And.intro rfl ?_)
  | refine And.intro (Nat.le_of_ble_eq_true (by with_unfolding_all rfl)) ?_ | refine And.intro (show okRb _ = true by with_unfolding_all rfl) ?_))
section
theorem all_true {ys : List D} (h : ∀ y ∈ ys, y = .bl true) : ∃ bs : List Bool, ys = bs.map D.bl ∧ bs.all id = true := by
  refine ⟨List.replicate ys.length true, ?_, by simp⟩
  rw [List.map_replicate]
  exact List.eq_replicate_iff.mpr ⟨rfl, h⟩
theorem rng_mem {a : Int} {n : Nat} {d : D} (h : d ∈ rng a n) : ∃ i : Nat, i < n ∧ d = .int (a + i) := by
  unfold rng at h
  obtain ⟨i, hi, rfl⟩ := List.mem_map.mp h
  exact ⟨i, List.mem_range.mp hi, rfl⟩
theorem rng_length (a : Int) (n : Nat) : (rng a n).length = n := by unfold rng; simp
theorem cup_new (st : Sto) (a b : Int) : Cup st.length (st ++ [.lst [.int a, .int b]]) := ⟨a, b, by simp⟩
end
end AM
namespace HT
open PySem PyProof.Rows
section
open PySem.SeqAt
open PySem.AutoSeq1 (wpAny_loadPart')
open PySem.MeetsSeq PySem.MeetsSeq2 PySem.MeetsSeq3
variable {prog : Program} {w : World} {A : Around} {E : Value → Shared → Prop} {s : Shared}
end
end HT
namespace AM
open PySem PySem.Spec PyProof.Rows L2 TL
def oRev : Op1 := fun a st => match a with
  | .tup ds => .ok (.tup ds.reverse) st
  | .lst ds => .ok (.lst ds.reverse) st
  | .str s => if s.length ≤ sizeLine then .ok (.str (mk s.cps.toList.reverse)) st else .bad
  | _ => .bad
section
variable {X : Cx} {Γ : Nat → Addr} {W : WX} {e : Expr} {f : EF} {pos : Pos}
end
end AM
namespace AM
open PySem PySem.Spec PyProof.Rows L2 TL
section
variable {X : Cx} {Γ : Nat → Addr} {W : WX} {e o : Expr} {es : List Expr} {f fo : EF} {fs : EFs} {F : DF} {pos p apos : Pos} {j k c : Nat} {x m : Str} {ks : List Str}
end
def permL (is : List Nat) {α : Type} (l : List α) : List α := if l.length = is.length then is.filterMap (l[·]?) else l
theorem Vals.at {vs : List V} {us : List Value} (h : Vals vs us) (i : Nat) : (vs[i]? = none ∧ us[i]? = none) ∨ ∃ v u, vs[i]? = some v ∧ us[i]? = some u ∧ RelV v u := by
  induction h generalizing i with
  | nil => exact .inl ⟨rfl, rfl⟩
  | @cons v u vs us h t ih =>
    cases i with
    | zero => exact .inr ⟨v, u, rfl, rfl, h⟩
    | succ i => exact ih i
theorem Dens.at {K : Ct} {ρ : List Addr} {S : Addr → Prop} {H : Hp} {vs : List V} {ds : List D} (h : Dens K ρ S H vs ds) (i : Nat) : (vs[i]? = none ∧ ds[i]? = none) ∨ ∃ v d, vs[i]? = some v ∧ ds[i]? = some d ∧ Den K ρ S H v d := by
  cases e : ds[i]? with
  | none =>
    refine .inl ⟨?_, rfl⟩
    rw [List.getElem?_eq_none_iff] at e ⊢
    rw [h.length]
    exact e
  | some d =>
    obtain ⟨v, e1, e2⟩ := h.get e
    exact .inr ⟨v, d, e1, rfl, e2⟩
def kwD (is : List Nat) (F : DF) : DF := fun ds st => F (permL is ds) st
end AM
namespace AM
open PySem PySem.Spec PyProof.Rows L2 TL
section
variable {V : D → Sto → Prop} {Ls : List D → Sto → Prop} {st : Sto} {env : AEnv}
theorem wi_revL {ds : List D} (h : V (.lst ds.reverse) st) : Wx (oRev (.lst ds) st) V := .mk h
theorem wi_revT {ds : List D} (h : V (.tup ds.reverse) st) : Wx (oRev (.tup ds) st) V := .mk h
theorem wi_slS {a : List Nat} {lo hi : Option Int} (hz : a.length ≤ 16777216) (h : V (.str (mk (cutL a lo hi))) st) : Wx (oSl (.str (mk a)) lo hi st) V := wx_eq (ev_slS hz lo hi st) h
theorem wi_slT {ds : List D} {lo hi : Option Int} (h : V (.tup (cutL ds lo hi)) st) : Wx (oSl (.tup ds) lo hi st) V := .mk h
theorem wi_slL {ds : List D} {lo hi : Option Int} (h : V (.lst (cutL ds lo hi)) st) : Wx (oSl (.lst ds) lo hi st) V := .mk h
theorem wi_abs {i : Int} (h : V (.int (if i < 0 then -i else i)) st) : Wx (oAbs (.int i) st) V := .mk h
def rowOf (d : D) : Option (List D) := match d with
  | .lst ds => some ds
  | .tup ds => some ds
  | _ => none
theorem wx_iEnmL {f : EF} (h : Wx (f env st) fun d s => ∃ ds, rowOf d = some ds ∧ Ls (enm ds) s) : Wx (iEnm f env st) Ls := wx_bind (wx_mono h fun d s ⟨ds, e, h⟩ => by
  cases d with
  | lst es => cases e; exact .mk h
  | tup es => cases e; exact .mk h
  | _ => cases e)
theorem wx_dMeth {c : Nat} {m : Str} {F : DF} {fo : EF} {fs : EFs} (h : Wx (fo env st) fun d s => isC c m d s = true ∧ Wx (fs env s) fun ds s => Wx (F (d :: ds) s) V) : Wx (dMeth c m F fo fs env st) V :=
  wx_bind (wx_mono h fun d s ⟨e, h⟩ => by rw [if_pos e]; exact wx_bind h)
theorem wx_kwD {is : List Nat} {F : DF} {ds es : List D} (e : permL is ds = es) (h : Wx (F es st) V) : Wx (kwD is F ds st) V := by
  unfold kwD
  rw [e]
  exact h
theorem wi_join {s : List Nat} {ps : List (List Nat)} {ds : List D} (e : ds = ps.map fun p => D.str (mk p)) (hz : (ps.map List.length).sum + ps.length * s.length ≤ 16777216) (h : V (.str (mk (joinL s ps))) st) : Wx (sJoin (mk s) (.lst ds) st) V := wx_eq (ev_joinS e hz st) h
theorem wi_join0 {ps : List (List Nat)} {ds : List D} (e : ds = ps.map fun p => D.str (mk p)) (hz : (ps.map List.length).sum ≤ 16777216) (h : V (.str (mk ps.flatten)) st) : Wx (sJoin (mk []) (.lst ds) st) V := by
  refine wi_join e (by simpa using hz) ?_
  rw [joinL_nil]
  exact h
theorem flat_one (l : List Nat) : (l.map fun c => [c]).flatten = l := by
  induction l with
  | nil => rfl
  | cons a l ih => rw [List.map_cons, List.flatten_cons, ih]; rfl
theorem sum_one (l : List Nat) : ((l.map fun c => [c]).map List.length).sum = l.length := by
  induction l with
  | nil => rfl
  | cons a l ih => rw [List.map_cons, List.map_cons, List.sum_cons, ih, List.length_cons]; simp; omega
theorem wi_joinC {l : List Nat} {ds : List D} (e : ds = l.map fun c => D.str (mk [c])) (hz : l.length ≤ 16777216) (h : V (.str (mk l)) st) : Wx (sJoin (mk []) (.lst ds) st) V := by
  refine wi_join0 (ps := l.map fun c => [c]) (by rw [e, List.map_map]; rfl) (by rw [sum_one]; exact hz) ?_
  rw [flat_one]
  exact h
end
end AM
namespace AM
open PySem PySem.Spec PyProof.Rows L2 TL
section
variable {X : Cx} {Γ : Nat → Addr} {W : WX} {tg iter elt : Expr} {ifs : List Expr} {scope : Scope} {own : List (Str × Nat)} {pos spos py : Pos} {fi : IF} {tup : Bool} {is : List Nat} {t : TF} {f : EF} {i : Nat} {y : Str}
theorem psd_setLc (hc : X.calm = true) (hN : X.N.Nodup) (hi : PI X tg iter (tI (XC X Γ) W fi)) (ok : BlkOk X.N X.env.scope scope own)
    (hg : ∀ (s : Shared) (H : Hp) (C : Addr) (cl : List (Str × Addr)) (fp : List Addr), PG (X.blk s H scope (compEnvC scope cl C X.env) fp) tg (gC X.K tup is)) (ht : ∀ (s : Shared) (H : Hp) (C : Addr) (cl : List (Str × Addr)) (fp : List Addr), PTs (X.blk s H scope (compEnvC scope cl C X.env) fp) ifs (tT (XC X Γ) WN t))
    (he : ∀ (s : Shared) (H : Hp) (C : Addr) (cl : List (Str × Addr)) (fp : List Addr), PE (X.blk s H scope (compEnvC scope cl C X.env) fp) elt (tD (XC X Γ) WN f)) (hs : ∀ x, foldedSetIterable iter X.env x = pure x := by intro _; rfl)
    (hy : X.N[i]? = some y := by rfl) (hyl : X.env.scope.names.lookup y = some .local := by rfl) (hsw : swapsWith (.ListComp elt [⟨tg, iter, ifs, 0⟩] scope pos) (some (.Name y py)) spos.line X.env = pure true := by rfl) :
    PS X (.Assign [.Name y py] (.ListComp elt [⟨tg, iter, ifs, 0⟩] scope pos) spos) (tS (XC X Γ) W (sSet i (dF (compF fi tup is (own.map (·.2)) t f)))) := psImp (ps_setLc hc hN hy hyl hsw hi ok hg ht he hs) fun D σ H ⟨w, env, st, r, p⟩ => comp_ok ⟨w, env, st, r, by
  unfold sSet dF at p
  cases q : compF fi tup is (own.map (·.2)) t f env st with
  | ok ds st' =>
    rw [q] at p
    intro ρ' H' pp vs h1 h2 h3 h4
    have r1 := r.ext h2 h1
    have r2 := r1.new (o := .lst vs) h3
    have x2 : Ext (XC X Γ) (w.at_ ρ').ρ H' (w.at_ ρ').ρ (upd H' pp (.lst vs)) := Ext.new h3
    exact p _ _ _ (r2.setSh (i := i) (.lst upd_same (r1.fresh h3) (h4.new r1 h3))) (((h2.toS r h1).trans (x2.toS r1 (r1.newSto h3))).trans (free_ext r2))
  | exc x st' =>
    rw [q] at p
    intro ρ' H' d gs h1 h2 h3 h4
    exact p (w.at_ ρ') σ H' d gs h1 (h2.toS r h1) h3 h4
  | bad => rw [q] at p; exact p⟩
end
end AM
namespace AM
open PySem PySem.Spec PyProof.Rows L2 TL
section
variable {α : Type} {N : AEnv → Sto → Prop} {T : D → Sto → Prop} {V : D → Sto → Prop} {env : AEnv} {st : Sto}
theorem ws_forT {g : GF} {h : SF} {it : α → D} (xs : List α) (I : List α → List α → AEnv → Sto → Prop) {items : List D} (e : items = xs.map it) (hI : I [] xs env st)
    (hs : ∀ done x rest env st, done ++ x :: rest = xs → I done (x :: rest) env st → Ws (g (it x) env st) (fun e s => Ws (h e s) (fun e s => I (done ++ [x]) rest e s) T) fun _ _ => False) (hN : ∀ env st, I xs [] env st → N env st) : Ws (forL g h items env st) N T := by
  subst e
  have key : ∀ (rest done : List α) (env : AEnv) (st : Sto), done ++ rest = xs → I done rest env st → Ws (forL g h (rest.map it) env st) N T := by
    intro rest
    induction rest with
    | nil =>
      intro done env1 st1 e1 hI1
      rw [List.append_nil] at e1
      rw [e1] at hI1
      exact .nx (hN env1 st1 hI1)
    | cons x rest ih =>
      intro done env1 st1 e1 hI1
      have q := hs done x rest env1 st1 e1 hI1
      rw [List.map_cons]
      unfold forL
      refine ws_bind (ws_onx ?_)
      refine ws_mono q (fun e s q => ?_) fun _ _ h => h.elim
      generalize h e s = z at q
      cases q with
      | nx q => exact ih (done ++ [x]) _ _ (by rw [List.append_assoc]; exact e1) q
      | rt q => exact .rt q
  exact key xs [] env st rfl hI
end
end AM
namespace AM
open PySem PySem.Spec PyProof.Rows L2 He
section
variable {X : Cx} {Γ : Nat → Addr} {W : WX} {e o a b c : Expr} {es : List Expr} {f fo fa fb fc fe ff fv : EF} {fs : EFs} {F : DF} {pos p apos cpos tpos : Pos} {j k : Nat} {x m : Str} {ks : List Str}
def sRet0 : SF := fun env st => .rt .non st
def isL (o : D) (st : Sto) : Bool := match o with
  | .hd n => (match st[n]? with
    | some (.lst _) => true
    | _ => false)
  | _ => false
def putApp (o d : D) (env : AEnv) (st : Sto) : SR := match o with
  | .hd n => (match st[n]? with
    | some (.lst ds) => if ds.length < sizeLine then .nx env (st.set n (.lst (ds ++ [d]))) else .bad
    | _ => .bad)
  | _ => .bad
def sAppH (fo fe : EF) : SF := fun env st => (fo env st).then fun o st1 => if isL o st1 = true then (fe env st1).then fun d st2 => putApp o d env st2 else .bad
end
end AM
namespace AM
open PySem PySem.Spec PyProof.Rows L2 He
section
variable {X : Cx} {Γ : Nat → Addr} {W : WX} {e o a b c : Expr} {es : List Expr} {f fo fa fb fc fe ff fv : EF} {fs : EFs} {F : DF} {pos p apos cpos tpos : Pos} {j k : Nat} {x m : Str} {ks : List Str}
def putAug (cs : List Nat) (fl : Str) (op : Int → Int → Int) (fv : EF) (o : D) (env : AEnv) (st : Sto) : SR := match o with
  | .hd n => (match st[n]? with
    | some (.obj c fs) => (if cs.contains c = true then (match fs.lookup fl with
      | some (.int i) => (fv env st).then fun d st2 => (match d, st2[n]? with
        | .int j, some (.obj c2 fs2) => if (decide (c2 = c) && decide (fs2.length < 1000)) = true then .nx env (st2.set n (.obj c2 (putD fl (.int (op i j)) fs2))) else .bad
        | _, _ => .bad)
      | _ => .bad) else .bad)
    | _ => .bad)
  | _ => .bad
def sAugD (cs : List Nat) (fl : Str) (op : Int → Int → Int) (fo fv : EF) : SF := fun env st => (fo env st).then fun o st1 => putAug cs fl op fv o env st1
end
end AM
namespace AM
open PySem PySem.Spec PyProof.Rows L2 He
section
variable {X : Cx} {Γ : Nat → Addr} {W : WX} {e o a b c tg : Expr} {es : List Expr} {f fo fa fb fc fe ff fv : EF} {fs : EFs} {F : DF} {pos p apos cpos tpos : Pos} {j k : Nat} {x m : Str} {ks : List Str}
inductive PDf (X : Cx) (Γ : Nat → Addr) (j : Nat) (pos : Pos) : List (Option Expr) → List Expr → List (Key × DF) → List (TE × TE) → List (Key × V) → Prop where
  | nil : PDf X Γ j pos [] [] [] [] []
  | cons {k v : Expr} {ks : List (Option Expr)} {vs : List Expr} {r : List (Key × DF)} {trs : List (TE × TE)} {kvs : List (Key × V)} {kk : Key} {F : DF} {g : Addr} (hk : PE X k (tC (kV kk))) (hv : PE X v (tC (.ref g))) (hd : PySem.W.keepIn X.K (.ref g) = true) (hc : Cal X.prog X.w X.K X.mg X.base Γ j (.ref g) [] F) (hr : PDf X Γ j pos ks vs r trs kvs) :
      PDf X Γ j pos (some k :: ks) (v :: vs) ((kk, F) :: r) ((tC (kV kk), tC (.ref g)) :: trs) ((kk, .ref g) :: kvs)
theorem PDf.pps {pos : Pos} {ks : List (Option Expr)} {vs : List Expr} {r : List (Key × DF)} {trs : List (TE × TE)} {kvs : List (Key × V)} (h : PDf X Γ j pos ks vs r trs kvs) : PPs X pos ks vs trs := by
  induction h with
  | nil => exact pps_nil
  | cons hk hv hd hc hr ih => exact pps_cons hk hv ih
theorem PDf.pairs {pos : Pos} {ks : List (Option Expr)} {vs : List Expr} {r : List (Key × DF)} {trs : List (TE × TE)} {kvs : List (Key × V)} (h : PDf X Γ j pos ks vs r trs kvs) : ∀ (σ : St) (H : Hp) (Q : List (V × V) → Hp → Prop), Q (kvs.map fun kv => (kV kv.1, kv.2)) H → tPairs trs σ H Q := by
  induction h with
  | nil => exact fun σ H Q q => q
  | cons hk hv hd hc hr ih => exact fun σ H Q q => ih σ H _ q
def valF (r : List (Key × DF)) (k : Key) : Option DF := (r.find? fun kv => decide (kv.1 = k)).map (·.2)
theorem PDf.val {pos : Pos} {ks : List (Option Expr)} {vs : List Expr} {r : List (Key × DF)} {trs : List (TE × TE)} {kvs : List (Key × V)} (h : PDf X Γ j pos ks vs r trs kvs) {key : Key} {F : DF} (e : valF r key = some F) :
    ∃ g, valV kvs key = some (.ref g) ∧ PySem.W.keepIn X.K (.ref g) = true ∧ Cal X.prog X.w X.K X.mg X.base Γ j (.ref g) [] F := by
  induction h with
  | nil => cases e
  | @cons k v ks vs r trs kvs kk F' g hk hv hd hc hr ih =>
    by_cases q : kk = key
    · have e2 : valF ((kk, F') :: r) key = some F' := by simp [valF, List.find?_cons, q]
      rw [e2] at e
      cases e
      exact ⟨g, valV_pos (p := (kk, V.ref g)) q, hd, hc⟩
    · have e1 : valV ((kk, V.ref g) :: kvs) key = valV kvs key := valV_neg (p := (kk, V.ref g)) q
      have e2 : valF ((kk, F') :: r) key = valF r key := by simp [valF, List.find?_cons, q]
      rw [e1]
      rw [e2] at e
      exact ih e
def dDcall (r : List (Key × DF)) (fe : EF) (fs : EFs) : EF := fun env st => (fe env st).bind fun d st1 => match (keyD d).bind (valF r) with
  | some F => (fs env st1).bind F
  | none => .bad
def okRg (a b : Int) : Bool := decide (-(2 ^ 62) ≤ a) && (decide (a < 2 ^ 62) && (decide (-(2 ^ 62) ≤ b) && (decide (b < 2 ^ 62) && decide ((b - a).toNat ≤ 2 ^ 24))))
def kLran : D → Sto → Res (List D) := fun d st => match d with
  | .int n => if okRg 0 n = true then .ok (rng 0 n.toNat) st else .bad
  | _ => .bad
def fLran (f : EF) : AEnv → Sto → Res (List D) := fun env st => (f env st).bind kLran
def rngC (lo c : Int) (n : Nat) : List D := (List.range n).map fun i => .int (lo + (i : Nat) * c)
def okR3 (i j c : Int) : Bool := decide (c ≠ 0) && (decide (c.natAbs < 1073741824) && (Builtin.Range.small i j c && decide (0 ≤ Builtin.Range.rangeSize i j c)))
def kRan3 : List D → Sto → Res (List D) := fun ds st => match ds with
  | [.int i, .int j, .int c] => if okR3 i j c = true then .ok (rngC i c (Builtin.Range.rangeSize i j c).toNat) st else .bad
  | _ => .bad
def iRan3 (fs : EFs) : IF := fun env st => (fs env st).bind kRan3
end
end AM
namespace AM
open PySem PySem.Spec PyProof.Rows L2
open Classical
noncomputable def trimD (F : DF) : DF := fun ds st => match F ds st with
  | .ok d st' => if (∃ more, st' = st ++ more) ∧ D.hb st.length d = true then .ok d st else .bad
  | r => r
theorem sp_trim {K : Ct} {F : DF} {vs : List V} {H : Hp} {Q : VK} {E : XK} (h : spD K (trimD F) vs H Q E) : spD K F vs H Q E := by
  obtain ⟨w, st, ds, hO, s, res, d, p⟩ := h
  refine ⟨w, st, ds, hO, s, res, d, ?_⟩
  unfold trimD at p
  cases q : F ds st with
  | ok a st' =>
    rw [q] at p
    replace p : Post Den K (fun c d _ H' => E c d H') w H [] (if (∃ more, st' = st ++ more) ∧ D.hb st.length a = true then .ok a st else .bad) Q := p
    split at p
    · rename_i hc
      obtain ⟨⟨more, rfl⟩, hb⟩ := hc
      intro ρ' H' x h1 h2 h3
      obtain ⟨l, rfl⟩ := h2.pre
      have hS : ∀ a, (w.at_ w.ρ).S a → (w.at_ (w.ρ ++ l)).S a := fun a h => by
        rcases h with h | h
        · exact .inl (List.mem_append_left _ h)
        · exact .inr h
      refine p w.ρ H' x (StOk.trim s h1 hS) ⟨⟨[], by simp⟩, fun b o e n => ⟨(h2.keep b o e n).1, n⟩, h2.tups⟩ (Den.trim hS h3 (by rw [s.len]; exact hb))
    · exact p.elim
  | exc e st' => rw [q] at p; exact p
  | bad => rw [q] at p; exact p
theorem FnV.trim {P : Program} {w : World} {K : PySem.W.Frag} {mg : Str → Option Value} {base : Heap} {Γ : Nat → Addr} {k : Nat} {f : Addr} {F : DF} (g : FnV P w K mg base k f (spD ⟨K, Γ⟩ F)) : FnV P w K mg base k f (spD ⟨K, Γ⟩ (trimD F)) :=
  fun A outer s H us vs Q E hr hg e0 rv hsp => g A outer s H us vs Q E hr hg e0 rv (sp_trim hsp)
end AM
namespace AM
open PySem PySem.Spec PyProof.Rows L2 TL
section
variable {N : AEnv → Sto → Prop} {T V : D → Sto → Prop} {Ls : List D → Sto → Prop} {env : AEnv} {st : Sto} {fo fe fv f fa fb : EF} {fs : EFs} {t : TF} {h : SF} {n c i : Nat} {ds : List D} {gs : List (Str × D)} {d : D} {cs : List Nat} {fl : Str}
theorem ws_sRet0 (h : T .non st) : Ws (sRet0 env st) N T := .rt h
theorem ws_sAppH (h : Wx (fo env st) fun o s => isL o s = true ∧ Wx (fe env s) fun d s2 => Ws (putApp o d env s2) N T) : Ws (sAppH fo fe env st) N T := ws_then (wx_mono h fun o s ⟨e, h⟩ => by
  rw [if_pos e]
  exact ws_then h)
theorem ws_sFldD (h : Wx (fv env st) fun d s => Wx (fo env s) fun o s2 => Ws (putFd cs fl o d env s2) N T) : Ws (sFldD cs fl fo fv env st) N T := ws_then (wx_mono h fun d s h => ws_then h)
theorem ws_sAugD {op : Int → Int → Int} (h : Wx (fo env st) fun o s => Ws (putAug cs fl op fv o env s) N T) : Ws (sAugD cs fl op fo fv env st) N T := ws_then h
theorem wx_dDcall {r : List (Key × DF)} (h : Wx (fe env st) fun d s => ∃ F, (keyD d).bind (valF r) = some F ∧ Wx (fs env s) fun ds s2 => Wx (F ds s2) V) : Wx (dDcall r fe fs env st) V := wx_bind (wx_mono h fun d s ⟨F, e, h⟩ => by
  rw [e]
  exact wx_bind h)
theorem wx_dNew {fi : IF} (h : Wx (fi env st) fun ds s => V (.hd s.length) (s ++ [.lst ds])) : Wx (dNew fi env st) V := wx_bind (wx_mono h fun _ _ h => .mk h)
theorem wx_fLran (h : Wx (f env st) fun d s => ∃ n, d = .int n ∧ okRg 0 n = true ∧ Ls (rng 0 n.toNat) s) : Wx (fLran f env st) Ls := wx_bind (wx_mono h fun d s ⟨n, e, e2, h⟩ => by
  subst e
  unfold kLran
  simp only
  rw [if_pos e2]
  exact .mk h)
theorem wx_iRan2 (hw : Wx (fa env st) fun a s => Wx (fb env s) fun b s => ∃ i j, a = .int i ∧ b = .int j ∧ (okR i && okR j) = true ∧ Ls (rng i (j - i).toNat) s) : Wx (iRan2 fa fb env st) Ls := wx_bind (wx_mono hw fun a s hw2 => wx_bind (wx_mono hw2 fun b s ⟨i, j, e1, e2, e3, hl⟩ => by
  subst e1 e2
  unfold kRan2
  simp only
  rw [if_pos e3]
  exact .mk hl))
theorem wx_iRan3 (h : Wx (fs env st) fun ds s => ∃ i j c, ds = [.int i, .int j, .int c] ∧ okR3 i j c = true ∧ Ls (rngC i c (Builtin.Range.rangeSize i j c).toNat) s) : Wx (iRan3 fs env st) Ls := wx_bind (wx_mono h fun ds s ⟨i, j, c, e1, e3, h⟩ => by
  subst e1
  unfold kRan3
  simp only
  rw [if_pos e3]
  exact .mk h)
end
end AM
namespace AM
open PySem PySem.Spec PyProof.Rows L2
def sPar3 (i j l : Nat) (fs : EFs) : SF := fun env st => (fs env st).then fun ds st1 => match ds with
  | [d, e, f] => .nx (((env.set i (.sh d)).set j (.sh e)).set l (.sh f)) st1
  | _ => .bad
theorem ws_sPar3 {N : AEnv → Sto → Prop} {T : D → Sto → Prop} {fs : EFs} {i j l : Nat} {env : AEnv} {st : Sto} (h : Wx (fs env st) fun ds s => ∃ d e f, ds = [d, e, f] ∧ En N (((env.set i (.sh d)).set j (.sh e)).set l (.sh f)) s) : Ws (sPar3 i j l fs env st) N T := ws_then (wx_mono h fun ds s ⟨d, e, f, q, h⟩ => by subst q; exact .nx h)
end AM
namespace AM
open PySem PySem.Spec PyProof.Rows L2
section
variable {V : D → Sto → Prop} {Ls : List D → Sto → Prop} {env : AEnv} {st : Sto} {fa fb fo fe ff : EF} {fs : EFs}
theorem wx_dInG {r : List (Str × D)} {neg : Bool} (h : Wx (fa env st) fun d s => ∃ z, d = .str z ∧ V (.bl (neg != (r.lookup z).isSome)) s) : Wx (dInG r neg fa env st) V := wx_bind (wx_mono h fun d s ⟨z, e, h⟩ => by
  subst e
  exact .mk h)
theorem wx_dIxG {r : List (Str × D)} (h : Wx (fb env st) fun d s => ∃ z v, d = .str z ∧ r.lookup z = some v ∧ V v s) : Wx (dIxG r fb env st) V := wx_bind (wx_mono h fun d s ⟨z, v, e, e2, h⟩ => by
  subst e
  show Wx (match r.lookup z with
    | some v => .ok v s
    | none => .bad) V
  rw [e2]
  exact .mk h)
theorem wx_dDicGet (h : Wx (fo env st) fun d s => ∃ r, d = .dic r ∧ Wx (fe env s) fun e s => Wx (ff env s) fun z s => ∃ k, keyD e = some k ∧ V ((valD r k).getD z) s) : Wx (dDicGet fo fe ff env st) V := wx_bind (wx_mono h fun d s ⟨r, e, h⟩ => by
  subst e
  exact wx_bind (wx_mono h fun e s h => wx_bind (wx_mono h fun z s ⟨k, e2, h⟩ => by
    rw [e2]
    exact .mk h)))
theorem wx_dLcall {t : List (Nat × DF)} {i c : Nat} {F : DF} (e : env[i]? = some (.sh (.cls c))) (e2 : t.lookup c = some F) (h : Wx (fs env st) fun ds s => Wx (F ds s) V) : Wx (dLcall t i fs env st) V := by
  unfold dLcall
  rw [e]
  show Wx (match t.lookup c with
    | some F => (fs env st).bind F
    | none => .bad) V
  rw [e2]
  exact wx_bind h
theorem wx_dCat (h : Wx (fa env st) fun a s => Wx (fb env s) fun b s => ∃ i j, a = .lst i ∧ b = .lst j ∧ i.length + j.length ≤ 16777216 ∧ Ls (i ++ j) s) : Wx (dCat fa fb env st) Ls := wx_bind (wx_mono h fun a s h1 => wx_bind (wx_mono h1 fun b s2 ⟨i, j, e, e2, hz, h2⟩ => by
  rw [e, e2]
  show Wx (if i.length + j.length ≤ sizeLine then .ok (i ++ j) s2 else .bad) Ls
  rw [if_pos (by rw [sizeLine_val]; exact hz)]
  exact .mk h2))
end
end AM
namespace AM
open PySem PySem.Spec PyProof.Rows L2
def oReprA : Op1 := fun a st => match a with
  | .non => .ok (.str "None") st
  | .bl b => .ok (.str (if b then "True" else "False")) st
  | .int i => if i.natAbs.log2 < 1920 then .ok (.str (toString i)) st else .bad
  | .str x => if (reprText x).length ≤ sizeLine then .ok (.str (reprText x)) st else .bad
  | d => oRepr d st
section
variable {X : Cx} {Γ : Nat → Addr} {W : WX} {k : Nat}
end
end AM
namespace AM
open PySem PySem.Spec PyProof.Rows L2
section
variable {K : Ct} {w : Wd} {env : AEnv} {st : Sto} {σ : St} {H H3 : Hp} {D : Addr} {vs : List V}
end
section
variable {X : Cx} {Γ : Nat → Addr} {W : WX} {i j : Nat} {x y : Str} {a b : Expr} {f : AEnv → Sto → Res (List D)} {g : EF} {px py pt pos : Pos} {kt k2 pt2}
end
end AM
namespace AM
open PySem PySem.Spec PyProof.Rows L2
section
variable {X : Cx} {Γ : Nat → Addr} {W : WX} {tg a b : Expr} {fa fb : EF}
end
end AM
namespace AM
open PySem PySem.Spec PyProof.Rows L2 He
section
variable {X : Cx} {Γ : Nat → Addr} {W : WX} {x y : Str} {p pos : Pos}
end
section
variable {V T : D → Sto → Prop} {N : AEnv → Sto → Prop} {env : AEnv} {st : Sto} {i j : Nat} {ds : List D}
end
end AM
namespace AM
open PySem PySem.Spec PyProof.Rows L2
section
variable {X : Cx} {Γ : Nat → Addr} {W : WX} {i j l : Nat} {x y z : Str} {a b c : Expr} {f : AEnv → Sto → Res (List D)} {fs : EFs} {px py pz pt pos : Pos} {kt k2 pt2}
end
end AM
namespace AM
open PySem PySem.Spec PyProof.Rows L2
section
variable {X : Cx} {Γ : Nat → Addr} {W : WX}
end
end AM
namespace AM
open PySem PySem.Spec PyProof.Rows L2
section
variable {X : Cx} {Γ : Nat → Addr} {W : WX}
end
section
variable {V : D → Sto → Prop} {st : Sto}
end
end AM
namespace AM
open PySem PySem.Spec PyProof.Rows L2
section
variable {X : Cx} {Γ : Nat → Addr} {W : WX} {o e : Expr} {fa fb fo fe : EF} {apos pos : Pos}
end
section
variable {V : D → Sto → Prop} {st : Sto} {env : AEnv} {N : AEnv → Sto → Prop} {T : D → Sto → Prop} {fo fe : EF} {Ls : List D → Sto → Prop} {f : EF}
end
end AM
namespace AM
open PySem PySem.Spec PyProof.Rows L2
open Classical
end AM
namespace AM
open PySem PySem.Spec PyProof.Rows L2
def sParE (i j : Nat) (g : EF) (f : AEnv → Sto → Res (List D)) : SF := fun env st => (g env st).then fun d st1 => (f env st1).then fun ds st2 => .nx ((env.set i (.sh d)).set j (.own ds)) st2
section
variable {X : Cx} {Γ : Nat → Addr} {W : WX} {i j : Nat} {x y : Str} {a b : Expr} {f : AEnv → Sto → Res (List D)} {g : EF} {px py pt pos : Pos} {kt k2 pt2}
theorem psd_parE (hc : X.calm = true) (hN : X.N.Nodup) (ha : PE X a (tD (XC X Γ) W g)) (hb : PE X b (tF (XC X Γ) W f)) (hi : X.N[i]? = some x := by rfl) (hj : X.N[j]? = some y := by rfl) (hij : i ≠ j := by decide)
    (hx : X.env.scope.names.lookup x = some .local := by rfl) (hy : X.env.scope.names.lookup y = some .local := by rfl)
    (hw : swappedStores [.Tuple [.Name x px, .Name y py] kt pt] (.Tuple [a, b] k2 pt2) X.env = pure (some [x, y]) := by rfl) (hs : swapsWithSole [.Tuple [.Name x px, .Name y py] kt pt] (.Tuple [a, b] k2 pt2) pos.line X.env = pure false := by rfl)
    (h1 : starEach [b] X.env = (false, eval b X.env) :: starEach [] X.env := by rfl) (h2 : starEach [a, b] X.env = (false, eval a X.env) :: starEach [b] X.env := by rfl) :
    PS X (.Assign [.Tuple [.Name x px, .Name y py] kt pt] (.Tuple [a, b] k2 pt2) pos) (tS (XC X Γ) W (sParE i j g f)) := psImp (ps_par hc hN hi hj hij hx hy (pa_cons ha (pa_cons hb pa_nil h1) h2) hw hs) fun D σ H ⟨w, env, st, r, p⟩ => ⟨w, env, st, r, by
  unfold sParE at p
  cases q : g env st with
  | bad => rw [q] at p; exact p
  | exc e st' =>
    rw [q] at p
    intro ρ' H' d gs h1 h2 h3 h4
    exact p (w.at_ ρ') σ H' d gs h1 (h2.toS r h1) h3 h4
  | ok d st' =>
    rw [q] at p
    intro ρ' H' v h1 h2 h3
    have r1 := r.ext h2 h1
    refine ⟨w.at_ ρ', env, st', r1, ?_⟩
    have p : PostS (XC X Γ) W w H σ ((f env st').then fun ds st2 => .nx ((env.set i (.sh d)).set j (.own ds)) st2) D := p
    cases q2 : f env st' with
    | bad => rw [q2] at p; exact p
    | exc e st2 =>
      rw [q2] at p
      intro ρ2 H2 d gs g1 g2 g3 g4
      exact p ((w.at_ ρ').at_ ρ2) σ H2 d gs g1 ((h2.toS r h1).trans (g2.toS r1 g1)) g3 g4
    | ok ds st2 =>
      rw [q2] at p
      intro ρ2 H2 pp vs g1 g2 g3 g4
      have r2 : Rel (XC X Γ) (w.at_ ρ2) env st2 σ H2 := r1.ext g2 g1
      have d2 : Den (XC X Γ) (w.at_ ρ2).ρ (w.at_ ρ2).S H2 v d := lastsD r1 ⟨ρ2, rfl⟩ g2 h3
      have r4 := r2.setSh (i := i) d2
      have r5 := r4.setOwn (i := j) g3 (g4.free (w := w.at_ ρ2))
      refine ⟨v, .ref pp, rfl, ?_⟩
      have x0 : ExtS (XC X Γ) w H (w.at_ ρ2) H2 := (h2.toS r h1).trans (g2.toS r1 g1)
      have x1 : ExtS (XC X Γ) (w.at_ ρ2) H2 ((w.at_ ρ2).free i) H2 := ⟨⟨[], (List.append_nil _).symm⟩, fun a o h n m => ⟨h, n, fun z => by
        rcases List.mem_or_eq_of_mem_set (show some a ∈ (w.at_ ρ2).O.set i none from z) with q | q
        · exact m q
        · cases q⟩, fun a h => .inl h, fun a o h => ⟨o, h⟩, fun _ _ h => h, fun a h => h⟩
      exact p _ _ _ r5 ((x0.trans x1).trans (own_ext r4 g3))⟩
theorem ws_sParE {env : AEnv} {st : Sto} {N : AEnv → Sto → Prop} {T : D → Sto → Prop} (h : Wx (g env st) fun d s => Wx (f env s) fun ds s => En N ((env.set i (.sh d)).set j (.own ds)) s) : Ws (sParE i j g f env st) N T := ws_then (wx_mono h fun _ _ h => ws_then (wx_mono h fun _ _ h => .nx h))
end
end AM
namespace KP
open PySem PySem.Spec PyProof.Rows L2 AM
abbrev cWrongValue : Nat := 0
abbrev cNotAWinding : Nat := 1
abbrev cInvalidText : Nat := 2
abbrev cInvalidRounds : Nat := 3
abbrev cInvalidPegs : Nat := 4
abbrev cInvalidPeg : Nat := 5
abbrev cInvalidPlace : Nat := 6
abbrev cInvalidFactor : Nat := 7
abbrev cInvalidWord : Nat := 8
abbrev cInvalidTimes : Nat := 9
abbrev cInvalidWish : Nat := 10
abbrev cInvalidName : Nat := 11
abbrev cInvalidClaim : Nat := 12
abbrev cInvalidIndex : Nat := 13
abbrev cInvalidLine : Nat := 14
abbrev cInvalidBlocks : Nat := 15
abbrev cInvalidLots : Nat := 16
abbrev cInvalidWishes : Nat := 17
abbrev cInvalidChanges : Nat := 18
abbrev cInvalidDeeds : Nat := 19
abbrev cWrongName : Nat := 20
abbrev cUnknownName : Nat := 21
abbrev cInUse : Nat := 22
abbrev cNoAnswer : Nat := 23
abbrev cTooMany : Nat := 24
abbrev cTooGreat : Nat := 25
abbrev cPegOut : Nat := 26
abbrev cPegIn : Nat := 27
abbrev cBroken : Nat := 28
abbrev cNothingToUndo : Nat := 29
abbrev cKnown : Nat := 30
abbrev cWinding : Nat := 31
abbrev cW : Nat := cWinding
def G_Known (U : List Nat) (ds : List AM.D) : Res (List (Str × AM.D)) := match ds with
  | [d] => if AM.D.hb 0 d = true then .ok [("parts", d)] [] else .bad
  | _ => .bad
def isWord (w : Str) : Bool := decide (1 ≤ w.length) && (decide (w.length ≤ 12) && w.cps.toList.all fun c => "abcdefABCDEF".toList.any fun x => x.toNat == c)
def isBk (d : AM.D) : Bool := match d with
  | .tup [.str w, .int p, .int q] => isWord w && (decide (-9 ≤ p) && (decide (p ≤ 9) && (decide (-99 ≤ q) && decide (q ≤ 99))))
  | _ => false
def G_Winding (U : List Nat) (ds : List AM.D) : Res (List (Str × AM.D)) := match ds with
  | [.ins c fs] => if c = cKnown then (match fs.lookup ("parts" : Str) with
    | some d => if AM.D.hb 0 d = true then .ok [("blocks", d)] [] else .bad
    | none => .bad) else .bad
  | ds => if ds.length ≤ 12 ∧ ds.all isBk = true then .ok [("blocks", .tup ds)] [] else .bad
def noW : List Nat → Bool
  | 0 :: 0 :: _ => true
  | _ => false
def dicR : List Nat → List ((String ⊕ Nat) × Bool)
  | 0 :: 0 :: 1 :: _ => [(.inl "dict", false)]
  | 0 :: 0 :: 2 :: _ => [(.inl "dict", false), (.inr cKnown, false), (.inr cWinding, false)]
  | _ => []
def dicC : List Nat → List ((String ⊕ Nat) × Bool)
  | 0 :: 0 :: 2 :: _ => [(.inl "dict", false)]
  | _ => []
end KP
namespace KP
open PySem PySem.Spec PyProof.Rows L2 AM KP
def is_int (U : List Nat) : List ((String ⊕ Nat) × Bool) := [(.inl "NoneType", false), (.inl "bool", true), (.inl "int", true), (.inl "str", false), (.inl "tuple", false), (.inl "list", false)] ++ bif noW U then dicR U else [(.inr cKnown, false), (.inr cWinding, false)] ++ U.map fun c => (.inr c, false)
def is_bool (U : List Nat) : List ((String ⊕ Nat) × Bool) := [(.inl "NoneType", false), (.inl "bool", true), (.inl "int", false), (.inl "str", false), (.inl "tuple", false), (.inl "list", false)] ++ bif noW U then dicR U else [(.inr cKnown, false), (.inr cWinding, false)] ++ U.map fun c => (.inr c, false)
def is_str (U : List Nat) : List ((String ⊕ Nat) × Bool) := [(.inl "NoneType", false), (.inl "bool", false), (.inl "int", false), (.inl "str", true), (.inl "tuple", false), (.inl "list", false)] ++ bif noW U then dicR U else [(.inr cKnown, false), (.inr cWinding, false)] ++ U.map fun c => (.inr c, false)
def is_tuple (U : List Nat) : List ((String ⊕ Nat) × Bool) := [(.inl "NoneType", false), (.inl "bool", false), (.inl "int", false), (.inl "str", false), (.inl "tuple", true), (.inl "list", false)] ++ bif noW U then dicR U else [(.inr cKnown, false), (.inr cWinding, false)] ++ U.map fun c => (.inr c, false)
def is_Known (U : List Nat) : List ((String ⊕ Nat) × Bool) := [(.inl "NoneType", false), (.inl "bool", false), (.inl "int", false), (.inl "str", false), (.inl "tuple", false), (.inl "list", false), (.inr cKnown, true), (.inr cWinding, false)] ++ bif noW U then dicC U else U.map fun c => (.inr c, false)
def F_is_integer (U : List Nat) : DF := runD 1 1 (sRet (dAnd (dOp1 (oIsi (is_int U)) (dVar 0)) (dNot (dOp1 (oIsi (is_bool U)) (dVar 0)))))
def F_is_between (U : List Nat) : DF := runD 3 3 (sRet (dAnd (dCall (F_is_integer U) (dCons (dVar 0) dNil)) (dChain oLe oLe (dVar 1) (dVar 0) (dVar 2))))
def F_is_word (U : List Nat) : DF := runD 1 2 (sRet (dAnd (dOp1 (oIsi (is_str U)) (dVar 0)) (dOp1 oAll (dF (compF (iSeq (dVar 0)) false [1] [1] tYesD (dOp2 oIn (dVar 1) (dC (.str "abcdefABCDEF"))))))))
def F_is_block (U : List Nat) : DF := runD 1 1 (sSeq (sIf (gOr (gNot (gTru (dOp1 (oIsi (is_tuple U)) (dVar 0)))) (gOr (gBl (dOp2 oNe (dOp1 oLen (dVar 0)) (dC (.int 3)))) (gNot (gTru (dCall (F_is_word U) (dCons (dOp2 oIx (dVar 0) (dC (.int 0))) dNil)))))) (sRet (dC (.bl false))) sPass) (sSeq (sIf (gOr (gNot (gBl (dChain oLe oLe (dC (.int 1)) (dOp1 oLen (dOp2 oIx (dVar 0) (dC (.int 0)))) (dC (.int 12))))) (gNot (gTru (dCall (F_is_between U) (dCons (dOp2 oIx (dVar 0) (dC (.int 1))) (dCons (dOp2 oSub (dC (.int 0)) (dC (.int 9))) (dCons (dC (.int 9)) dNil))))))) (sRet (dC (.bl false))) sPass) (sRet (dCall (F_is_between U) (dCons (dOp2 oIx (dVar 0) (dC (.int 2))) (dCons (dOp2 oSub (dC (.int 0)) (dC (.int 99))) (dCons (dC (.int 99)) dNil)))))))
def F_Known_init (U : List Nat) : DF := runD 2 2 (sFldD [cKnown] "parts" (dVar 0) (dVar 1))
def M_Known (U : List Nat) : DF := mkI cKnown (G_Known U)
def F_Winding_init (U : List Nat) : DF := starD 1 (runD 2 4 (sIf (gAnd (gBl (dOp2 oEq (dOp1 oLen (dVar 1)) (dC (.int 1)))) (gTru (dOp1 (oIsi (is_Known U)) (dOp2 oIx (dVar 1) (dC (.int 0)))))) (sFldD [cWinding] "blocks" (dVar 0) (dFld [cKnown] "parts" (dOp2 oIx (dVar 1) (dC (.int 0))))) (sSeq (sFor (iEnm (dVar 1)) (gTupD 2 (gConsD (gNm 2) (gConsD (gNm 3) gNilD))) (sIf (gOr (gBl (dOp2 oGe (dVar 2) (dC (.int 12)))) (gNot (gTru (dCall (F_is_block U) (dCons (dVar 3) dNil))))) sNever sPass)) (sFldD [cWinding] "blocks" (dVar 0) (dVar 1)))))
def M_Winding (U : List Nat) : DF := mkI cWinding (G_Winding U)
def F_are_blocks (U : List Nat) : DF := runD 1 2 (sSeq (sIf (gOr (gNot (gTru (dOp1 (oIsi (is_tuple U)) (dVar 0)))) (gBl (dOp2 oGt (dOp1 oLen (dVar 0)) (dC (.int 12))))) (sRet (dC (.bl false))) sPass) (sRet (dOp1 oAll (dF (compF (iSeq (dVar 0)) false [1] [1] tYesD (dCall (F_is_block U) (dCons (dVar 1) dNil)))))))
def F_text_of (U : List Nat) : DF := runD 1 5 (sSeq (sAsg (dVar 0) (gTupD 3 (gConsD (gNm 2) (gConsD (gNm 3) (gConsD (gNm 4) gNilD))))) (sSeq (sIf (gBl (dOp2 oEq (dVar 3) (dC (.int 0)))) (sRet (dJs [(dOp1 oFmt (dVar 2)), (dC (.str "^")), (dOp1 oFmt (dVar 4))] Str.empty)) sPass) (sSeq (sSet 1 (dDget [(.inl (1), .str ""), (.inl (-1), .str "-")] (dVar 3) (dOp1 oFmt (dVar 3)))) (sSeq (sIf (gBl (dOp2 oEq (dVar 4) (dC (.int 0)))) (sRet (dJs [(dOp1 oFmt (dVar 2)), (dC (.str "^")), (dOp1 oFmt (dVar 1)), (dC (.str "n"))] Str.empty)) sPass) (sRet (dIf (gBl (dOp2 oLt (dVar 4) (dC (.int 0)))) (dJs [(dOp1 oFmt (dVar 2)), (dC (.str "^")), (dOp1 oFmt (dVar 1)), (dC (.str "n")), (dOp1 oFmt (dVar 4))] Str.empty) (dJs [(dOp1 oFmt (dVar 2)), (dC (.str "^")), (dOp1 oFmt (dVar 1)), (dC (.str "n+")), (dOp1 oFmt (dVar 4))] Str.empty)))))))
def F_integer_in (U : List Nat) : DF := runD 1 3 (sSeq (sSet 1 (dIf (gBl (dOp2 oEq (dSl (dVar 0) oNo (oSo (dC (.int 1)))) (dC (.str "-")))) (dSl (dVar 0) (oSo (dC (.int 1))) oNo) (dVar 0))) (sSeq (sIf (gOr (gNot (gBl (dChain oLe oLe (dC (.int 1)) (dOp1 oLen (dVar 1)) (dC (.int 3))))) (gTru (dOp1 oAny (dF (compF (iSeq (dVar 1)) false [2] [2] tYesD (dOp2 oNotIn (dVar 2) (dC (.str "0123456789")))))))) (sRet (dC .non)) sPass) (sRet (dIf (gBl (dOp2 oEq (dOp1 oFmt (dOp1 oIntT (dVar 0))) (dVar 0))) (dOp1 oIntT (dVar 0)) (dC .non)))))
def F_factor_in (U : List Nat) : DF := runD 1 1 (sRet (dDget [(.inr "", .int (1)), (.inr "-", .int (-1))] (dVar 0) (dCall (F_integer_in U) (dCons (dVar 0) dNil))))
def F_over_in (U : List Nat) : DF := runD 1 1 (sSeq (sIf (gBl (dOp2 oEq (dVar 0) (dC (.str "")))) (sRet (dC (.int 0))) sPass) (sRet (dIf (gBl (dOp2 oEq (dSl (dVar 0) oNo (oSo (dC (.int 1)))) (dC (.str "+")))) (dCall (F_integer_in U) (dCons (dSl (dVar 0) (oSo (dC (.int 1))) oNo) dNil)) (dCall (F_integer_in U) (dCons (dVar 0) dNil)))))
def F_block_in (U : List Nat) : DF := runD 1 10 (sSeq (sAsg (dM1 sPartition (dVar 0) (dC (.str "^"))) (gTupD 3 (gConsD (gNm 4) (gConsD (gNm 5) (gConsD (gNm 6) gNilD))))) (sSeq (sAsg (dM1 sPartition (dVar 6) (dC (.str "n"))) (gTupD 3 (gConsD (gNm 7) (gConsD (gNm 8) (gConsD (gNm 9) gNilD))))) (sSeq (sSet 1 (dIf (gBl (dOp2 oEq (dVar 8) (dC (.str "n")))) (dCall (F_factor_in U) (dCons (dVar 7) dNil)) (dC (.int 0)))) (sSeq (sSet 2 (dIf (gBl (dOp2 oEq (dVar 8) (dC (.str "n")))) (dCall (F_over_in U) (dCons (dVar 9) dNil)) (dCall (F_integer_in U) (dCons (dVar 6) dNil)))) (sSeq (sSet 3 (dTup (dCons (dVar 4) (dCons (dVar 1) (dCons (dVar 2) dNil))))) (sRet (dIf (gAnd (gTru (dCall (F_is_block U) (dCons (dVar 3) dNil))) (gBl (dOp2 oEq (dCall (F_text_of U) (dCons (dVar 3) dNil)) (dVar 0)))) (dVar 3) (dC .non))))))))
def F_blocks_in (U : List Nat) : DF := runD 1 3 (sSeq (sIf (gBl (dOp2 oEq (dVar 0) (dC (.str "none")))) (sRet (dTup dNil)) sPass) (sSeq (sSet 1 (dOp1 oTupT (dF (compF (iSeq (dM1 sSplit (dVar 0) (dC (.str " ")))) false [2] [2] tYesD (dCall (F_block_in U) (dCons (dVar 2) dNil)))))) (sRet (dIf (gTru (dCall (F_are_blocks U) (dCons (dVar 1) dNil))) (dVar 1) (dC .non)))))
def F_Winding_read (U : List Nat) : DF := runD 1 2 (sSeq (sSet 1 (dIf (gTru (dOp1 (oIsi (is_str U)) (dVar 0))) (dCall (F_blocks_in U) (dCons (dVar 0) dNil)) (dC .non))) (sSeq (sIf (gBl (dOp2 oIs (dVar 1) (dC .non))) sNever sPass) (sRet (dCall (M_Winding U) (dCons (dCall (M_Known U) (dCons (dVar 1) dNil)) dNil)))))
def F_Winding_len (U : List Nat) : DF := runD 1 1 (sRet (dOp1 oLen (dFld [cWinding] "blocks" (dVar 0))))
def F_Winding_str (U : List Nat) : DF := runD 1 2 (sSeq (sIf (gBl (dOp2 oEq (dOp1 oLen (dFld [cWinding] "blocks" (dVar 0))) (dC (.int 0)))) (sRet (dC (.str "none"))) sPass) (sRet (dM1 sJoin (dC (.str " ")) (dF (compF (iSeq (dFld [cWinding] "blocks" (dVar 0))) false [1] [1] tYesD (dCall (F_text_of U) (dCons (dVar 1) dNil)))))))
end KP
namespace KL
open PySem PySem.Spec PyProof.Rows L2 AM KP
def F_law_cup (U : List Nat) : DF := runD 2 4 (sSeq (sSet 2 (dIf (gBl (dOp2 oLt (dVar 1) (dOp1 oLen (dVar 0)))) (dOp2 oIx (dVar 0) (dVar 1)) (dOp2 oAdd (dOp2 oMul (dC (.int 7919)) (dVar 1)) (dC (.int 104729))))) (sSeq (sFor (iSeq (dIf (gBl (dOp2 oGe (dVar 1) (dOp1 oLen (dVar 0)))) (dSl (dVar 0) oNo (oSo (dC (.int 2)))) (dLst dNil))) (gNm 3) (sSet 2 (dOp2 oMod (dOp1 oIntT (dOp2 oAdd (dOp2 oMul (dVar 2) (dC (.int 31))) (dVar 3))) (dC (.int 1000000007))))) (sRet (dNew (dLstF (dCons (dOp2 oMod (dOp1 oIntT (dOp2 oAdd (dOp2 oAdd (dOp2 oMul (dVar 2) (dC (.int 4099))) (dOp2 oMul (dC (.int 271)) (dVar 1))) (dC (.int 17)))) (dC (.int 2147483629))) (dCons (dIf (gOr (gBl (dOp2 oLt (dVar 2) (dC (.int 0)))) (gBl (dOp2 oGe (dVar 2) (dOp2 oPow (dC (.int 10)) (dC (.int 18)))))) (dOp1 oAbs (dVar 2)) (dC (.int 0))) dNil)))))))
def F_law_sip (U : List Nat) : DF := runD 2 3 (sSeq (sAsg (dOp2 oMod (dOp1 oIntT (dOp2 oAdd (dOp2 oMul (dOp2 oIx (dVar 0) (dC (.int 0))) (dC (.int 48271))) (dC (.int 11)))) (dC (.int 2147483629))) (gIx (dVar 0) (dC (.int 0)))) (sSeq (sIf (gBl (dOp2 oGt (dOp2 oIx (dVar 0) (dC (.int 1))) (dC (.int 0)))) (sSeq (sAsg (dOp2 oDivmod (dOp2 oIx (dVar 0) (dC (.int 1))) (dVar 1)) (gTupD 2 (gConsD (gIx (dVar 0) (dC (.int 1))) (gConsD (gNm 2) gNilD)))) (sRet (dVar 2))) sPass) (sRet (dOp2 oMod (dOp1 oIntT (dOp2 oDiv (dOp2 oIx (dVar 0) (dC (.int 0))) (dC (.int 1021)))) (dVar 1)))))
def F_law_pick (U : List Nat) : DF := runD 2 2 (sRet (dOp2 oIx (dVar 1) (dCall (F_law_sip U) (dCons (dVar 0) (dCons (dOp1 oLen (dVar 1)) dNil)))))
def F_law_strand (U : List Nat) : DF := runD 2 5 (sSeq (sSet 2 (dCall (F_law_pick U) (dCons (dVar 0) (dCons (dLst (dCons (dC (.str "ab")) (dCons (dC (.str "abAB")) (dCons (dC (.str "abcABC")) (dCons (dC (.str "aA")) (dCons (dC (.str "aB")) dNil)))))) dNil)))) (sSeq (sSet 3 (dM1 sJoin (dC (.str "")) (dF (compF (iRan (dOp2 oAdd (dC (.int 1)) (dCall (F_law_sip U) (dCons (dVar 0) (dCons (dVar 1) dNil))))) false [4] [4] tYesD (dCall (F_law_pick U) (dCons (dVar 0) (dCons (dOp1 oLstT (dVar 2)) dNil))))))) (sRet (dIf (gAnd (gBl (dOp2 oEq (dCall (F_law_sip U) (dCons (dVar 0) (dCons (dC (.int 6)) dNil))) (dC (.int 0)))) (gBl (dOp2 oLt (dOp1 oLen (dVar 3)) (dC (.int 7))))) (dOp2 oAdd (dVar 3) (dVar 3)) (dVar 3)))))
end KL
namespace KP
open PySem PySem.Spec PyProof.Rows L2 AM KL KP
end KP
namespace KL
open PySem PySem.Spec PyProof.Rows L2 AM KL KP
def F_law_block (U : List Nat) : DF := runD 1 3 (sSeq (sPar 1 2 (dCons (dCall (F_law_pick U) (dCons (dVar 0) (dCons (dLst (dCons (dC (.int 0)) (dCons (dC (.int 1)) (dCons (dC (.int 1)) (dCons (dNeg (dC (.int 1))) (dCons (dC (.int 2)) (dCons (dNeg (dC (.int 2))) dNil))))))) dNil))) (dCons (dOp2 oSub (dCall (F_law_sip U) (dCons (dVar 0) (dCons (dC (.int 9)) dNil))) (dC (.int 4))) dNil))) (sRet (dTup (dCons (dCall (F_law_strand U) (dCons (dVar 0) (dCons (dC (.int 4)) dNil))) (dCons (dVar 1) (dCons (dIf (gAnd (gBl (dOp2 oEq (dVar 1) (dC (.int 0)))) (gBl (dOp2 oEq (dVar 2) (dC (.int 0))))) (dC (.int 1)) (dVar 2)) dNil))))))
end KL
namespace KW
def bar (c : Nat) : Nat := c ^^^ 32
theorem bar_bar (c : Nat) : bar (bar c) = c := by unfold bar; rw [Nat.xor_assoc, Nat.xor_self, Nat.xor_zero]
def Tight : List Nat → Prop
  | a :: b :: r => b ≠ bar a ∧ Tight (b :: r)
  | _ => True
def decTight : (l : List Nat) → Decidable (Tight l)
  | [] => isTrue trivial
  | [_] => isTrue trivial
  | a :: b :: r => @instDecidableAnd (b ≠ bar a) (Tight (b :: r)) _ (decTight (b :: r))
instance : DecidablePred Tight := decTight
@[simp] theorem tight_nil : Tight [] := trivial
@[simp] theorem tight_one (a : Nat) : Tight [a] := trivial
@[simp] theorem tight_cons2 (a b : Nat) (r : List Nat) : Tight (a :: b :: r) ↔ b ≠ bar a ∧ Tight (b :: r) := Iff.rfl
theorem Tight.tail {a : Nat} {r : List Nat} (h : Tight (a :: r)) : Tight r := by
  cases r with
  | nil => trivial
  | cons b r => exact h.2
theorem tight_append {x y : List Nat} : Tight (x ++ y) ↔ Tight x ∧ Tight y ∧ ∀ a b, x.getLast? = some a → y.head? = some b → b ≠ bar a := by
  induction x with
  | nil => simp
  | cons a x ih =>
    cases x with
    | nil =>
      cases y with
      | nil => simp
      | cons b y =>
        simp only [List.cons_append, List.nil_append, tight_cons2, tight_one, true_and, List.getLast?_singleton, List.head?_cons, Option.some.injEq]
        constructor
        · rintro ⟨h1, h2⟩
          refine ⟨h2, ?_⟩
          rintro _ _ rfl rfl
          exact h1
        · rintro ⟨h1, h2⟩
          exact ⟨h2 _ _ rfl rfl, h1⟩
    | cons c x =>
      simp only [List.cons_append, tight_cons2] at ih ⊢
      rw [ih, List.getLast?_cons_cons, and_assoc]
theorem Tight.left {x y : List Nat} (h : Tight (x ++ y)) : Tight x := (tight_append.mp h).1
theorem Tight.right {x y : List Nat} (h : Tight (x ++ y)) : Tight y := (tight_append.mp h).2.1
def inv (w : List Nat) : List Nat := (w.map bar).reverse
@[simp] theorem inv_nil : inv [] = [] := rfl
@[simp] theorem inv_length (w : List Nat) : (inv w).length = w.length := by simp [inv]
theorem inv_cons (a : Nat) (x : List Nat) : inv (a :: x) = inv x ++ [bar a] := by simp [inv]
@[simp] theorem inv_inv (w : List Nat) : inv (inv w) = w := by
  unfold inv
  rw [List.map_reverse, List.reverse_reverse, List.map_map]
  have : bar ∘ bar = id := funext bar_bar
  rw [this, List.map_id]
def push (s : List Nat) (c : Nat) : List Nat := match s with
  | [] => [c]
  | x :: r => if x = bar c then r else c :: x :: r
def redS (s w : List Nat) : List Nat := w.foldl push s
def red (w : List Nat) : List Nat := (redS [] w).reverse
def TS (s : List Nat) : Prop := Tight s
theorem ts_nil : TS [] := trivial
theorem TS.push {s : List Nat} (h : TS s) (c : Nat) : TS (push s c) := by
  unfold KW.push
  cases s with
  | nil => trivial
  | cons x r =>
    simp only
    split
    · exact h.tail
    · rename_i hx
      exact ⟨hx, h⟩
theorem TS.redS {s : List Nat} (h : TS s) (w : List Nat) : TS (redS s w) := by
  induction w generalizing s with
  | nil => exact h
  | cons a w ih => exact ih (h.push a)
theorem push_bar {s : List Nat} (h : TS s) (c : Nat) : push (push s c) (bar c) = s := by
  cases s with
  | nil => simp [push, bar_bar]
  | cons x r =>
    by_cases hx : x = bar c
    · subst hx
      have e : push (bar c :: r) c = r := by simp [push]
      rw [e]
      cases r with
      | nil => rfl
      | cons y r =>
        have hy : y ≠ bar (bar c) := h.1
        unfold push
        simp [hy]
    · have e : push (x :: r) c = c :: x :: r := by simp [push, hx]
      rw [e]
      unfold push
      simp [bar_bar]
theorem redS_append (s x y : List Nat) : redS s (x ++ y) = redS (redS s x) y := List.foldl_append
theorem redS_cons (s : List Nat) (a : Nat) (x : List Nat) : redS s (a :: x) = redS (push s a) x := rfl
theorem redS_inv {s : List Nat} (h : TS s) (w : List Nat) : redS (redS s w) (inv w) = s := by
  induction w generalizing s with
  | nil => rfl
  | cons a w ih =>
    rw [inv_cons, redS_append]
    show push (redS (redS (push s a) w) (inv w)) (bar a) = s
    rw [ih (h.push a)]
    exact push_bar h a
theorem redS_tight {s w : List Nat} (h : Tight w) (hm : ∀ a b, s.head? = some a → w.head? = some b → b ≠ bar a) : redS s w = w.reverse ++ s := by
  induction w generalizing s with
  | nil => rfl
  | cons b w ih =>
    rw [redS_cons]
    have e : push s b = b :: s := by
      cases s with
      | nil => rfl
      | cons a r =>
        have : a ≠ bar b := fun e => hm a b rfl rfl (by rw [e, bar_bar])
        simp [push, this]
    rw [e, ih h.tail, List.reverse_cons, List.append_assoc]
    · rfl
    · intro x y hx hy
      simp at hx
      subst hx
      cases w with
      | nil => simp at hy
      | cons c w => simp at hy; subst hy; exact h.1
theorem red_tight {w : List Nat} (h : Tight w) : red w = w := by
  unfold red
  rw [redS_tight h (by simp)]
  simp
theorem tight_reverse {w : List Nat} (h : Tight w) : Tight w.reverse := by
  induction w with
  | nil => trivial
  | cons a w ih =>
    rw [List.reverse_cons, tight_append]
    refine ⟨ih h.tail, trivial, fun x y hx hy => ?_⟩
    simp at hy
    subst hy
    cases w with
    | nil => simp at hx
    | cons b w =>
      simp at hx
      subst hx
      intro e
      exact h.1 (by rw [e, bar_bar])
theorem tight_red (w : List Nat) : Tight (red w) := by
  have : TS (redS [] w) := TS.redS ts_nil w
  exact tight_reverse this
theorem red_red (w : List Nat) : red (red w) = red w := red_tight (tight_red w)
theorem redS_red {s : List Nat} (h : TS s) (w : List Nat) : redS s (red w) = redS s w := by
  have key : ∀ (r : List Nat) (n : Nat), r.length = n → redS s (redS [] r).reverse = redS s r := by
    intro r n
    induction n generalizing r with
    | zero => intro e; rw [List.length_eq_zero_iff.mp e]; rfl
    | succ n ih =>
      intro e
      have hr : r ≠ [] := fun z => by rw [z] at e; simp at e
      obtain ⟨x, c, rfl⟩ : ∃ x c, r = x ++ [c] := ⟨r.dropLast, r.getLast hr, (List.dropLast_concat_getLast hr).symm⟩
      have ex : x.length = n := by simpa using e
      have i := ih x ex
      have ht : TS (redS [] x) := TS.redS ts_nil x
      rw [redS_append, redS_append, ← i]
      cases q : redS [] x with
      | nil => rfl
      | cons y t =>
        show redS s (push (y :: t) c).reverse = push (redS s (y :: t).reverse) c
        by_cases hy : y = bar c
        · have e1 : push (y :: t) c = t := by simp [push, hy]
          rw [e1, List.reverse_cons, redS_append]
          show redS s t.reverse = push (push (redS s t.reverse) y) c
          rw [hy]
          have := push_bar (h.redS t.reverse) (bar c)
          rw [bar_bar] at this
          exact this.symm
        · have e1 : push (y :: t) c = c :: y :: t := by simp [push, hy]
          rw [e1, List.reverse_cons, redS_append]
          rfl
  exact key w _ rfl
def E (x y : List Nat) : Prop := red x = red y
theorem E.refl (x : List Nat) : E x x := rfl
theorem E.symm {x y : List Nat} (h : E x y) : E y x := Eq.symm h
theorem E.trans {x y z : List Nat} (a : E x y) (b : E y z) : E x z := Eq.trans a b
theorem E.of_eq {x y : List Nat} (h : x = y) : E x y := by rw [h]; exact E.refl y
theorem E.stack {x y : List Nat} (h : E x y) {s : List Nat} (hs : TS s) : redS s x = redS s y := by
  rw [← redS_red hs x, ← redS_red hs y, h]
theorem E.red (x : List Nat) : E (KW.red x) x := red_red x
theorem E.append {x y u v : List Nat} (a : E x y) (b : E u v) : E (x ++ u) (y ++ v) := by
  unfold E KW.red
  rw [redS_append, redS_append, a.stack ts_nil, b.stack (TS.redS ts_nil y)]
theorem E.left {u v : List Nat} (x : List Nat) (b : E u v) : E (x ++ u) (x ++ v) := (E.refl x).append b
theorem E.right {x y : List Nat} (a : E x y) (u : List Nat) : E (x ++ u) (y ++ u) := a.append (E.refl u)
theorem E.inv_r (w : List Nat) : E (w ++ inv w) [] := by
  unfold E KW.red
  rw [redS_append, redS_inv ts_nil]
  rfl
theorem E.inv_l (w : List Nat) : E (inv w ++ w) [] := by
  have := E.inv_r (inv w)
  rwa [inv_inv] at this
theorem E.pair (x y : List Nat) (a : Nat) : E (x ++ a :: bar a :: y) (x ++ y) := by
  have h : E ([a] ++ inv [a] ++ y) y := (E.inv_r [a]).right y
  exact E.left x h
theorem E.inv {x y : List Nat} (h : E x y) : E (inv x) (inv y) := by
  -- inv x ~ inv x y inv y ~ inv x x inv y ~ inv y
  have h1 : E (KW.inv x ++ (y ++ KW.inv y)) (KW.inv x) := by
    have := E.left (KW.inv x) (E.inv_r y)
    rwa [List.append_nil] at this
  have h2 : E (KW.inv x ++ (y ++ KW.inv y)) (KW.inv y) := by
    have a : E (KW.inv x ++ y ++ KW.inv y) (KW.inv x ++ x ++ KW.inv y) := ((E.left (KW.inv x) h.symm)).right _
    rw [← List.append_assoc]
    exact a.trans ((E.inv_l x).right _)
  exact h1.symm.trans h2
def rep (w : List Nat) (n : Nat) : List Nat := (List.replicate n w).flatten
@[simp] theorem rep_zero (w : List Nat) : rep w 0 = [] := rfl
theorem rep_succ (w : List Nat) (n : Nat) : rep w (n + 1) = w ++ rep w n := by simp [rep, List.replicate_succ]
theorem rep_one (w : List Nat) : rep w 1 = w := by rw [rep_succ, rep_zero, List.append_nil]
theorem rep_length (w : List Nat) (n : Nat) : (rep w n).length = n * w.length := by
  induction n with
  | zero => simp
  | succ n ih => rw [rep_succ, List.length_append, ih, Nat.succ_mul, Nat.add_comm]
@[simp] theorem rep_nil (n : Nat) : rep [] n = [] := by
  have := rep_length [] n
  simpa using this
theorem E.rep {x y : List Nat} (h : E x y) (n : Nat) : E (rep x n) (rep y n) := by
  induction n with
  | zero => exact E.refl _
  | succ n ih => rw [rep_succ, rep_succ]; exact h.append ih
def wpow (w : List Nat) (k : Int) : List Nat := if 0 ≤ k then rep w k.toNat else rep (inv w) (-k).toNat
theorem wpow_nat (w : List Nat) (n : Nat) : wpow w n = rep w n := by simp [wpow]
@[simp] theorem wpow_zero (w : List Nat) : wpow w 0 = [] := by simp [wpow]
@[simp] theorem wpow_one (w : List Nat) : wpow w 1 = w := by
  have := wpow_nat w 1
  rw [rep_one] at this
  exact this
theorem E.wpow {x y : List Nat} (h : E x y) (k : Int) : E (wpow x k) (wpow y k) := by
  unfold KW.wpow
  split
  · exact h.rep _
  · exact h.inv.rep _
end KW
namespace KW
structure It where
  w : List Nat
  p : Int
  q : Int
deriving DecidableEq
abbrev Row := List It
def It.at_ (n : Int) (t : It) : List Nat := wpow t.w (t.p * n + t.q)
def val (n : Int) (r : Row) : List Nat := (r.map (It.at_ n)).flatten
@[simp] theorem val_nil (n : Int) : val n [] = [] := rfl
def It.plain (t : It) : Bool := decide (t.p = 0) && decide (t.q = 1)
inductive Stp where
  | out (i : Nat) | turn (i : Nat) | join (i : Nat) | split (i : Nat) (a b : Int) | cut (i : Nat) (k : Int) | glue (i : Nat) | undo (i : Nat) (k : Int) | back (i : Nat) (k : Int) | opn (i : Nat) (k : Int) | root (i : Nat) (r : Int)
deriving DecidableEq
def Stp.i : Stp → Nat
  | .out i => i | .turn i => i | .join i => i | .split i _ _ => i | .cut i _ => i | .glue i => i | .undo i _ => i | .back i _ => i | .opn i _ => i | .root i _ => i
def Stp.pair : Stp → Bool
  | .join _ => true | .glue _ => true | .back _ _ => true | _ => false
end KW
namespace KP
open PySem PySem.Spec PyProof.Rows L2 AM TL
variable {U : List Nat}
def LET : List Nat := [97, 98, 99, 100, 101, 102, 65, 66, 67, 68, 69, 70]
theorem let_eq : ("abcdefABCDEF" : Str) = mk LET := by decide +kernel
def okW (w : List Nat) : Bool := decide (1 ≤ w.length) && (decide (w.length ≤ 12) && w.all fun c => decide (c ∈ LET))
theorem isWord_mk (w : List Nat) : isWord (mk w) = okW w := by
  unfold isWord okW
  rw [mk_len]
  have e : (mk w).cps.toList = w := rfl
  rw [e]
  congr 2
  have h : (fun c : Nat => "abcdefABCDEF".toList.any fun x => x.toNat == c) = fun c => decide (c ∈ LET) := by
    funext c
    have e2 : "abcdefABCDEF".toList = ['a', 'b', 'c', 'd', 'e', 'f', 'A', 'B', 'C', 'D', 'E', 'F'] := by decide +kernel
    rw [e2]
    simp only [List.any_cons, List.any_nil, LET]
    rw [Bool.eq_iff_iff]
    simp
    constructor
    · rintro (h|h|h|h|h|h|h|h|h|h|h|h) <;> simp [← h]
    · rintro (h|h|h|h|h|h|h|h|h|h|h|h) <;> simp [h]
  rw [h]
def dB (w : List Nat) (p q : Int) : AM.D := .tup [.str (mk w), .int p, .int q]
def okB (w : List Nat) (p q : Int) : Prop := okW w = true ∧ -9 ≤ p ∧ p ≤ 9 ∧ -99 ≤ q ∧ q ≤ 99
theorem isBk_iff (d : AM.D) : isBk d = true ↔ ∃ w p q, d = dB w p q ∧ okB w p q := by
  constructor
  · intro h
    unfold isBk at h
    split at h
    · rename_i w p q
      simp only [Bool.and_eq_true, decide_eq_true_eq] at h
      refine ⟨tl w, p, q, by unfold dB; rw [mkTl], ?_, h.2.1, h.2.2.1, h.2.2.2.1, h.2.2.2.2⟩
      rw [← isWord_mk, mkTl]; exact h.1
    · cases h
  · rintro ⟨w, p, q, rfl, h1, h2, h3, h4, h5⟩
    unfold dB isBk
    simp only [Bool.and_eq_true, decide_eq_true_eq]
    exact ⟨by rw [isWord_mk]; exact h1, h2, h3, h4, h5⟩
theorem okW_len {w : List Nat} (h : okW w = true) : 1 ≤ w.length ∧ w.length ≤ 12 := by
  unfold okW at h
  simp only [Bool.and_eq_true, decide_eq_true_eq] at h
  exact ⟨h.1, h.2.1⟩
theorem okW_all {w : List Nat} (h : okW w = true) : ∀ c ∈ w, c ∈ LET := by
  unfold okW at h
  simp only [Bool.and_eq_true, decide_eq_true_eq, List.all_eq_true] at h
  exact h.2.2
theorem p_is_integer (i : Int) (st : Sto) : (F_is_integer U) [.int i] st = .ok (.bl true) st := by rfl
theorem p_is_between (i lo hi : Int) (st : Sto) : (F_is_between U) [.int i, .int lo, .int hi] st = .ok (.bl (decide (lo ≤ i) && decide (i ≤ hi))) st := by
  unfold F_is_between
  refine runD_rt rfl ?_
  simp [p_is_integer]
  cases decide (lo ≤ i) <;> rfl
theorem p_is_word {w : List Nat} (hl : w.length ≤ 16777216) (st : Sto) : (F_is_word U) [.str (mk w)] st = .ok (.bl (w.all fun c => decide (c ∈ LET))) st := by
  unfold F_is_word
  refine runD_rt rfl ?_
  have es : oIsi (is_str U) (.str (mk w)) st = .ok (.bl true) st := rfl
  have e := all_ok (f := compF (iSeq (dVar 0)) false [1] [1] tYesD (dOp2 oIn (dVar 1) (dC (.str "abcdefABCDEF")))) (env := [.sh (.str (mk w)), .un]) (st := st) (bs := w.map fun c => decide (c ∈ LET)) (by
    rw [List.map_map]
    refine comp1 (g := fun c => .str (mk [c])) rfl rfl (fun c _ => ?_) hl
    rw [let_eq]
    rfl)
  rw [List.all_map] at e
  show ((dAnd (dOp1 (oIsi (is_str U)) (dVar 0)) (dOp1 oAll (dF (compF (iSeq (dVar 0)) false [1] [1] tYesD (dOp2 oIn (dVar 1) (dC (.str "abcdefABCDEF"))))))) [.sh (.str (mk w)), .un] st).then _ = _
  rw [ev_dAnd, ev_dOp1]
  simp only [ev_dVar0, ev_bind_ok, es]
  rw [e]
  rfl
theorem p_is_block {w : List Nat} {p q : Int} (h : okB w p q) (st : Sto) : (F_is_block U) [dB w p q] st = .ok (.bl true) st := by
  obtain ⟨h1, h2, h3, h4, h5⟩ := h
  have hl := okW_len h1
  have hw : (F_is_word U) [.str (mk w)] st = .ok (.bl true) st := by
    rw [p_is_word (by omega)]
    congr 2
    rw [List.all_eq_true]
    intro c hc
    exact decide_eq_true (okW_all h1 c hc)
  have e0 : ∀ st, oIx (dB w p q) (.int 0) st = .ok (.str (mk w)) st := fun st => rfl
  have e1 : ∀ st, oIx (dB w p q) (.int 1) st = .ok (.int p) st := fun st => rfl
  have e2 : ∀ st, oIx (dB w p q) (.int 2) st = .ok (.int q) st := fun st => rfl
  have et : ∀ st, oIsi (is_tuple U) (dB w p q) st = .ok (.bl true) st := fun st => rfl
  have el : ∀ st, oLen (dB w p q) st = .ok (.int 3) st := fun st => rfl
  unfold F_is_block
  refine runD_rt rfl ?_
  have g1 : ((1 : Int) ≤ w.length) := by omega
  have g2 : ((w.length : Int) ≤ 12) := by omega
  simp [et, el, e0, hw, ev_lenS (show w.length ≤ 16777216 by omega), e1, e2, p_is_between, g1, g2, h2, h3, h4, h5]
theorem mk_Known : MkOk cKnown (F_Known_init U) (G_Known U) := by
  intro ds st
  unfold G_Known
  split
  · rename_i h
    split at h
    · rename_i d
      split at h
      · rename_i hb
        cases h
        refine ⟨?_, by unfold hbF; rw [hb]; rfl⟩
        unfold F_Known_init
        refine runD_nx rfl (env := [.sh (.hd st.length), .sh d]) ?_
        simp [putFd, cKnown]
        rfl
      · cases h
    · cases h
  · rename_i h
    split at h
    · split at h <;> cases h
    · cases h
  · trivial
theorem isBk_isi {d : AM.D} (h : isBk d = true) : d ≠ .ins cKnown [] ∧ ∀ st, oIsi (is_Known U) d st = .ok (.bl false) st := by
  obtain ⟨w, p, q, rfl, _⟩ := (isBk_iff d).mp h
  exact ⟨by unfold dB; simp, fun st => rfl⟩
theorem p_blk {d : AM.D} (h : isBk d = true) (st : Sto) : (F_is_block U) [d] st = .ok (.bl true) st := by
  obtain ⟨w, p, q, rfl, hb⟩ := (isBk_iff d).mp h
  exact p_is_block hb st
theorem hb_blk {d : AM.D} (h : isBk d = true) : AM.D.hb 0 d = true := by
  obtain ⟨w, p, q, rfl, hb⟩ := (isBk_iff d).mp h
  rfl
theorem hbs_all {ds : List AM.D} (h : ∀ d ∈ ds, AM.D.hb 0 d = true) : AM.hbs 0 ds = true := by
  induction ds with
  | nil => rfl
  | cons d ds ih =>
    unfold hbs
    rw [h d List.mem_cons_self, ih fun d hd => h d (List.mem_cons_of_mem _ hd)]
    rfl
theorem p_loop (ds : List AM.D) (hz : ds.length ≤ 12) (hb : ∀ d ∈ ds, isBk d = true) (a : Sl) (b : Sl) (st : Sto) : ∀ (l : List (AM.D × Nat)) (x y : Sl), (∀ p ∈ l, p.1 ∈ ds ∧ p.2 < 12) → ∃ x' y', forL (gTupD 2 (gConsD (gNm 2) (gConsD (gNm 3) gNilD))) (sIf (gOr (gBl (dOp2 oGe (dVar 2) (dC (.int 12)))) (gNot (gTru (dCall (F_is_block U) (dCons (dVar 3) dNil))))) sNever sPass) (l.map fun p => AM.D.tup [.int (p.2 : Nat), p.1]) [a, b, x, y] st = .nx [a, b, x', y'] st
  | [], x, y, _ => ⟨x, y, rfl⟩
  | (d, i) :: l, x, y, h => by
    obtain ⟨x', y', e⟩ := p_loop ds hz hb a b st l (.sh (.int (i : Nat))) (.sh d) fun p hp => h p (List.mem_cons_of_mem _ hp)
    refine ⟨x', y', ?_⟩
    have h1 := h (d, i) List.mem_cons_self
    have hi : ¬ (12 : Int) ≤ (i : Nat) := by have := h1.2; omega
    rw [List.map_cons]
    unfold forL
    simp [hi, p_blk (hb d h1.1)]
    exact e
theorem mk_Winding : MkOk cWinding (F_Winding_init U) (G_Winding U) := by
  intro ds st
  have hput : ∀ (d : AM.D) (env : AEnv), putFd [cWinding] "blocks" (.hd st.length) d env (st ++ [.obj cWinding []]) = .nx env (st ++ [.obj cWinding [("blocks", d)]]) := by
    intro d env
    unfold putFd
    simp only [List.getElem?_append_right (Nat.le_refl _), Nat.sub_self, List.getElem?_cons_zero]
    rw [if_pos (by rfl), List.set_append_right _ _ (Nat.le_refl _), Nat.sub_self]
    rfl
  unfold G_Winding
  split
  · rename_i fs0 _ h
    split at h
    · rename_i c fs
      split at h
      · rename_i hc
        split at h
        · rename_i d hd
          split at h
          · rename_i hb
            cases h
            subst hc
            refine ⟨?_, by unfold hbF; rw [hb]; rfl⟩
            unfold F_Winding_init starD
            rw [if_pos ⟨by simp, by rw [sizeLine_val]; simp⟩]
            refine runD_nx rfl (env := [.sh (.hd st.length), .sh (.tup [.ins cKnown fs]), .un, .un]) ?_
            have ei : ∀ st, oIx (.tup [.ins cKnown fs]) (.int 0) st = .ok (.ins cKnown fs) st := fun st => rfl
            have es : ∀ st, oIsi (is_Known U) (.ins cKnown fs) st = .ok (.bl true) st := fun st => rfl
            have ef : ∀ st, fldOf [cKnown] "parts" (.ins cKnown fs) st = some d := fun st => by
              show (if [cKnown].contains cKnown = true then fs.lookup ("parts" : Str) else none) = _
              rw [if_pos (by rfl), hd]
            simp [ei, es, ef, hput]
          · cases h
        · cases h
      · cases h
    · split at h
      · rename_i hq
        cases h
        have hb : ∀ d ∈ ds, isBk d = true := by
          have := hq.2
          rw [List.all_eq_true] at this
          exact this
        refine ⟨?_, by
          unfold hbF hbF
          rw [show AM.D.hb 0 (.tup ds) = AM.hbs 0 ds from by unfold AM.D.hb; rfl, hbs_all fun d hd => hb_blk (hb d hd)]
          rfl⟩
        unfold F_Winding_init starD
        have hl := hq.1
        rw [if_pos ⟨by simp, by rw [sizeLine_val, List.length_cons]; omega⟩]
        have t1 : ∀ st', (gAnd (gBl (dOp2 oEq (dOp1 oLen (dVar 1)) (dC (.int 1)))) (gTru (dOp1 (oIsi (is_Known U)) (dOp2 oIx (dVar 1) (dC (.int 0)))))) [.sh (.hd st.length), .sh (.tup ds), .un, .un] st' = .ok false st' := by
          intro st'
          by_cases h1 : ds.length = 1
          · obtain ⟨d, rfl⟩ : ∃ d, ds = [d] := by
              match ds, h1 with
              | [d], _ => exact ⟨d, rfl⟩
            have ei : ∀ st, oIx (.tup [d]) (.int 0) st = .ok d st := fun st => rfl
            simp [ei, (isBk_isi (hb d List.mem_cons_self)).2]
          · have h2 : ¬ (ds.length : Int) = 1 := by omega
            simp [h2]
        obtain ⟨x', y', e⟩ := p_loop ds hl hb (.sh (.hd st.length)) (.sh (.tup ds)) (st ++ [.obj cWinding []]) ds.zipIdx .un .un (by
          intro p hp
          have := List.mem_zipIdx' hp
          exact ⟨by rw [this.2]; exact List.getElem_mem _, by omega⟩)
        refine runD_nx rfl (env := [.sh (.hd st.length), .sh (.tup ds), x', y']) ?_
        show (sIf _ _ _ : SF) [.sh (.hd st.length), .sh (.tup ds), .un, .un] _ = _
        rw [ev_sIf, t1]
        simp [sFor]
        rw [show (enm ds) = ds.zipIdx.map fun p => AM.D.tup [.int (p.2 : Nat), p.1] from rfl, e]
        simp [hput]
      · cases h
  · rename_i h
    split at h
    · split at h
      · split at h
        · split at h <;> cases h
        · cases h
      · cases h
    · split at h <;> cases h
  · trivial
end KP
namespace KP
open PySem PySem.Spec PyProof.Rows L2 AM TL
variable {U : List Nat}
theorem s_0 : ("" : Str) = mk [] := by decide +kernel
theorem s_94 : ("^" : Str) = mk [94] := by decide +kernel
theorem s_n : ("n" : Str) = mk [110] := by decide +kernel
theorem s_np : ("n+" : Str) = mk [110, 43] := by decide +kernel
theorem s_m : ("-" : Str) = mk [45] := by decide +kernel
theorem s_p : ("+" : Str) = mk [43] := by decide +kernel
theorem s_sp : (" " : Str) = mk [32] := by decide +kernel
theorem s_none : ("none" : Str) = mk [110, 111, 110, 101] := by decide +kernel
theorem s_dig : ("0123456789" : Str) = mk [48, 49, 50, 51, 52, 53, 54, 55, 56, 57] := by decide +kernel
theorem s_e : Str.empty = mk [] := by decide +kernel
def fac (p : Int) : List Nat := if p = 1 then [] else if p = -1 then [45] else numI p
def ovr (q : Int) : List Nat := if q = 0 then [] else if q < 0 then numI q else 43 :: numI q
def pw (p q : Int) : List Nat := if p = 0 then numI q else fac p ++ 110 :: ovr q
def txt (w : List Nat) (p q : Int) : List Nat := w ++ 94 :: pw p q
theorem small {p : Int} {n : Nat} (h1 : -(n : Int) ≤ p) (h2 : p ≤ n) (hn : n < 10 ^ 3) : p.natAbs < 10 ^ 500 := by
  have : p.natAbs < 10 ^ 3 := by omega
  exact Nat.lt_trans this (by decide)
theorem numI_len3 {p : Int} (h1 : -99 ≤ p) (h2 : p ≤ 99) : (numI p).length ≤ 3 := numI_len (k := 2) (by decide) (by omega)
theorem fac_len {p : Int} (h1 : -9 ≤ p) (h2 : p ≤ 9) : (fac p).length ≤ 3 := by
  unfold fac
  split
  · decide
  · split
    · decide
    · exact numI_len3 (by omega) (by omega)
theorem ovr_len {p : Int} (h1 : -99 ≤ p) (h2 : p ≤ 99) : (ovr p).length ≤ 4 := by
  unfold ovr
  have := numI_len3 h1 h2
  split
  · decide
  · split
    · omega
    · rw [List.length_cons]; omega
theorem pw_len {p q : Int} (h1 : -9 ≤ p) (h2 : p ≤ 9) (h3 : -99 ≤ q) (h4 : q ≤ 99) : (pw p q).length ≤ 8 := by
  unfold pw
  split
  · have := numI_len3 h3 h4; omega
  · rw [List.length_append, List.length_cons]
    have := fac_len h1 h2
    have := ovr_len h3 h4
    omega
theorem val_fac (p : Int) : (valD [(.inl (1), .str ""), (.inl (-1), .str "-")] (.inl p)).getD (.str (mk (numI p))) = .str (mk (fac p)) := by
  unfold valD fac
  by_cases h1 : p = 1
  · subst h1; simp [s_0]
  · by_cases h2 : p = -1
    · subst h2; simp [s_m]
    · have g1 : ¬ (1 : Int) = p := fun h => h1 h.symm
      have g2 : ¬ (-1 : Int) = p := fun h => h2 h.symm
      have e1 : ¬ (Sum.inl 1 : Key) = Sum.inl p := fun h => g1 (Sum.inl.inj h)
      have e2 : ¬ (Sum.inl (-1) : Key) = Sum.inl p := fun h => g2 (Sum.inl.inj h)
      simp [h1, h2, List.find?, e1, e2]
theorem p_text_of {w : List Nat} {p q : Int} (h : okB w p q) (st : Sto) : (F_text_of U) [dB w p q] st = .ok (.str (mk (txt w p q))) st := by
  obtain ⟨h1, h2, h3, h4, h5⟩ := h
  have hl := okW_len h1
  have np := small (n := 9) h2 h3 (by decide)
  have nq := small (n := 99) h4 h5 (by decide)
  have lq := numI_len3 h4 h5
  have lf := fac_len h2 h3
  have e3 : gTupD 3 (gConsD (gNm 2) (gConsD (gNm 3) (gConsD (gNm 4) gNilD))) (dB w p q) [.sh (dB w p q), .un, .un, .un, .un] st = .nx [.sh (dB w p q), .un, .sh (.str (mk w)), .sh (.int p), .sh (.int q)] st := rfl
  unfold F_text_of
  refine runD_rt rfl ?_
  show (sSeq (sAsg (dVar 0) (gTupD 3 (gConsD (gNm 2) (gConsD (gNm 3) (gConsD (gNm 4) gNilD))))) _) [.sh (dB w p q), .un, .un, .un, .un] st = _
  rw [ev_sSeq, ev_sAsg, ev_dVar0, ev_then_ok, e3]
  have ew := ev_fmtS (show w.length ≤ 16777216 by omega) st
  unfold txt pw
  have kd : keyD (.int p) = some (.inl p) := rfl
  by_cases hp : p = 0
  · have js := js_ok (acc := []) (.cons (f := dOp1 oFmt (dVar 2)) (y := w) (env := [.sh (dB w p q), .un, .sh (.str (mk w)), .sh (.int p), .sh (.int q)]) (st := st) ew (.cons (f := dC (.str "^")) (y := [94]) (by rw [s_94]; rfl) (.cons (f := dOp1 oFmt (dVar 4)) (y := numI q) (ev_fmtI nq st) .nil))) (by simp; omega)
    rw [← s_e] at js
    simp only [if_pos hp]
    subst hp
    show (SR.bind (sIf (gBl (dOp2 oEq (dVar 3) (dC (.int 0)))) (sRet (dJs _ Str.empty)) sPass [.sh (dB w 0 q), .un, .sh (.str (mk w)), .sh (.int 0), .sh (.int q)] st) _) = _
    rw [ev_sIf]
    show (SR.bind (sRet (dJs [(dOp1 oFmt (dVar 2)), (dC (.str "^")), (dOp1 oFmt (dVar 4))] Str.empty) [.sh (dB w 0 q), .un, .sh (.str (mk w)), .sh (.int 0), .sh (.int q)] st) _) = _
    rw [ev_sRet, js]
    simp
  · have e4 : (sSet 1 (dDget [(.inl (1), .str ""), (.inl (-1), .str "-")] (dVar 3) (dOp1 oFmt (dVar 3)))) [.sh (dB w p q), .un, .sh (.str (mk w)), .sh (.int p), .sh (.int q)] st = .nx [.sh (dB w p q), .sh (.str (mk (fac p))), .sh (.str (mk w)), .sh (.int p), .sh (.int q)] st := by
      simp [ev_fmtI np, kd, val_fac]
    have t0 : (sIf (gBl (dOp2 oEq (dVar 3) (dC (.int 0)))) (sRet (dJs [(dOp1 oFmt (dVar 2)), (dC (.str "^")), (dOp1 oFmt (dVar 4))] Str.empty)) sPass) [.sh (dB w p q), .un, .sh (.str (mk w)), .sh (.int p), .sh (.int q)] st = .nx [.sh (dB w p q), .un, .sh (.str (mk w)), .sh (.int p), .sh (.int q)] st := by
      simp [hp]
    have ef := ev_fmtS (show (fac p).length ≤ 16777216 by omega) st
    rw [ev_on_nx, ev_sb_nx, ev_sSeq, t0, ev_sb_nx, ev_sSeq, e4, ev_sb_nx, if_neg hp]
    by_cases hq : q = 0
    · have js := js_ok (acc := []) (.cons (f := dOp1 oFmt (dVar 2)) (y := w) (env := [.sh (dB w p q), .sh (.str (mk (fac p))), .sh (.str (mk w)), .sh (.int p), .sh (.int q)]) (st := st) ew (.cons (f := dC (.str "^")) (y := [94]) (by rw [s_94]; rfl) (.cons (f := dOp1 oFmt (dVar 1)) (y := fac p) ef (.cons (f := dC (.str "n")) (y := [110]) (by rw [s_n]; rfl) .nil)))) (by simp; omega)
      rw [← s_e] at js
      have t1 : (gBl (dOp2 oEq (dVar 4) (dC (.int 0)))) [.sh (dB w p q), .sh (.str (mk (fac p))), .sh (.str (mk w)), .sh (.int p), .sh (.int q)] st = .ok true st := by simp [hq]
      rw [ev_sSeq, ev_sIf, t1, ev_then_ok, if_pos rfl, ev_sRet, js]
      simp [ovr, hq]
    · have t1 : (gBl (dOp2 oEq (dVar 4) (dC (.int 0)))) [.sh (dB w p q), .sh (.str (mk (fac p))), .sh (.str (mk w)), .sh (.int p), .sh (.int q)] st = .ok false st := by simp [hq]
      rw [ev_sSeq, ev_sIf, t1, ev_then_ok, if_neg (by simp), ev_sPass, ev_sb_nx, ev_sRet, ev_dIf]
      by_cases hq2 : q < 0
      · have js := js_ok (acc := []) (.cons (f := dOp1 oFmt (dVar 2)) (y := w) (env := [.sh (dB w p q), .sh (.str (mk (fac p))), .sh (.str (mk w)), .sh (.int p), .sh (.int q)]) (st := st) ew (.cons (f := dC (.str "^")) (y := [94]) (by rw [s_94]; rfl) (.cons (f := dOp1 oFmt (dVar 1)) (y := fac p) ef (.cons (f := dC (.str "n")) (y := [110]) (by rw [s_n]; rfl) (.cons (f := dOp1 oFmt (dVar 4)) (y := numI q) (ev_fmtI nq st) .nil))))) (by simp; omega)
        rw [← s_e] at js
        have t2 : (gBl (dOp2 oLt (dVar 4) (dC (.int 0)))) [.sh (dB w p q), .sh (.str (mk (fac p))), .sh (.str (mk w)), .sh (.int p), .sh (.int q)] st = .ok true st := by simp [hq2]
        rw [t2, ev_bind_ok, if_pos rfl, js]
        simp [ovr, hq, hq2]
      · have js := js_ok (acc := []) (.cons (f := dOp1 oFmt (dVar 2)) (y := w) (env := [.sh (dB w p q), .sh (.str (mk (fac p))), .sh (.str (mk w)), .sh (.int p), .sh (.int q)]) (st := st) ew (.cons (f := dC (.str "^")) (y := [94]) (by rw [s_94]; rfl) (.cons (f := dOp1 oFmt (dVar 1)) (y := fac p) ef (.cons (f := dC (.str "n+")) (y := [110, 43]) (by rw [s_np]; rfl) (.cons (f := dOp1 oFmt (dVar 4)) (y := numI q) (ev_fmtI nq st) .nil))))) (by simp; omega)
        rw [← s_e] at js
        have t2 : (gBl (dOp2 oLt (dVar 4) (dC (.int 0)))) [.sh (dB w p q), .sh (.str (mk (fac p))), .sh (.str (mk w)), .sh (.int p), .sh (.int q)] st = .ok false st := by simp [hq2]
        rw [t2, ev_bind_ok, if_neg (by simp), js]
        simp [ovr, hq, hq2]
theorem digs (n : Nat) : ∀ c ∈ numL n, c ∈ [48, 49, 50, 51, 52, 53, 54, 55, 56, 57] := by
  intro c hc
  have h := numL_digits n c hc
  have h1 := h.1
  have h2 := h.2
  simp only [List.mem_cons, List.not_mem_nil, or_false]
  omega
theorem any_dig {n : Nat} (env : AEnv) (st : Sto) (hl : (numL n).length ≤ 16777216) (h : noOwn env [2] = true) (h1 : dVar 1 env st = .ok (.str (mk (numL n))) st) (h2 : 2 < env.length) :
    dOp1 oAny (dF (compF (iSeq (dVar 1)) false [2] [2] tYesD (dOp2 oNotIn (dVar 2) (dC (.str "0123456789"))))) env st = .ok (.bl false) st := by
  have e := any_ok (f := compF (iSeq (dVar 1)) false [2] [2] tYesD (dOp2 oNotIn (dVar 2) (dC (.str "0123456789")))) (env := env) (st := st) (st' := st) (bs := (numL n).map fun c => !decide (c ∈ [48, 49, 50, 51, 52, 53, 54, 55, 56, 57])) (by
    rw [List.map_map]
    refine comp1 (g := fun c => .str (mk [c])) h ?_ (fun c _ => ?_) hl
    · rw [ev_iSeq, h1]; rfl
    · rw [s_dig, ev_dOp2, ev_dVar, List.set_set, List.getElem?_set_self h2]
      rfl)
  rw [e]
  congr 2
  rw [List.any_map, List.any_eq_false]
  intro c hc
  have := digs n c hc
  simp only [Function.comp, id, decide_eq_true this]
  decide
theorem p_integer_in {q : Int} (h1 : -99 ≤ q) (h2 : q ≤ 99) (st : Sto) : (F_integer_in U) [.str (mk (numI q))] st = .ok (.int q) st := by
  have lq := numI_len3 h1 h2
  have nq := small (n := 99) h1 h2 (by decide)
  have ln : (numL q.natAbs).length ≤ 2 := numL_len (by decide) (by omega)
  have ln1 : 1 ≤ (numL q.natAbs).length := by
    have := numL_ne q.natAbs
    cases h : numL q.natAbs with
    | nil => exact absurd h this
    | cons a l => simp
  unfold F_integer_in
  refine runD_rt rfl ?_
  have e1 : (sSet 1 (dIf (gBl (dOp2 oEq (dSl (dVar 0) oNo (oSo (dC (.int 1)))) (dC (.str "-")))) (dSl (dVar 0) (oSo (dC (.int 1))) oNo) (dVar 0))) [.sh (.str (mk (numI q))), .un, .un] st = .nx [.sh (.str (mk (numI q))), .sh (.str (mk (numL q.natAbs))), .un] st := by
    have es := fun lo hi st => ev_slS (show (numI q).length ≤ 16777216 by omega) lo hi st
    simp [es, cut_head, cut_tail, s_m]
    have ha : asc ((numI q).take 1) = true := by
      have := numI_asc q
      unfold asc at this ⊢
      rw [List.all_eq_true] at this ⊢
      exact fun c hc => this c (List.mem_of_mem_take hc)
    rw [ev_eqM ha (by rfl)]
    simp
    by_cases hq : q < 0
    · rw [numI_neg hq]
      simp
    · rw [numI_nn (by omega)]
      have : ¬ (numL q.natAbs).take 1 = [45] := by
        intro h
        have : 45 ∈ numL q.natAbs := List.mem_of_mem_take (by rw [h]; exact List.mem_cons_self)
        exact numL_free (by omega) this
      rw [if_neg this]
      simp
  show (sSeq (sSet 1 _) _) [.sh (.str (mk (numI q))), .un, .un] st = _
  rw [ev_sSeq, e1, ev_sb_nx]
  have g1 : (1 : Int) ≤ (numL q.natAbs).length := by omega
  have g2 : ((numL q.natAbs).length : Int) ≤ 3 := by omega
  have ea := fun st => any_dig (n := q.natAbs) [.sh (.str (mk (numI q))), .sh (.str (mk (numL q.natAbs))), .un] st (by omega) rfl rfl (by simp)
  have ea2 : ∀ st, gTru (dOp1 oAny (dF (compF (iSeq (dVar 1)) false [2] [2] tYesD (dOp2 oNotIn (dVar 2) (dC (.str "0123456789")))))) [.sh (.str (mk (numI q))), .sh (.str (mk (numL q.natAbs))), .un] st = .ok false st := by
    intro st
    rw [ev_gTru, ea]; rfl
  rw [ev_sSeq, ev_sIf, ev_gOr]
  simp only [ea2]
  have e5 := fun st => ev_eqM (numI_asc q) (numI_asc q) st
  simp [ev_lenS (show (numL q.natAbs).length ≤ 16777216 by omega), g1, g2, ev_intS nq, ev_fmtI nq, e5]
theorem p_int_e (st : Sto) : (F_integer_in U) [.str (mk [])] st = .ok .non st := by
  unfold F_integer_in
  refine runD_rt rfl ?_
  have es := fun lo hi st => ev_slS (show ([] : List Nat).length ≤ 16777216 by decide) lo hi st
  have ee := fun st => ev_eqM (a := []) (b := [45]) rfl rfl st
  simp [es, cut_head, cut_tail, s_m, ee, ev_lenS (a := []) (by decide)]
theorem p_int_m (st : Sto) : (F_integer_in U) [.str (mk [45])] st = .ok .non st := by
  unfold F_integer_in
  refine runD_rt rfl ?_
  have es := fun lo hi st => ev_slS (show ([45] : List Nat).length ≤ 16777216 by decide) lo hi st
  have ee := fun st => ev_eqM (a := [45]) (b := [45]) rfl rfl st
  simp [es, cut_head, cut_tail, s_m, ee, ev_lenS (a := []) (by decide)]
theorem p_factor_in {p : Int} (h1 : -9 ≤ p) (h2 : p ≤ 9) (st : Sto) : (F_factor_in U) [.str (mk (fac p))] st = .ok (.int p) st := by
  unfold F_factor_in
  refine runD_rt rfl ?_
  have kd : ∀ x, keyD (.str x) = some (.inr x) := fun x => rfl
  unfold fac
  by_cases hp : p = 1
  · subst hp
    simp [p_int_e, kd, s_0, valD]
  · by_cases hp2 : p = -1
    · subst hp2
      simp [p_int_m, kd, s_0, s_m, valD, List.find?, mk_inj]
    · have np : numI p ≠ [45] := by
        intro h
        by_cases hq : p < 0
        · rw [numI_neg hq] at h
          exact numL_ne _ (List.cons.inj h).2
        · rw [numI_nn (by omega)] at h
          exact numL_free (n := p.natAbs) (s := 45) (by omega) (by rw [h]; exact List.mem_cons_self)
      have e1 : ¬ ([] : List Nat) = numI p := fun h => numI_ne p h.symm
      have e2 : ¬ ([45] : List Nat) = numI p := fun h => np h.symm
      simp [hp, hp2, p_integer_in (show -99 ≤ p by omega) (show p ≤ 99 by omega), kd, s_0, s_m, valD, List.find?, mk_inj, e1, e2]
theorem p_over_in {q : Int} (h1 : -99 ≤ q) (h2 : q ≤ 99) (st : Sto) : (F_over_in U) [.str (mk (ovr q))] st = .ok (.int q) st := by
  have lq := numI_len3 h1 h2
  unfold F_over_in
  refine runD_rt rfl ?_
  unfold ovr
  by_cases hq : q = 0
  · subst hq
    have ee := fun st => ev_eqM (a := []) (b := []) rfl rfl st
    simp [s_0, ee]
  · by_cases hq2 : q < 0
    · have ee := fun st => ev_eqM (a := numI q) (b := []) (numI_asc q) rfl st
      have es := fun lo hi st => ev_slS (show (numI q).length ≤ 16777216 by omega) lo hi st
      have e5 : (numI q).take 1 = [45] := by rw [numI_neg hq2]; rfl
      have e6 := fun st => ev_eqM (a := [45]) (b := [43]) rfl rfl st
      simp [hq, hq2, s_0, ee, numI_ne, es, cut_head, e5, s_p, e6, p_integer_in h1 h2]
    · have ee := fun st => ev_eqM (a := 43 :: numI q) (b := []) (by rw [asc_cons, numI_asc]; rfl) rfl st
      have es := fun lo hi st => ev_slS (show (43 :: numI q).length ≤ 16777216 by rw [List.length_cons]; omega) lo hi st
      have e6 := fun st => ev_eqM (a := [43]) (b := [43]) rfl rfl st
      simp [hq, hq2, s_0, ee, es, cut_head, cut_tail, s_p, e6, p_integer_in h1 h2]
theorem asc_w {w : List Nat} (h : okW w = true) : asc w = true := by
  unfold asc
  rw [List.all_eq_true]
  intro c hc
  have := okW_all h c hc
  refine decide_eq_true ?_
  have h2 : ∀ c ∈ LET, c < 0x110000 := by decide
  exact h2 c this
theorem w_free {w : List Nat} (h : okW w = true) {s : Nat} (hs : s ∉ LET) : s ∉ w := fun hc => hs (okW_all h s hc)
theorem fac_asc (p : Int) : asc (fac p) = true := by
  unfold fac
  split
  · rfl
  · split
    · rfl
    · exact numI_asc p
theorem ovr_asc (p : Int) : asc (ovr p) = true := by
  unfold ovr
  split
  · rfl
  · split
    · exact numI_asc p
    · rw [asc_cons, numI_asc]; rfl
theorem pw_asc (p q : Int) : asc (pw p q) = true := by
  unfold pw
  split
  · exact numI_asc q
  · rw [asc_app, asc_cons, fac_asc, ovr_asc]; rfl
theorem txt_asc {w : List Nat} (h : okW w = true) (p q : Int) : asc (txt w p q) = true := by
  unfold txt
  rw [asc_app, asc_cons, asc_w h, pw_asc]; rfl
theorem txt_len {w : List Nat} {p q : Int} (h : okB w p q) : (txt w p q).length ≤ 21 := by
  have h1 := okW_len h.1
  have h2 := pw_len h.2.1 h.2.2.1 h.2.2.2.1 h.2.2.2.2
  unfold txt
  rw [List.length_append, List.length_cons]
  omega
theorem p_block_in {w : List Nat} {p q : Int} (h : okB w p q) (st : Sto) : (F_block_in U) [.str (mk (txt w p q))] st = .ok (dB w p q) st := by
  have hw := okW_len h.1
  have hp := pw_len h.2.1 h.2.2.1 h.2.2.2.1 h.2.2.2.2
  have ht := txt_len h
  have lq := numI_len3 h.2.2.2.1 h.2.2.2.2
  have lf := fac_len h.2.1 h.2.2.1
  have lo := ovr_len h.2.2.2.1 h.2.2.2.2
  have part1 := fun st => ev_partS (a := w) (b := pw p q) (c := 94) (w_free h.1 (by decide)) (by omega) st
  have ee := fun st => ev_eqM (a := txt w p q) (b := txt w p q) (txt_asc h.1 p q) (txt_asc h.1 p q) st
  have etxt := fun st => p_text_of (U := U) h st
  have eblk := fun st => p_is_block (U := U) h st
  unfold dB at etxt eblk
  unfold F_block_in
  refine runD_rt rfl ?_
  unfold dB
  by_cases h0 : p = 0
  · have epw : pw p q = numI q := by unfold pw; rw [if_pos h0]
    have part2 := fun st => ev_partN (a := numI q) (c := 110) (numI_free (by omega) (by omega)) (by omega) st
    have en := fun st => ev_eqM (a := []) (b := [110]) rfl rfl st
    subst h0
    rw [epw] at part1
    have part1' := part1
    unfold txt at ee etxt ⊢
    rw [epw] at ee etxt ⊢
    simp [s_94, s_n, part1, part2, en, p_integer_in h.2.2.2.1 h.2.2.2.2, sizeLine_val, eblk, etxt, ee]
  · have epw : pw p q = fac p ++ 110 :: ovr q := by unfold pw; rw [if_neg h0]
    have hf : 110 ∉ fac p := by
      unfold fac
      split
      · simp
      · split
        · simp
        · exact numI_free (by omega) (by omega)
    have part2 := fun st => ev_partS (a := fac p) (b := ovr q) (c := 110) hf (by omega) st
    have en := fun st => ev_eqM (a := [110]) (b := [110]) rfl rfl st
    rw [epw] at part1
    unfold txt at ee etxt ⊢
    rw [epw] at ee etxt ⊢
    simp [s_94, s_n, part1, part2, en, p_factor_in h.2.1 h.2.2.1, p_over_in h.2.2.2.1 h.2.2.2.2, sizeLine_val, eblk, etxt, ee]
abbrev Bk := List Nat × Int × Int
def bD (b : Bk) : AM.D := dB b.1 b.2.1 b.2.2
def okb (b : Bk) : Prop := okB b.1 b.2.1 b.2.2
def tx (b : Bk) : List Nat := txt b.1 b.2.1 b.2.2
def win (R : List Bk) : AM.D := .ins cWinding [("blocks", .tup (R.map bD))]
def rtx (R : List Bk) : List Nat := if R = [] then [110, 111, 110, 101] else joinL [32] (R.map tx)
theorem okb_isBk {b : Bk} (h : okb b) : isBk (bD b) = true := (isBk_iff _).mpr ⟨_, _, _, rfl, h⟩
theorem row_isBk {R : List Bk} (h : ∀ b ∈ R, okb b) : ∀ d ∈ R.map bD, isBk d = true := fun d hd => by
  obtain ⟨b, hb, rfl⟩ := List.mem_map.mp hd
  exact okb_isBk (h b hb)
theorem row_hb {R : List Bk} (h : ∀ b ∈ R, okb b) : AM.D.hb 0 (.tup (R.map bD)) = true := by
  rw [show AM.D.hb 0 (.tup (R.map bD)) = AM.hbs 0 (R.map bD) from by unfold AM.D.hb; rfl]
  exact hbs_all fun d hd => hb_blk (row_isBk h d hd)
theorem mk_row {R : List Bk} (h : ∀ b ∈ R, okb b) (st : Sto) : ((M_Winding U) [.ins cKnown [("parts", .tup (R.map bD))]]) st = .ok (win R) st := by
  show (match (G_Winding U) [.ins cKnown [("parts", .tup (R.map bD))]] with
    | .ok fs _ => Res.ok (AM.D.ins cWinding fs) st
    | .exc e _ => .exc e st
    | .bad => .bad) = _
  have e : (G_Winding U) [.ins cKnown [("parts", .tup (R.map bD))]] = .ok [("blocks", .tup (R.map bD))] [] := by
    unfold G_Winding
    simp only [if_true]
    have : List.lookup ("parts" : Str) [(("parts" : Str), AM.D.tup (R.map bD))] = some (.tup (R.map bD)) := by
      simp [List.lookup]
    rw [this]
    simp only
    rw [if_pos (row_hb h)]
  rw [e]
  rfl
theorem kn_row {R : List Bk} (h : ∀ b ∈ R, okb b) (st : Sto) : (M_Known U) [.tup (R.map bD)] st = .ok (.ins cKnown [("parts", .tup (R.map bD))]) st := by
  show (match (G_Known U) [.tup (R.map bD)] with
    | .ok fs _ => Res.ok (AM.D.ins cKnown fs) st
    | .exc e _ => .exc e st
    | .bad => .bad) = _
  have e : (G_Known U) [.tup (R.map bD)] = .ok [("parts", .tup (R.map bD))] [] := by
    unfold G_Known
    simp only
    rw [if_pos (row_hb h)]
  rw [e]
theorem mk_blks {R : List Bk} (h : ∀ b ∈ R, okb b) (hl : R.length ≤ 12) (st : Sto) : (M_Winding U) (R.map bD) st = .ok (win R) st := by
  show (match (G_Winding U) (R.map bD) with
    | .ok fs _ => Res.ok (AM.D.ins cWinding fs) st
    | .exc e _ => .exc e st
    | .bad => .bad) = _
  have e : (G_Winding U) (R.map bD) = .ok [("blocks", .tup (R.map bD))] [] := by
    unfold G_Winding
    split
    · rename_i c fs h2
      cases R with
      | nil => simp at h2
      | cons b R => simp [bD, dB] at h2
    · rw [if_pos ⟨by rw [List.length_map]; exact hl, by rw [List.all_eq_true]; exact row_isBk h⟩]
  rw [e]
  rfl
theorem f_blocks (R : List Bk) (st : Sto) : fldOf [cWinding] "blocks" (win R) st = some (.tup (R.map bD)) := by
  unfold win fldOf
  simp only
  rw [if_pos (by rfl)]
  simp [List.lookup]
theorem p_are_blocks {R : List Bk} (h : ∀ b ∈ R, okb b) (hl : R.length ≤ 12) (st : Sto) : (F_are_blocks U) [.tup (R.map bD)] st = .ok (.bl true) st := by
  unfold F_are_blocks
  refine runD_rt rfl ?_
  have et : ∀ st, oIsi (is_tuple U) (.tup (R.map bD)) st = .ok (.bl true) st := fun st => rfl
  have e : ∀ st, compF (iSeq (dVar 0)) false [1] [1] tYesD (dCall (F_is_block U) (dCons (dVar 1) dNil)) [.sh (.tup (R.map bD)), .un] st = .ok (R.map fun _ => .bl true) st := fun st =>
    comp1 (g := bD) rfl rfl (fun b hb => by simp [p_blk (okb_isBk (h b hb))]) (by omega)
  have hn : ¬ (12 : Int) < R.length := by omega
  have e2 : ∀ st, oAll (.lst (R.map fun _ => AM.D.bl true)) st = .ok (.bl true) st := by
    intro st
    show oOf ((blsD _).map _) st = _
    have e1 : (R.map fun _ => AM.D.bl true) = (R.map fun _ => true).map AM.D.bl := by rw [List.map_map]; rfl
    rw [e1, blsD_map]
    have e2 : ((R.map fun _ => true).all id) = true := by
      rw [List.all_map, List.all_eq_true]
      intro _ _
      rfl
    show Res.ok (AM.D.bl ((R.map fun _ => true).all id)) st = _
    rw [e2]
  rw [List.map_cons]
  simp [et, hn, e]
  rw [e2]
  rfl
theorem tx_sp {b : Bk} (h : okb b) : 32 ∉ tx b := by
  unfold tx txt
  rw [List.mem_append, List.mem_cons]
  rintro (h1 | h1 | h1)
  · exact w_free h.1 (by decide) h1
  · cases h1
  · unfold pw at h1
    split at h1
    · exact numI_free (by omega) (by omega) h1
    · rw [List.mem_append, List.mem_cons] at h1
      rcases h1 with h1 | h1 | h1
      · unfold fac at h1
        split at h1
        · cases h1
        · split at h1
          · simp at h1
          · exact numI_free (by omega) (by omega) h1
      · cases h1
      · unfold ovr at h1
        split at h1
        · cases h1
        · split at h1
          · exact numI_free (by omega) (by omega) h1
          · rw [List.mem_cons] at h1
            rcases h1 with h1 | h1
            · cases h1
            · exact numI_free (by omega) (by omega) h1
theorem tx_sum : ∀ {R : List Bk}, (∀ b ∈ R, okb b) → ((R.map tx).map List.length).sum ≤ 21 * R.length
  | [], _ => by simp
  | b :: R, h => by
    have ih := tx_sum (R := R) fun b hb => h b (List.mem_cons_of_mem _ hb)
    have h1 : (tx b).length ≤ 21 := txt_len (h b List.mem_cons_self)
    simp only [List.map_cons, List.sum_cons, List.length_cons]
    omega
theorem rtx_len {R : List Bk} (h : ∀ b ∈ R, okb b) (hl : R.length ≤ 12) : (rtx R).length ≤ 300 := by
  unfold rtx
  split
  · decide
  · have h1 := joinL_len [32] (R.map tx)
    have h2 := tx_sum h
    simp only [List.length_map, List.length_cons, List.length_nil] at h1
    omega
theorem joinL_mem {c : Nat} {s : List Nat} : ∀ {ps : List (List Nat)}, c ∈ joinL s ps → c ∈ s ∨ ∃ p ∈ ps, c ∈ p
  | [], h => by simp [joinL] at h
  | [p], h => Or.inr ⟨p, List.mem_cons_self, h⟩
  | p :: q :: r, h => by
    rw [joinL, List.mem_append, List.mem_append] at h
    rcases h with h | h | h
    · exact Or.inr ⟨p, List.mem_cons_self, h⟩
    · exact Or.inl h
    · rcases joinL_mem h with h | ⟨x, hx, hc⟩
      · exact Or.inl h
      · exact Or.inr ⟨x, List.mem_cons_of_mem _ hx, hc⟩
theorem joinL_in {c : Nat} {s : List Nat} : ∀ {ps : List (List Nat)} {p : List Nat}, p ∈ ps → c ∈ p → c ∈ joinL s ps
  | [], p, h, _ => by cases h
  | [q], p, h, hc => by
    rw [List.mem_singleton.mp h] at hc
    exact hc
  | q :: q2 :: r, p, h, hc => by
    rw [joinL, List.mem_append, List.mem_append]
    rcases List.mem_cons.mp h with h | h
    · rw [h] at hc
      exact Or.inl hc
    · exact Or.inr (Or.inr (joinL_in h hc))
theorem rtx_asc {R : List Bk} (h : ∀ b ∈ R, okb b) : asc (rtx R) = true := by
  unfold rtx
  split
  · rfl
  · unfold asc
    rw [List.all_eq_true]
    intro c hc
    rcases joinL_mem hc with hc | ⟨p, hp, hc⟩
    · rw [List.mem_singleton.mp hc]; rfl
    · obtain ⟨b, hb, rfl⟩ := List.mem_map.mp hp
      have := txt_asc (h b hb).1 b.2.1 b.2.2
      unfold asc at this
      rw [List.all_eq_true] at this
      exact this c hc
theorem rtx_none {R : List Bk} (hR : R ≠ []) : rtx R ≠ [110, 111, 110, 101] := by
  unfold rtx
  rw [if_neg hR]
  obtain ⟨b, R', rfl⟩ := List.exists_cons_of_ne_nil hR
  intro h
  have : 94 ∈ joinL [32] ((b :: R').map tx) := joinL_in (p := tx b) List.mem_cons_self (by unfold tx txt; simp)
  rw [h] at this
  simp at this
theorem p_blocks_in {R : List Bk} (h : ∀ b ∈ R, okb b) (hl : R.length ≤ 12) (st : Sto) : (F_blocks_in U) [.str (mk (rtx R))] st = .ok (.tup (R.map bD)) st := by
  have ee := fun st => ev_eqM (a := rtx R) (b := [110, 111, 110, 101]) (rtx_asc h) rfl st
  have hz := rtx_len h hl
  unfold F_blocks_in
  refine runD_rt rfl ?_
  by_cases hR : R = []
  · subst hR
    have e1 : rtx [] = [110, 111, 110, 101] := rfl
    rw [e1] at ee ⊢
    simp [s_none, ee, sizeLine_val]
  · have hne := rtx_none hR
    have eb : ∀ st, compF (iSeq (dM1 sSplit (dVar 0) (dC (.str (mk [32]))))) false [2] [2] tYesD (dCall (F_block_in U) (dCons (dVar 2) dNil)) [.sh (.str (mk (rtx R))), .un, .un] st = .ok (R.map bD) st := by
      intro st
      refine comp1 (g := fun b => .str (mk (tx b))) rfl ?_ (fun b hb => ?_) (by omega)
      · have e1 : rtx R = joinL [32] (R.map tx) := by unfold rtx; rw [if_neg hR]
        rw [e1] at hz
        have es := fun st => ev_splitS (c := 32) (ps := R.map tx) (by decide) (fun e => hR (List.map_eq_nil_iff.mp e)) (by
          intro p hp
          obtain ⟨b, hb, rfl⟩ := List.mem_map.mp hp
          exact tx_sp (h b hb)) (by omega) st
        rw [e1]
        simp [es]
      · have e3 := fun st => p_block_in (U := U) (h b hb) st
        have : (F_block_in U) [.str (mk (tx b))] st = .ok (bD b) st := e3 st
        simp [this]
    simp [s_none, s_sp, ee, hne, eb, p_are_blocks h hl]
theorem p_read {R : List Bk} (h : ∀ b ∈ R, okb b) (hl : R.length ≤ 12) (st : Sto) : (F_Winding_read U) [.str (mk (rtx R))] st = .ok (win R) st := by
  have es : ∀ st, oIsi (is_str U) (.str (mk (rtx R))) st = .ok (.bl true) st := fun st => rfl
  unfold F_Winding_read
  refine runD_rt rfl ?_
  simp [es, p_blocks_in h hl, AM.D.isNon, kn_row h, mk_row h]
theorem p_str {R : List Bk} (h : ∀ b ∈ R, okb b) (hl : R.length ≤ 12) (st : Sto) : (F_Winding_str U) [win R] st = .ok (.str (mk (rtx R))) st := by
  unfold F_Winding_str
  refine runD_rt rfl ?_
  by_cases hR : R = []
  · subst hR
    have e := fun st => f_blocks [] st
    simp [f_blocks, s_none]
    rfl
  · have eb : ∀ st, compF (iSeq (dFld [cWinding] "blocks" (dVar 0))) false [1] [1] tYesD (dCall (F_text_of U) (dCons (dVar 1) dNil)) [.sh (win R), .un] st = .ok (R.map fun b => .str (mk (tx b))) st := by
      intro st
      refine comp1 (g := bD) rfl ?_ (fun b hb => ?_) (by omega)
      · simp [f_blocks]
      · have : ∀ st, (F_text_of U) [bD b] st = .ok (.str (mk (tx b))) st := fun st => p_text_of (h b hb) st
        simp [this]
    have hn : ¬ (R.length : Int) = 0 := by
      have := List.length_pos_iff.mpr hR
      omega
    have h2 := tx_sum h
    have ej := fun st => ev_joinS (s := [32]) (ps := R.map tx) (ds := R.map fun b => .str (mk (tx b))) (by rw [List.map_map]; rfl) (by simp only [List.length_map, List.length_cons, List.length_nil]; omega) st
    have e1 : rtx R = joinL [32] (R.map tx) := by unfold rtx; rw [if_neg hR]
    rw [e1]
    simp [f_blocks, hn, s_sp, eb, ej, hR]
end KP
namespace KP
open PySem PySem.Spec PyProof.Rows L2 AM TL
local macro_rules | `(tactic| walk_at "en") => `(tactic| ((try simp only [List.map_cons, List.map_nil, List.replicate, List.replicate_zero, List.replicate_succ, List.cons_append, List.nil_append, List.set_cons_zero, List.set_cons_succ, Nat.reduceSub, Nat.reduceAdd, List.reduceReplicate, AM.putAll, AM.wipeE, List.foldl_cons, List.foldl_nil, List.zip_cons_cons, List.zip_nil_left, List.zip_nil_right]); with_unfolding_all rfl))
local macro_rules | `(tactic| walk_at "wp") => `(tactic| repeat' (with_reducible first
  | refine wx_dVar (by with_unfolding_all rfl) ?_ | refine wx_dC ?_ | refine wx_dOp2 ?_ | refine wx_all ?_ | refine wx_any ?_ | refine wx_dOp1 ?_ | refine wx_gBl ?_ | refine wx_gTru ?_ | refine wx_dCall ?_ | refine wx_dCons ?_ | refine wx_dNil ?_
  | refine en_of (by walk_at "en") ?_ | refine ws_sSeq ?_ | refine ws_sIf ?_ | refine ws_sRet ?_ | refine ws_sSet ?_ | refine ws_sAsg ?_ | refine ws_sPass ?_ | refine ws_sExpr ?_ | refine ws_sOwn ?_ | refine ws_sFor ?_ | refine ws_sPar ?_
  | refine ws_gNm ?_ | refine ws_gTup (by with_unfolding_all rfl) ?_ | refine ws_gNil ?_ | refine ws_gCons ?_
  | refine wx_dOwn (by with_unfolding_all rfl) ?_ | refine wx_dOwn' (by with_unfolding_all rfl) ?_ | refine ws_frz (by with_unfolding_all rfl) ?_ | refine ws_frz' (by with_unfolding_all rfl) ?_ | refine ws_sApp (by with_unfolding_all rfl) ?_
  | refine wx_dChain ?_ | refine wx_gAnd ?_ | refine wx_gOr ?_ | refine wx_gNot ?_ | refine wx_dAnd ?_ | refine wx_dOr ?_ | refine wx_dNot ?_ | refine wx_dIf ?_ | refine wx_dNeg ?_
  | refine wx_dTup ?_ | refine wx_dLst ?_ | refine wx_dLstF ?_ | refine wx_dF ?_ | refine wx_oNo ?_ | refine wx_oSo ?_ | refine wx_dSl ?_ | refine wx_dM1 ?_ | refine wx_dM0 ?_ | refine wx_dFld ?_ | refine wx_dProp ?_ | refine wx_dOwn2 ?_ | refine wx_gTruC ?_ | refine wx_iSeq ?_ | refine wx_iRan ?_
  | refine wi_add ?_ | refine wi_sub ?_ | refine wi_lt ?_ | refine wi_le ?_ | refine wi_gt ?_ | refine wi_ge ?_ | refine wi_eq ?_ | refine wi_ne ?_ | refine wi_max ?_ | refine wi_min ?_ | refine wi_lenT ?_ | refine wi_lenL ?_ | refine wi_lenF ?_
  | refine wi_itT ?_ | refine wi_itL ?_ | refine wi_itF ?_ | refine wi_itS ?_ | refine wi_tupL ?_ | refine wi_tupT ?_ | refine wi_isN ?_ | refine wi_isNN ?_ | refine wi_intT ?_ | refine wi_inM ?_ | refine wi_notInM ?_
  | refine and_t ?_ | refine and_f ?_ | refine and_nT ?_ | refine and_nF ?_
  | refine Exists.intro _ (And.intro rfl ?_)
  | refine And.intro (Nat.le_of_ble_eq_true (by with_unfolding_all rfl)) ?_ | refine And.intro (show okRb _ = true by with_unfolding_all rfl) ?_))
section
variable {U : List Nat}
theorem blk_rp {b : Bk} (h : okb b) : Rp 1 500 (bD b) := by
  have hw := okW_len h.1
  refine (Rp.tup (n := 0) (k := 122) (m := 3) (fun e he => ?_) (by simp)).mono (by decide) (by decide)
  simp only [List.mem_cons, List.not_mem_nil, or_false] at he
  rcases he with rfl | rfl | rfl
  · exact (Rp.str (asc_w h.1)).mono (Nat.le_refl _) (by omega)
  · exact (Rp.int (k := 10) (by have := h.2.1; have := h.2.2.1; omega) (by decide)).mono (Nat.le_refl _) (by decide)
  · exact (Rp.int (k := 10) (by have := h.2.2.2.1; have := h.2.2.2.2; omega) (by decide)).mono (Nat.le_refl _) (by decide)
theorem row_rp {R : List Bk} (h : ∀ b ∈ R, okb b) (hl : R.length ≤ 12) : Rp 2 7000 (.tup (R.map bD)) :=
  (Rp.tup (n := 1) (k := 500) (m := 12) (fun e he => by obtain ⟨b, hb, rfl⟩ := List.mem_map.mp he; exact blk_rp (h b hb)) (by rw [List.length_map]; exact hl)).mono (by decide) (by decide)
end
end KP
namespace KL
open PySem PySem.Spec PyProof.Rows L2 AM TL KP
variable {U : List Nat}
def SG : List (List Nat) := [[97, 98], [97, 98, 65, 66], [97, 98, 99, 65, 66, 67], [97, 65], [97, 66]]
theorem sgs : (dCons (dC (.str "ab")) (dCons (dC (.str "abAB")) (dCons (dC (.str "abcABC")) (dCons (dC (.str "aA")) (dCons (dC (.str "aB")) dNil))))) = fun env st => Res.ok (SG.map fun l => AM.D.str (mk l)) st := by
  have e1 : ("ab" : Str) = mk [97, 98] := by decide +kernel
  have e2 : ("abAB" : Str) = mk [97, 98, 65, 66] := by decide +kernel
  have e3 : ("abcABC" : Str) = mk [97, 98, 99, 65, 66, 67] := by decide +kernel
  have e4 : ("aA" : Str) = mk [97, 65] := by decide +kernel
  have e5 : ("aB" : Str) = mk [97, 66] := by decide +kernel
  rw [e1, e2, e3, e4, e5]
  rfl
theorem sg_ok : ∀ l ∈ SG, l ≠ [] ∧ l.length ≤ 6 ∧ ∀ c ∈ l, c ∈ LET := by decide
theorem chars_of {ys : List AM.D} (h : ∀ y ∈ ys, ∃ c, y = AM.D.str (mk [c]) ∧ c ∈ LET) : ∃ l : List Nat, ys = l.map (fun c => AM.D.str (mk [c])) ∧ l.length = ys.length ∧ ∀ c ∈ l, c ∈ LET := by
  induction ys with
  | nil => exact ⟨[], rfl, rfl, fun _ h => by cases h⟩
  | cons y ys ih =>
    obtain ⟨c, rfl, hc⟩ := h y List.mem_cons_self
    obtain ⟨l, e1, e2, e3⟩ := ih fun y hy => h y (List.mem_cons_of_mem _ hy)
    refine ⟨c :: l, by rw [List.map_cons, ← e1], by simp [e2], fun x hx => ?_⟩
    rcases List.mem_cons.mp hx with rfl | hx
    · exact hc
    · exact e3 x hx
end KL
namespace KP
open PySem PySem.Spec PyProof.Rows L2 AM TL
local macro_rules | `(tactic| walk_at "en") => `(tactic| ((try simp only [List.map_cons, List.map_nil, List.replicate, List.replicate_zero, List.replicate_succ, List.cons_append, List.nil_append, List.set_cons_zero, List.set_cons_succ, Nat.reduceSub, Nat.reduceAdd, List.reduceReplicate, AM.putAll, AM.wipeE, List.foldl_cons, List.foldl_nil, List.zip_cons_cons, List.zip_nil_left, List.zip_nil_right]); with_unfolding_all rfl))
local macro_rules | `(tactic| walk_at "wp") => `(tactic| repeat' (with_reducible first
  | refine wx_dVar (by with_unfolding_all rfl) ?_ | refine wx_dC ?_ | refine wx_dOp2 ?_ | refine wx_all ?_ | refine wx_any ?_ | refine wx_dOp1 ?_ | refine wx_gBl ?_ | refine wx_gTru ?_ | refine wx_dCall ?_ | refine wx_dCons ?_ | refine wx_dNil ?_
  | refine en_of (by walk_at "en") ?_ | refine ws_sSeq ?_ | refine ws_sIf ?_ | refine ws_sRet ?_ | refine ws_sSet ?_ | refine ws_sAsg ?_ | refine ws_sPass ?_ | refine ws_sExpr ?_ | refine ws_sOwn ?_ | refine ws_sFor ?_ | refine ws_sPar ?_
  | refine ws_gNm ?_ | refine ws_gTup (by with_unfolding_all rfl) ?_ | refine ws_gNil ?_ | refine ws_gCons ?_
  | refine wx_dOwn (by with_unfolding_all rfl) ?_ | refine wx_dOwn' (by with_unfolding_all rfl) ?_ | refine ws_frz (by with_unfolding_all rfl) ?_ | refine ws_frz' (by with_unfolding_all rfl) ?_ | refine ws_sApp (by with_unfolding_all rfl) ?_
  | refine wx_dChain ?_ | refine wx_gAnd ?_ | refine wx_gOr ?_ | refine wx_gNot ?_ | refine wx_dAnd ?_ | refine wx_dOr ?_ | refine wx_dNot ?_ | refine wx_dIf ?_ | refine wx_dNeg ?_
  | refine wx_dTup ?_ | refine wx_dLst ?_ | refine wx_dLstF ?_ | refine wx_dF ?_ | refine wx_oNo ?_ | refine wx_oSo ?_ | refine wx_dSl ?_ | refine wx_dM1 ?_ | refine wx_dM0 ?_ | refine wx_dFld ?_ | refine wx_dProp ?_ | refine wx_dOwn2 ?_ | refine wx_gTruC ?_ | refine wx_iSeq ?_ | refine wx_iRan ?_
  | refine wi_add ?_ | refine wi_sub ?_ | refine wi_lt ?_ | refine wi_le ?_ | refine wi_gt ?_ | refine wi_ge ?_ | refine wi_eq ?_ | refine wi_ne ?_ | refine wi_max ?_ | refine wi_min ?_ | refine wi_lenT ?_ | refine wi_lenL ?_ | refine wi_lenF ?_
  | refine wi_itT ?_ | refine wi_itL ?_ | refine wi_itF ?_ | refine wi_itS ?_ | refine wi_tupL ?_ | refine wi_tupT ?_ | refine wi_isN ?_ | refine wi_isNN ?_ | refine wi_revL ?_ | refine wi_revT ?_ | refine wi_slT ?_ | refine wi_slL ?_ | refine wi_abs ?_ | refine wx_iEnmL ?_ | refine wx_dMeth ?_ | refine wi_intT ?_ | refine wi_inM ?_ | refine wi_notInM ?_
  | refine and_t ?_ | refine and_f ?_ | refine and_nT ?_ | refine and_nF ?_
  | refine Exists.intro _ (And.intro rfl ?_)
  | refine And.intro (Nat.le_of_ble_eq_true (by with_unfolding_all rfl)) ?_ | refine And.intro (show okRb _ = true by with_unfolding_all rfl) ?_))
section
variable {U : List Nat}
theorem let_asc : ∀ c ∈ LET, c < 0x110000 := by decide
theorem let_bar : ∀ c ∈ LET, KW.bar c ∈ LET := by decide
def isL (w : List Nat) : Prop := ∀ c ∈ w, c ∈ LET
theorem isL.inv {w : List Nat} (h : isL w) : isL (KW.inv w) := fun c hc => by
  unfold KW.inv at hc
  obtain ⟨d, hd, rfl⟩ := List.mem_map.mp (List.mem_reverse.mp hc)
  exact let_bar d (h d hd)
theorem isL.asc {w : List Nat} (h : isL w) : asc w = true := by
  unfold AM.asc
  rw [List.all_eq_true]
  exact fun c hc => decide_eq_true (let_asc c (h c hc))
theorem isL.app {a b : List Nat} (ha : isL a) (hb : isL b) : isL (a ++ b) := fun c hc => (List.mem_append.mp hc).elim (ha c) (hb c)
theorem isL.rep {w : List Nat} (h : isL w) (n : Nat) : isL (KW.rep w n) := by
  induction n with
  | zero => exact fun c hc => by cases hc
  | succ n ih => rw [KW.rep_succ]; exact h.app ih
theorem isL.wpow {w : List Nat} (h : isL w) (k : Int) : isL (KW.wpow w k) := by
  unfold KW.wpow
  split
  · exact h.rep _
  · exact h.inv.rep _
theorem isL.one {c : Nat} (h : c ∈ LET) : isL [c] := fun d hd => by rw [List.mem_singleton.mp hd]; exact h
theorem isL.drop {w : List Nat} (h : isL w) (n : Nat) : isL (w.drop n) := fun c hc => h c (List.mem_of_mem_drop hc)
theorem isL.take {w : List Nat} (h : isL w) (n : Nat) : isL (w.take n) := fun c hc => h c (List.mem_of_mem_take hc)
end
end KP
namespace KP
open PySem PySem.Spec PyProof.Rows L2 AM TL
local macro_rules | `(tactic| walk_at "en") => `(tactic| ((try simp only [List.map_cons, List.map_nil, List.replicate, List.replicate_zero, List.replicate_succ, List.cons_append, List.nil_append, List.set_cons_zero, List.set_cons_succ, Nat.reduceSub, Nat.reduceAdd, List.reduceReplicate, AM.putAll, AM.wipeE, List.foldl_cons, List.foldl_nil, List.zip_cons_cons, List.zip_nil_left, List.zip_nil_right]); with_unfolding_all rfl))
local macro_rules | `(tactic| walk_at "wp") => `(tactic| repeat' (with_reducible first
  | (apply wx_dVar; focus (with_unfolding_all rfl)) | refine wx_dC ?_ | refine wx_dOp2 ?_ | refine wx_all ?_ | refine wx_any ?_ | refine wx_dOp1 ?_ | refine wx_gBl ?_ | refine wx_gTru ?_ | refine wx_dCall ?_ | refine wx_dCons ?_ | refine wx_dNil ?_
  | (apply en_of; focus (walk_at "en")) | refine ws_sSeq ?_ | refine ws_sIf ?_ | refine ws_sRet ?_ | refine ws_sSet ?_ | refine ws_sAsg ?_ | refine ws_sPass ?_ | refine ws_sExpr ?_ | refine ws_sOwn ?_ | refine ws_sFor ?_ | refine ws_sPar ?_
  | refine ws_gNm ?_ | (apply ws_gTup; focus (with_unfolding_all rfl)) | refine ws_gNil ?_ | refine ws_gCons ?_
  | (apply wx_dOwn; focus (with_unfolding_all rfl)) | (apply wx_dOwn'; focus (with_unfolding_all rfl)) | (apply ws_frz; focus (with_unfolding_all rfl)) | (apply ws_frz'; focus (with_unfolding_all rfl)) | (apply ws_sApp; focus (with_unfolding_all rfl))
  | refine wx_dChain ?_ | refine wx_gAnd ?_ | refine wx_gOr ?_ | refine wx_gNot ?_ | refine wx_dAnd ?_ | refine wx_dOr ?_ | refine wx_dNot ?_ | refine wx_dIf ?_ | refine wx_dNeg ?_
  | refine wx_dTup ?_ | refine wx_dLst ?_ | refine wx_dLstF ?_ | refine wx_dF ?_ | refine wx_oNo ?_ | refine wx_oSo ?_ | refine wx_dSl ?_ | refine wx_dM1 ?_ | refine wx_dM0 ?_ | refine wx_dFld ?_ | refine wx_dProp ?_ | refine wx_dOwn2 ?_ | refine wx_gTruC ?_ | refine wx_iSeq ?_ | refine wx_iRan ?_
  | refine wi_add ?_ | refine wi_sub ?_ | refine wi_lt ?_ | refine wi_le ?_ | refine wi_gt ?_ | refine wi_ge ?_ | refine wi_eq ?_ | refine wi_ne ?_ | refine wi_max ?_ | refine wi_min ?_ | refine wi_lenT ?_ | refine wi_lenL ?_ | refine wi_lenF ?_
  | refine wi_itT ?_ | refine wi_itL ?_ | refine wi_itF ?_ | refine wi_itS ?_ | refine wi_tupL ?_ | refine wi_tupT ?_ | refine wi_isN ?_ | refine wi_isNN ?_ | refine wi_revL ?_ | refine wi_revT ?_ | refine wi_slT ?_ | refine wi_slL ?_ | refine wi_abs ?_ | refine wx_iEnmL ?_ | refine wx_dMeth ?_ | refine wi_intT ?_ | refine wi_inM ?_ | refine wi_notInM ?_
  | refine and_t ?_ | refine and_f ?_ | refine and_nT ?_ | refine and_nF ?_
  | refine Exists.intro _ (And.intro rfl ?_)
  | (refine And.intro ?_ ?_; focus (refine Nat.le_of_ble_eq_true ?_; with_unfolding_all rfl)) | (refine And.intro ?_ ?_; focus (change okRb _ = true; with_unfolding_all rfl))))
section
variable {U : List Nat}
def PG : List Nat := [97, 98, 99, 100, 101, 102]
end
end KP
namespace KL
open PySem PySem.Spec PyProof.Rows L2 AM TL KP
local macro_rules | `(tactic| walk_at "en") => `(tactic| ((try simp only [List.map_cons, List.map_nil, List.replicate, List.replicate_zero, List.replicate_succ, List.cons_append, List.nil_append, List.set_cons_zero, List.set_cons_succ, Nat.reduceSub, Nat.reduceAdd, List.reduceReplicate, AM.putAll, AM.wipeE, List.foldl_cons, List.foldl_nil, List.zip_cons_cons, List.zip_nil_left, List.zip_nil_right]); with_unfolding_all rfl))
local macro_rules | `(tactic| walk_at "wp") => `(tactic| repeat' (with_reducible first
  | (apply wx_dVar; focus (with_unfolding_all rfl)) | refine wx_dC ?_ | refine wx_dOp2 ?_ | refine wx_all ?_ | refine wx_any ?_ | refine wx_dOp1 ?_ | refine wx_gBl ?_ | refine wx_gTru ?_ | refine wx_dCall ?_ | refine wx_dCons ?_ | refine wx_dNil ?_
  | (apply en_of; focus (walk_at "en")) | refine ws_sSeq ?_ | refine ws_sIf ?_ | refine ws_sRet ?_ | refine ws_sSet ?_ | refine ws_sAsg ?_ | refine ws_sPass ?_ | refine ws_sExpr ?_ | refine ws_sOwn ?_ | refine ws_sFor ?_ | refine ws_sPar ?_
  | refine ws_gNm ?_ | (apply ws_gTup; focus (with_unfolding_all rfl)) | refine ws_gNil ?_ | refine ws_gCons ?_
  | (apply wx_dOwn; focus (with_unfolding_all rfl)) | (apply wx_dOwn'; focus (with_unfolding_all rfl)) | (apply ws_frz; focus (with_unfolding_all rfl)) | (apply ws_frz'; focus (with_unfolding_all rfl)) | (apply ws_sApp; focus (with_unfolding_all rfl))
  | refine wx_dChain ?_ | refine wx_gAnd ?_ | refine wx_gOr ?_ | refine wx_gNot ?_ | refine wx_dAnd ?_ | refine wx_dOr ?_ | refine wx_dNot ?_ | refine wx_dIf ?_ | refine wx_dNeg ?_
  | refine wx_dTup ?_ | refine wx_dLst ?_ | refine wx_dLstF ?_ | refine wx_dF ?_ | refine wx_oNo ?_ | refine wx_oSo ?_ | refine wx_dSl ?_ | refine wx_dM1 ?_ | refine wx_dM0 ?_ | refine wx_dFld ?_ | refine wx_dProp ?_ | refine wx_dOwn2 ?_ | refine wx_gTruC ?_ | refine wx_iSeq ?_ | refine wx_iRan ?_
  | refine wi_add ?_ | refine wi_sub ?_ | refine wi_lt ?_ | refine wi_le ?_ | refine wi_gt ?_ | refine wi_ge ?_ | refine wi_eq ?_ | refine wi_ne ?_ | refine wi_max ?_ | refine wi_min ?_ | refine wi_lenT ?_ | refine wi_lenL ?_ | refine wi_lenF ?_
  | refine wi_itT ?_ | refine wi_itL ?_ | refine wi_itF ?_ | refine wi_itS ?_ | refine wi_tupL ?_ | refine wi_tupT ?_ | refine wi_isN ?_ | refine wi_isNN ?_ | refine wi_revL ?_ | refine wi_revT ?_ | refine wi_slT ?_ | refine wi_slL ?_ | refine wi_abs ?_ | refine wx_iEnmL ?_ | refine wx_dMeth ?_ | refine wi_intT ?_ | refine wi_inM ?_ | refine wi_notInM ?_
  | refine and_t ?_ | refine and_f ?_ | refine and_nT ?_ | refine and_nF ?_
  | refine Exists.intro _ (And.intro rfl ?_) | refine Exists.intro _ (Exists.intro _ (And.intro rfl ?_))
  | (refine And.intro ?_ ?_; focus (refine Nat.le_of_ble_eq_true ?_; with_unfolding_all rfl)) | (refine And.intro ?_ ?_; focus (change okRb _ = true; with_unfolding_all rfl))))
section
variable {U : List Nat}
section
variable {h : Nat} {st : Sto} {V : AM.D → Sto → Prop}
theorem wx_sip {m : Int} (c : Cup h st) (h0 : 0 < m) (h1 : m < 1073741824) (k : ∀ (r : Int) (s : Sto), 0 ≤ r → r < m → Mv h st s → V (.int r) s) : Wx (F_law_sip U [.hd h, .int m] st) V := by
  obtain ⟨r, s, e, r0, r1, mv⟩ := sip_ok c h0 h1
  exact wx_eq e (k r s r0 r1 mv)
theorem wx_pick {ds : List AM.D} (c : Cup h st) (hne : 0 < ds.length) (hl : ds.length < 1000000) (k : ∀ (d : AM.D) (s : Sto), d ∈ ds → Mv h st s → V d s) : Wx (F_law_pick U [.hd h, .lst ds] st) V := by
  obtain ⟨d, s, e, hd, mv⟩ := pick_ok c hne (by omega)
  exact wx_eq e (k d s hd mv)
theorem wx_strand {m : Int} (c : Cup h st) (hm : 0 < m) (hm2 : m ≤ 6) (k : ∀ (w : List Nat) (s : Sto), okW w = true → (w.length : Int) ≤ 2 * m → Mv h st s → V (.str (mk w)) s) : Wx (F_law_strand U [.hd h, .int m] st) V := by
  unfold F_law_strand
  rw [s_0]
  refine wx_run rfl ?_
  refine ws_sSeq (ws_sSet (wx_dCall (wx_dCons (wx_dVar rfl (wx_dCons ?_)))))
  rw [sgs]
  refine wx_dLst (wx_eq rfl ⟨by simp [SG], wx_dNil ?_⟩)
  refine wx_pick c (by simp [SG]) (by simp [SG]) fun d s1 hd m1 => ?_
  obtain ⟨sg, hsg, rfl⟩ := List.mem_map.mp hd
  obtain ⟨g1, g2, g3⟩ := sg_ok sg hsg
  walk_at "wp"
  refine wx_compS (fun s => Mv h st s) (fun y => ∃ x, y = AM.D.str (mk [x]) ∧ x ∈ LET) rfl (by simp) ?_
  walk_at "wp"
  refine wx_sip m1.1 (by omega) (by omega) fun r s2 r0 r1 m2 => ?_
  walk_at "wp"
  refine ⟨okRb_of (by omega) (by omega), ?_⟩
  refine ⟨by rw [rng_length]; omega, m1.trans m2, fun d _ s hs => ⟨[d], rfl, ?_⟩, fun ys s3 hl hy m3 => ?_⟩
  · walk_at "wp"
    refine wx_eq (a := .lst (sg.map fun x => AM.D.str (mk [x]))) (st := s) ?_ ?_
    · have hz : (mk sg).length ≤ sizeLine := by rw [mk_len, sizeLine_val]; omega
      unfold oLstT
      simp only [if_pos hz, signs_mk]
    walk_at "wp"
    refine wx_pick hs.1 (by rw [List.length_map]; exact List.length_pos_iff.mpr g1) (by rw [List.length_map]; omega) fun y s3 hy m3 => ?_
    obtain ⟨x, hx, rfl⟩ := List.mem_map.mp hy
    exact ⟨⟨x, rfl, g3 x hx⟩, hs.trans m3⟩
  rw [rng_length] at hl
  obtain ⟨l, rfl, l4, hL⟩ := chars_of hy
  have hlm : 1 ≤ l.length ∧ (l.length : Int) ≤ m := by omega
  refine wi_joinC (l := l) rfl (by omega) ?_
  walk_at "wp"
  refine wx_sip m3.1 (by decide) (by decide) fun r2 s4 _ _ m4 => ?_
  walk_at "wp"
  have fin : ∀ (w : List Nat), (w = l ∨ w = l ++ l) → w.length ≤ 12 → okW w = true ∧ (w.length : Int) ≤ 2 * m := fun w hw hl12 => by
    refine ⟨?_, ?_⟩
    · unfold okW
      simp only [Bool.and_eq_true, decide_eq_true_eq, List.all_eq_true]
      rcases hw with rfl | rfl
      · exact ⟨by omega, hl12, hL⟩
      · exact ⟨by rw [List.length_append]; omega, hl12, fun c hc => (List.mem_append.mp hc).elim (hL c) (hL c)⟩
    · rcases hw with rfl | rfl
      · omega
      · rw [List.length_append]; omega
  have nx : ∀ b, (b = false → V (.str (mk l)) s4) := fun b _ => by
    obtain ⟨f1, f2⟩ := fin l (.inl rfl) (by omega)
    exact k _ _ f1 f2 (m3.trans m4)
  refine and_by (fun q => ?_) (fun q => ?_)
  · walk_at "wp"
    refine wi_len (by omega) ?_
    walk_at "wp"
    refine and_by (fun q2 => ?_) (fun q2 => ?_)
    · walk_at "wp"
      refine wi_cat (by omega) ?_
      obtain ⟨f1, f2⟩ := fin (l ++ l) (.inr rfl) (by rw [List.length_append]; omega)
      exact k _ _ f1 f2 (m3.trans m4)
    · walk_at "wp"
      exact nx false rfl
  · walk_at "wp"
    exact nx false rfl
def bk0 (b : Bk) : Prop := okW b.1 = true ∧ b.1.length ≤ 8 ∧ -2 ≤ b.2.1 ∧ b.2.1 ≤ 2 ∧ -4 ≤ b.2.2 ∧ b.2.2 ≤ 4
def dbk (b : Bk) : Prop := okb b ∧ b.1.length * b.2.1.natAbs ≤ 16 ∧ b.1.length * b.2.2.natAbs ≤ 48
theorem mul_le {a b c d : Nat} (h1 : a ≤ c) (h2 : b ≤ d) : a * b ≤ c * d := Nat.mul_le_mul h1 h2
theorem dbk_of {w : List Nat} {p q : Int} (hw : okW w = true) (hl : w.length ≤ 8) (hp : -2 ≤ p) (hp2 : p ≤ 2) (hq : -6 ≤ q) (hq2 : q ≤ 6) : dbk (w, p, q) := by
  refine ⟨⟨hw, (by show -9 ≤ p; omega), (by show p ≤ 9; omega), (by show -99 ≤ q; omega), (by show q ≤ 99; omega)⟩, ?_, ?_⟩
  · exact Nat.le_trans (mul_le hl (show p.natAbs ≤ 2 by omega)) (by decide)
  · exact Nat.le_trans (mul_le hl (show q.natAbs ≤ 6 by omega)) (by decide)
theorem bk0.dbk {b : Bk} (h : bk0 b) : dbk b := by
  obtain ⟨w, p, q⟩ := b
  obtain ⟨h1, h2, h3, h4, h5, h6⟩ := h
  exact dbk_of h1 h2 h3 h4 (by have : -4 ≤ q := h5; omega) (by have : q ≤ 4 := h6; omega)
theorem wx_block (c : Cup h st) (k : ∀ (b : Bk) (s : Sto), bk0 b → Mv h st s → V (bD b) s) : Wx (F_law_block U [.hd h] st) V := by
  unfold F_law_block
  refine wx_run rfl ?_
  walk_at "wp"
  refine wx_pick c (by simp) (by simp) fun d s1 hd m1 => ?_
  obtain ⟨p, rfl, hp, hp2⟩ : ∃ p : Int, d = .int p ∧ -2 ≤ p ∧ p ≤ 2 := by
    simp only [List.mem_cons, List.not_mem_nil, or_false] at hd
    rcases hd with rfl | rfl | rfl | rfl | rfl | rfl
    · exact ⟨0, rfl, by decide, by decide⟩
    · exact ⟨1, rfl, by decide, by decide⟩
    · exact ⟨1, rfl, by decide, by decide⟩
    · exact ⟨-1, rfl, by decide, by decide⟩
    · exact ⟨2, rfl, by decide, by decide⟩
    · exact ⟨-2, rfl, by decide, by decide⟩
  walk_at "wp"
  refine wx_sip m1.1 (by decide) (by decide) fun r s2 r0 r1 m2 => ?_
  walk_at "wp"
  refine wx_strand (m := 4) m2.1 (by decide) (by decide) fun w s3 hw hl m3 => ?_
  walk_at "wp"
  have mm := (m1.trans m2).trans m3
  have fin : ∀ q : Int, -4 ≤ q → q ≤ 4 → V (.tup [.str (mk w), .int p, .int q]) s3 := fun q h1 h2 => k (w, p, q) s3 ⟨hw, (by show w.length ≤ 8; omega), hp, hp2, h1, h2⟩ mm
  refine and_by (fun q => ?_) (fun q => ?_)
  · walk_at "wp"
    refine and_by (fun q2 => ?_) (fun q2 => ?_)
    · walk_at "wp"
      exact fin 1 (by decide) (by decide)
    · walk_at "wp"
      exact fin (r - 4) (by omega) (by omega)
  · walk_at "wp"
    exact fin (r - 4) (by omega) (by omega)
end
end
section
variable {U : List Nat}
end
section
variable {U : List Nat}
section
variable {h : Nat} {st : Sto} {V : AM.D → Sto → Prop}
end
end
section
variable {U : List Nat}
theorem of_all {α : Type} {g : α → AM.D} {P : α → Prop} {ys : List AM.D} (h : ∀ y ∈ ys, ∃ x, y = g x ∧ P x) : ∃ l : List α, ys = l.map g ∧ l.length = ys.length ∧ ∀ x ∈ l, P x := by
  induction ys with
  | nil => exact ⟨[], rfl, rfl, fun _ h => by cases h⟩
  | cons y ys ih =>
    obtain ⟨x, rfl, hx⟩ := h y List.mem_cons_self
    obtain ⟨l, e1, e2, e3⟩ := ih fun y hy => h y (List.mem_cons_of_mem _ hy)
    refine ⟨x :: l, by rw [List.map_cons, ← e1], by simp [e2], fun z hz => ?_⟩
    rcases List.mem_cons.mp hz with rfl | hz
    · exact hx
    · exact e3 z hz
section
variable {h : Nat} {st : Sto} {V : AM.D → Sto → Prop}
end
end
end KL
namespace AM
open PySem PySem.Spec PyProof.Rows L2
structure RzC (K : PySem.W.Frag) (C fI : Addr) (f : Str) (B newId initId : String) (bmB : List Value) : Prop where
  fb : ExcBaseFacts B newId initId bmB
  sf : StoreFacts B bmB "object.__setattr__" "object"
  ini : PySem.W.excInitIn K C bmB newId = true
  over : PySem.W.excOver K C bmB = true
  taker : PySem.W.takerIn K C f = some none
  hdt : PySem.W.hasDictIn K C = true
  sa : PySem.W.findIn K (.ref C) "__setattr__" = some (some (.builtin "object.__setattr__"))
  exC : PySem.W.subIn K (.ref C) (.type "BaseException") = some true
  tyC : PySem.W.typeIn K (.ref C) = some (.type "type")
  kC : PySem.W.keepIn K (.ref C) = true
  iC : PySem.W.findIn K (.ref C) "__init__" = some (some (.ref fI))
  tI : PySem.W.typeIn K (.ref fI) = some (.type "function")
section
variable {X : Cx} {pins : List (Addr × Obj)} {σ : L2.St} {H : Hp} {s : Shared} {a C fI : Addr} {f : Str} {y : V} {u : Value} {Q : Unit → Shared → Prop} {E : Value → Shared → Prop} {A : Around} {B newId initId : String} {bmB : List Value}
theorem rz_step {h' : Heap} {tk : Nat} {t1 dx : Addr} (I : Inv X pins σ H s) (e : H a = some (exo a C none)) (ry : RelV y u) (fresh : s.heap.objs.size ≤ dx) (apart : dx ≠ a) (stay : ∀ b o, b ≠ a → s.heap.get? b = some o → h'.get? b = some o)
    (hx : h'.get? a = some { cls := .ref C, dict := some dx, data := .fields #[.ref t1, .none, .none, .none, .bool false, .none] }) (hn : h'.Ns1 dx (fun g => if g = f then some u else none)) :
    Inv X pins σ (upd (upd H dx (exd dx [(f, y)])) a (exo a C (some dx))) { s with heap := h', toks := tk } := by
  have ndx : H dx = none := I.hok.fresh fresh
  have old : ∀ b o, s.heap.get? b = some o → b ≠ dx := fun b o q z => by
    have lt := Heap.lt_size q
    rw [z] at lt
    exact absurd (Nat.lt_of_lt_of_le lt fresh) (Nat.lt_irrefl _)
  have loose : ∀ b, H b = none → b ≠ a := fun b n z => by rw [z, e] at n; cases n
  -- what else is tracked stays
  have same : ∀ b w, H b = some w → w ≠ exo a C none → upd (upd H dx (exd dx [(f, y)])) a (exo a C (some dx)) b = some w := fun b w q d => by
    have h1 : b ≠ a := at_ne e q (Ne.symm d)
    have h2 : b ≠ dx := ne_of_none q ndx
    rw [upd_ne h1, upd_ne h2]; exact q
  have U : Un X.fs [] H (upd (upd H dx (exd dx [(f, y)])) a (exo a C (some dx))) s.heap h' :=
    ⟨fun b o q n _ _ => stay b o (loose b n) q, fun b o q n _ _ => ⟨o.slots, stay b o (loose b n) q⟩, fun b o q n _ => by rw [upd_ne (loose b n), upd_ne (old b o q)]; exact n,
      fun b o q _ => (Classical.em (b = a)).elim (fun hb => ⟨_, hb ▸ hx⟩) fun hb => ⟨o, stay b o hb q⟩, fun b xs q => same b _ q exo_tup.symm, fun b o v q => same b _ q exo_frz.symm, fun b ps q => ⟨#[], by rw [same b _ q exo_tbl.symm]; simp⟩⟩
  refine I.un (t' := tk) U fun b o q => ?_
  by_cases h1 : b = a
  · rw [h1, upd_same] at q
    cases q
    rw [h1]
    exact exo_ok hx
  rw [upd_ne h1] at q
  by_cases h2 : b = dx
  · rw [h2, upd_same] at q
    cases q
    rw [h2]
    exact exd_ok hn (relO_put (fs := []) ry fun g => True.intro)
  rw [upd_ne h2] at q
  refine (I.hok b o q).stay (fun c v hc z => ?_) (fun c hc => same c _ hc exo_own.symm) fun c xs hc => same c _ hc exo_tup.symm
  refine stay c v ?_ z
  rcases hc with hc | hc
  · rw [hc]; exact h1
  · exact at_ne e hc exo_own
theorem rz_store (T : RzC X.K C fI f B newId initId bmB) (I : Inv X pins σ H s) (e : H a = some (exo a C none)) (ry : RelV y u)
    (h : ∀ dx s', H dx = none → dx ≠ a → Inv X pins σ (upd (upd H dx (exd dx [(f, y)])) a (exo a C (some dx))) s' → Q () s') : wpAny (model X.prog X.w) A (setAttr (.ref a) f u) Q E s := by
  obtain ⟨t1, ho⟩ := exo_at I.hok e
  obtain ⟨cd, hc, hd⟩ := PySem.W.any_some T.hdt
  have lt : a < s.heap.objs.size := Heap.lt_size ho
  refine PySem.W.set_plain (od := none) I.kIn ⟨ho, rfl, rfl, trivial⟩ T.sa ?_
  refine PySem.W.osa_openX (od := none) (s := { s with toks := s.toks + 1 }) T.sf I.kIn ⟨ho, rfl, rfl, trivial⟩ T.over T.taker fun b => ?_
  refine wpAny_bind (wpAny_pure (wpAny_bind (PySem.W.instanceDict_exc (s := { s with toks := s.toks + 1 }) ho (PySem.W.looks_clsIn I.kIn hc) hd ?_)))
  show wpAny _ _ (Builtin.ObjectAttr.storeInDict s.heap.objs.size (.str f s.toks) f u) _ _ _
  have ho1 : (s.heap.push (PySem.W.dictOf [] 0)).get? a = some { cls := .ref C, dict := none, data := .fields #[.ref t1, .none, .none, .none, .bool false, .none] } := Heap.get?_push_of_some _ ho
  have new : ((s.heap.push (PySem.W.dictOf [] 0)).update a fun o => { o with dict := some s.heap.objs.size }).get? s.heap.objs.size = some (PySem.W.dictOf [] 0) := (Heap.get?_update_ne _ _ _ _ (Nat.ne_of_gt lt)).trans (Heap.get?_push_at rfl rfl)
  refine HandSPX.store_in_new ⟨_, #[], _, new, rfl, fun e he => absurd he (by simp), fun _ => rfl⟩ fun h' tk hn hs => ?_
  have st : ∀ b o, b ≠ a → s.heap.get? b = some o → h'.get? b = some o := fun b o hb q => by
    have hb2 : b ≠ s.heap.objs.size := Nat.ne_of_lt (Heap.lt_size q)
    rw [hs.2 b hb2]
    exact (Heap.get?_update_ne _ _ _ _ hb).trans (Heap.get?_push_of_some _ q)
  have at_ : h'.get? a = some { cls := .ref C, dict := some s.heap.objs.size, data := .fields #[.ref t1, .none, .none, .none, .bool false, .none] } := (hs.2 a (Nat.ne_of_lt lt)).trans (Heap.get?_update_self _ ho1 rfl)
  exact h _ _ (I.hok.fresh (Nat.le_refl _)) (Nat.ne_of_gt lt) (rz_step (tk := tk) (I.tok _) e ry (Nat.le_refl _) (Nat.ne_of_gt lt) st at_ hn)
end
abbrev initB (y f : Str) (p1 p2 p3 p4 : Pos) : List Stmt := [.Assign [.Attribute (.Name "self" p1) f p2] (.Name y p3) p4]
section
variable {X : Cx} {a C fI : Addr} {f x y q : Str} {Q : Unit → Shared → Prop} {B newId initId : String} {bmB : List Value} {params : Arguments} {scope : Scope} {fd : FuncData} {e : Expr} {ta : TA} {p pos p1 p2 p3 p4 : Pos} {k : Nat}
theorem rz_body {Z : Cx} (T : RzC Z.K C fI f B newId initId bmB) (hN : Z.N = [("self" : Str), y]) (h1 : Vis Z.env.scope "self") (h2 : Vis Z.env.scope y) (hd : (y == ("__debug__" : Str)) = false) (hcd : (y == ("__classdict__" : Str)) = false)
    (hs : swapsWith (.Name y p3) (some (.Attribute (.Name "self" p1) f p2)) p4.line Z.env = pure false) :
    PSs Z (initB y f p1 p2 p3 p4) (fun D σ H => ∃ a v, σ[0]? = some (some (.ref a)) ∧ σ[1]? = some (some v) ∧ H a = some (exo a C none) ∧ ∀ dx, H dx = none → dx ≠ a → D.nx σ (upd (upd H dx (exd dx [(f, v)])) a (exo a C (some dx)))) := by
  refine pss_one ⟨fun pins s σ H D I h => ?_⟩
  obtain ⟨a, v, s0, s1, ea, q⟩ := h
  have g1 := (pe_var (X := Z) (x := y) (pos := p3) (i := 1) (by rw [hN]; rfl) h2 hd hcd).run pins s σ H (fun x H1 => x = v ∧ H1 = H) I ⟨v, s1, rfl, rfl⟩
  refine plainObj_wpAny_Assign_Attribute (thn g1 fun u s2 ⟨x2, H2, I2, r2, e2, e3⟩ => ?_) hs
  subst e2
  rw [e3] at I2
  refine thn ((pe_var (X := Z) (x := "self") (pos := p1) (i := 0) (by rw [hN]; rfl) h1 (by decide) (by decide)).run pins s2 σ H (fun x H1 => x = .ref a ∧ H1 = H) I2 ⟨.ref a, s0, rfl, rfl⟩) fun u3 s3 ⟨x3, H3, I3, r3, e4, e5⟩ => ?_
  subst e4
  rw [e5] at I3
  obtain rfl : u3 = Value.ref a := r3
  exact rz_store T I3 ea r2 fun dx s' n ne J => ⟨σ, _, J, q dx n ne⟩
theorem pmk_rz (T : RzC X.K C fI f B newId initId bmB) (D : FunD X.K "__init__" q params (initB y f p1 p2 p3 p4) scope [] [] fI fd) (S : FnScope [("self" : Str), y] [("self" : Str), y] scope) (hr : Room (k + 2) X.A)
    (hbind : ∀ (kV doc pm : Value) (an : Option Addr) (cdv ct : Value) (us : List Value), us.length = 2 → bindArgs (PySem.W.fnOf "__init__" q params (initB y f p1 p2 p3 p4) scope .none kV doc pm an cdv ct) ⟨us, []⟩ = pure ([("self" : Str), y].zip us))
    (hg : Gl X x) (hm : X.mg x = some (.ref C)) (ha : PA X [e] ta) (hd : (y == ("__debug__" : Str)) = false) (hcd : (y == ("__classdict__" : Str)) = false)
    (hs : ∀ env : Env, env.scope = scope → swapsWith (.Name y p3) (some (.Attribute (.Name "self" p1) f p2)) p4.line env = pure false)
    (hdb : (x == ("__debug__" : Str)) = false := by decide) (he : starEach [e] X.env = (false, eval e X.env) :: starEach [] X.env := by rfl) (hpl : (backTo pos (starEach [] X.env)).any (·.1) = false := by rfl) :
    L2N.PMk X (.Call (.Name x p) [e] [] pos) (fun σ H Q => ta σ H fun vs H1 => ∃ v, vs = [v] ∧ ∀ d, H1 d = none → Q (.ref C) (some d) (upd H1 d (.xd [(f, v)]))) := by
  intro pins s σ H Q I h
  refine wpAny_Call_Name_kw (ld_glob I hg hm ?_ hdb)
  refine PySem.W.callWith_K (h₀ := X.base) I.ok.mod.kin T.kC (thn (ha.run pos pins s σ H _ I h) fun us s1 ⟨vs, H1, I1, r1, v, ev, q1⟩ => ⟨I1.kIn, ?_⟩) he hpl
  subst ev
  cases r1 with
  | @cons _ u _ _ ru rn =>
    cases rn
    show wpAny _ _ (call (.ref C) [u]) _ _ _
    obtain ⟨hp, g, dr, tk, os⟩ := s1
    obtain ⟨nm, N', qn, bs, bm, hdct, sn, sub, ab, col, dd, k0, k1, k2, k3, k5, hC, hT⟩ := PySem.W.excInit_of I1.kIn T.ini
    have up : hp.objs.size ≤ hp.objs.size + 1 := Nat.le_succ _
    have kk : ∀ b o, hp.get? b = some o → ((hp.push (PySem.W.kdv_tup [u])).push (PySem.HandSPX.excO C hp.objs.size)).get? b = some o := fun b o z => Heap.get?_push_of_some _ (Heap.get?_push_of_some _ z)
    have got : ((hp.push (PySem.W.kdv_tup [u])).push (PySem.HandSPX.excO C hp.objs.size)).get? (hp.objs.size + 1) = some (PySem.HandSPX.excO C hp.objs.size) := by heap_get
    have J1 : Inv X pins σ (upd H1 (hp.objs.size + 1) (exo (hp.objs.size + 1) C none)) ⟨(hp.push (PySem.W.kdv_tup [u])).push (PySem.HandSPX.excO C hp.objs.size), g, dr, tk, os⟩ := I1.laid (t' := tk) kk up (exo_ok got)
    have fr : H1 (hp.objs.size + 1) = none := I1.hok.fresh up
    obtain ⟨oc, od, dV, kV, doc, pm, an, cdv, ct, osl, rfl, lk, hcode, hD, _⟩ := D.ex
    have rv : Vals [V.ref (hp.objs.size + 1), v] [Value.ref (hp.objs.size + 1), u] := .cons rfl (.cons ru .nil)
    have hrm : Room (k + 1) (X.A.under (.builtin "type.__call__" ⟨[.ref C, u], []⟩)) := Room.make (k := k + 1) hr C [u] []
    have run := LamX.run_ofS (CX := L2N.CX X.prog X.w) (Q := fun w H2 => w = .non ∧ ∃ d, H1 d = none ∧ d ≠ hp.objs.size + 1 ∧ H2 = upd (upd (upd H1 (hp.objs.size + 1) (exo (hp.objs.size + 1) C none)) d (exd d [(f, v)])) (hp.objs.size + 1) (exo (hp.objs.size + 1) C (some d))) (E := fun _ _ _ => False)
      lk hcode S hrm (J1.env0.make C [u] []) (FunD.bindsA (ps := [("self" : Str), y]) D hbind _ [Value.ref (hp.objs.size + 1), u] rfl) rv rfl fun _ => ?_
    · refine wpAny_call (PySem.HandSPX.call_own T.fb hT hC (PySem.W.looks_findIn I1.kIn T.iC) (fun self => PySem.W.bind_fn I1.kIn self T.tI) (by show 1 ≤ sizeLine; rw [sizeLine_eq]; omega) (codeAny_mono run fun r s' hq => ?_))
      cases r with
      | error er =>
        obtain ⟨_, _, _, _, _, _, _, _, _, _, _, _, z⟩ := hq
        exact z.elim
      | ok fl =>
        cases fl with
        | ret w0 =>
          obtain ⟨v0, H2, os2, bare2, un2, hok2, r0, ev0, d, nd, da, eH⟩ := hq
          subst ev0
          obtain ⟨h2, g2, d2, t2, os'⟩ := s'
          have ea : H2 (hp.objs.size + 1) = some (exo (hp.objs.size + 1) C (some d)) := by rw [eH, upd_same]
          have ed : H2 d = some (exd d [(f, v)]) := by rw [eH, upd_ne da, upd_same]
          obtain ⟨t0, G, J, kG, ge, hoe, na⟩ := mk_end0 (d2 := d2) (t2 := t2) I1 up kk un2 hok2 os2 bare2 ea ed nd
          have eF : upd (del H2 (hp.objs.size + 1)) d (.xd [(f, v)]) = upd H1 d (.xd [(f, v)]) := by
            funext b
            by_cases h1 : b = d
            · rw [h1, upd_same, upd_same]
            rw [upd_ne h1, upd_ne h1]
            by_cases h2 : b = hp.objs.size + 1
            · rw [h2, del_same, fr]
            · rw [del_ne h2, eH, upd_ne h2, upd_ne h1, upd_ne h2]
          rw [eF] at J na
          exact ⟨r0, hp.objs.size + 1, _, _, ⟨G, g2, d2, t2, os'⟩, _, .ref C, some d, rfl, J, kG, ge, hoe, ⟨rfl, rfl, fun w hw => by cases hw; rfl⟩, rfl, rfl, na, rfl, bare2, raises_own T.exC T.tyC, q1 d nd⟩
        | next => exact hq.elim
        | brk => exact hq.elim
        | cont => exact hq.elim
    · refine ⟨_, rz_body (Z := cxOf (L2N.CX X.prog X.w) X.prog X.w X.K X.mg X.base [("self" : Str), y] q scope fI cdv _ _ _ _ _) T rfl ((S.par "self" (by simp)).elim .inl fun k => .inr (.inl k)) ((S.par y (by simp)).elim .inl fun k => .inr (.inl k)) hd hcd (hs _ rfl), hp.objs.size + 1, v, rfl, rfl, upd_same, fun dx n ne => ?_⟩
      refine ⟨rfl, dx, ?_, ne, rfl⟩
      rw [upd_ne ne] at n
      exact n
end
end AM
namespace AM
open PySem PySem.Spec PyProof.Rows L2
def sRaise (c : Nat) (f : Str) (g : EF) : SF := fun env st => (g env st).then fun d st' => .exc ⟨c, [(f, d)]⟩ st'
structure Rz (K : PySem.W.Frag) (mg : Str → Option Value) (Γ : Nat → Addr) (x : Str) (c : Nat) (f : Str) : Prop where
  ex : ∃ (fI : Addr) (B newId initId : String) (bmB : List Value) (q y : Str) (params : Arguments) (scope : Scope) (fd : FuncData) (p1 p2 p3 p4 : Pos), RzC K (Γ c) fI f B newId initId bmB ∧
    FunD K "__init__" q params (initB y f p1 p2 p3 p4) scope [] [] fI fd ∧ FnScope [("self" : Str), y] [("self" : Str), y] scope ∧
    (∀ (kV doc pm : Value) (an : Option Addr) (cdv ct : Value) (us : List Value), us.length = 2 → bindArgs (PySem.W.fnOf "__init__" q params (initB y f p1 p2 p3 p4) scope .none kV doc pm an cdv ct) ⟨us, []⟩ = pure ([("self" : Str), y].zip us)) ∧
    (y == ("__debug__" : Str)) = false ∧ (y == ("__classdict__" : Str)) = false ∧ ∀ env : Env, env.scope = scope → swapsWith (.Name y p3) (some (.Attribute (.Name "self" p1) f p2)) p4.line env = pure false
  glob : mg x = some (.ref (Γ c))
section
variable {X : Cx} {Γ : Nat → Addr} {W : WX} {e : Expr} {g : EF} {f x : Str} {c k : Nat} {p pos pos' : Pos}
theorem psd_raise (G : Go X W k) (R : Rz X.K X.mg Γ x c f) (he : PE X e (tD (XC X Γ) W g)) (hj : 2 ≤ k := by decide) (hg : Gl X x := by rfl) (hdb : (x == ("__debug__" : Str)) = false := by decide)
    (hst : starEach [e] X.env = (false, eval e X.env) :: starEach [] X.env := by rfl) (hpl : (backTo pos (starEach [] X.env)).any (·.1) = false := by rfl) :
    PS X (.Raise (some (.Call (.Name x p) [e] [] pos)) none pos') (tS (XC X Γ) W (sRaise c f g)) := by
  obtain ⟨fI, B, newId, initId, bmB, q, y, params, scope, fd, p1, p2, p3, p4, T, D, S, hb, h1, h2, h3⟩ := R.ex
  refine psImp (L2N.ps_raise G.calm G.tk (pmk_rz (k := 0) T D S (G.rm.mono hj) hb hg R.glob (pad_cons he pad_nil hst) h1 h2 h3 hdb hst hpl)) fun D σ H h => ?_
  obtain ⟨w, env, st, r, pp⟩ := h
  have p0 : PostS (XC X Γ) W w H σ ((dCons g dNil env st).then fun ds st' => match ds with
      | [d] => .exc ⟨c, [(f, d)]⟩ st'
      | _ => .bad) D := by
    unfold sRaise at pp
    unfold dCons
    cases z : g env st with
    | ok d st1 => rw [z] at pp; exact pp
    | exc e1 st1 => rw [z] at pp; exact pp
    | bad => rw [z] at pp; exact pp
  refine ⟨w, env, st, r, (Post.then (Da := Dens) r p0).mono ?_⟩
  rintro vs H1 ⟨w1, st1, ds, r1, _, d1, q1⟩
  match ds, vs, d1, q1 with
  | [], _, _, q1 => exact q1.elim
  | _ :: _ :: _, _, _, q1 => exact q1.elim
  | [d], _, .cons (v := v) dv .nil, q1 =>
    refine ⟨v, rfl, fun dx n => ?_⟩
    have x1 : Ext (XC X Γ) w1.ρ H1 w1.ρ (upd H1 dx (.xd [(f, v)])) := Ext.new n
    have s1 : StOk (XC X Γ) w1.ρ (w1.at_ w1.ρ).S (upd H1 dx (.xd [(f, v)])) st1 := r1.sto.ext x1 (fun a h => .inl h) (fun a h => .inl h) fun a h => upd_ne fun z => by
      obtain ⟨o, eo⟩ := r1.sto.there h
      rw [z, n] at eo; cases eo
    exact q1 (w1.at_ w1.ρ) σ _ dx [(f, v)] s1 (x1.toS r1 s1) ⟨upd_same, fun z => r1.fresh n z⟩ (.cons (dv.mono x1 (fun a h => .inl h) fun a h => .inl h) .nil)
end
end AM
namespace AM
open PySem PySem.Spec PyProof.Rows L2 L2H HotX
abbrev hblk (X : Cx) (p : Addr × Obj) (s : Shared) (H : Hp) (scope : Scope) (cenv : Env) (fp : List Addr) : Cx := (X.blk s H scope cenv fp).tr [p] (fun _ _ => False)
section
variable {X : Cx} {p : Addr × Obj}
theorem pin_blk {pins : List (Addr × Obj)} {σ : L2.St} {H H' : Hp} {s s' : Shared} {scope : Scope} {ce : Env} {fp : List Addr} (I : Inv X pins σ H s) (hp : p ∈ X.pn) (hc : s.heap.objs.size ≤ ce.locals) (k : ∀ b o, s.heap.get? b = some o → s'.heap.get? b = some o) (hn : ∀ b, b < s.heap.objs.size → H b = none → H' b = none) :
    s'.heap.get? p.1 = some p.2 ∧ H' p.1 = none ∧ p.1 ≠ ce.locals ∧ p.1 ∉ frs X.stack ∧ ∀ v, p.2.data ≠ .cell v := by
  obtain ⟨g, f, nl, nf, nc⟩ := I.pin p (List.mem_append_left _ hp)
  have lt := Heap.lt_size g
  refine ⟨k _ _ g, hn _ lt f, fun z => ?_, fun m => ?_, nc⟩
  · rw [z] at lt
    exact Nat.lt_irrefl _ (Nat.lt_of_lt_of_le lt hc)
  · rcases List.mem_cons.mp (I.stkSub _ m) with z | z
    · exact nl z
    · exact nf z
theorem pe_lcH {elt tg iter : Expr} {ifs : List Expr} {scope : Scope} {own : List (Str × Nat)} {pos : Pos} {wi : TI} {g : TG} {tt : TT} {te : TE} (hot : Hot1 X.A p) (hp : p ∈ X.pn) (hN : X.N.Nodup) (hi : PIH X tg iter wi) (ok : BlkOk X.N X.env.scope scope own)
    (hg : ∀ (s : Shared) (H : Hp) (C : Addr) (cl : List (Str × Addr)) (fp : List Addr), PG (hblk X p s H scope (compEnvC scope cl C X.env) fp) tg g) (ht : ∀ (s : Shared) (H : Hp) (C : Addr) (cl : List (Str × Addr)) (fp : List Addr), PTs (hblk X p s H scope (compEnvC scope cl C X.env) fp) ifs tt)
    (he : ∀ (s : Shared) (H : Hp) (C : Addr) (cl : List (Str × Addr)) (fp : List Addr), PE (hblk X p s H scope (compEnvC scope cl C X.env) fp) elt te) (hs : ∀ x, foldedSetIterable iter X.env x = pure x := by intro _; rfl) :
    PE X (.ListComp elt [⟨tg, iter, ifs, 0⟩] scope pos) (tLc wi g tt te (own.map (·.2))) := by
  refine ⟨fun pins s σ H Q I h => ?_⟩
  rw [eval_ListComp]
  have cells : ∀ y ∈ scope.names, y.2 = .free → ∃ c, X.env.cells.lookup y.1 = some c := fun y hy e => (ok.free y hy e).elim (fun k => I.ok.has _ (.inl k)) fun k => I.ok.has _ (.inr k)
  refine wpAny_comprehension_free (use := none) rfl hs (closure_ok cells) ok.kind (fun y hy e => by rw [ok.uniq y hy, e]) (thn (hi.run pins s σ H _ I h) fun xv s1 hx => thn hx fun itv s2 h2 => ?_)
  obtain ⟨it, fp, tn, J, H2, rfl, I2, T, st2, f2, q⟩ := h2
  refine wpAny_newObj_type (newEnv_comp ?_) (Nat.zero_le _)
  have nD : H2 s2.heap.objs.size = none := I2.hok.fresh (Nat.le_refl _)
  obtain ⟨W, ⟨m0, w0⟩, turn⟩ := q s2.heap.objs.size nD
  generalize eD : s2.heap.objs.size = D at *
  -- the list is laid
  obtain ⟨s3, es3⟩ : ∃ s3 : Shared, s3 = { s2 with heap := s2.heap.push { cls := .type "list", data := .seq ([] : List Value).toArray } } := ⟨_, rfl⟩
  have k3 : ∀ b o, s2.heap.get? b = some o → s3.heap.get? b = some o := fun b o e => by rw [es3]; exact Heap.get?_push_of_some _ e
  have z3 : s3.heap.objs.size = s2.heap.objs.size + 1 := by rw [es3]; exact Heap.size_push ..
  have I3 : Inv X pins σ (upd H2 D (.lst [])) s3 := by
    rw [es3]
    refine I2.laid (t' := s2.toks) (fun b o e => Heap.get?_push_of_some _ e) (Nat.le_of_eq eD) ⟨Nat.zero_le _, [], 0, .nil, ?_⟩
    rw [← eD]
    exact Heap.get?_push_size _ rfl
  have old : ∀ b ∈ fp, b < s2.heap.objs.size := fun b hb => by
    obtain ⟨o, e, _⟩ := T.obj _ _ st2 b hb
    exact Heap.lt_size e
  have f3 : ∀ b ∈ fp, FpOk X pins (upd H2 D (.lst [])) b ∧ b < s3.heap.objs.size := fun b hb => by
    have lt := old b hb
    have ne : b ≠ D := by rw [← eD]; exact Nat.ne_of_lt lt
    exact ⟨⟨by rw [upd_ne ne]; exact (f2 b hb).1, (f2 b hb).2⟩, by rw [z3]; exact Nat.lt_succ_of_lt lt⟩
  have st3 : tn 0 s3.heap := T.keep _ _ _ st2 fun b _ o e => k3 b o e
  have I4 := block_start I3 ok hN f3
  obtain ⟨C, eC⟩ : ∃ C, C = s3.heap.objs.size := ⟨_, rfl⟩
  obtain ⟨cl, ecl⟩ : ∃ cl, cl = cellsFrom (s3.heap.objs.size + 1) scope.names (cloFrom X.env.cells scope.names []) := ⟨_, rfl⟩
  obtain ⟨H3, eH3⟩ : ∃ H3, H3 = upd H2 D (.lst []) := ⟨_, rfl⟩
  rw [← ecl, ← eC, ← eH3] at I4
  rw [← eH3] at I3 f3
  obtain ⟨s4, es4⟩ : ∃ s4 : Shared, s4 = { s3 with heap := pushCells (s3.heap.push { cls := .type "dict", data := .dict #[] }) scope.names } := ⟨_, rfl⟩
  rw [← es4] at I4
  have pg := hg s3 H3 C cl fp
  have pt := ht s3 H3 C cl fp
  have pe := he s3 H3 C cl fp
  have k4 : ∀ b o, s3.heap.get? b = some o → s4.heap.get? b = some o := fun b o e => by rw [es4]; exact pushCells_keeps _ _ _ _ (Heap.get?_push_of_some _ e)
  obtain ⟨ce, ece⟩ : ∃ ce, ce = compEnvC scope cl C X.env := ⟨_, rfl⟩
  rw [← ece] at I4 pg pt pe
  have cL : ce.locals = s3.heap.objs.size := by rw [ece]; exact eC
  -- the block bears the handled exception
  have J4 : Inv (hblk X p s3 H3 scope ce fp) [] (wipe σ (own.map (·.2))) H3 s4 := (I4.pins_of (pins' := [p]) fun r hr => by
    rw [List.mem_singleton.mp hr]
    exact pin_blk (H' := H3) (s' := s4) (ce := ce) (scope := scope) (fp := fp) I3 hp (Nat.le_of_eq cL.symm) k4 fun _ _ n => n).toTry _
  have HC : HotC (hblk X p s3 H3 scope ce fp) := ⟨p, hot, List.mem_singleton.mpr rfl⟩
  have st4 : tn 0 s4.heap := T.keep _ _ _ st3 fun b _ o e => k4 b o e
  have no3 : ∀ b ∈ fp, H3 b = none := fun b hb => (f3 b hb).1.1
  have stat : ∀ {σ' : L2.St} {H' : Hp} {s' : Shared}, Inv (hblk X p s3 H3 scope ce fp) [] σ' H' s' → (∀ b ∈ fp, H' b = none) → ∀ b ∈ fp, FpOk (hblk X p s3 H3 scope ce fp) [] H' b := fun {σ' H' s'} I' hn b hb =>
    ⟨hn b hb, (I'.ok.exf b hb).1, I'.ok.exfs b hb, .inl hb, fun x c e => (I'.ok.exf b hb).2 x c e, fun r hr => by
      have er : r = p := by simpa using (show r ∈ [p] ++ ([] : List (Addr × Obj)) from hr)
      rw [er]
      exact (f3 b hb).1.2.2.2.2.2 p (List.mem_append_left _ hp)⟩
  have enter : codeAny (model X.prog X.w) X.A (.compLoop (.ListComp elt [⟨tg, iter, ifs, 0⟩] scope pos) 0 (.ref it) (.ref D) ce) (compPost (model X.prog X.w) X.A X.xe none (fun v s' => EP X pins σ Q v s') (.ref D) C) s4 := by
    refine compLoop_any (fun n s' => ∃ i H', Inv (hblk X p s3 H3 scope ce fp) [] (wipe σ (own.map (·.2))) H' s' ∧ tn i s'.heap ∧ (∀ b ∈ fp, H' b = none) ∧ W i n H') ?_ m0 ⟨0, H3, J4, st4, no3, by rw [eH3]; exact w0⟩
    rintro n s5 ⟨i, H5, I5, st5, n5, w5⟩
    rcases turn i n H5 w5 with ⟨stop, fin⟩ | ⟨go, Nx, hNx, step⟩
    · refine thnF (T.done (hblk X p s3 H3 scope ce fp) rfl rfl rfl HC i [] s5 _ H5 (fun _ _ => False) I5 (stat I5 n5) st5 stop) fun r s6 ⟨hr, I6⟩ => ?_
      subst hr
      have I7 : Inv X pins σ H5 s6 := I3.call' (ch := fp) I6.os I6.base I6.hok I6.bare fun b hb => ⟨(f3 b hb).1.2.2.2.1, (f3 b hb).1.2.1, (f3 b hb).1.2.2.2.2.1, (f3 b hb).1.2.2.2.2.2⟩
      have free : H5 s3.heap.objs.size = none := by rw [← cL]; exact I6.free
      obtain ⟨m, hn, _⟩ := I6.loc
      have hn : s6.heap.Ns ce.locals m := hn
      rw [cL, ← eC] at hn
      refine ⟨m, hn, fun h'' sb => ?_⟩
      obtain ⟨g0, g1, g2, g3, g4, g5⟩ := I3.fpOk (b := C) (H' := H5) (Nat.le_of_eq eC.symm) (by rw [eC]; exact free)
      exact ⟨.ref D, H5, I7.turned (t' := s6.toks) (fun b o hb e => (sb.2 b hb).trans e) g0 g1 g3 g4 g5, rfl, fin⟩
    · refine thnF (T.item (hblk X p s3 H3 scope ce fp) rfl rfl rfl HC i [] s5 _ H5 (fun _ _ => False) I5 (stat I5 n5) st5 go) fun r s6 ⟨u, hr, h6⟩ => ?_
      subst hr
      refine thnF h6 fun _ s7 ⟨x, H7, I7, r7, y7, st7, n7⟩ => ?_
      refine thnF (pg.run _ s7 _ H7 x u _ (I7.pinned (stat I7 n7) (T.obj _ _ st7)) r7 (step x H7 y7)) fun _ s8 ⟨σ8, H8, I8, hw8, q8⟩ => ?_
      refine thnF (pt.run _ s8 σ8 H8 _ I8 q8) fun b s9 ⟨H9, I9, q9⟩ => ?_
      have round : ∀ {s' : Shared} {H' : Hp}, Inv (hblk X p s3 H3 scope ce fp) ([] ++ pinsAt fp s7.heap) σ8 H' s' → Nx H' → ∃ m, m < n ∧ ∃ i H', Inv (hblk X p s3 H3 scope ce fp) [] (wipe σ (own.map (·.2))) H' s' ∧ tn i s'.heap ∧ (∀ b ∈ fp, H' b = none) ∧ W i m H' := fun {s' H'} I' nx => by
        obtain ⟨m', hm, w'⟩ := hNx H' nx
        have kept : ∀ b ∈ fp, ∀ o, s7.heap.get? b = some o → s'.heap.get? b = some o ∧ H' b = none := fun b hb o e =>
          have z := I'.pin (b, o) (List.mem_append_right _ (List.mem_append_right _ (mem_pinsAt hb e)))
          ⟨z.1, z.2.1⟩
        refine ⟨m', hm, i + 1, H', (I'.unpinned (pins := [])).weak (by rw [← hw8, wipe_length]) (fun j v e => ?_), T.keep _ _ _ st7 fun b hb o e => (kept b hb o e).1, fun b hb => ?_, w'⟩
        · rw [← hw8] at e
          exact (wipe_some e).1
        · obtain ⟨o, e, _⟩ := T.obj _ _ st7 b hb
          exact (kept b hb o e).2
      cases b with
      | false =>
        have q9 : Nx H9 := q9
        exact round I9 q9
      | true =>
        have q9 : te σ8 H9 fun y H4 => ∃ acc, H4 D = some (.lst acc) ∧ acc.length < sizeLine ∧ Nx (upd H4 D (.lst (acc ++ [y]))) := q9
        show wpAny _ _ _ _ _ _
        refine thnF (pe.run _ s9 σ8 H9 _ I9 q9) fun z s10 ⟨yv, H10, I10, r10, acc, hD10, hz10, nx⟩ => ?_
        exact L2.app_ok (X := hblk X p s3 H3 scope ce fp) I10 hD10 hz10 r10 fun s11 I11 => round I11 nx
  have start := codeAny_compStart_list (scope := scope) (pos := pos) enter (T.self X.A 0 _ _ _ st4 enter)
  clear enter J4 I4 stat pg pt pe
  subst ece ecl eC es4 eH3
  subst es3
  exact start
end
end AM
namespace AM
open PySem PySem.Spec PyProof.Rows L2
theorem flying_on {B h h' : Heap} {l : List Env} {a : Addr} {Z : Obj → Prop} (x : HandSPX.FlyingZ B l a Z h) (k : ∀ b o, h.get? b = some o → h'.get? b = some o) : HandSPX.FlyingZ B l a Z h' := by
  obtain ⟨x1, x2, x3, oe, vs, T, oT, ts, y1, y2, y3, y4, y5, y6, y7, y8, y9⟩ := x
  exact ⟨fun b o e => k b o (x1 b o e), x2, x3.of_keeps fun b o e _ => ⟨o, k b o e, rfl⟩, oe, vs, T, oT, ts, k _ _ y1, y2, y3, y4, y5, y6, k _ _ y7, y8, y9⟩
def onlyRt (D : Ends) : Ends := { nx := fun _ _ => False, rt := D.rt, bk := fun _ _ => False, ct := fun _ _ => False }
def wTup (K : PySem.W.Frag) (m : Nat) (cs : List Value) (i : Nat) (ts : Addr → Value → Option Addr → TS) (D : Ends) : WX := fun cls d σ H =>
  PySem.W.exmAny K cls cs = some true ∧ (σ.length = m → ∀ a, H a = none → ts a cls d (onlyRt D) (σ.set i (some (.ref a))) H)
section
variable {X : Cx} {x1 x2 x3 n : Str} {c1 c2 c3 : Value} {i kt : Nat} {body suite : List Stmt} {b0 : Stmt} {p1 p2 p3 pt pos pos' : Pos} {tb : WX → TS} {ts : Addr → Value → Option Addr → TS}
theorem ps_try_tup (hs : X.stack = X.env :: X.outer) (hf : X.env.frame = some X.env.locals) (hN : X.N.Nodup) (hi : X.N[i]? = some n) (hln : X.env.kindOf n = some .local) (n1 : Names X x1 c1) (n2 : Names X x2 c2) (n3 : Names X x3 c3)
    (hst : starEach [.Name x1 p1, .Name x2 p2, .Name x3 p3] X.env = [(false, eval (.Name x1 p1) X.env), (false, eval (.Name x2 p2) X.env), (false, eval (.Name x3 p3) X.env)] := by rfl)
    (hb : ∀ (W : WX) (pn : List (Addr × Obj)) (xe : Value → Shared → Prop), L2N.Takes (X.tr pn xe) W → PassesOwn (model X.prog X.w) X.A X.env xe → PSs (X.tr pn xe) body (tb W))
    (hsu : ∀ (a : Addr) (oe : Obj) (cls : Value) (d : Option Addr) (pn : List (Addr × Obj)), L2N.Zn cls d oe → (∃ vs, oe.data = .fields vs) → PSs (X.suite a ((a, oe) :: pn)) (b0 :: suite) (ts a cls d)) :
    PS X (.Try body [.ExceptHandler (some (.Tuple [.Name x1 p1, .Name x2 p2, .Name x3 p3] kt pt)) (some n) (b0 :: suite) pos'] [] [] pos) (fun D σ H => tb (wTup X.K X.N.length [c1, c2, c3] i ts D) D σ H) := by
  refine ⟨fun pins s σ H D I h => ?_⟩
  have ok := I.ok
  have hfr : X.A.frames = some (X.env :: X.outer) := by rw [ok.frames, hs]
  refine wpAny_Try_except (wpAny_mono ((hb (wTup X.K X.N.length [c1, c2, c3] i ts D) (X.pn ++ pins) (fun e s₁ => wpAny (model X.prog X.w) X.A (noteFrame e X.env) (fun _ s₂ => wpAny (model X.prog X.w) X.A (setFlight e none) (fun _ s₃ =>
    wpAny (model X.prog X.w) X.A (handleBy e X.env [.ExceptHandler (some (.Tuple [.Name x1 p1, .Name x2 p2, .Name x3 p3] kt pt)) (some n) (b0 :: suite) pos']) (SP X pins D) X.xe s₃) X.xe s₂) X.xe s₁) (fun u s1 air => ?_) PassesOwn.looking).run [] s σ H D (I.toTry _) h) (fun f s1 hsp => ?_) fun e s1 z => z)
  · -- caught
    obtain ⟨a, B, sI, pins1, σ1, H1, cls, d, rfl, J0, ground, up0, sky, na, os, bare, hx, goes⟩ := air
    have J1 : Inv X pins σ1 H1 sI := J0.ofTry ok
    have sky1 : Sky B (X.env :: X.outer) a (L2N.Zn cls d) X.env.locals s1.heap := hs ▸ sky
    refine L2N.Sky.land L2N.Zn.steady hfr hf sky1 fun h2 fly2 up2 => ?_
    -- what stands once the exception has come down
    have at_ : ∀ h3, HandSPX.FlyingZ B (X.env :: X.outer) a (L2N.Zn cls d) h3 → sI.heap.UpToSlots h3 → ∃ oe, h3.get? a = some oe ∧ L2N.Zn cls d oe ∧ (∃ vs, oe.data = .fields vs) ∧ Inv (X.suite a ((a, oe) :: (X.pn ++ pins))) [] σ1 H1 { s1 with heap := h3 } := fun h3 fly up => by
      obtain ⟨oe, vs, e1, e2, e3⟩ := fly.there
      have K1 : Inv X pins σ1 H1 { s1 with heap := h3 } := J1.landed ground fly.1 up os bare
      have apart : a ∉ frs (X.env :: X.outer) := fun m => by
        obtain ⟨_, o', g, nf⟩ := fly.2.2.1.mem m
        rw [e1] at g
        cases g
        exact nf _ e3
      have a1 : a ≠ X.env.locals := fun z => apart (List.mem_filterMap.mpr ⟨X.env, List.mem_cons_self, by rw [hf, z]⟩)
      have a2 : a ∉ X.fs := fun m => by
        obtain ⟨e, g1, g2⟩ := List.mem_filterMap.mp m
        exact apart (List.mem_filterMap.mpr ⟨e, List.mem_cons_of_mem _ g1, g2⟩)
      exact ⟨oe, e1, e2, ⟨vs, e3⟩, K1.suite e1 e3 na a1 a2⟩
    obtain ⟨oe2, g2, z2, ⟨vs2, dd2⟩, S2⟩ := at_ h2 fly2 (up0.trans up2)
    have name_ : ∀ {x : Str} {c : Value} {p : Pos} {Q : Value → Shared → Prop} {E : Value → Shared → Prop}, Names X x c → Q c { s1 with heap := h2 } → wpAny (model X.prog X.w) (X.A.mark (some (.ref a))) (eval (.Name x p) X.env) Q E { s1 with heap := h2 } := fun {x c p Q E} nm q => by
      obtain ⟨y1, y2, y3 | ⟨y3, y4, y5⟩⟩ := nm
      · exact ld_glob (X := X.suite a ((a, oe2) :: (X.pn ++ pins))) S2 y1 y3 q y2
      · exact ld_blt (X := X.suite a ((a, oe2) :: (X.pn ++ pins))) S2 y1 y3 y4 q y5 y2
    refine wpAny_handleBy_cons (codeAny_handlers_test (wpAny_Tuple_spliced ?_)) (by intro q; cases q)
    rw [hst]
    refine Calls.spliced_cons (name_ n1 (Calls.spliced_cons (name_ n2 (Calls.spliced_cons (name_ n3 (Calls.spliced_nil ⟨by show 3 ≤ sizeLine; rw [sizeLine_eq]; omega, ?_⟩))))))
    have kp : ∀ b o, h2.get? b = some o → (h2.push { cls := .type "tuple", data := .seq [c1, c2, c3].toArray }).get? b = some o := fun b o e => Heap.get?_push_of_some _ e
    have LT : PySem.W.Looks (model X.prog X.w) (h2.push { cls := .type "tuple", data := .seq [c1, c2, c3].toArray }) (typeOf (.ref a)) cls := fun A Q E s k q => wpAny_typeOf_ref (k _ _ (kp _ _ g2)) (by rw [z2.1]; exact q)
    have KI : X.K.In (h2.push { cls := .type "tuple", data := .seq [c1, c2, c3].toArray }) := S2.kIn.keeps kp
    have LM := PySem.W.exm_tup3 (M := model X.prog X.w) KI LT (Heap.get?_push_size h2 rfl) hx
    refine LM.here (codeAny_handlers_suite_as (HandSPX.lands_againZ (flying_on fly2 kp) fun h4 fly4 up4 => ?_))
    obtain ⟨oe4, g4, z4, dd4, S4⟩ := at_ h4 fly4 (((up0.trans up2).trans (Heap.UpToSlots.of_keeps kp)).trans up4)
    refine store_ok (X := X.suite a ((a, oe4) :: (X.pn ++ pins))) (v := .ref a) S4 hN hi (.inl hln) rfl (fun s5 S5 => ?_) (.inr hln)
    refine wpAny_mono ((hsu a oe4 cls d (X.pn ++ pins) z4 dd4).run [] s5 _ H1 _ S5 (goes J1.len a na)) (fun f s6 hsp => ?_) fun _ _ z => z.elim
    cases f with
    | next => obtain ⟨_, _, _, z⟩ := hsp; exact z.elim
    | brk => obtain ⟨_, _, _, z⟩ := hsp; exact z.elim
    | cont => obtain ⟨_, _, _, z⟩ := hsp; exact z.elim
    | ret w =>
      obtain ⟨v6, σ6, H6, S6, r6, q6⟩ := hsp
      exact gone_ok (S6.unsuite ok) hN hi hln fun s7 J7 => ⟨_, _, _, J7, r6, q6⟩
  · cases f with
    | next =>
      obtain ⟨σ1, H1, J, q⟩ := hsp
      exact wpAny_execs_nil ⟨σ1, H1, J.ofTry ok, q⟩
    | brk =>
      obtain ⟨σ1, H1, J, q⟩ := hsp
      exact ⟨σ1, H1, J.ofTry ok, q⟩
    | cont =>
      obtain ⟨σ1, H1, J, q⟩ := hsp
      exact ⟨σ1, H1, J.ofTry ok, q⟩
    | ret u =>
      obtain ⟨v, σ1, H1, J, r, q⟩ := hsp
      exact ⟨v, σ1, H1, J.ofTry ok, r, q⟩
end
end AM
namespace AM
open PySem PySem.Spec PyProof.Rows L2 L2H HotX
structure XvC (K : PySem.W.Frag) (C : Addr) : Prop where
  ga : PySem.W.findIn K (.ref C) "__getattribute__" = some (some (.builtin "BaseException.__getattribute__"))
  gg : PySem.W.findIn K (.ref C) "__getattr__" = some none
  ex : PySem.W.subIn K (.ref C) (.type "BaseException") = some true
  cl : (PySem.W.clsIn K C).isSome = true
  hd : PySem.W.hasDictIn K C = true
  ca : PySem.W.findIn K (.ref C) "__class__" = some (some (.builtin "object.__class__"))
  sp : PySem.W.specialIn K (.builtin "object.__class__") "__get__" = some (some (.builtin "getset_descriptor.__get__"))
  tk : PySem.W.takesIn K (.builtin "object.__class__") = some true
  mr : PySem.W.mroIn K C (.type "object") = some true
structure HotAt1 (X : Cx) (Γ : Nat → Addr) (c : Nat) (a dx : Addr) : Prop where
  cls : XvC X.K (Γ c)
  obj : ∃ oe, (a, oe) ∈ X.pn ∧ X.A.handled = some (.ref a) ∧ L2N.Zn (.ref (Γ c)) (some dx) oe ∧ ∃ vs, oe.data = .fields vs
theorem HotAt1.hot {X : Cx} {Γ : Nat → Addr} {c : Nat} {a dx : Addr} (h : HotAt1 X Γ c a dx) : ∃ oe, (a, oe) ∈ X.pn ∧ Hot1 X.A (a, oe) ∧ L2N.Zn (.ref (Γ c)) (some dx) oe ∧ ∃ vs, oe.data = .fields vs := by
  obtain ⟨oe, h1, h2, h3, vs, h4⟩ := h.obj
  exact ⟨oe, h1, ⟨h2, vs, h4, h3.2.2 vs h4⟩, h3, vs, h4⟩
section
variable {X : Cx} {Γ : Nat → Addr} {W : WX} {c : Nat} {a dx : Addr} {e b : Expr} {fe : EF} {f : Str} {p pos : Pos} {v : V} {u : Value} {bb : Bool}
theorem HotAt1.inst {pins : List (Addr × Obj)} {σ : L2.St} {H : Hp} {s : Shared} {gs : List (Str × V)} (h : HotAt1 X Γ c a dx) (I : Inv X pins σ H s) (hd : H dx = some (.xd gs)) :
    ∃ (oe od : Obj) (mA : Str → Option Value), PySem.W.InstAt s.heap a oe (Γ c) (some od) ∧ (∀ name, PySem.W.lookIn name od = some (mA name)) ∧ ∀ f, RelO (gs.lookup f) (mA f) := by
  obtain ⟨oe, h1, _, hz, vs, hv⟩ := h.obj
  obtain ⟨at_, _⟩ := I.pin (a, oe) (List.mem_append_left _ h1)
  obtain ⟨mA, ns, rel⟩ := (show ObjOk X.prog X.w H s.heap dx (.xd gs) from I.hok dx _ hd)
  obtain ⟨od, ho, hl⟩ := lookIn_ns ns
  exact ⟨oe, od, mA, ⟨at_, hz.1, by unfold PySem.W.notCls; rw [hv] <;> rfl, by rw [hz.2.1]; exact ho⟩, hl, rel⟩
def oIsXv (c : Nat) (a dx : Addr) (b : Bool) : Op1 := fun d st => match d with
  | .exv c' a' dx' _ => if c' = c ∧ a' = a ∧ dx' = dx then .ok (.bl b) st else .bad
  | _ => .bad
def rIsXv (K : PySem.W.Frag) (C a dx : Addr) : List V → Hp → VK → Prop := fun xs H Q => ∃ (cv : V) (u : Value) (b : Bool) (gs : List (Str × V)), xs = [.ref a, cv] ∧ ClsV cv u ∧ PySem.W.kitOne K (.ref C) u = some b ∧ H dx = some (.xd gs) ∧ Q (.bl b) H
theorem call_isXv (h : HotAt1 X Γ c a dx) : CallR X (.builtin "isinstance") (rIsXv X.K (Γ c) a dx) := by
  intro pins s σ H xs us Q I r hq
  obtain ⟨cv, u, b, gs, rfl, hc, hk, hd, q⟩ := hq
  cases r with
  | cons r1 r2 =>
    cases r2 with
    | cons r3 r4 =>
      cases r4
      cases r1
      have e := hc.eq r3
      subst e
      obtain ⟨oe, od, mA, J, _, _⟩ := h.inst I hd
      have Z := PySem.W.kitx_exc (x := a) (ox := oe) (od := some od) h.cls.cl h.cls.ga h.cls.gg h.cls.ex h.cls.ca h.cls.sp h.cls.tk h.cls.mr
      exact PySem.W.kia_one Z I.kIn J hk (fun z => nomatch z) fun tk => ⟨.bl b, H, I.kept (t' := tk) fun _ _ z => z, rfl, q⟩
theorem den_exv {K : Ct} {w : Wd} {H : Hp} {v : V} {fs : List (Str × D)} {c' : Nat} {a' dx' : Addr} (d : DenB K w.ρ w.S H v (.exv c' a' dx' fs)) : v = .ref a' ∧ ∃ gs, H dx' = some (.xd gs) ∧ DenF K w.ρ w.S H gs fs := by
  have d : Den K w.ρ w.S H v (.exv c' a' dx' fs) := d
  cases d with
  | exv h1 h2 h3 => exact ⟨rfl, _, h1, h3⟩
theorem pd_isXv (h : HotAt1 X Γ c a dx) (hk : PySem.W.kitOne X.K (.ref (Γ c)) u = some bb) (hc : ClsV v u) (he : PE X e (tDB (XC X Γ) W fe)) (hb : PE X b (tC v)) (hm : X.mg "isinstance" = none) (hg : Gl X "isinstance" := by rfl)
    (hs : starEach (e :: [b]) X.env = (false, eval e X.env) :: starEach [b] X.env := by rfl) (hs2 : starEach (b :: []) X.env = (false, eval b X.env) :: starEach [] X.env := by rfl) (hpl : (backTo pos (starEach [b] X.env)).any (·.1) = false := by rfl) :
    PE X (.Call (.Name "isinstance" p) [e, b] [] pos) (tD (XC X Γ) W (dOp1 (oIsXv c a dx bb) fe)) := peImp (pe_callB (call_isXv h) hg hm (by decide +kernel) (pa_cons he (pa_cons hb pa_nil hs2) hs) (by decide) (by decide) hs hpl) fun σ H Q hh => by
  obtain ⟨w, env, st, r, p⟩ := t1 (Da := DenB) (g := fun env d st => oIsXv c a dx bb d st) hh
  refine ⟨w, env, st, r, p.mono ?_⟩
  rintro x H1 ⟨w1, env1, st1, d, r1, d1, p1⟩
  cases d with
  | exv c' a' dx' fs =>
    change Post Den (XC X Γ) W w1 H1 σ (if c' = c ∧ a' = a ∧ dx' = dx then .ok (.bl bb) st1 else .bad) Q at p1
    split at p1
    · rename_i q
      obtain ⟨rfl, rfl, rfl⟩ := q
      obtain ⟨ex, gs, hd, _⟩ := den_exv d1
      exact ⟨v, u, bb, gs, by rw [ex], hc, hk, hd, Post.ok r1 p1 (.bl bb)⟩
    · exact p1.elim
  | _ => exact p1.elim
def oXf (c : Nat) (a dx : Addr) (f : Str) : Op1 := fun d st => match d with
  | .exv c' a' dx' fs => if c' = c ∧ a' = a ∧ dx' = dx then (match fs.lookup f with
    | some x => .ok x st
    | none => .bad) else .bad
  | _ => .bad
theorem pd_xf (h : HotAt1 X Γ c a dx) (hno : PySem.W.findIn X.K (.ref (Γ c)) f = some none) (he : PE X e (tDB (XC X Γ) W fe)) (hb : attributeBase e f X.env (eval e X.env) = eval e X.env := by rfl) :
    PE X (.Attribute e f pos) (tD (XC X Γ) W (dOp1 (oXf c a dx f) fe)) := by
  refine ⟨fun pins s σ H Q I hh => ?_⟩
  have h0 := t1 (Da := DenB) (g := fun env d st => oXf c a dx f d st) hh
  refine attr_of hb (thn (he.run pins s σ H _ I h0) fun y s1 ⟨x, H1, I1, rx, w1, env1, st1, d, r1, d1, p1⟩ => ?_)
  cases d with
  | exv c' a' dx' fs =>
    change Post Den (XC X Γ) W w1 H1 σ (if c' = c ∧ a' = a ∧ dx' = dx then (match fs.lookup f with
      | some x => .ok x st1
      | none => .bad) else .bad) Q at p1
    split at p1
    · rename_i q
      obtain ⟨rfl, rfl, rfl⟩ := q
      obtain ⟨ex, gs, hd, df⟩ := den_exv d1
      subst ex
      obtain rfl : y = Value.ref a' := rx
      cases hl : fs.lookup f with
      | none => rw [hl] at p1; exact p1.elim
      | some z =>
        rw [hl] at p1
        obtain ⟨vv, lv, dv⟩ := df.lookup hl
        obtain ⟨oe, od, mA, J, look, rel⟩ := h.inst I1 hd
        obtain ⟨u2, hu, ru⟩ := RelO.some_of (v := vv) (o := mA f) (by rw [← lv]; exact rel f)
        exact HandSPX.exc_get I1.kIn J h.cls.ga h.cls.gg h.cls.ex (PySem.W.findObj_own h.cls.hd hno rfl (by rw [look, hu])) (handed_of ru) ⟨vv, H1, I1.tok _, ru, Post.ok r1 p1 dv⟩
    · exact p1.elim
  | _ => exact p1.elim
end
theorem run_hot {CX : CXT} {P : Program} {w : World} {K : PySem.W.Frag} {mg : Str → Option Value} {base : Heap} {k : Nat} {g : Addr} {name qual : Str} {params : Arguments} {body : List Stmt} {scope : Scope} {dV kV doc pm cdv ct oc : Value} {an od : Option Addr} {osl : Array (Option Value)} {N ps : List Str} {A : Around} {outer : List Env} {s : Shared} {H : Hp}
    {us : List Value} {vs : List V} {Q : VK} {E : XK} {p : Addr × Obj} {t : TS} (lk : K.lookup g = some ⟨oc, od, .func (PySem.W.fnOf name qual params body scope dV kV doc pm an cdv ct), osl⟩) (hcd : PySem.W.codeIn K cdv qual = true) (S : FnScope N ps scope) (hr : RoomH (k + 1) A) (hpin : PinOk outer H s p) (e0 : Env0 P w K mg base A outer s H)
    (hb : BindsTo s (PySem.W.fnOf name qual params body scope dV kV doc pm an cdv ct) ⟨us, []⟩ (ps.zip us)) (r : Vals vs us) (hl : vs.length = ps.length) (ht : PSs (cxH CX P w K mg base N qual scope g cdv A outer s H E p) body t)
    (hq : t { nx := fun _ H' => Q .non H', rt := Q } (L2.start N vs) H) : codeAny (model P w) A (.call (.ref g) ⟨us, []⟩) (CR CX outer P w H s Q E) s := by
  have there : ∀ b o, base.get? b = some o → s.heap.get? b = some o := fun b o e => (e0.bs b o e).1
  have KX : K.In s.heap := e0.mod.kin.keeps there
  have kinds : ∀ y ∈ ps.zip us, scope.names.lookup y.1 = some .local ∨ (scope.names.lookup y.1 = some .cell ∧ ((cellsFrom (s.heap.objs.size + 1) scope.names []).lookup y.1).isSome = true) := fun y hy => (S.par y.1 (List.of_mem_zip (a := y.1) (b := y.2) hy).1).elim .inl fun q => .inr ⟨q, PySem.W.cellsFrom_some _ _ _ (.inl q)⟩
  refine codeAny_call_function hr.depth (KX _ _ lk) rfl S.co S.gen rfl (PySem.W.codeRec_of KX hcd) (hb _ _ _ _ (wpAny_newFunctionEnv_cells S.kind kinds fun env he s1 x => ?_))
  subst he
  have I0 : Inv (cxH CX P w K mg base N qual scope g cdv A outer s H E p) [] (L2.start N vs) H s1 := inv_startH S hpin e0 hl r x
  refine ⟨(e0.mod.nolimit.keeps there).keeps x.toInCall.keep, codeAny_func (wpAny_mono (ht.run [] s1 (L2.start N vs) H _ I0 hq) (fun fl s2 z => ?_) fun _ _ z => z)⟩
  cases fl with
  | ret u =>
    obtain ⟨v, σ2, H2, J, rv, q⟩ := z
    exact ⟨v, H2, J.os, J.bare, J.base, J.hok, rv, q⟩
  | next =>
    obtain ⟨σ2, H2, J, q⟩ := z
    exact ⟨V.non, H2, J.os, J.bare, J.base, J.hok, rfl, q⟩
  | brk => obtain ⟨_, _, _, q⟩ := z; exact q.elim
  | cont => obtain ⟨_, _, _, q⟩ := z; exact q.elim
section
variable {X : Cx} {Γ : Nat → Addr} {W : WX} {c : Nat} {a dx g : Addr} {e : Expr} {fe : EF} {x qual : Str} {params : Arguments} {body : List Stmt} {scope : Scope} {N : List Str} {ps : List Str} {fd : FuncData} {gf : SF} {k : Nat} {p pos : Pos}
theorem pd_callHot (h : HotAt1 X Γ c a dx) (hr : RoomH (k + 1) X.A) (D : FunD X.K x qual params body scope [] [] g fd) (S : FnScope N ps scope) (h1 : ps.length = 1) (hm : X.mg x = some (.ref g)) (he : PE X e (tD (XC X Γ) W fe))
    (hb : ∀ (kV doc pm : Value) (an : Option Addr) (cdv ct : Value) (us : List Value), us.length = ps.length → bindArgs (PySem.W.fnOf x qual params body scope .none kV doc pm an cdv ct) ⟨us, []⟩ = pure (ps.zip us))
    (hbody : ∀ (cdv : Value) (A : Around) (outer : List Env) (s : Shared) (H : Hp) (E : XK) (oe : Obj), RoomH k (A.deeper (envOfC qual scope s.heap.objs.size g cdv)) → A.guards = X.A.guards → HotAt1 (cxH (L2N.CX X.prog X.w) X.prog X.w X.K X.mg X.base N qual scope g cdv A outer s H E (a, oe)) Γ c a dx →
      PSs (cxH (L2N.CX X.prog X.w) X.prog X.w X.K X.mg X.base N qual scope g cdv A outer s H E (a, oe)) body (tS (XC X Γ) (fun c d _ H' => E c d H') gf))
    (hg : Gl X x := by rfl) (hdb : (x == ("__debug__" : Str)) = false := by decide) (hst : starEach (e :: []) X.env = (false, eval e X.env) :: starEach [] X.env := by rfl) (hpl : (backTo pos (starEach [] X.env)).any (·.1) = false := by rfl) :
    PE X (.Call (.Name x p) [e] [] pos) (tD (XC X Γ) W (fun env st => onlyOk (dCall (runD ps.length N.length gf) (dCons fe dNil) env st))) := by
  obtain ⟨oe, hp, hot, hz, hvs⟩ := h.hot
  refine ⟨fun pins s σ H Q I hh => ?_⟩
  refine wpAny_Call_Name_kw (ld_glob I hg hm ?_ hdb)
  obtain ⟨w, env, st, r, p0⟩ := hh
  have p1 : Post Den (XC X Γ) W w H σ ((dCons fe dNil env st).bind fun ds st => onlyOk (runD ps.length N.length gf ds st)) Q := by
    change Post Den (XC X Γ) W w H σ (onlyOk ((dCons fe dNil env st).bind (runD ps.length N.length gf))) Q at p0
    cases q : dCons fe dNil env st with
    | ok ds st1 =>
      rw [q] at p0
      exact p0
    | exc x st1 => rw [q] at p0; exact p0.elim
    | bad => rw [q] at p0; exact p0.elim
  have ha : PA X [e] (tDs (XC X Γ) W (dCons fe dNil)) := pad_cons he pad_nil hst
  have t0 : tDs (XC X Γ) W (dCons fe dNil) σ H fun vs H1 => ∃ w1 st1 ds, Rel (XC X Γ) w1 env st1 σ H1 ∧ Dens (XC X Γ) w1.ρ w1.S H1 vs ds ∧ Post Den (XC X Γ) W w1 H1 σ (onlyOk (runD ps.length N.length gf ds st1)) Q := by
    refine ⟨w, env, st, r, (Post.bind (Da := Dens) r p1).mono ?_⟩
    rintro vs H1 ⟨w1, st1, ds, r1, _, _, d1, q1⟩
    exact ⟨w1, st1, ds, r1, d1, q1⟩
  refine PySem.W.callWith_K (h₀ := X.base) I.ok.mod.kin D.kp (thn (ha.run pos pins s σ H _ I t0) fun us s1 ⟨vs, H1, I1, rv, w1, st1, ds, r1, d1, q1⟩ => ⟨I1.kIn, ?_⟩) hst hpl
  obtain ⟨oc, od, dV, kV, doc, pm, an, cdv, ct, osl, rfl, lk, hcode, hD, _⟩ := D.ex
  have P1 := I1.pin (a, oe) (List.mem_append_left _ hp)
  have hpin : PinOk X.stack H1 s1 (a, oe) := ⟨P1.1, P1.2.1, fun hm => (List.mem_cons.mp (I1.stkSub a hm)).elim P1.2.2.1 P1.2.2.2.1, P1.2.2.2.2⟩
  -- what is wanted of the body
  have q2 : Post Den (XC X Γ) (fun _ _ _ _ => False) w1 H1 σ (runD ps.length N.length gf ds st1) Q := by
    cases q3 : runD ps.length N.length gf ds st1 with
    | ok d st2 => rw [q3] at q1; exact q1
    | exc x st2 => rw [q3] at q1; exact q1.elim
    | bad => rw [q3] at q1; exact q1.elim
  have hsp := sp_of (F := runD ps.length N.length gf) r1 d1 q2
  have hl : vs.length = ps.length := runD_len hsp
  have hpl : ps.length ≤ N.length := by
    have q := congrArg List.length S.pre
    rw [List.length_take] at q
    omega
  have HX : HotAt1 (cxH (L2N.CX X.prog X.w) X.prog X.w X.K X.mg X.base N qual scope g cdv X.A X.stack s1 H1 (fun _ _ _ => False) (a, oe)) Γ c a dx := ⟨h.cls, oe, List.mem_singleton.mpr rfl, hot.1, hz, hvs⟩
  have run := run_hot (CX := L2N.CX X.prog X.w) (Q := Q) (E := fun _ _ _ => False) (k := k) lk hcode S hr hpin I1.env0 (FunD.bindsA D hb s1 us (by rw [← rv.length]; exact hl)) rv hl (hbody cdv X.A X.stack s1 H1 _ oe (hr.deeper _) rfl HX) (body_ok hpl hsp)
  refine wpAny_call (codeAny_mono run fun rr s2 hq => ?_)
  cases rr with
  | error er =>
    obtain ⟨_, _, _, _, _, _, _, _, _, _, _, _, z⟩ := hq
    exact z.elim
  | ok fl =>
    cases fl with
    | ret u => exact I1.after hq
    | next => exact hq.elim
    | brk => exact hq.elim
    | cont => exact hq.elim
end
end AM
namespace AM
open PySem PySem.Spec PyProof.Rows L2 L2H HotX
structure MadeU (Z : Addr → Prop) (H H1 : Hp) (P c' : Addr) (q : Str) : Prop where
  keep : ∀ b o, H b = some o → b ≠ P → H1 b = some o
  tab : TabP Z H1 P q
  code : H1 c' = some (LamX.CodeO c' q)
theorem lam_madeU {X : Cx} {pins : List (Addr × Obj)} {σ : L2.St} {H : Hp} {s : Shared} {Z : Addr → Prop} {c P : Addr} {params : Arguments} {body : Expr} {scope : Scope} {pos : Pos} {F : Value → Shared → Prop} {Q : Value → Shared → Prop} (I : Inv X pins σ H s) (B : LamX.TabB X.base X.mg c P) (hc : X.env.code = .ref c)
    (hZ : ∀ c, H c = none → Z c) (hT : TabP Z H P (X.env.qual ++ "<lambda>")) (hd : defaultsOf params X.env = ([], [])) (hfree : ∀ y ∈ scope.names, y.2 = .free → ∃ c, X.env.cells.lookup y.1 = some c)
    (go : ∀ (f c' : Addr) (pm ctv : Value) (H1 : Hp) (s1 : Shared), Inv X pins σ H1 s1 → MadeU Z H H1 P c' (X.env.qual ++ "<lambda>") → s1.heap.get? f = some (PySem.W.kla_obj "<lambda>" (X.env.qual ++ "<lambda>") params body scope (cloFrom X.env.cells scope.names []) pm c' ctv) →
      H1 f = none → f ∉ frs X.stack → Q (.ref f) s1) :
    wpAny (model X.prog X.w) X.A (eval (.Lambda params body scope pos) X.env) Q F s := by
  obtain ⟨ps, eP, tr, am⟩ := hT
  have bP : s.heap.BuiltinsAt X.mg P := B.bm.keeps I.bk
  have oP : s.heap.get? P = some (PySem.W.tabObj ps) := I.hok P _ eP
  have far : ∀ f, s.heap.objs.size ≤ f → f ∉ frs X.stack := fun f hf z => (List.mem_cons.mp (I.stkSub _ z)).elim (fun e => absurd (Nat.lt_of_lt_of_le I.lt hf) (by rw [e]; exact Nat.lt_irrefl _)) fun e => I.nofs hf e
  refine PySem.W.kla_eval hd ?_
  have lay : ∀ (H1 : Hp) (h1 : Heap) (t1 t2 : Nat) (c' : Addr) (pm ctv : Value), Inv X pins σ H1 { s with heap := h1, toks := t1 } → s.heap.objs.size ≤ h1.objs.size → MadeU Z H H1 P c' (X.env.qual ++ "<lambda>") →
      Q (.ref h1.objs.size) { s with heap := h1.push (PySem.W.kla_obj "<lambda>" (X.env.qual ++ "<lambda>") params body scope (cloFrom X.env.cells scope.names []) pm c' ctv), toks := t2 } := fun H1 h1 t1 t2 c' pm ctv I1 hs m => by
    have n1 : H1 h1.objs.size = none := I1.hok.fresh (Nat.le_refl _)
    have I2 : Inv X pins σ H1 { s with heap := h1.push (PySem.W.kla_obj "<lambda>" (X.env.qual ++ "<lambda>") params body scope (cloFrom X.env.cells scope.names []) pm c' ctv), toks := t2 } := Inv.kept (s := { s with heap := h1, toks := t1 }) (t' := t2) I1 fun b u e => Heap.get?_push_of_some _ e
    exact go _ c' pm ctv H1 _ I2 m (Heap.get?_push_size _ rfl) n1 (far _ hs)
  cases hcm : codeAmong pos ps.toList with
  | some cv =>
    obtain ⟨c', rfl, ec, _⟩ := am pos cv hcm
    refine PySem.W.kla_makeFunctionHit (mg := X.mg) (ps := ps) (P := P) (c := c) (closure_ok hfree) I.ok.glob (I.mod.glob.keeps I.bk) hc (B.code.keeps I.bk) oP tr hcm bP fun ctv h1 t1 kk sz => ?_
    exact lay H h1 t1 t1 c' _ ctv (I.kept kk) sz ⟨fun b o e _ => e, ⟨ps, eP, tr, am⟩, ec⟩
  | none =>
    refine PySem.W.kla_makeFunction (mg := X.mg) (ps := ps) (P := P) (c := c) (closure_ok hfree) I.ok.glob (I.mod.glob.keeps I.bk) hc (B.code.keeps I.bk) oP tr hcm B.gP bP fun c' ctv h1 t1 xb ge lt rec tb => ?_
    obtain ⟨c2, oc, vs, tq, e2, g1, g2, g3⟩ := rec
    cases e2
    have nC : H c' = none := I.hok.fresh ge
    have I1 := LamX.inv_table (t' := t1) (more := #[rawInt pos.line, rawInt pos.col, .ref c']) (h' := h1) I eP (fun b o hb e => xb b o hb e) tb ge ⟨oc, vs, tq, g1, g2, g3⟩
    have old : ∀ b o, H b = some o → b ≠ P → upd (upd H P (.tbl (ps ++ #[rawInt pos.line, rawInt pos.col, .ref c']))) c' (LamX.CodeO c' (X.env.qual ++ "<lambda>")) b = some o := fun b o e n => by
      rw [upd_ne (ne_of_none e nC), upd_ne n]
      exact e
    have eL : (ps ++ #[rawInt pos.line, rawInt pos.col, .ref c']).toList = ps.toList ++ [rawInt pos.line, rawInt pos.col, .ref c'] := by simp
    refine lay _ h1 t1 t1 c' _ ctv I1 (Nat.le_trans ge (Nat.le_of_lt lt)) ⟨old, ⟨_, by rw [upd_ne (ne_of_none eP nC), upd_same], ?_, fun p2 cv hcv => ?_⟩, upd_same⟩
    · rw [eL]
      exact PySem.TriplesOk_snoc _ _ _ _ tr
    · rw [eL] at hcv
      rcases LamX.among_app _ tr hcv with z | z
      · obtain ⟨c0, b1, b2, b3⟩ := am p2 cv z
        exact ⟨c0, b1, old _ _ b2 fun z => codeO_tbl ps (Option.some.inj (b2.symm.trans (by rw [z]; exact eP))), b3⟩
      · exact ⟨c', z, upd_same, hZ c' nC⟩
section
variable {K : Ct} {w : Wd} {env : AEnv} {st : Sto} {σ : AM.St} {H H1 : Hp} {i : Nat} {q : Str}
theorem made_extU {c' : Addr} (r : Rel K w env st σ H) (h : hasTab st i q = true) (m : MadeU (fun c => ¬ w.S c) H H1 (K.Γ i) c' q) : StOk K w.ρ (w.at_ w.ρ).S H1 st ∧ Ext K w.ρ H w.ρ H1 := by
  obtain ⟨⟨n0, r0, s0⟩, hm, ps0, t0, _, _⟩ := tab_at r h
  have nP : ∀ b o, H b = some o → b ∉ w.ρ → H1 b = some o := fun b o e n => m.keep b o e fun z => n (by rw [z]; exact hm)
  have tt : ∀ a vs, SqT K.K H a vs → SqT K.K H1 a vs := fun a vs z => by
    rcases z with (z | ⟨o, z⟩) | z
    · exact .inl (.inl (m.keep a _ z (ne_of z t0 (by intro q; cases q))))
    · exact .inl (.inr ⟨o, m.keep a _ z (ne_of z t0 (by intro q; cases q))⟩)
    · exact .inr z
  have x : Ext K w.ρ H w.ρ H1 := ⟨⟨[], by simp⟩, fun a o e n => ⟨nP a o e n, n⟩, tt⟩
  have hk : ∀ b o, H b = some o → ¬ w.S b → H1 b = some o ∧ ¬ w.S b := fun b o e n => ⟨nP b o e fun z => n (.inl z), n⟩
  refine ⟨⟨r.sto.len, r.sto.nd, fun n a c h1 h2 => ?_⟩, x⟩
  have z := r.sto.cell n a c h1 h2
  by_cases ea : a = K.Γ i
  · subst ea
    cases c with
    | lst ds => obtain ⟨vs, z, _⟩ := z; exact absurd z (by rw [t0]; intro q; cases q)
    | obj C fs => obtain ⟨dx, gs, z, _⟩ := z; exact absurd z (by rw [t0]; intro q; cases q)
    | tab j q' =>
      have en : n = n0 := nodup_at r.sto.nd h1 r0
      subst en
      rw [s0] at h2
      cases h2
      exact ⟨rfl, m.tab⟩
  · obtain ⟨o, eo, _⟩ := CellOk.some z
    have e1 : H1 a = H a := (m.keep a o eo ea).trans eo.symm
    cases c with
    | lst ds => obtain ⟨vs, z, t⟩ := z; exact ⟨vs, by rw [e1]; exact z, t.gen hk (fun a vs h => tt a vs h) fun _ _ h => h⟩
    | obj C fs => obtain ⟨dx, gs, z, t⟩ := z; exact ⟨dx, gs, by rw [e1]; exact z, t.gen hk (fun a vs h => tt a vs h) fun _ _ h => h⟩
    | tab j q' => exact TabC.gen z e1 hk
end
abbrev lamN (X : Cx) (A : Around) (outer : List Env) (s : Shared) (H : Hp) (E : XK) (scope : Scope) (f c' : Addr) : Cx := (LamX.lamCx X A outer s H E scope f c').tr [] fun e s' =>
  wpAny (model X.prog X.w) (A.deeper (LamX.lamEnv X scope s.heap.objs.size f c')) (leaving (LamX.lamEnv X scope s.heap.objs.size f c') e) (fun _ s'' => L2N.CX X.prog X.w outer H s E e s'') (fun e' s'' => L2N.CX X.prog X.w outer H s E e' s'') s'
theorem go_lam {X : Cx} {A : Around} {outer : List Env} {s : Shared} {H : Hp} {E : XK} {scope : Scope} {f c' : Addr} {k : Nat} (hr : Room k (A.deeper (LamX.lamEnv X scope s.heap.objs.size f c'))) (hg : A.guards = some []) : Go (lamN X A outer s H E scope f c') (fun c d _ H' => E c d H') k :=
  ⟨L2N.takes_of rfl rfl rfl rfl, hr, passes_of rfl, rfl, hg⟩
theorem pe_actN {X : Cx} {pins : List (Addr × Obj)} {σ : L2.St} {H : Hp} {s : Shared} {Eg E : XK} {Ng : List Str} {qg a : Str} {sg scope : Scope} {g f c' : Addr} {cdg pm ctv : Value} {params : Arguments} {body : Expr} {k i : Nat} {pn : List (Addr × Obj)} {xe : Value → Shared → Prop} {W : WX} {tb : TE} {p1 p2 : Pos} (I : Inv X pins σ H s) (L : LamX.LamS X.env.scope scope)
    (hf : s.heap.get? f = some (PySem.W.kla_obj "<lambda>" (X.env.qual ++ "<lambda>") params body scope (cloFrom X.env.cells scope.names []) pm c' ctv)) (hfn : H f = none) (hfr : f ∉ frs X.stack)
    (hbind : bindArgs (PySem.W.kla_fn "<lambda>" (X.env.qual ++ "<lambda>") params body scope (cloFrom X.env.cells scope.names []) pm (.ref c') ctv) ⟨[], []⟩ = pure []) (tk : L2N.Takes ((cxOf (L2N.CX X.prog X.w) X.prog X.w X.K X.mg X.base Ng qg sg g cdg X.A X.stack s H Eg).tr pn xe) W)
    (hW : ∀ cls d σ' H', E cls d H' → W cls d σ' H') (hr : Room (k + 1) (X.A.deeper (envOfC qg sg s.heap.objs.size g cdg))) (hbody : ∀ (A : Around) (outer : List Env) (s : Shared) (H : Hp), Room k (A.deeper (LamX.lamEnv X scope s.heap.objs.size f c')) → A.guards = X.A.guards → PE (lamN X A outer s H E scope f c') body tb)
    (hN : Ng[i]? = some a) (hv : Vis sg a) (hd : (a == ("__debug__" : Str)) = false) (hcd : (a == ("__classdict__" : Str)) = false) :
    PE ((cxOf (L2N.CX X.prog X.w) X.prog X.w X.K X.mg X.base Ng qg sg g cdg X.A X.stack s H Eg).tr pn xe) (.Call (.Name a p1) [] [] p2) (fun σZ HZ Q => σZ[i]? = some (some (.ref f)) ∧ HZ c' = some (LamX.CodeO c' (X.env.qual ++ "<lambda>")) ∧ tb σ HZ Q) := by
  refine ⟨fun pinsZ sZ σZ HZ Q IZ ⟨hs, hc, ht⟩ => ?_⟩
  refine wpAny_Call_Name_kw (thn ((pe_var (pos := p1) (i := i) hN hv hd hcd).run pinsZ sZ σZ HZ (fun v H1 => v = .ref f ∧ H1 = HZ) IZ ⟨.ref f, hs, rfl, rfl⟩) fun u s1 ⟨v, H1, I1, r1, ev, eH⟩ => ?_)
  subst ev
  rw [eH] at I1
  obtain rfl : u = Value.ref f := r1
  -- the lambda and its code object stand there still
  have of_ := I1.base.keep f _ hf hfn hfr fun z => nomatch (show f ∈ ([] : List Addr) from z)
  have U : Un (frs X.stack) [] H HZ s.heap s1.heap := I1.base
  obtain ⟨⟨oc, vs, t, c1, c2, c3⟩, _, _⟩ := I1.hok c' _ hc
  have call_ : codeAny (model X.prog X.w) (X.A.deeper (envOfC qg sg s.heap.objs.size g cdg)) (.call (.ref f) ⟨[], []⟩) (CR (L2N.CX X.prog X.w) (envOfC qg sg s.heap.objs.size g cdg :: X.stack) X.prog X.w HZ s1 Q E) s1 := by
    refine PySem.W.kla_callFunE hr.depth of_ rfl L.co L.gen rfl ⟨c', oc, vs, t, rfl, c1, c2, c3⟩ ?_
    rw [hbind]
    refine wpAny_pure (wpAny_newFunctionEnv (fun y hy => (L.own y hy).2) (fun y hy => absurd hy (by simp)) (fun h1 hns hsb => ⟨I1.nolimit.fresh _ hsb, ?_⟩) L.kind)
    have kp : ∀ b o, s1.heap.get? b = some o → h1.get? b = some o := fun b o e => hsb.extBut b o (Nat.ne_of_lt (Heap.lt_size e)) (Heap.get?_push_of_some _ e)
    have J0 : Inv (LamX.lamCx X (X.A.deeper (envOfC qg sg s.heap.objs.size g cdg)) (envOfC qg sg s.heap.objs.size g cdg :: X.stack) s1 HZ E scope f c') [] σ HZ { s1 with heap := h1, toks := s1.toks + ([] : List (Str × Value)).length } := LamX.lam_start2 I L I1.env0 hr.hd U hns kp
    have J : Inv (lamN X (X.A.deeper (envOfC qg sg s.heap.objs.size g cdg)) (envOfC qg sg s.heap.objs.size g cdg :: X.stack) s1 HZ E scope f c') [] σ HZ { s1 with heap := h1, toks := s1.toks + ([] : List (Str × Value)).length } := J0.toTry _
    show codeAny _ _ (.expr body (LamX.lamEnv X scope s1.heap.objs.size f c')) _ _
    refine PySem.W.kla_codeExpr (wpAny_mono ((hbody _ _ s1 HZ (hr.deeper _) rfl).run [] _ _ HZ Q J ht) (fun v s2 ⟨w2, H2, J2, rv, q⟩ => ?_) fun e s2 z => z)
    exact ⟨w2, H2, J2.os, J2.bare, J2.base, J2.hok, rv, q⟩
  refine PySem.W.callWith_F0 ⟨_, _, _, _, of_⟩ (wpAny_call (codeAny_mono call_ fun r s2 hq => ?_))
  cases r with
  | error e => exact L2N.passes_call tk hW pinsZ σZ HZ s1 e s2 I1 hq
  | ok fl =>
    cases fl with
    | ret u => exact I1.after hq
    | next => exact hq.elim
    | brk => exact hq.elim
    | cont => exact hq.elim
abbrev cgtB (act en x1 x2 x3 : Str) (j kt : Nat) (b0 : Stmt) (suite : List Stmt) (q1 q2 q3 q4 q5 q6 q7 q8 q9 q10 q11 : Pos) : List Stmt :=
  [.Try [.Return (some (.List [.Constant (.str "given") j q1, .Call (.Name act q2) [] [] q3] q4)) q5] [.ExceptHandler (some (.Tuple [.Name x1 q6, .Name x2 q7, .Name x3 q8] kt q9)) (some en) (b0 :: suite) q10] [] [] q11]
inductive Cgt (P : Program) (w : World) (K : PySem.W.Frag) (mg : Str → Option Value) (base : Heap) (Γ : Nat → Addr) (k : Nat) (xc : Str) (T : Exn → Option (List D)) : Prop
  | mk {qc act en fo x1 x2 x3 : Str} {pc : Arguments} {sc : Scope} {g c1 c2 c3 : Addr} {fd : FuncData} {j kt : Nat} {b0 : Stmt} {suite : List Stmt} {q1 q2 q3 q4 q5 q6 q7 q8 q9 q10 q11 : Pos} {live : Nat → Prop} {sg : Nat → Addr → Addr → SF}
      (D : FunD K xc qc pc (cgtB act en x1 x2 x3 j kt b0 suite q1 q2 q3 q4 q5 q6 q7 q8 q9 q10 q11) sc [] [] g fd) (S : FnScope [act, en, fo] [act] sc) (glob : mg xc = some (.ref g))
      (hb : ∀ (kV doc pm : Value) (an : Option Addr) (cdv ct : Value) (us : List Value), us.length = 1 → bindArgs (PySem.W.fnOf xc qc pc (cgtB act en x1 x2 x3 j kt b0 suite q1 q2 q3 q4 q5 q6 q7 q8 q9 q10 q11) sc .none kV doc pm an cdv ct) ⟨us, []⟩ = pure ([act].zip us))
      (den : sc.names.lookup en = some .local) (vact : Vis sc act) (d1 : (act == ("__debug__" : Str)) = false) (d2 : (act == ("__classdict__" : Str)) = false)
      (m1 : mg x1 = some (.ref c1)) (m2 : mg x2 = some (.ref c2)) (m3 : mg x3 = some (.ref c3)) (s1 : sc.names.lookup x1 = some .globalImplicit) (s2 : sc.names.lookup x2 = some .globalImplicit) (s3 : sc.names.lookup x3 = some .globalImplicit)
      (e1 : (x1 == ("__debug__" : Str)) = false) (e2 : (x2 == ("__debug__" : Str)) = false) (e3 : (x3 == ("__debug__" : Str)) = false)
      (hx : ∀ c, live c → PySem.W.exmAny K (.ref (Γ c)) [.ref c1, .ref c2, .ref c3] = some true) (hxv : ∀ c, live c → XvC K (Γ c))
      (hs : ∀ (c : Nat) (a dx : Addr), live c → ∀ (cdv : Value) (A : Around) (outer : List Env) (s : Shared) (H : Hp) (E : XK) (oe : Obj) (pn : List (Addr × Obj)), RoomH (k + 1) (A.deeper (envOfC qc sc s.heap.objs.size g cdv)) → A.guards = some [] →
        HotAt1 ((cxOf (L2N.CX P w) P w K mg base [act, en, fo] qc sc g cdv A outer s H E).suite a ((a, oe) :: pn)) Γ c a dx → PSs ((cxOf (L2N.CX P w) P w K mg base [act, en, fo] qc sc g cdv A outer s H E).suite a ((a, oe) :: pn)) (b0 :: suite) (tS ⟨K, Γ⟩ WN (sg c a dx)))
      (hT : ∀ e l, T e = some l → live e.c ∧ ∀ a dx st, sg e.c a dx [.un, .sh (.exv e.c a dx e.fs), .un] st = .rt (.lst l) st) : Cgt P w K mg base Γ k xc T
def dCaught (i : Nat) (q : Str) (T : Exn → Option (List D)) (f : EF) : EF := fun env st => if hasTab st i q = true then (match f env st with
  | .ok d st' => .ok (.lst [.str "given", d]) st'
  | .exc e st' => (match T e with
    | some l => .ok (.lst l) st'
    | none => .bad)
  | .bad => .bad) else .bad
section
variable {X : Cx} {Γ : Nat → Addr} {W : WX} {f : EF} {i k : Nat} {c : Addr} {xc q : Str} {params : Arguments} {scope : Scope} {body : Expr} {p pos lpos : Pos} {T : Exn → Option (List D)}
theorem pd_caught (hq : X.env.qual ++ "<lambda>" = q) (G : Go X W (k + 2)) (C : Cgt X.prog X.w X.K X.mg X.base Γ k xc T) (B : LamX.TabB X.base X.mg c (Γ i)) (hcode : X.env.code = .ref c) (L : LamX.LamS X.env.scope scope) (hdef : defaultsOf params X.env = ([], []))
    (hbind : ∀ (q : Str) (cl : List (Str × Addr)) (pm cv ctv : Value), bindArgs (PySem.W.kla_fn "<lambda>" q params body scope cl pm cv ctv) ⟨[], []⟩ = pure [])
    (hbody : ∀ (A : Around) (outer : List Env) (s : Shared) (H : Hp) (E : XK) (f' c' : Addr), Go (lamN X A outer s H E scope f' c') (fun c d _ H' => E c d H') k → PE (lamN X A outer s H E scope f' c') body (tD (XC X Γ) (fun c d _ H' => E c d H') f))
    (hg : Gl X xc := by rfl) (hdb : (xc == ("__debug__" : Str)) = false := by decide) :
    PE X (.Call (.Name xc p) [.Lambda params body scope lpos] [] pos) (tD (XC X Γ) W (dCaught i q T f)) := by
  cases C with
  | @mk qc act en fo x1 x2 x3 pc sc g c1 c2 c3 fd j kt b0 suite q1 q2 q3 q4 q5 q6 q7 q8 q9 q10 q11 live sg D S glob hb den vact d1 d2 m1 m2 m3 s1 s2 s3 e1 e2 e3 hx hxv hs hT =>
  refine ⟨fun pins s σ H Q I ⟨w, env, st, r, p0⟩ => ?_⟩
  unfold dCaught at p0
  have ht : hasTab st i q = true := (Classical.em (hasTab st i q = true)).elim (fun z => z) fun z => by
    rw [if_neg z] at p0
    exact p0.elim
  rw [if_pos ht] at p0
  refine wpAny_Call_Name_kw (ld_glob I hg glob ?_ hdb)
  refine PySem.W.callWith_K (h₀ := X.base) I.ok.mod.kin D.kp ?_ (by rfl) (by rfl)
  show wpAny _ _ (spliced ((false, eval (.Lambda params body scope lpos) X.env) :: backTo pos (starEach [] X.env))) _ _ s
  subst hq
  refine Calls.spliced_cons (lam_madeU I B hcode (fun c hc => r.fresh hc) (tab_at r ht).2.2 hdef (L.has I.ok) fun f' c' pm' ctv H1 s1' I1 m hf hfn hfr => ?_)
  refine Calls.spliced_nil ⟨I1.kIn, ?_⟩
  obtain ⟨so, x1'⟩ := made_extU (K := XC X Γ) r ht m
  have r1 : Rel (XC X Γ) (w.at_ w.ρ) env st σ H1 := r.ext x1' so
  obtain ⟨oc, od, dV, kV, doc, pm, an, cdv, ct, osl, rfl, lk, hcd, hD, _⟩ := D.ex
  -- what is wished in the suite
  have run : codeAny (model X.prog X.w) X.A (.call (.ref g) ⟨[.ref f'], []⟩) (CR (L2N.CX X.prog X.w) X.stack X.prog X.w H1 s1' Q (fun _ _ _ => False)) s1' := by
    refine LamX.run_ofS (CX := L2N.CX X.prog X.w) (N := [act, en, fo]) (ps := [act]) (k := k + 1) (us := [.ref f']) (vs := [.ref f']) lk hcd S G.rm I1.env0 (FunD.bindsA (ps := [act]) D hb s1' [.ref f'] rfl) (.cons rfl .nil) rfl fun hr' => ?_
    have hGl : ∀ {x : Str}, sc.names.lookup x = some .globalImplicit → Gl (cxOf (L2N.CX X.prog X.w) X.prog X.w X.K X.mg X.base [act, en, fo] qc sc g cdv X.A X.stack s1' H1 (fun _ _ _ => False)) x := fun h => h
    have ndN : ([act, en, fo] : List Str).Nodup := S.nd
    refine ⟨_, pss_one (ps_try_tup (X := cxOf (L2N.CX X.prog X.w) X.prog X.w X.K X.mg X.base [act, en, fo] qc sc g cdv X.A X.stack s1' H1 (fun _ _ _ => False)) (i := 1) (c1 := .ref c1) (c2 := .ref c2) (c3 := .ref c3)
      (tb := fun W D σZ HZ => ∃ E : XK, (∀ cls d σ' H', E cls d H' → W cls d σ' H') ∧ σZ[0]? = some (some (.ref f')) ∧ HZ c' = some (LamX.CodeO c' (X.env.qual ++ "<lambda>")) ∧ tD (XC X Γ) (fun c d _ H' => E c d H') f σ HZ (fun v H' => ∀ p, H' p = none → D.rt (.ref p) (upd H' p (.lst [.str "given", v]))))
      (ts := fun a cls d D σ H => ∃ c dx, cls = .ref (Γ c) ∧ d = some dx ∧ live c ∧ tS (XC X Γ) WN (sg c a dx) D σ H)
      rfl rfl ndN rfl den ⟨hGl s1, e1, .inl m1⟩ ⟨hGl s2, e2, .inl m2⟩ ⟨hGl s3, e3, .inl m3⟩ (by rfl) (fun W' pn xe tk _ => ?_) (fun a oe cls d pn hz hvs => ?_)), ?_⟩
    · -- the body
      refine ⟨fun pins s' σ' H' D' I' ⟨E, hW, h1, h2, h3⟩ => ?_⟩
      have act_ := pe_actN (p1 := q2) (p2 := q3) (i := 0) (k := k) (E := E) (tb := tD (XC X Γ) (fun c d _ H' => E c d H') f) I1 L hf hfn hfr (hbind _ _ _ _ _) tk hW hr' (fun A outer s H hr2 hgd => hbody A outer s H E f' c' (go_lam hr2 (hgd.trans G.gd))) rfl vact d1 d2
      have ret_ := pss_one (ps_ret (pos := q5) (pe_lst (pos := q4) (pa_cons (pe_str (x := "given") (j := j) (pos := q1)) (pa_cons act_ pa_nil))))
      refine ret_.run pins s' σ' H' D' I' ?_
      refine ⟨h1, h2, ?_⟩
      obtain ⟨w3, env3, st3, r3, p3⟩ := h3
      exact ⟨w3, env3, st3, r3, p3.mono fun v H2 z => ⟨by show 2 ≤ sizeLine; rw [sizeLine_eq]; omega, z⟩⟩
    · -- the suite
      refine ⟨fun pins s' σ' H' D' I' ⟨c0, dx, ec, ed, hl, h3⟩ => ?_⟩
      subst ec ed
      refine (hs c0 a dx hl cdv X.A X.stack s1' H1 _ oe pn (roomH_of hr') G.gd ⟨hxv c0 hl, oe, List.mem_cons_self, rfl, hz, hvs⟩).run pins s' σ' H' D' I' h3
    · -- what comes out
      refine ⟨fun cls d H' => PySem.W.exmAny X.K cls [.ref c1, .ref c2, .ref c3] = some true ∧ ∀ σ' : AM.St, σ'.length = 3 → ∀ a, H' a = none → ∃ c dx, cls = .ref (Γ c) ∧ d = some dx ∧ live c ∧ tS (XC X Γ) WN (sg c a dx) (onlyRt { nx := fun _ H' => Q .non H', rt := Q }) (σ'.set 1 (some (.ref a))) H',
        fun cls d σ' H' ⟨z1, z2⟩ => ⟨z1, fun hl a na => z2 σ' hl a na⟩, rfl, m.code, w.at_ w.ρ, env, st, r1, ?_⟩
      cases ef : f env st with
      | bad => rw [ef] at p0; exact p0.elim
      | ok d st2 =>
        rw [ef] at p0
        intro ρ' H' x h1 h2 h3 pp hp
        have r2 : Rel (XC X Γ) (w.at_ ρ') env st2 σ H' := r1.ext h2 h1
        exact p0 ρ' (upd H' pp (.lst [.str "given", x])) (.ref pp) (r2.newSto hp) ((x1'.trans h2).trans (Ext.new hp)) (.lst upd_same (fun z => r2.fresh hp z) (.cons (.str _) (.cons (h3.mono (Ext.new hp) (fun a h => .inl h) fun a h => .inl h) .nil)))
      | exc e st2 =>
        rw [ef] at p0
        have p0 : Post Den (XC X Γ) W w H σ (match T e with
          | some l => .ok (.lst l) st2
          | none => .bad) Q := p0
        cases eT : T e with
        | none => rw [eT] at p0; exact p0.elim
        | some l =>
          rw [eT] at p0
          obtain ⟨hl, hval⟩ := hT e l eT
          intro ρ' H' dd gs h1 h2 h3 h4
          refine ⟨hx e.c hl, fun σ' hlen a na => ⟨e.c, dd, rfl, rfl, hl, ?_⟩⟩
          have r2 : Rel (XC X Γ) (w.at_ ρ') env st2 σ H' := r1.ext h2 h1
          have eS : (⟨ρ', fun b => w.R b ∨ some b ∈ w.O, List.replicate 3 none⟩ : Wd).S = (w.at_ ρ').S := by
            funext b
            refine propext ⟨fun z => ?_, fun z => ?_⟩
            · rcases z with z | (z | z) | z
              · exact .inl z
              · exact .inr (.inl z)
              · exact .inr (.inr z)
              · exact nomatch (List.mem_replicate.mp z).2
            · rcases z with z | z | z
              · exact .inl z
              · exact .inr (.inl (.inl z))
              · exact .inr (.inl (.inr z))
          have noO : ∀ b, some b ∉ List.replicate 3 (none : Option Addr) := fun b z => nomatch (List.mem_replicate.mp z).2
          have rz : Rel (XC X Γ) ⟨ρ', fun b => w.R b ∨ some b ∈ w.O, List.replicate 3 none⟩ [.un, .sh (.exv e.c a dd e.fs), .un] st2 (σ'.set 1 (some (.ref a))) H' := by
            refine ⟨by rw [eS]; exact r2.sto, fun b z => ?_, by rw [List.length_set]; exact hlen, rfl, fun n v sl o g1 g2 g3 => ?_, fun n n2 b g1 _ => absurd (List.mem_of_getElem? g1) (noO b), fun b z => absurd z (noO b)⟩
            · rcases z with z | z
              · exact r2.res b z
              · exact ⟨r2.thereS (.inr (.inr z)), (r2.disO b z).1⟩
            · have eo : o = none := (List.mem_replicate.mp (List.mem_of_getElem? g3)).2
              subst eo
              match n, g2 with
              | 0, g2 => cases g2; exact rfl
              | 2, g2 => cases g2; exact rfl
              | 1, g2 =>
                cases g2
                rw [List.getElem?_set_self (by rw [hlen]; decide)] at g1
                cases g1
                refine ⟨rfl, .ref a, rfl, ?_⟩
                rw [eS]
                exact .exv h3.1 h3.2 h4
              | n + 3, g2 => exact absurd g2 (by simp)
          refine ⟨_, _, st2, rz, ?_⟩
          rw [hval]
          intro w' H2 v t1 t2 t3
          have back : ∀ b, (w.at_ w'.ρ).S b → w'.S b ∨ H2 b = none := fun b z => by
            rcases z with z | z | z
            · exact .inl (.inl z)
            · exact .inl (.inr (.inl (t2.resK b (.inl z))))
            · exact .inl (.inr (.inl (t2.resK b (.inr z))))
          exact p0 w'.ρ H2 v (t1.ext Ext.refl back (fun b z => .inl z) fun _ _ => rfl) ((x1'.trans h2).trans (t2.toE noO)) (t3.mono Ext.refl back fun b z => .inl z)
  refine wpAny_call (codeAny_mono run fun rr s2' hq => ?_)
  cases rr with
  | error er =>
    obtain ⟨_, _, _, _, _, _, _, _, _, _, _, _, z⟩ := hq
    exact z.elim
  | ok fl =>
    cases fl with
    | ret u => exact I1.after hq
    | next => exact hq.elim
    | brk => exact hq.elim
    | cont => exact hq.elim
end
end AM
namespace AM
open PySem PySem.Spec PyProof.Rows L2 TL
inductive Xx {α : Type} : Res α → (Exn → Sto → Prop) → Prop where
  | mk {e : Exn} {st : Sto} {E : Exn → Sto → Prop} (h : E e st) : Xx (.exc e st) E
inductive Xs : SR → (Exn → Sto → Prop) → Prop where
  | mk {e : Exn} {st : Sto} {E : Exn → Sto → Prop} (h : E e st) : Xs (.exc e st) E
section
variable {α β : Type} {P : α → Sto → Prop} {V : D → Sto → Prop} {N : AEnv → Sto → Prop} {T : D → Sto → Prop} {E : Exn → Sto → Prop} {env : AEnv} {st st' : Sto} {f g fa fb fc : EF} {t t2 : TF} {fs : EFs} {F : DF} {k k' : Op2} {k1 : Op1} {d : D} {ds : List D} {i j c : Nat} {u v : SF} {x m q : Str}
theorem xx_ex {r : Res α} (h : Xx r E) : ∃ e st, r = .exc e st ∧ E e st := by
  cases h with
  | mk h => exact ⟨_, _, rfl, h⟩
theorem xx_l {r : Res α} {h : α → Sto → Res β} (e : Xx r E) : Xx (r.bind h) E := by
  cases e with
  | mk e => exact .mk e
theorem xx_r {r : Res α} {h : α → Sto → Res β} (e : Wx r fun a s => Xx (h a s) E) : Xx (r.bind h) E := by
  cases e with
  | mk e => exact e
theorem xs_r {r : Res α} {h : α → Sto → SR} (e : Wx r fun a s => Xs (h a s) E) : Xs (r.then h) E := by
  cases e with
  | mk e => exact e
theorem xs_bl {r : SR} {h : AEnv → Sto → SR} (e : Xs r E) : Xs (r.bind h) E := by
  cases e with
  | mk e => exact .mk e
theorem xs_br {r : SR} {h : AEnv → Sto → SR} (e : Ws r (fun a s => Xs (h a s) E) fun _ _ => False) : Xs (r.bind h) E := by
  cases e with
  | nx e => exact e
  | rt e => exact e.elim
theorem xx_run {n M : Nat} (hl : ds.length = n) (h : En (fun e s => Xs (u e s) E) (ds.map Sl.sh ++ List.replicate (M - n) .un) st) : Xx (runD n M u ds st) E := by
  unfold runD
  rw [if_pos hl]
  have h : Xs (u (ds.map Sl.sh ++ List.replicate (M - n) .un) st) E := h
  generalize u (ds.map Sl.sh ++ List.replicate (M - n) .un) st = q at h
  cases h with
  | mk h => exact .mk h
theorem xx_dCall (h : Wx (fs env st) fun ds s => Xx (F ds s) E) : Xx (dCall F fs env st) E := xx_r h
theorem xx_dFld {cs : List Nat} (h : Xx (f env st) E) : Xx (dFld cs x f env st) E := xx_l h
theorem xs_seqL (h : Xs (u env st) E) : Xs (sSeq u v env st) E := xs_bl h
theorem xs_seqR (h : Ws (u env st) (fun e s => Xs (v e s) E) fun _ _ => False) : Xs (sSeq u v env st) E := xs_br h
theorem xs_sIfT (h : Wx (t env st) fun b s => b = true ∧ Xs (u env s) E) : Xs (sIf t u v env st) E := xs_r (wx_mono h fun b s ⟨h1, h2⟩ => by
  subst h1
  exact h2)
theorem xs_sRaise (h : Wx (g env st) fun d s => E ⟨c, [(x, d)]⟩ s) : Xs (sRaise c x g env st) E := xs_r (wx_mono h fun _ _ h => .mk h)
theorem wx_caughtG {T : Exn → Option (List D)} (ht : hasTab st i q = true) (h : Wx (f env st) fun d s => V (.lst [.str "given", d]) s) : Wx (dCaught i q T f env st) V := by
  unfold dCaught
  rw [if_pos ht]
  obtain ⟨d, s, e, h⟩ := wx_ex h
  rw [e]
  exact .mk h
theorem wx_caughtX {T : Exn → Option (List D)} (ht : hasTab st i q = true) (h : Xx (f env st) fun e s => ∃ l, T e = some l ∧ V (.lst l) s) : Wx (dCaught i q T f env st) V := by
  unfold dCaught
  rw [if_pos ht]
  obtain ⟨e, s, e1, l, e2, h⟩ := xx_ex h
  rw [e1]
  show Wx (match T e with
    | some l => Res.ok (.lst l) s
    | none => .bad) V
  rw [e2]
  exact .mk h
end
def RLe {α : Type} (a b : Res α) : Prop := a = .bad ∨ a = b
def SLe (a b : SR) : Prop := a = .bad ∨ a = b
def FLe (F G : DF) : Prop := ∀ ds st, RLe (F ds st) (G ds st)
def ELe (f g : EF) : Prop := ∀ env st, RLe (f env st) (g env st)
def ULe (u v : SF) : Prop := ∀ env st, SLe (u env st) (v env st)
theorem RLe.refl {α : Type} (a : Res α) : RLe a a := .inr rfl
theorem SLe.refl (a : SR) : SLe a a := .inr rfl
theorem FLe.refl (F : DF) : FLe F F := fun _ _ => .inr rfl
theorem ELe.refl (f : EF) : ELe f f := fun _ _ => .inr rfl
theorem ULe.refl (u : SF) : ULe u u := fun _ _ => .inr rfl
theorem RLe.ok {α : Type} {a b : Res α} {x : α} {st : Sto} (h : RLe a b) (e : a = .ok x st) : b = .ok x st := by
  rcases h with h | h
  · rw [e] at h; cases h
  · rw [← h]; exact e
theorem FLe.ok {F G : DF} {ds : List D} {x : D} {s st : Sto} (h : FLe F G) (e : F ds s = .ok x st) : G ds s = .ok x st := (h ds s).ok e
theorem RLe.bind {α β : Type} {a b : Res α} {h k : α → Sto → Res β} (e : RLe a b) (e2 : ∀ x s, RLe (h x s) (k x s)) : RLe (a.bind h) (b.bind k) := by
  rcases e with e | e
  · subst e; exact .inl rfl
  · subst e
    cases a with
    | ok x s => exact e2 x s
    | exc x s => exact .inr rfl
    | bad => exact .inl rfl
theorem SLe.then {α : Type} {a b : Res α} {h k : α → Sto → SR} (e : RLe a b) (e2 : ∀ x s, SLe (h x s) (k x s)) : SLe (a.then h) (b.then k) := by
  rcases e with e | e
  · subst e; exact .inl rfl
  · subst e
    cases a with
    | ok x s => exact e2 x s
    | exc x s => exact .inr rfl
    | bad => exact .inl rfl
theorem SLe.bind {a b : SR} {h k : AEnv → Sto → SR} (e : SLe a b) (e2 : ∀ x s, SLe (h x s) (k x s)) : SLe (a.bind h) (b.bind k) := by
  rcases e with e | e
  · subst e; exact .inl rfl
  · subst e
    cases a with
    | nx x s => exact e2 x s
    | bad => exact .inl rfl
    | _ => exact .inr rfl
section
variable {f g fa fb ga gb : EF} {fs : EFs} {F G : DF} {t : TF} {u u' v v' : SF} {i c n M : Nat} {m : Str} {k : Op2} {k1 : Op1}
theorem fle_run (h : ULe u v) : FLe (runD n M u) (runD n M v) := fun ds st => by
  unfold runD
  by_cases hl : ds.length = n
  · rw [if_pos hl, if_pos hl]
    rcases h (ds.map Sl.sh ++ List.replicate (M - n) .un) st with e | e
    · rw [e]; exact .inl rfl
    · rw [e]; exact .inr rfl
  · rw [if_neg hl]; exact .inl rfl
theorem ule_seq (h : ULe u u') (h2 : ULe v v') : ULe (sSeq u v) (sSeq u' v') := fun env st => SLe.bind (h env st) fun e s => h2 e s
theorem ule_if (h : ULe u u') (h2 : ULe v v') : ULe (sIf t u v) (sIf t u' v') := fun env st => SLe.then (.refl _) fun b s => by
  cases b with
  | true => exact h env s
  | false => exact h2 env s
theorem ule_never : ULe sNever u := fun _ _ => .inl rfl
end
theorem hasTab_mv {h : Nat} {st s : Sto} {i : Nat} {q : Str} (c : Cup h st) (m : Mv h st s) (t : hasTab st i q = true) : hasTab s i q = true := by
  obtain ⟨cl, hm, ht⟩ := List.any_eq_true.mp t
  obtain ⟨n, hn, e⟩ := List.mem_iff_getElem.mp hm
  have e1 : st[n]? = some cl := by rw [List.getElem?_eq_getElem hn, e]
  have ne : n ≠ h := fun z => by
    obtain ⟨a, b, e2⟩ := c
    rw [z, e2] at e1
    cases e1
    cases ht
  have e3 := (m.off ne).trans e1
  exact List.any_eq_true.mpr ⟨cl, List.mem_of_getElem? e3, ht⟩
theorem hasTab_app {st x : Sto} {i : Nat} {q : Str} (t : hasTab st i q = true) : hasTab (st ++ x) i q = true := by
  unfold hasTab at t ⊢
  rw [List.any_append, t]
  rfl
theorem wx_lawAllJ (J : Sto → Prop) {R : DF} {ns : List Int} {M : Int} {k : Nat} {env : AEnv} {st : Sto} {V : D → Sto → Prop} (hn : ns.length ≤ 63) (hM : M ≤ 60) (h0 : env[0]? = some (.sh (.fz (ns.map D.int)))) (hk : k < env.length) (hk0 : 0 < k) (ho : noOwn env [k] = true) (hJ : J st) (hJ2 : ∀ s x, J s → J (s ++ x))
    (hR : ∀ (h : Nat) (st : Sto), Cup h st → J st → Wx (R [.hd h] st) fun d s => d = .bl true ∧ J s) (hV : ∀ s, V (.bl true) s) :
    Wx (dOp1 oAll (dF (compF (iRan (dOp2 oMax (dC (.int 2)) (dOp2 oMin (dOp1 oLen (dVar 0)) (dC (.int M))))) false [k] [k] tYesD (dCall R (dCons (dCall cupF (dCons (dVar 0) (dCons (dVar k) dNil))) dNil)))) env st) V := by
  refine wx_all ?_
  refine wx_compS J (fun y => y = .bl true) ho (by simp) ?_
  refine wx_iRan (wx_dOp2 (wx_dC (wx_dOp2 (wx_dOp1 (wx_dVar h0 (wi_lenF ?_))))))
  rw [List.length_map]
  refine wx_dC (wi_min (wi_max ⟨_, rfl, okRb_of (by split <;> split <;> omega) (by split <;> split <;> omega), ?_⟩))
  refine ⟨by rw [rng_length]; split <;> split <;> omega, hJ, fun d hd s hs => ⟨[d], rfl, ?_⟩, fun ys s2 _ hy _ => ?_⟩
  · obtain ⟨i, hi, rfl⟩ := rng_mem hd
    have hi : i < 64 := by
      revert hi
      split <;> split <;> omega
    have e0 : ((env.set k .un).set k (.sh (.int (0 + (i : Int)))))[0]? = some (.sh (.fz (ns.map D.int))) := by
      rw [List.getElem?_set_ne (by omega), List.getElem?_set_ne (by omega)]
      exact h0
    have e1 : ((env.set k .un).set k (.sh (.int (0 + (i : Int)))))[k]? = some (.sh (.int (0 + (i : Int)))) := by
      rw [List.getElem?_set_self (by rw [List.length_set]; exact hk)]
    obtain ⟨a, b, e⟩ := cup_ok (ns := ns) (i := 0 + (i : Int)) (by omega) (by omega) s
    show Wx (dCall R (dCons (dCall cupF (dCons (dVar 0) (dCons (dVar k) dNil))) dNil) ((env.set k .un).set k (.sh (.int (0 + (i : Int))))) s) _
    refine wx_dCall (wx_dCons (wx_dCall (wx_dCons (wx_dVar e0 (wx_dCons (wx_dVar e1 (wx_dNil (wx_eq e (wx_dNil ?_)))))))))
    exact wx_mono (hR _ _ (cup_new s a b) (hJ2 _ _ hs)) fun d s h => ⟨h.1, h.2⟩
  · obtain ⟨bs, e1, e2⟩ := all_true hy
    refine ⟨bs, e1, ?_⟩
    rw [e2]
    exact hV _
end AM
namespace AM
open PySem PySem.Spec PyProof.Rows L2 L2H HotX
def oReprB : Op1 := fun a st => match a with
  | .dic [] => .ok (.str "{}") st
  | d => oReprA d st
section
variable {X : Cx} {Γ : Nat → Addr} {W : WX}
theorem cd_reprL (hgd : X.A.guards = some []) (hu : X.A.units + 64 < cLine) : CallR X (.builtin "repr") (rC1 (XC X Γ) W oRepr) := by
  intro pins s σ H xs us Q I rv ⟨w, env, st, σ', x, a, e, r, d, p⟩
  subst e
  obtain ⟨u, eu, ru⟩ := vals1 rv
  subst eu
  have go : ∀ {y : PyData} {q : Addr}, a.py = some y → x = .ref q → Post Den (XC X Γ) W w H σ' (if (y.showable && decide (y.shown.length ≤ sizeLine) && decide (y.depth ≤ 60)) = true then .ok (.str y.shown) st else .bad) Q → wpAny (model X.prog X.w) X.A (call (.builtin "repr") [u]) (EP X pins σ Q) X.xe s := fun {y q} ey eq pp => by
    split at pp
    · rename_i hz
      obtain ⟨z1, z3⟩ := Bool.and_eq_true_iff.mp hz
      obtain ⟨z1, z2⟩ := Bool.and_eq_true_iff.mp z1
      have dp := DenB.dp d ey
      obtain ⟨as, rd⟩ := Dp.reads I y x u dp ru
      subst eq
      obtain rfl : u = Value.ref q := ru
      refine repr_of_reads' rd z1 (PyData.noDict_hsm (Dp.noDict dp)) hgd (by have := of_decide_eq_true z3; omega) (fun _ _ z => z) (fun h' t tk hk => ?_) (of_decide_eq_true z2)
      exact ⟨.str y.shown, H, I.kept (t' := tk) hk, ⟨_, rfl⟩, Post.ok r pp (.str _)⟩
    · exact pp.elim
  unfold oRepr at p
  split at p
  · rename_i xs ey
    cases DenB.dp d ey with
    | lst _ _ => exact go ey rfl p
  · rename_i xs ey
    cases DenB.dp d ey with
    | tup _ _ => exact go ey rfl p
  · exact p.elim
theorem cd_reprW (hgd : X.A.guards = some []) (hu : X.A.units + 64 < cLine) : CallR X (.builtin "repr") (rC1 (XC X Γ) W oReprB) := by
  intro pins s σ H xs us Q I rv h
  obtain ⟨w, env, st, σ', x, a, e, r, d, p⟩ := h
  subst e
  obtain ⟨u, eu, ru⟩ := vals1 rv
  have rest : oReprB a st = oRepr a st → wpAny (model X.prog X.w) X.A (call (.builtin "repr") us) (EP X pins σ Q) X.xe s := fun e2 => by
    rw [e2] at p
    exact cd_reprL hgd hu pins s σ H [x] us Q I rv ⟨w, env, st, σ', x, a, rfl, r, d, p⟩
  subst eu
  cases a with
  | non =>
    cases d
    obtain rfl : u = Value.none := ru
    exact PySem.P.repr_of_none ⟨.str _, H, I.tok _, ⟨_, rfl⟩, Post.ok r p (.str _)⟩
  | bl b =>
    cases d
    obtain rfl : u = Value.bool b := ru
    exact PySem.P.repr_of_bool ⟨.str _, H, I.tok _, ⟨_, rfl⟩, Post.ok r p (.str _)⟩
  | int i =>
    cases d
    obtain ⟨t, rfl⟩ := ru
    change Post Den (XC X Γ) W w H σ' (if i.natAbs.log2 < 1920 then .ok (.str (toString i)) st else .bad) Q at p
    split at p
    · rename_i hz
      exact PySem.P.repr_of_int hz ⟨.str _, H, I.tok _, ⟨_, rfl⟩, Post.ok r p (.str _)⟩
    · exact p.elim
  | str z =>
    cases d
    obtain ⟨t, rfl⟩ := ru
    change Post Den (XC X Γ) W w H σ' (if (reprText z).length ≤ sizeLine then .ok (.str (reprText z)) st else .bad) Q at p
    split at p
    · rename_i hz
      exact PySem.P.repr_of_str ⟨.str _, H, I.tok _, ⟨_, rfl⟩, Post.ok r p (.str _)⟩ hz
    · exact p.elim
  | dic rr =>
    cases rr with
    | nil =>
      obtain ⟨q, kvs, ex, hq, _, er⟩ := DenB.dic d
      subst ex
      obtain rfl : u = Value.ref q := ru
      cases er
      obtain ⟨_, ns, vs, kv, o, es, ep, ho, hx, hd, hk, hp, _⟩ := (show ObjOk X.prog X.w H s.heap q (.dK []) from I.hok q _ hq)
      cases kv
      have e0 : es.toList = [] := by
        cases e1 : es.toList with
        | nil => rfl
        | cons a b =>
          rw [e1] at hp
          cases hp
      have rd : Reads s.heap (.ref q) (.dict []) [q] := .dict (as := []) (bs := []) ho (by first | exact hx.1 | exact hx) hd (by rw [e0]; exact .nil) (by rw [e0]; exact .nil)
      have dl : (PyData.dict []).depth ≤ 1 := by decide +kernel
      have dp : X.A.units + ((PyData.dict []).depth + 1) < cLine := by omega
      refine repr_of_reads' rd (by decide +kernel) (fun _ m => ?_) hgd dp (fun _ _ z => z) (fun h' t tk hk => ?_) (by decide +kernel)
      · rw [List.mem_singleton.mp m] at ns
        simp at ns
      · exact ⟨.str "{}", H, I.kept (t' := tk) hk, ⟨_, rfl⟩, Post.ok r p (.str _)⟩
    | cons k rr => exact rest rfl
  | _ => exact rest rfl
end
section
variable {X : Cx} {Γ : Nat → Addr} {W : WX} {a elt tg : Expr} {ifs : List Expr} {f fa : EF} {t : TF} {pos : Pos} {scope : Scope} {own : List (Str × Nat)} {tup : Bool} {is : List Nat} {c : Nat} {b dx : Addr}
theorem ran_ok {w : Wd} {env : AEnv} {st : Sto} {σ : AM.St} {H : Hp} {R : It → Hp → Prop} (r : Rel (XC X Γ) w env st σ H) (p : PostI (XC X Γ) W w H σ (iRan fa env st) R) : iRng1 (tDs (XC X Γ) W (dCons fa dNil)) σ H R := by
  refine ⟨w, env, st, r, ?_⟩
  unfold iRan at p
  unfold dCons
  cases q : fa env st with
  | bad => rw [q] at p; exact p.elim
  | exc x st1 => rw [q] at p; exact p
  | ok d st1 =>
    rw [q] at p
    cases d with
    | int j =>
      intro ρ' H' x h1 h2 h3
      cases h3 with
      | cons h3 h4 =>
        cases h4
        cases h3
        change PostI (XC X Γ) W w H σ (if okR j = true then .ok (rng 0 j.toNat) st1 else .bad) R at p
        split at p
        · rename_i hj
          obtain ⟨j1, j2⟩ := Bool.and_eq_true_iff.mp hj
          exact ⟨j, rfl, of_decide_eq_true j1, of_decide_eq_true j2, p ρ' H' _ h1 h2 (iter_range 0 j.toNat)⟩
        · exact p.elim
    | _ => exact p.elim
theorem pid_ranH {p : Pos} (hm : X.mg "range" = none) (ha : PE X a (tD (XC X Γ) W fa)) (hg : Gl X "range" := by rfl) (hst : starEach (a :: []) X.env = (false, eval a X.env) :: starEach [] X.env := by rfl) (hs : starEach [a] X.env = [(false, eval a X.env)] := by rfl) :
    PIH X tg (.Call (.Name "range" p) [a] [] pos) (tI (XC X Γ) W (iRan fa)) :=
  ⟨fun pins s σ H R I ⟨w, env, st, r, q⟩ => (pi_range1H hg hm (pad_cons ha pad_nil hst) hs).run pins s σ H R I (ran_ok r q)⟩
theorem pf_compH {iter : Expr} {fi : IF} (h : HotAt1 X Γ c b dx) (hN : X.N.Nodup) (hi : PIH X tg iter (tI (XC X Γ) W fi)) (ok : BlkOk X.N X.env.scope scope own)
    (hg : ∀ (oe : Obj) (s : Shared) (H : Hp) (C : Addr) (cl : List (Str × Addr)) (fp : List Addr), PG (hblk X (b, oe) s H scope (compEnvC scope cl C X.env) fp) tg (gC X.K tup is))
    (ht : ∀ (oe : Obj) (s : Shared) (H : Hp) (C : Addr) (cl : List (Str × Addr)) (fp : List Addr), PTs (hblk X (b, oe) s H scope (compEnvC scope cl C X.env) fp) ifs (tT (XC X Γ) WN t))
    (he : ∀ (oe : Obj) (s : Shared) (H : Hp) (C : Addr) (cl : List (Str × Addr)) (fp : List Addr), PE (hblk X (b, oe) s H scope (compEnvC scope cl C X.env) fp) elt (tD (XC X Γ) WN f)) (hs : ∀ x, foldedSetIterable iter X.env x = pure x := by intro _; rfl) :
    PE X (.ListComp elt [⟨tg, iter, ifs, 0⟩] scope pos) (tF (XC X Γ) W (compF fi tup is (own.map (·.2)) t f)) := by
  obtain ⟨oe, hp, hot, _⟩ := h.hot
  exact peImp (pe_lcH (p := (b, oe)) hot hp hN hi ok (hg oe) (ht oe) (he oe) hs) fun _ _ _ hh => comp_ok hh
end
end AM
namespace AM
open PySem PySem.Spec PyProof.Rows L2 He
section
variable {K : PySem.W.Frag} {C fI : Addr} {f x : Str} {B : Nat} {row : List (Ty1 × Bool)}
theorem rzB_ok (h : rzB K C fI f B = true) : ∃ (b n i : String) (bm : List Value), RzC K C fI f b n i bm := by
  unfold rzB at h
  obtain ⟨h1, h⟩ := ba h
  obtain ⟨h2, h⟩ := ba h
  obtain ⟨h3, h⟩ := ba h
  obtain ⟨h4, h⟩ := ba h
  obtain ⟨h5, h⟩ := ba h
  obtain ⟨h6, h⟩ := ba h
  obtain ⟨h7, h⟩ := ba h
  obtain ⟨h8, h⟩ := ba h
  obtain ⟨h9, h10⟩ := ba h
  match B, h1, h2 with
  | 0, h1, h2 => exact ⟨_, _, _, _, PySem.F.excBase_ValueError, PySem.F.store_ValueError, h1, h2, of_decide_eq_true h3, h4, eqO_ok h5, of_decide_eq_true h6, of_decide_eq_true h7, h8, eqO_ok h9, of_decide_eq_true h10⟩
  | 1, h1, h2 => exact ⟨_, _, _, _, PySem.F.excBase_LookupError, PySem.F.store_LookupError, h1, h2, of_decide_eq_true h3, h4, eqO_ok h5, of_decide_eq_true h6, of_decide_eq_true h7, h8, eqO_ok h9, of_decide_eq_true h10⟩
  | _ + 2, h1, h2 => exact ⟨_, _, _, _, PySem.F.excBase_ArithmeticError, PySem.F.store_ArithmeticError, h1, h2, of_decide_eq_true h3, h4, eqO_ok h5, of_decide_eq_true h6, of_decide_eq_true h7, h8, eqO_ok h9, of_decide_eq_true h10⟩
structure ExcK (K : PySem.W.Frag) (C fI : Addr) (f : Str) (row : List (Ty1 × Bool)) : Prop where
  rz : ∃ (b n i : String) (bm : List Value), RzC K C fI f b n i bm
  xv : XvC K C
  no : ∀ n ∈ [("given" : Str), "number", "index"], PySem.W.findIn K (.ref C) n = some none
  kit : ∀ (i : Nat) r, row[i]? = some r → PySem.W.kitOne K (.ref C) (r.1.v K) = some r.2
  exm : PySem.W.exmAny K (.ref C) [.ref (ga K "WrongValue"), .ref (ga K "WrongName"), .ref (ga K "NoAnswer")] = some true
theorem excB_ok (h : (Fx.exc x f B row).ok K = true) : ExcK K (ga K x) (ma K (ga K x) "__init__") f row := by
  have h : excB K (ga K x) (ma K (ga K x) "__init__") f B row = true := h
  unfold excB at h
  obtain ⟨h1, h⟩ := ba h
  obtain ⟨h2, h⟩ := ba h
  obtain ⟨h3, h⟩ := ba h
  obtain ⟨h4, h5⟩ := ba h
  have g : PySem.W.hasDictIn K (ga K x) = true ∧ PySem.W.subIn K (.ref (ga K x)) (.type "BaseException") = some true := by
    obtain ⟨b, n, i, bm, T⟩ := rzB_ok h1
    exact ⟨T.hdt, T.exC⟩
  unfold xvB at h2
  obtain ⟨a1, h2⟩ := ba h2
  obtain ⟨a2, h2⟩ := ba h2
  obtain ⟨a3, h2⟩ := ba h2
  obtain ⟨a4, h2⟩ := ba h2
  obtain ⟨a5, h2⟩ := ba h2
  obtain ⟨a6, a7⟩ := ba h2
  refine ⟨rzB_ok h1, ⟨eqO_ok a1, eqO_ok a2, g.2, a3, g.1, eqO_ok a4, eqO_ok a5, of_decide_eq_true a6, of_decide_eq_true a7⟩, fun n hn => eqO_ok (List.all_eq_true.mp h3 n hn), fun i r e => ?_, of_decide_eq_true h5⟩
  exact of_decide_eq_true (List.all_eq_true.mp h4 r (List.mem_of_getElem? e))
end
def reprD (d : D) : Option Str := match oReprB d [] with
  | .ok (.str s) _ => some s
  | _ => none
theorem repr_any {d : D} {s : Str} (h : reprD d = some s) (st : Sto) : oReprB d st = .ok (.str s) st := by
  have fin : ∀ (r : Sto → Res D), (∀ a b, (∃ x, r a = .ok x a ∧ r b = .ok x b) ∨ (r a = .bad ∧ r b = .bad)) → (match r [] with
      | .ok (.str s) _ => some s
      | _ => none) = some s → r st = .ok (.str s) st := fun r k e => by
    rcases k [] st with ⟨x, e1, e2⟩ | ⟨e1, e2⟩
    · rw [e1] at e
      rw [e2]
      cases x <;> first | (cases e; rfl) | cases e
    · rw [e1] at e
      cases e
  refine fin (oReprB d) (fun a b => ?_) h
  have ifs : ∀ (p : Prop) [Decidable p] (x : D), (∃ y, (if p then Res.ok x a else .bad) = .ok y a ∧ (if p then Res.ok x b else .bad) = .ok y b) ∨ ((if p then Res.ok x a else .bad) = .bad ∧ (if p then Res.ok x b else .bad) = .bad) := fun p _ x => by
    by_cases hp : p
    · exact .inl ⟨x, if_pos hp, if_pos hp⟩
    · exact .inr ⟨if_neg hp, if_neg hp⟩
  have rr : ∀ d : D, (∃ x, oRepr d a = .ok x a ∧ oRepr d b = .ok x b) ∨ (oRepr d a = .bad ∧ oRepr d b = .bad) := fun d => by
    unfold oRepr
    split
    · exact ifs _ _
    · exact ifs _ _
    · exact .inr ⟨rfl, rfl⟩
  cases d with
  | non => exact .inl ⟨_, rfl, rfl⟩
  | bl b => exact .inl ⟨_, rfl, rfl⟩
  | int i => exact ifs _ _
  | str z => exact ifs _ _
  | dic r =>
    cases r with
    | nil => exact .inl ⟨_, rfl, rfl⟩
    | cons k r => exact rr (.dic (k :: r))
  | ty n => exact rr (.ty n)
  | cls n => exact rr (.cls n)
  | tup ds => exact rr (.tup ds)
  | lst ds => exact rr (.lst ds)
  | fz ds => exact rr (.fz ds)
  | ins c fs => exact rr (.ins c fs)
  | hd n => exact rr (.hd n)
  | exv c a dx fs => exact rr (.exv c a dx fs)
abbrev ExT := List (Nat × (List Int × Str))
def toldX (t : ExT) : Exn → Option (List D) := fun e => match t.lookup e.c with
  | some (ns, f) => (match e.fs with
    | [(g, d)] => if g = f then (reprD d).map fun s => ns.map D.int ++ [.str s] else none
    | _ => none)
  | none => none
theorem toldX_ok {t : ExT} {e : Exn} {l : List D} (h : toldX t e = some l) : ∃ ns f d s, t.lookup e.c = some (ns, f) ∧ e.fs = [(f, d)] ∧ reprD d = some s ∧ l = ns.map D.int ++ [.str s] := by
  unfold toldX at h
  split at h
  · rename_i ns f e1
    split at h
    · rename_i g d e2
      split at h
      · rename_i e3
        subst e3
        cases hr : reprD d with
        | none => rw [hr] at h; cases h
        | some s =>
          rw [hr] at h
          exact ⟨ns, _, d, s, e1, e2, hr, (Option.some.inj h).symm⟩
      · cases h
    · cases h
  · cases h
theorem lookup_mem {α : Type} {t : List (Nat × α)} {c : Nat} {v : α} (h : t.lookup c = some v) : (c, v) ∈ t := by
  induction t with
  | nil => cases h
  | cons p t ih =>
    obtain ⟨k, x⟩ := p
    rw [List.lookup_cons] at h
    cases e : c == k with
    | true =>
      rw [e] at h
      cases h
      rw [beq_iff_eq.mp e]
      exact List.mem_cons_self
    | false =>
      rw [e] at h
      exact List.mem_cons_of_mem _ (ih h)
structure LiveX (K : PySem.W.Frag) (C : Addr) (ts : List Ty1) (b : Nat → Bool) : Prop where
  exm : PySem.W.exmAny K (.ref C) [.ref (ga K "WrongValue"), .ref (ga K "WrongName"), .ref (ga K "NoAnswer")] = some true
  xv : XvC K C
  no : ∀ n ∈ [("given" : Str), "number", "index"], PySem.W.findIn K (.ref C) n = some none
  kit : ∀ i, i < ts.length → PySem.W.kitOne K (.ref C) ((ts.getD i (.ty "")).v K) = some (b i)
theorem LiveX.of {K : PySem.W.Frag} {C fI : Addr} {f : Str} {row : List (Ty1 × Bool)} {ts : List Ty1} {bs : List Bool} {b : Nat → Bool} (x : ExcK K C fI f row) (e : row = ts.zip bs) (hl : bs.length = ts.length) (hb : ∀ i, b i = bs.getD i false) : LiveX K C ts b := by
  refine ⟨x.exm, x.xv, x.no, fun i hi => ?_⟩
  have h2 : i < bs.length := by omega
  have e1 : row[i]? = some (ts.getD i (.ty ""), b i) := by
    rw [e, List.getElem?_zip_eq_some]
    refine ⟨?_, ?_⟩
    · simp [List.getD, hi]
    · simp [hb, List.getD, h2]
  exact x.kit i _ e1
def hdlr : List Stmt → List Stmt
  | .Try _ (.ExceptHandler _ _ b _ :: _) _ _ _ :: _ => b
  | _ => []
@[simp] theorem ev_isXv {c : Nat} {a dx : Addr} {b : Bool} {fs : List (Str × D)} (st : Sto) : oIsXv c a dx b (.exv c a dx fs) st = .ok (.bl b) st := by simp [oIsXv]
@[simp] theorem ev_xf {c : Nat} {a dx : Addr} {f : Str} {d : D} (st : Sto) : oXf c a dx f (.exv c a dx [(f, d)]) st = .ok d st := by simp [oXf]
end AM
namespace KP
open PySem PySem.Spec PyProof.Rows L2 AM TL KP KL
local macro_rules | `(tactic| walk_at "en") => `(tactic| ((try simp only [List.map_cons, List.map_nil, List.replicate, List.replicate_zero, List.replicate_succ, List.cons_append, List.nil_append, List.set_cons_zero, List.set_cons_succ, Nat.reduceSub, Nat.reduceAdd, List.reduceReplicate, AM.putAll, AM.wipeE, List.foldl_cons, List.foldl_nil, List.zip_cons_cons, List.zip_nil_left, List.zip_nil_right]); with_unfolding_all rfl))
local macro_rules | `(tactic| walk_at "w1") => `(tactic| (with_reducible first
  | (apply wx_dVar; focus (with_unfolding_all rfl)) | refine wx_dC ?_ | refine wx_dOp2 ?_ | refine wx_all ?_ | refine wx_any ?_ | refine wx_dOp1 ?_ | refine wx_gBl ?_ | refine wx_gTru ?_ | refine wx_dCall ?_ | refine wx_dCons ?_ | refine wx_dNil ?_
  | (apply en_of; focus (walk_at "en")) | refine ws_sSeq ?_ | refine ws_sIf ?_ | refine ws_sRet ?_ | refine ws_sSet ?_ | refine ws_sAsg ?_ | refine ws_sPass ?_ | refine ws_sRet0 ?_ | refine ws_sAppH ?_ | refine ws_sFldD ?_ | refine ws_sAugD ?_ | refine wx_dNew ?_ | refine wx_iRan2 ?_ | refine wx_iRan3 ?_ | refine wx_fLran ?_ | refine wx_dInG ?_ | refine wx_dIxG ?_ | refine wx_dDicGet ?_ | refine wx_dCat ?_ | (apply wx_dLcall; focus (with_unfolding_all rfl); focus (with_unfolding_all rfl)) | refine wx_dDcall ?_ | refine ws_sExpr ?_ | refine ws_sOwn ?_ | refine ws_sFor ?_ | refine ws_sPar ?_ | refine ws_sPar3 ?_
  | refine ws_gNm ?_ | (apply ws_gTup; focus (with_unfolding_all rfl)) | refine ws_gNil ?_ | refine ws_gCons ?_
  | (apply wx_dOwn; focus (with_unfolding_all rfl)) | (apply wx_dOwn'; focus (with_unfolding_all rfl)) | (apply ws_frz; focus (with_unfolding_all rfl)) | (apply ws_frz'; focus (with_unfolding_all rfl)) | (apply ws_sApp; focus (with_unfolding_all rfl))
  | refine wx_dChain ?_ | refine wx_gAnd ?_ | refine wx_gOr ?_ | refine wx_gNot ?_ | refine wx_dAnd ?_ | refine wx_dOr ?_ | refine wx_dNot ?_ | refine wx_dIf ?_ | refine wx_dNeg ?_
  | refine wx_dTup ?_ | refine wx_dLst ?_ | refine wx_dLstF ?_ | refine wx_dF ?_ | refine wx_oNo ?_ | refine wx_oSo ?_ | refine wx_dSl ?_ | refine wx_dM1 ?_ | refine wx_dM0 ?_ | refine wx_dFld ?_ | refine wx_dProp ?_ | refine wx_dOwn2 ?_ | refine wx_gTruC ?_ | refine wx_iSeq ?_ | refine wx_iRan ?_
  | refine wi_add ?_ | refine wi_sub ?_ | refine wi_lt ?_ | refine wi_le ?_ | refine wi_gt ?_ | refine wi_ge ?_ | refine wi_eq ?_ | refine wi_ne ?_ | refine wi_max ?_ | refine wi_min ?_ | refine wi_lenT ?_ | refine wi_lenL ?_ | refine wi_lenF ?_
  | refine wi_itT ?_ | refine wi_itL ?_ | refine wi_itF ?_ | refine wi_itS ?_ | refine wi_tupL ?_ | refine wi_tupT ?_ | refine wi_isN ?_ | refine wi_isNN ?_ | refine wi_revL ?_ | refine wi_revT ?_ | refine wi_slT ?_ | refine wi_slL ?_ | refine wi_abs ?_ | refine wx_iEnmL ?_ | refine wx_dMeth ?_ | refine wi_intT ?_ | refine wi_inM ?_ | refine wi_notInM ?_
  | refine and_t ?_ | refine and_f ?_ | refine and_nT ?_ | refine and_nF ?_
  | refine Exists.intro _ (And.intro rfl ?_) | refine Exists.intro _ (Exists.intro _ (And.intro rfl ?_)) | refine Exists.intro _ (Exists.intro _ (Exists.intro _ (And.intro rfl ?_)))
  | (refine And.intro ?_ ?_; focus (refine Nat.le_of_ble_eq_true ?_; with_unfolding_all rfl)) | (refine And.intro ?_ ?_; focus (change okRb _ = true; with_unfolding_all rfl)) | (refine And.intro ?_ ?_; focus (change isC _ _ _ _ = true; with_unfolding_all rfl)) | (refine And.intro ?_ ?_; focus (change isI _ _ _ = true; with_unfolding_all rfl)) | (refine And.intro ?_ ?_; focus (change (isI _ _ _ && isI _ _ _) = true; with_unfolding_all rfl))))
local macro_rules | `(tactic| walk_at "w2") => `(tactic| (with_reducible first
  | (apply wx_dVar; focus (with_unfolding_all rfl)) | refine wx_dC ?_ | refine wx_dOp2 ?_ | refine wx_all ?_ | refine wx_any ?_ | refine wx_dOp1 ?_ | refine wx_gBl ?_ | refine wx_gTru ?_ | refine wx_dCall ?_ | refine wx_dCons ?_ | refine wx_dNil ?_
  | (apply en_of; focus (walk_at "en")) | refine ws_sSeq ?_ | refine ws_sRet ?_ | refine ws_sSet ?_ | refine ws_sAsg ?_ | refine ws_sPass ?_ | refine ws_sRet0 ?_ | refine ws_sAppH ?_ | refine ws_sFldD ?_ | refine ws_sAugD ?_ | refine wx_dNew ?_ | refine wx_iRan2 ?_ | refine wx_iRan3 ?_ | refine wx_fLran ?_ | refine wx_dInG ?_ | refine wx_dIxG ?_ | refine wx_dDicGet ?_ | refine wx_dCat ?_ | (apply wx_dLcall; focus (with_unfolding_all rfl); focus (with_unfolding_all rfl)) | refine wx_dDcall ?_ | refine ws_sExpr ?_ | refine ws_sOwn ?_ | refine ws_sFor ?_ | refine ws_sPar ?_ | refine ws_sPar3 ?_
  | refine ws_gNm ?_ | (apply ws_gTup; focus (with_unfolding_all rfl)) | refine ws_gNil ?_ | refine ws_gCons ?_
  | (apply wx_dOwn; focus (with_unfolding_all rfl)) | (apply wx_dOwn'; focus (with_unfolding_all rfl)) | (apply ws_frz; focus (with_unfolding_all rfl)) | (apply ws_frz'; focus (with_unfolding_all rfl)) | (apply ws_sApp; focus (with_unfolding_all rfl))
  | refine wx_dChain ?_ | refine wx_gAnd ?_ | refine wx_gOr ?_ | refine wx_gNot ?_ | refine wx_dAnd ?_ | refine wx_dOr ?_ | refine wx_dNot ?_ | refine wx_dNeg ?_
  | refine wx_dTup ?_ | refine wx_dLst ?_ | refine wx_dLstF ?_ | refine wx_dF ?_ | refine wx_oNo ?_ | refine wx_oSo ?_ | refine wx_dSl ?_ | refine wx_dM1 ?_ | refine wx_dM0 ?_ | refine wx_dFld ?_ | refine wx_dProp ?_ | refine wx_dOwn2 ?_ | refine wx_gTruC ?_ | refine wx_iSeq ?_ | refine wx_iRan ?_
  | refine wi_add ?_ | refine wi_sub ?_ | refine wi_lt ?_ | refine wi_le ?_ | refine wi_gt ?_ | refine wi_ge ?_ | refine wi_eq ?_ | refine wi_ne ?_ | refine wi_max ?_ | refine wi_min ?_ | refine wi_lenT ?_ | refine wi_lenL ?_ | refine wi_lenF ?_
  | refine wi_itT ?_ | refine wi_itL ?_ | refine wi_itF ?_ | refine wi_itS ?_ | refine wi_tupL ?_ | refine wi_tupT ?_ | refine wi_isN ?_ | refine wi_isNN ?_ | refine wi_revL ?_ | refine wi_revT ?_ | refine wi_slT ?_ | refine wi_slL ?_ | refine wi_abs ?_ | refine wx_iEnmL ?_ | refine wx_dMeth ?_ | refine wi_intT ?_ | refine wi_inM ?_ | refine wi_notInM ?_
  | refine and_t ?_ | refine and_f ?_ | refine and_nT ?_ | refine and_nF ?_
  | refine Exists.intro _ (And.intro rfl ?_) | refine Exists.intro _ (Exists.intro _ (And.intro rfl ?_)) | refine Exists.intro _ (Exists.intro _ (Exists.intro _ (And.intro rfl ?_)))
  | (refine And.intro ?_ ?_; focus (refine Nat.le_of_ble_eq_true ?_; with_unfolding_all rfl)) | (refine And.intro ?_ ?_; focus (change okRb _ = true; with_unfolding_all rfl)) | (refine And.intro ?_ ?_; focus (change isC _ _ _ _ = true; with_unfolding_all rfl)) | (refine And.intro ?_ ?_; focus (change isI _ _ _ = true; with_unfolding_all rfl)) | (refine And.intro ?_ ?_; focus (change (isI _ _ _ && isI _ _ _) = true; with_unfolding_all rfl))))
local macro_rules | `(tactic| walk_at "wp") => `(tactic| repeat' (walk_at "w1"))
local macro_rules | `(tactic| walk_at "wq") => `(tactic| repeat' (walk_at "w2"))
local macro_rules | `(tactic| walk_at "sd") => `(tactic| first | assumption | omega | (simp only [List.length_map, List.length_cons, List.length_nil]; omega) | decide)
local macro_rules | `(tactic| walk_at "ca") => `(tactic| (with_reducible first
  | refine wx_kwD rfl ?_
  | refine wi_len (by walk_at "sd") ?_
  | (refine And.intro ?_ ?_; focus (show List.length _ < 16777216; simp only [List.length_cons, List.length_nil, List.length_append, List.length_map]; omega))
  | refine and_nt rfl ?_ | refine and_nt (by omega) ?_ | refine and_dt (by omega) ?_ | refine and_df (by omega) ?_ | refine and_nf (by omega) ?_ | fail))
local macro_rules | `(tactic| walk_at "go") => `(tactic| repeat' (first | walk_at "w1" | walk_at "ca"))
local macro_rules | `(tactic| walk_at "gq") => `(tactic| repeat' (first | walk_at "w2" | walk_at "ca"))
section
abbrev U0 : List Nat := [0, 0, 2]
theorem told_one {t : ExT} {c : Nat} {ns : List Int} {f : Str} {d : AM.D} {s : Str} (h : t.lookup c = some (ns, f)) (h2 : reprD d = some s) : toldX t ⟨c, [(f, d)]⟩ = some (ns.map AM.D.int ++ [.str s]) := by
  unfold toldX
  simp only [h, h2]
  simp
theorem s_given : ("given" : Str) = mk [103, 105, 118, 101, 110] := by decide +kernel
theorem p_is_blockN {U : List Nat} {b : Bk} (h : okW b.1 = true) (st : Sto) : (F_is_block U) [bD b] st = .ok (.bl (decide (-9 ≤ b.2.1) && decide (b.2.1 ≤ 9) && (decide (-99 ≤ b.2.2) && decide (b.2.2 ≤ 99)))) st := by
  obtain ⟨w, p, q⟩ := b
  have hl := okW_len h
  have hw : (F_is_word U) [.str (mk w)] st = .ok (.bl true) st := by
    rw [p_is_word (by have : w.length ≤ 12 := hl.2; omega)]
    congr 2
    rw [List.all_eq_true]
    intro c hc
    exact decide_eq_true (okW_all h c hc)
  have e0 : ∀ st, oIx (dB w p q) (.int 0) st = .ok (.str (mk w)) st := fun st => rfl
  have e1 : ∀ st, oIx (dB w p q) (.int 1) st = .ok (.int p) st := fun st => rfl
  have e2 : ∀ st, oIx (dB w p q) (.int 2) st = .ok (.int q) st := fun st => rfl
  have et : ∀ st, oIsi (is_tuple U) (dB w p q) st = .ok (.bl true) st := fun st => rfl
  have el : ∀ st, oLen (dB w p q) st = .ok (.int 3) st := fun st => rfl
  have g1 : ((1 : Int) ≤ w.length) := by have : 1 ≤ w.length := hl.1; omega
  have g2 : ((w.length : Int) ≤ 12) := by have : w.length ≤ 12 := hl.2; omega
  show (F_is_block U) [dB w p q] st = .ok (.bl (decide (-9 ≤ p) && decide (p ≤ 9) && (decide (-99 ≤ q) && decide (q ≤ 99)))) st
  unfold F_is_block
  refine runD_rt rfl ?_
  by_cases z : -9 ≤ p ∧ p ≤ 9
  · have z1 := z.1
    have z2 := z.2
    simp [et, el, e0, hw, ev_lenS (show w.length ≤ 16777216 by have : w.length ≤ 12 := hl.2; omega), e1, e2, p_is_between, g1, g2, z1, z2]
  · have z3 : (decide (-9 ≤ p) && decide (p ≤ 9)) = false := by
      by_cases z1 : -9 ≤ p
      · rw [decide_eq_false (p := p ≤ 9) (fun z2 => z ⟨z1, z2⟩), Bool.and_false]
      · rw [decide_eq_false z1, Bool.false_and]
    simp [et, el, e0, hw, ev_lenS (show w.length ≤ 16777216 by have : w.length ≤ 12 := hl.2; omega), e1, e2, p_is_between, g1, g2, z3]
instance decB (w : List Nat) (p q : Int) : Decidable (okB w p q) := inferInstanceAs (Decidable (_ ∧ _))
instance decb (b : Bk) : Decidable (okb b) := inferInstanceAs (Decidable (okB _ _ _))
theorem okb_dec {b : Bk} (h : okW b.1 = true) : (decide (-9 ≤ b.2.1) && decide (b.2.1 ≤ 9) && (decide (-99 ≤ b.2.2) && decide (b.2.2 ≤ 99))) = decide (okb b) := by
  rw [Bool.eq_iff_iff]
  simp only [Bool.and_eq_true, decide_eq_true_eq]
  exact ⟨fun ⟨⟨a, b⟩, c, d⟩ => ⟨h, a, b, c, d⟩, fun ⟨_, a, b, c, d⟩ => ⟨⟨a, b⟩, c, d⟩⟩
theorem p_blockN {U : List Nat} {b : Bk} (h : okW b.1 = true) (st : Sto) : (F_is_block U) [bD b] st = .ok (.bl (decide (okb b))) st := by
  rw [p_is_blockN h st, okb_dec h]
end
section
section
variable {α β : Type} {P : α → Sto → Prop} {V : AM.D → Sto → Prop} {E : Exn → Sto → Prop} {env : AEnv} {st : Sto} {f g fa fb : EF} {t t2 : TF} {fs : EFs} {u v : SF} {k : Op2}
end
def TLe (t t' : TF) : Prop := ∀ env st, RLe (t env st) (t' env st)
def ALe (fs gs : EFs) : Prop := ∀ env st, RLe (fs env st) (gs env st)
theorem TLe.refl (t : TF) : TLe t t := fun _ _ => .inr rfl
theorem ALe.refl (t : EFs) : ALe t t := fun _ _ => .inr rfl
section
variable {f g : EF} {t t' : TF} {u u' v v' : SF} {fs gs : EFs} {F G : DF}
end
def RpX (n : Nat) (d : AM.D) : Prop := ∃ k, Rp n k d
theorem RpX.mono {n m : Nat} {d : AM.D} (h : RpX n d) (hn : n ≤ m) : RpX m d := by
  obtain ⟨k, h⟩ := h
  exact ⟨k, h.mono hn (Nat.le_refl _)⟩
theorem RpX.all {n : Nat} : ∀ {ds : List AM.D}, (∀ d ∈ ds, RpX n d) → ∃ k, ∀ d ∈ ds, Rp n k d
  | [], _ => ⟨0, fun _ h => nomatch h⟩
  | d :: ds, h => by
    obtain ⟨k, hk⟩ := h d List.mem_cons_self
    obtain ⟨m, hm⟩ := RpX.all fun x hx => h x (List.mem_cons_of_mem _ hx)
    exact ⟨k + m, fun x hx => (List.mem_cons.mp hx).elim (fun e => e ▸ hk.mono (Nat.le_refl _) (by omega)) fun hx => (hm x hx).mono (Nat.le_refl _) (by omega)⟩
theorem RpX.lst {n : Nat} {ds : List AM.D} (h : ∀ d ∈ ds, RpX n d) : RpX (n + 1) (.lst ds) := by
  obtain ⟨k, hk⟩ := RpX.all h
  exact ⟨_, Rp.lst hk (Nat.le_refl _)⟩
theorem RpX.sh {n : Nat} {d : AM.D} (h : RpX n d) (hn : n ≤ 64) : shD d = true := by
  obtain ⟨k, h⟩ := h
  exact h.sh hn
theorem RpX.int {i : Int} (h : i.natAbs < 2 ^ 1000) : RpX 0 (.int i) := ⟨_, Rp.int h (by decide)⟩
theorem RpX.str {z : Str} (h : PyData.strOk z = true) : RpX 0 (.str z) := ⟨10 * z.length + 2, .str z, by unfold D.py; rfl, by simpa [PyData.canLay0] using h, by simp [PyData.depth], by simp [PyData.showable], by simp [shL]⟩
theorem rowX {ns : List Int} {z : Str} (hn : ∀ i ∈ ns, i.natAbs < 1000) (h : PyData.strOk z = true) : RpX 1 (.lst (ns.map AM.D.int ++ [.str z])) := by
  refine RpX.lst fun d hd => ?_
  rcases List.mem_append.mp hd with hd | hd
  · obtain ⟨i, hi, rfl⟩ := List.mem_map.mp hd
    exact .int (Nat.lt_trans (hn i hi) (Nat.lt_of_lt_of_le (by decide : 1000 < 2 ^ 10) (Nat.pow_le_pow_right (by decide) (by decide))))
  · rw [List.mem_singleton.mp hd]
    exact .str h
theorem rowsX {rs : List AM.D} (h : ∀ r ∈ rs, ∃ (ns : List Int) (z : Str), r = .lst (ns.map AM.D.int ++ [.str z]) ∧ (∀ i ∈ ns, i.natAbs < 1000) ∧ PyData.strOk z = true) : shD (.lst rs) = true := by
  refine (RpX.lst (n := 1) fun r hr => ?_).sh (by decide)
  obtain ⟨ns, z, rfl, h1, h2⟩ := h r hr
  exact rowX h1 h2
end
end KP
namespace AM
open PySem PySem.Spec PyProof.Rows L2
end AM
namespace AM
open PySem PySem.Spec PyProof.Rows L2
section
variable {X : Cx} {Γ : Nat → Addr} {W : WX} {it : Expr} {f : EF} {i j : Nat} {x : Str} {scope : Scope} {own : List (Str × Nat)} {p pos p1 p2 p3 p4 : Pos}
end
end AM
namespace PySem
open Builtin
end PySem
namespace AM
open PySem PySem.Spec PyProof.Rows L2
def SqB (K : PySem.W.Frag) : Bool → Hp → Addr → List V → Prop
  | true => SqL K
  | false => SqT K
def AtB : Bool → Heap → Addr → Array Value → Prop
  | true => fun h a us => h.IsList a us
  | false => fun h a us => h.IsTuple a us
def ItB : Bool → Heap → Addr → Addr → Nat → Prop
  | true => fun h it a i => h.IsListIter it a i
  | false => fun h it a i => h.IsTupleIter it a i
theorem ItB.at {b : Bool} {h h' : Heap} {it a : Addr} {i : Nat} (x : ItB b h it a i) (k : ∀ o, h.get? it = some o → h'.get? it = some o) : ItB b h' it a i := by
  cases b
  · exact Heap.IsTupleIter.at (h := h) x k
  · exact Heap.IsListIter.at (h := h) x k
theorem ItB.obj {b : Bool} {h : Heap} {it a : Addr} {i : Nat} (x : ItB b h it a i) : ∃ o, h.get? it = some o ∧ ∀ v, o.data ≠ .cell v := by
  cases b <;> exact let ⟨o, e, _, d⟩ := x; ⟨o, e, fun v q => by rw [d] at q; cases q⟩
section
variable {X : Cx} {pins : List (Addr × Obj)} {σ : L2.St} {H : Hp} {s : Shared}
end
theorem AtB.lt {b : Bool} {h : Heap} {a : Addr} {us : Array Value} (x : AtB b h a us) : a < h.objs.size := by
  cases b
  · obtain ⟨o, e, _⟩ := x; exact Heap.lt_size e
  · obtain ⟨o, e, _⟩ := x; exact Heap.lt_size e
section
variable {X : Cx} {Γ : Nat → Addr} {W : WX} {e e2 tg : Expr} {t : TA} {f f2 : EF} {pos p tpos : Pos} {elts : List Expr} {kk : Nat}
end
structure RowB (K : Ct) (w : Wd) (H : Hp) (b : Bool) (a : Addr) (ds : List D) : Prop where
  row : ∃ vs, Dens K w.ρ w.S H vs ds ∧ ∀ w' H', ExtS K w H w' H' → SqB K.K b H' a vs
section
variable {K : Ct} {w : Wd} {H : Hp} {a b : Addr} {ba bb : Bool} {ds es : List D}
end
section
variable {X : Cx} {Γ : Nat → Addr} {W : WX} {e e2 tg : Expr} {f f2 : EF} {pos p tpos : Pos} {elts : List Expr} {kk : Nat}
end
end AM
namespace AM
open PySem PySem.Spec PyProof.Rows L2
section
variable {P : Program} {w : World} {K : PySem.W.Frag} {mg : Str → Option Value} {base : Heap} {Γ : Nat → Addr} {k : Nat} {x qual : Str} {params : Arguments} {body : List Stmt} {scope : Scope} {kws : List (Str × V)} {fd : FuncData} {N ps : List Str} {p : He.Defn}
theorem def_okT (F : FunD K x qual params body scope [] kws (He.fAd K p) fd) (S : FnScope N ps scope) (g : SF)
    (hbody : ∀ (A : Around) (outer : List Env) (s : Shared) (H : Hp) (E : XK), Go (cxOf (L2N.CX P w) P w K mg base N qual scope (He.fAd K p) (.ref (He.codeOf K p)) A outer s H E) (fun c d _ H' => E c d H') k →
      PSs (cxOf (L2N.CX P w) P w K mg base N qual scope (He.fAd K p) (.ref (He.codeOf K p)) A outer s H E) body (tS ⟨K, Γ⟩ (fun c d _ H' => E c d H') g)) :
    FnB P w K mg base (k + 1) (He.fAd K p) fd ps (spD ⟨K, Γ⟩ (runD ps.length N.length g)) := by
  have hpl : ps.length ≤ N.length := by
    have e := congrArg List.length S.pre
    rw [List.length_take] at e
    omega
  refine ⟨fun vs H Q E h => runD_len h, fun A outer s H args us vs Q E hr hg e0 hb rv hsp => ?_⟩
  obtain ⟨oc, od, dV, kV, doc, pm, an, cdv, ct, osl, rfl, lk, hcd, _, _⟩ := F.ex
  obtain ⟨c, rfl⟩ := He.codeIn_ref hcd
  obtain rfl : He.codeOf K p = c := He.codeOf_eq lk rfl
  refine StX.run_bnd (G := fun xs H2 => xs = vs ∧ H2 = H) lk hcd S hr e0 (fun A' Ex Q' h => ?_) fun s2 H2 xs hx hr' => ?_
  · exact hb _ _ _ _ (h s H vs us e0 Un.refl rfl (fun _ _ z => z) rv (runD_len hsp) ⟨rfl, rfl⟩)
  · obtain ⟨rfl, rfl⟩ := hx
    exact ⟨_, hbody A outer s2 H2 E (go_of hr' hg), body_ok hpl hsp⟩
end
section
variable {X : Cx} {Γ : Nat → Addr} {W : WX} {e : Expr} {f : EF} {i k kk : Nat} {c : Addr} {x q : Str} {params : Arguments} {scope : Scope} {p pos kpos lpos p1 p2 p3 p4 p5 : Pos}
end
theorem tabsSt_of {K : PySem.W.Frag} {Γ : Nat → Addr} : ∀ (cs : List (Addr × Addr)) (qs : List (Nat × Str)), cs.length = qs.length → (∀ (n : Nat) p u, cs[n]? = some p → qs[n]? = some u → p.2 = Γ u.1) → tabsSt ⟨K, Γ⟩ cs (qs.map fun u => .tab u.1 u.2) := fun cs qs hl h => by
  refine ⟨by rw [List.length_map]; exact hl, fun n p c h1 h2 => ?_⟩
  rw [List.getElem?_map] at h2
  obtain ⟨u, hu, rfl⟩ := Option.map_eq_some_iff.mp h2
  exact ⟨u.1, u.2, rfl, h n p u h1 hu⟩
end AM
namespace AM
open PySem PySem.Spec PyProof.Rows L2
structure IterX (K : Ct) (w : Wd) (H : Hp) (J : It) (items : List D) : Prop where
  goes : ∀ w' H' i, ExtS K w H w' H' → Ext K w.ρ H w'.ρ H' → i < items.length → J.go i H'
  stops : ∀ w' H', ExtS K w H w' H' → Ext K w.ρ H w'.ρ H' → J.stop items.length H'
  yields : ∀ w' env st σ H' i x H2, Rel K w' env st σ H' → ExtS K w H w' H' → Ext K w.ρ H w'.ρ H' → i < items.length → J.yld i H' x H2 → ∃ d, items[i]? = some d ∧ Den K w'.ρ w'.S H2 x d ∧ Rel K w' env st σ H2 ∧ Ext K w'.ρ H' w'.ρ H2
section
variable {X : Cx} {Γ : Nat → Addr} {W : WX} {elt tg iter l : Expr} {ifs : List Expr} {f : EF} {fi : IF} {t : TF} {pos : Pos} {scope : Scope} {own : List (Str × Nat)} {tup : Bool} {is : List Nat}
end
end AM
namespace AM
open PySem PySem.Spec PyProof.Rows L2
theorem pd_dic0 {X : Cx} {Γ : Nat → Addr} {W : WX} {p : Pos} : PE X (.Dict [] [] p) (tD (XC X Γ) W (dC (.dic []))) := peImp pe_dnewK fun σ H Q ⟨w, env, st, rl, pp⟩ q hn => by
  have r1 := rl.new (o := .dK []) hn
  exact pp w.ρ _ _ r1.sto (Ext.new hn) (.dic upd_same (rl.fresh hn) rfl)
end AM
namespace AM
open PySem PySem.Spec PyProof.Rows L2
section
variable {X : Cx} {Γ : Nat → Addr} {W : WX}
end
end AM
namespace AM
open PySem PySem.Spec PyProof.Rows L2
def pairsSI : List D → Option (List (Str × Int))
  | [] => some []
  | .tup [.str k, .int n] :: ds => (pairsSI ds).map fun r => (k, n) :: r
  | _ => none
def rowSI (r : List (Str × Int)) : List (Key × D) := r.map fun p => (.inr p.1, .int p.2)
def oDictP : Op1 := fun a st => match a with
  | .lst ds => (match pairsSI ds with
    | some r => if (r.map (·.1)).Nodup then .ok (.dic (rowSI r)) st else .bad
    | none => .bad)
  | _ => .bad
theorem rowSI_im : ∀ r : List (Str × Int), imR (rowSI r) = some (r.map fun p => (Sum.inr p.1, V.int p.2))
  | [] => rfl
  | p :: r => by
    show imR ((Sum.inr p.1, D.int p.2) :: rowSI r) = _
    unfold imR
    rw [rowSI_im r]
    rfl
theorem rd_pair {h : Heap} {u : Value} {k : Str} {n : Int} {as : List Addr} (r : Reads h u (.tuple [.str k, .int n]) as) : ∃ T t1 t2, u = .ref T ∧ PairAt h T (.str k t1) (.int n t2) := by
  cases r with
  | @tuple a o vs m xs as ho hc hd ra =>
    cases e : vs.toList with
    | nil => rw [e] at ra; cases ra
    | cons v1 l =>
      rw [e] at ra
      cases ra with
      | cons r1 ra =>
        cases l with
        | nil => cases ra
        | cons v2 l =>
          cases ra with
          | cons r2 ra =>
            cases l with
            | cons v3 l => cases ra
            | nil =>
              cases r1 with
              | str _ t1 =>
                cases r2 with
                | int _ t2 =>
                  refine ⟨a, t1, t2, rfl, .inl ⟨o, ho, hc, m, ?_⟩⟩
                  rw [hd]
                  congr 1
                  exact Array.toList_inj.mp e
theorem pairs_at {K : Ct} {X : Cx} {pins : List (Addr × Obj)} {σ : L2.St} {w : Wd} {H : Hp} {s : Shared} (I : Inv X pins σ H s) (hK : K.K = X.K) : ∀ (ds : List D) {r : List (Str × Int)} {vs : List V} {its : List Value}, pairsSI ds = some r → Dens K w.ρ w.S H vs ds → Vals vs its →
    ∃ L : List (Addr × Tok × Tok), L.length = r.length ∧ its = L.map (fun q => Value.ref q.1) ∧ ∀ (j : Nat) p q, r[j]? = some p → L[j]? = some q → PairAt s.heap q.1 (.str p.1 q.2.1) (.int p.2 q.2.2) := by
  intro ds
  induction ds with
  | nil =>
    intro r vs its h d rv
    cases h
    cases d
    cases rv
    exact ⟨[], rfl, rfl, fun _ _ _ h => nomatch h⟩
  | cons x ds ih =>
    intro r vs its h d rv
    unfold pairsSI at h
    split at h
    · rename_i e
      cases e
    · rename_i k n ds' e
      cases e
      obtain ⟨r', hr, rfl⟩ := Option.map_eq_some_iff.mp h
      cases d with
      | @cons v _ vs _ d1 d2 =>
        cases rv with
        | @cons _ u _ us ru rs =>
          obtain ⟨L, l1, l2, l3⟩ := ih hr d2 rs
          have dp : Dp X.K H v (.tuple [.str k, .int n]) := by
            rw [← hK]
            exact DenB.dp (w := w) d1.b (by unfold D.py; rfl)
          obtain ⟨as, rd⟩ := Dp.reads I _ v u dp ru
          obtain ⟨T, t1, t2, rfl, pa⟩ := rd_pair rd
          refine ⟨(T, t1, t2) :: L, by rw [List.length_cons, List.length_cons, l1], by rw [List.map_cons, ← l2], fun j p q e1 e2 => ?_⟩
          match j, e1, e2 with
          | 0, e1, e2 => cases e1; cases e2; exact pa
          | j + 1, e1, e2 => exact l3 j p q e1 e2
    · cases h
section
variable {X : Cx} {Γ : Nat → Addr} {W : WX}
theorem cd_dictP (hcalm : X.calm = true) : CallR X (.type "dict") (rC1 (XC X Γ) W oDictP) := by
  intro pins s σ H xs us Q I rv ⟨w, env, st, σ', x, a, e, r, d, p⟩
  subst e
  obtain ⟨u, eu, ru⟩ := vals1 rv
  subst eu
  cases a with
  | lst ds =>
    obtain ⟨q, vs, e1, hq, _, t⟩ := d.lst
    subst e1
    obtain rfl : u = Value.ref q := ru
    have p : Post Den (XC X Γ) W w H σ' (match pairsSI ds with
      | some r => if (r.map (·.1)).Nodup then .ok (.dic (rowSI r)) st else .bad
      | none => .bad) Q := p
    cases e : pairsSI ds with
    | none => rw [e] at p; exact p.elim
    | some rr =>
      rw [e] at p
      by_cases nd : (rr.map (·.1)).Nodup
      · have p : Post Den (XC X Γ) W w H σ' (if (rr.map (·.1)).Nodup then .ok (.dic (rowSI rr)) st else .bad) Q := p
        rw [if_pos nd] at p
        obtain ⟨hlen, its, n, rv2, ho⟩ := (show ObjOk X.prog X.w H s.heap q (.lst vs) from I.hok q _ hq)
        obtain ⟨L, l1, l2, l3⟩ := pairs_at (K := XC X Γ) I rfl _ e t rv2
        have lz : its.length = rr.length := by rw [l2, List.length_map, l1]
        let ps : List (Value × Value) := (rr.zip L).map fun z => (.str z.1.1 z.2.2.1, .int z.1.2 z.2.2.2)
        let kvs : List (Key × Value) := (rr.zip L).map fun z => (Sum.inr z.1.1, .int z.1.2 z.2.2.2)
        let Ts : Nat → Addr := fun j => ((L[j]?).map (·.1)).getD 0
        have lp : ps.length = rr.length := by show ((rr.zip L).map _).length = _; rw [List.length_map, List.length_zip, l1, Nat.min_self]
        have lk : kvs.length = rr.length := by show ((rr.zip L).map _).length = _; rw [List.length_map, List.length_zip, l1, Nat.min_self]
        have hz : vs.length = rr.length := by rw [← lz]; exact rv2.length
        have at_ : ∀ (j : Nat) (k v : Value), ps[j]? = some (k, v) → ∃ a b, rr[j]? = some a ∧ L[j]? = some b ∧ k = .str a.1 b.2.1 ∧ v = .int a.2 b.2.2 := fun j k v h => by
          have h : ((rr.zip L).map fun z => ((Value.str z.1.1 z.2.2.1, Value.int z.1.2 z.2.2.2) : Value × Value))[j]? = some (k, v) := h
          rw [List.getElem?_map] at h
          obtain ⟨z, e1, e2⟩ := Option.map_eq_some_iff.mp h
          obtain ⟨g1, g2⟩ := List.getElem?_zip_eq_some.mp e1
          cases e2
          exact ⟨z.1, z.2, g1, g2, rfl, rfl⟩
        have ok : PlainSeq "list" s.heap q its.toArray ∧ PairItems s.heap its.toArray Ts ps := by
          refine ⟨⟨_, n, ho, rfl, rfl, rfl⟩, by rw [List.size_toArray, lz, lp], fun j k v hj => ?_⟩
          obtain ⟨a, b, g1, g2, rfl, rfl⟩ := at_ j k v hj
          have eT : Ts j = b.1 := by show ((L[j]?).map (·.1)).getD 0 = _; rw [g2]; rfl
          rw [eT]
          refine ⟨?_, l3 j a b g1 g2⟩
          rw [List.getElem?_toArray, l2, List.getElem?_map, g2]
          rfl
        have hc : PairsHave (mixKind X.prog X.w) ps.length (PairRel ps) kvs := by
          refine ⟨by rw [lk, lp], fun j k v hj => ?_⟩
          obtain ⟨a, b, g1, g2, rfl, rfl⟩ := at_ j k v hj
          refine ⟨.inr a.1, ?_, kV_is ⟨b.2.1, rfl⟩⟩
          show ((rr.zip L).map fun z => ((Sum.inr z.1.1, Value.int z.1.2 z.2.2.2) : Key × Value))[j]? = _
          rw [List.getElem?_map, List.getElem?_zip_eq_some (z := (a, b)) |>.mpr ⟨g1, g2⟩]
          rfl
        have hk1 : kvs.map (·.1) = rr.map fun p => Sum.inr p.1 := by
          show ((rr.zip L).map fun z => ((Sum.inr z.1.1, Value.int z.1.2 z.2.2.2) : Key × Value)).map (fun q : Key × Value => q.1) = _
          rw [List.map_map]
          have : (rr.zip L).map (fun z : (Str × Int) × (Addr × Tok × Tok) => (Sum.inr z.1.1 : Key)) = ((rr.zip L).map fun z : (Str × Int) × (Addr × Tok × Tok) => z.1).map (fun p : Str × Int => (Sum.inr p.1 : Key)) := by rw [List.map_map]; rfl
          exact this.trans (by rw [List.map_fst_zip (by rw [l1]; exact Nat.le_refl _)])
        have ndk : (([] ++ kvs).map fun q : Key × Value => q.1).Nodup := by
          rw [List.nil_append, hk1]
          have : (rr.map fun p => (Sum.inr p.1 : Key)) = (rr.map (·.1)).map Sum.inr := by rw [List.map_map]; rfl
          rw [this]
          exact List.Pairwise.map _ (fun a b h e => h (Sum.inr.inj e)) nd
        have kv : KV (rr.map fun p => ((Sum.inr p.1, V.int p.2) : Key × V)) kvs := by
          have key : ∀ (rr : List (Str × Int)) (L : List (Addr × Tok × Tok)), L.length = rr.length → KV (rr.map fun p => ((Sum.inr p.1, V.int p.2) : Key × V)) ((rr.zip L).map fun z => ((Sum.inr z.1.1, Value.int z.1.2 z.2.2.2) : Key × Value)) := by
            intro rr
            induction rr with
            | nil => intro L _; exact .nil
            | cons a rr ih =>
              intro L hl
              cases L with
              | nil => cases hl
              | cons b L => exact .cons ⟨rfl, b.2.2, rfl⟩ (ih L (Nat.succ.inj hl))
          exact key rr L l1
        refine call_dict_pairs (knd := mixKind X.prog X.w) (kvs := kvs) (PairArg.list q its.toArray Ts ps) (I.ok.hd hcalm) ok hc (by rw [lp, ← hz]; exact hlen) fun h' tk dd hk => ?_
        rw [merged_append_of_fresh [] kvs ndk, List.nil_append] at dd
        have hm : (s.heap.objs.size == sysModules) = false := beq_eq_false_iff_ne.mpr (Nat.ne_of_gt I.big)
        have hp : H s.heap.objs.size = none := I.hok.fresh (Nat.le_refl _)
        refine ⟨.ref s.heap.objs.size, upd H s.heap.objs.size (.dK (rr.map fun p => ((Sum.inr p.1, V.int p.2) : Key × V))), I.laid (t' := tk) (fun b o e => hk b o (fun z => nomatch z) e) (Nat.le_refl _) (show ObjOk X.prog X.w _ _ _ (.dK _) from ⟨by rw [List.length_map, ← hz]; exact hlen, hm, kvs, kv, dd⟩), rfl, ?_⟩
        exact Post.okNew r p hp (.dic upd_same (r.fresh hp) (rowSI_im rr))
      · have p : Post Den (XC X Γ) W w H σ' (if (rr.map (·.1)).Nodup then .ok (.dic (rowSI rr)) st else .bad) Q := p
        rw [if_neg nd] at p
        exact p.elim
  | _ => exact p.elim
def oInK : Op2 := fun a b st => match b with
  | .dic r => (match keyD a with
    | some k => .ok (.bl (valD r k).isSome) st
    | none => .bad)
  | _ => .bad
theorem op_inDic (hu : X.A.units + 1 < cLine) : OpR X (compareOp .In) (fun x y H Q => ∃ a o, y = .ref a ∧ DGet H a x o ∧ Q (.bl o.isSome) H) := by
  intro pins s σ H x y v u Q I rx ry ⟨a, o, e, g, q⟩
  subst e
  obtain rfl : u = Value.ref a := ry
  exact d_in hu I g rx fun s' I' => ⟨.bl _, H, I', rfl, q⟩
theorem opd_inK (hu : X.A.units + 1 < cLine) : OpR X (compareOp .In) (rD2 (XC X Γ) W oInK) := opr fun w env st σ H x y a b Q r d1 d2 p => by
  cases b with
  | dic r' =>
    obtain ⟨q, kvs, ex, hq, nS, im⟩ := DenB.dic (w := w) d2
    subst ex
    have fin : ∀ {key : Key}, keyD a = some key → x = kV key → ∃ r, OpR X (compareOp .In) r ∧ r x (.ref q) H Q := fun {key} ek ey => by
      have p : Post Den (XC X Γ) W w H σ (match keyD a with
        | some k => .ok (.bl (valD r' k).isSome) st
        | none => .bad) Q := p
      rw [ek] at p
      refine ⟨_, op_inDic hu, q, valV kvs key, rfl, by rw [ey]; exact .k hq, ?_⟩
      have p : Post Den (XC X Γ) W w H σ (.ok (.bl (valD r' key).isSome) st) Q := p
      rcases imR_val im key with ⟨v1, v2⟩ | ⟨u, dd, v1, v2, v3⟩
      · rw [v1]
        rw [v2] at p
        exact Post.ok r p (.bl _)
      · rw [v1]
        rw [v2] at p
        exact Post.ok r p (.bl _)
    cases a with
    | int i => exact fin rfl (DenB.int (w := w) d1)
    | str i => exact fin rfl (DenB.str (w := w) d1)
    | _ => exact p.elim
  | _ => exact p.elim
theorem opd_inKG {k : Nat} (G : Go X W k) : OpR X (compareOp .In) (rD2 (XC X Γ) W oInK) := opd_inK (by have := G.rm.units; omega)
def dDicIx (fo fe : EF) : EF := fun env st => (fo env st).bind fun d st1 => match d with
  | .dic r => (fe env st1).bind fun e st2 => (match keyD e with
    | some k => (match valD r k with
      | some v => .ok v st2
      | none => .bad)
    | none => .bad)
  | _ => .bad
variable {o a : Expr} {fo fe : EF} {pos : Pos} {k : Nat}
theorem pd_dicix (G : Go X W k) (ho : PE X o (tD (XC X Γ) W fo)) (he : PE X a (tD (XC X Γ) W fe)) (hs : NoSl a := by first | (intro _ _ _ h; cases h) | (intro _ _; rfl) | (intro _; rfl) | rfl | decide) : PE X (.Subscript o a pos) (tD (XC X Γ) W (dDicIx fo fe)) := by
  have hu : X.A.units + 1 < cLine := by have := G.rm.units; omega
  refine peImp (pe_dget hu ho he hs) fun σ H Q hq => ?_
  obtain ⟨w, env, st, rl, pp⟩ := hq
  refine ⟨w, env, st, rl, (Post.bind (Da := Den) rl pp).mono ?_⟩
  rintro x H1 ⟨w1, st1, d, r1, ⟨ρ1, e1⟩, x1, dx, p1⟩
  cases d with
  | dic r =>
    obtain ⟨q, kvs, ex, hq, nS, im⟩ := DenB.dic (w := w1) dx.b
    have nq : q ∉ w1.ρ := fun z => nS (inS_ρ z)
    refine ⟨w1, env, st1, r1, (Post.bind (Da := Den) r1 p1).mono ?_⟩
    rintro y H2 ⟨w2, st2, e, r2, ⟨ρ2, e2⟩, x2, dy, p2⟩
    have hq2 := x2.keep q _ hq nq
    have fin : ∀ {key : Key}, keyD e = some key → y = kV key → ∃ q v, x = .ref q ∧ DGet H2 q y (some v) ∧ Q v H2 := fun {key} ek ey => by
      have p4 : Post Den (XC X Γ) W w2 H2 σ (match keyD e with
        | some k => (match valD r k with
          | some v => .ok v st2
          | none => .bad)
        | none => .bad) Q := p2
      rw [ek] at p4
      have p5 : Post Den (XC X Γ) W w2 H2 σ (match valD r key with
        | some v => .ok v st2
        | none => .bad) Q := p4
      rcases imR_val im key with ⟨v1, v2⟩ | ⟨u, dd, v1, v2, v3⟩
      · rw [v2] at p5
        exact p5.elim
      · rw [v2] at p5
        refine ⟨q, u, ex, ?_, Post.ok r2 p5 (imV_den v3 _ _ _ _)⟩
        rw [ey, ← v1]
        exact .k hq2.1
    cases e with
    | int i => exact fin rfl (DenB.int (w := w2) dy.b)
    | str i => exact fin rfl (DenB.str (w := w2) dy.b)
    | _ => exact p2.elim
  | _ => exact p1.elim
end
end AM
namespace AM
open PySem PySem.Spec PyProof.Rows L2 PySem.SeqAt
theorem dict_eq_declines_str (l : Addr) (es : Array DictEntry) (n : Nat) (dd : Option Addr) (sl : Array (Option Value)) (b : Str) (u : Tok) :
    Meets (Builtin.«dict.__eq__» ⟨[.ref l, .str b u], []⟩) (fun _ R s => s.heap.get? l = some { cls := .type "dict", dict := dd, data := .dict es n, slots := sl } ∧ R (.ok (.ret .notImplemented)) s) :=
  .of_wp fun prog w A R s h => by obtain ⟨hp, g, d, tk, os⟩ := s; obtain ⟨hl, h⟩ := h; have f1 := F.sub_str_dict; wp_walk using wpAny_loadPart' hl; exact ⟨_, rfl, h⟩
theorem str_eq_declines_dict (b : Str) (u : Tok) (l : Addr) (es : Array DictEntry) (n : Nat) (dd : Option Addr) (sl : Array (Option Value)) :
    Meets (Builtin.«str.__eq__» ⟨[.str b u, .ref l], []⟩) (fun _ R s => s.heap.get? l = some { cls := .type "dict", dict := dd, data := .dict es n, slots := sl } ∧ R (.ok (.ret .notImplemented)) s) :=
  .of_wp fun prog w A R s h => by obtain ⟨hp, g, d, tk, os⟩ := s; obtain ⟨hl, h⟩ := h; wp_walk using wpAny_loadPart' hl; exact ⟨_, rfl, h⟩
theorem rc_dict_str {A : Around} {s : Shared} {l : Addr} {o : Obj} {es : Array DictEntry} {n : Nat} (b : Str) (u : Tok) (ho : s.heap.get? l = some o) (hc : o.cls = .type "dict") (hd : o.data = .dict es n) (hu : A.units < cLine) : RcAt A s (.ref l) (.str b u) false := fun prog w E Q h => by
  obtain ⟨cls, dd, data, sl⟩ := o
  simp only at hc hd
  subst hc hd
  exact rc_eq_decline_or (k := false) ⟨_, ho, rfl⟩ (typeIs_str s b u) (by decide) F.sub_str_dict F.slot_dict_eq F.slot_str_eq_refl
    (fun _ hq => call_meets F.slot_dict_eq ⟨_, ho, rfl⟩ F.entry_dict_eq (F.args_dict_eq_2 _ _) (dict_eq_declines_str l es n dd sl b u) ⟨ho, hq⟩)
    (fun _ hq => call_meets F.slot_str_eq_refl (typeIs_str s b u) F.entry_str_eq (F.args_str_eq_2 _ _) (str_eq_declines_dict b u l es n dd sl) ⟨ho, hq⟩)
    (fun _ hq => wpAny_of_eq (rfl : isSame (.ref l) (.str b u) = pure false) hq) (.inr hu) h
def oEqB : Op2 := fun a b st => match a, b with
  | .dic [], .str _ => .ok (.bl false) st
  | a, b => oEq a b st
section
variable {X : Cx} {Γ : Nat → Addr} {W : WX}
theorem op_eq_ds (hu : X.A.units < cLine) : OpR X (compareOp .Eq) (fun x y H Q => ∃ a kvs z, x = .ref a ∧ y = .str z ∧ H a = some (.dK kvs) ∧ Q (.bl false) H) := by
  intro pins s σ H x y v u Q I rx ry ⟨a, kvs, z, e1, e2, ha, q⟩
  subst e1 e2
  obtain rfl : v = Value.ref a := rx
  obtain ⟨t, rfl⟩ := (show ∃ t, u = Value.str z t from ry)
  obtain ⟨_, _, vs, _, o, es, ep, ho, hx, hd, _⟩ := (show ObjOk X.prog X.w H s.heap a (.dK kvs) from I.hok a _ ha)
  have hc : o.cls = .type "dict" := by first | exact hx.1 | exact hx
  exact rc_dict_str z t ho hc hd hu _ _ _ _ ⟨.bl false, H, I, rfl, q⟩
theorem opd_eqB (hu : X.A.units + 64 < cLine) : OpR X (compareOp .Eq) (rD2 (XC X Γ) W oEqB) := fun pins s σ H x y v u Q I rx ry ⟨w, env, st, σ', a, b, r, d1, d2, p⟩ => by
  have old : oEqB a b st = oEq a b st → wpAny (model X.prog X.w) X.A (compareOp .Eq v u) (EP X pins σ Q) X.xe s := fun e => by
    rw [e] at p
    exact opd_eq hu pins s σ H x y v u Q I rx ry ⟨w, env, st, σ', a, b, r, d1, d2, p⟩
  cases a with
  | dic rr =>
    cases rr with
    | cons k rr => exact old rfl
    | nil =>
      cases b with
      | str z =>
        obtain ⟨q, kvs, ex, hq, _, _⟩ := DenB.dic (w := w) d1
        obtain rfl := DenB.str (w := w) d2
        exact op_eq_ds (by omega) pins s σ H x _ v u Q I rx ry ⟨q, kvs, z, ex, rfl, hq, Post.ok r p (.bl _)⟩
      | _ => exact old rfl
  | _ => exact old rfl
end
theorem wi_eqB {a b : D} {st : Sto} {V : D → Sto → Prop} (h : Wx (oEq a b st) V) (hn : ∀ z, ¬ (a = .dic [] ∧ b = .str z) := by intro z e; cases e.1) : Wx (oEqB a b st) V := by
  have e : oEqB a b st = oEq a b st := by
    unfold oEqB
    split
    · rename_i z
      exact absurd ⟨rfl, rfl⟩ (hn z)
    · rfl
  rw [e]
  exact h
end AM
namespace AM
open PySem PySem.Spec PyProof.Rows L2
section
variable {X : Cx} {Γ : Nat → Addr} {W : WX} {i j : Nat} {x y : Str} {a b : Expr} {f : AEnv → Sto → Res (List D)} {g : EF} {px py pt pos : Pos} {kt k2 pt2}
end
end AM
namespace K04
open PySem PySem.Spec PyProof.Rows L2 AM KL KP
def told : ExT := [(cInvalidText, ([1, 40, 43], "given"))]
def F_Winding_read (U : List Nat) : DF := runD 1 2 (sSeq (sSet 1 (dIf (gTru (dOp1 (oIsi (is_str U)) (dVar 0))) (dCall (F_blocks_in U) (dCons (dVar 0) dNil)) (dC .non))) (sSeq (sIf (gBl (dOp2 oIs (dVar 1) (dC .non))) (sRaise cInvalidText "given" (dVar 0)) sPass) (sRet (dCall (M_Winding U) (dCons (dCall (M_Known U) (dCons (dVar 1) dNil)) dNil)))))
def F_law_numbers (U : List Nat) : DF := runD 0 1 (sRet (dOp1 oDictP (dF (compF (iRan2 (dNeg (dC (.int 99))) (dC (.int 100))) false [0] [0] tYesD (dTup (dCons (dOp1 oStrT (dVar 0)) (dCons (dVar 0) dNil)))))))
def F_law_power (U : List Nat) : DF := runD 2 7 (sSeq (sIf (gBl (dOp2 oNotIn (dC (.str "n")) (dVar 0))) (sRet (dIf (gBl (dOp2 oInK (dVar 0) (dVar 1))) (dTup (dCons (dC (.int 0)) (dCons (dDicIx (dVar 1) (dVar 0)) dNil))) (dC .non))) sPass) (sSeq (sAsg (dM1 sPartition (dVar 0) (dC (.str "n"))) (gTupD 3 (gConsD (gNm 4) (gConsD (gNm 5) (gConsD (gNm 6) gNilD))))) (sSeq (sSet 2 (dDget [(.inr "", .int (1)), (.inr "-", .int (-1))] (dVar 4) (dDicGet (dVar 1) (dVar 4) (dC (.int 0))))) (sSeq (sSet 3 (dIf (gBl (dOp2 oEq (dVar 6) (dC (.str "")))) (dC (.int 0)) (dDicGet (dVar 1) (dIf (gBl (dOp2 oEq (dSl (dVar 6) oNo (oSo (dC (.int 1)))) (dC (.str "+")))) (dSl (dVar 6) (oSo (dC (.int 1))) oNo) (dVar 6)) (dC .non)))) (sSeq (sIf (gOr (gBl (dOp2 oIn (dVar 4) (dLst (dCons (dC (.str "1")) (dCons (dC (.str "-1")) dNil))))) (gOr (gNot (gBl (dChain oLe oLe (dNeg (dC (.int 9))) (dVar 2) (dC (.int 9))))) (gOr (gBl (dOp2 oEq (dVar 2) (dC (.int 0)))) (gBl (dOp2 oIs (dVar 3) (dC .non)))))) (sRet (dC .non)) sPass) (sSeq (sIf (gAnd (gBl (dOp2 oNe (dVar 6) (dC (.str "")))) (gOr (gBl (dOp2 oEq (dVar 3) (dC (.int 0)))) (gBl (dOp2 oNe (dOp2 oEq (dSl (dVar 6) oNo (oSo (dC (.int 1)))) (dC (.str "+"))) (dOp2 oGt (dVar 3) (dC (.int 0))))))) (sRet (dC .non)) sPass) (sRet (dTup (dCons (dVar 2) (dCons (dVar 3) dNil))))))))))
def F_law_read (U : List Nat) : DF := runD 1 9 (sSeq (sIf (gBl (dOp2 oEqB (dVar 0) (dC (.str "none")))) (sRet (dLst dNil)) sPass) (sSeq (sParE 2 3 (dCall (F_law_numbers U) dNil) (dLstF dNil)) (sSeq (sFor (iSeq (dIf (gTru (dOp1 (oIsi (is_str U)) (dVar 0))) (dM1 sSplit (dVar 0) (dC (.str " "))) (dLst (dCons (dC (.str "")) dNil)))) (gNm 1) (sSeq (sAsg (dM1 sPartition (dVar 1) (dC (.str "^"))) (gTupD 3 (gConsD (gNm 5) (gConsD (gNm 6) (gConsD (gNm 7) gNilD))))) (sSeq (sSet 4 (dIf (gBl (dOp2 oEqB (dVar 6) (dC (.str "^")))) (dCall (F_law_power U) (dCons (dVar 7) (dCons (dVar 2) dNil))) (dC .non))) (sSeq (sIf (gOr (gBl (dOp2 oIs (dVar 4) (dC .non))) (gOr (gNot (gBl (dChain oLe oLe (dC (.int 1)) (dOp1 oLen (dVar 5)) (dC (.int 12))))) (gNot (gTru (dOp1 oAll (dF (compF (iSeq (dVar 5)) false [8] [8] tYesD (dOp2 oIn (dVar 8) (dC (.str "abcdefABCDEF")))))))))) (sRet (dC .non)) sPass) (sApp 3 (dTup (dCons (dVar 5) (dCons (dOp2 oIx (dVar 4) (dC (.int 0))) (dCons (dOp2 oIx (dVar 4) (dC (.int 1))) dNil))))))))) (frz 3 (sRet (dIf (gBl (dOp2 oLt (dOp1 oLen (dOwn 3)) (dC (.int 13)))) (dVar 3) (dC .non)))))))
def F_law_bent (U : List Nat) : DF := runD 2 6 (sSeq (sFor (iRan (dCall (F_law_sip U) (dCons (dVar 0) (dCons (dC (.int 3)) dNil)))) (gNm 2) (sSeq (sPar 4 5 (dCons (dCall (F_law_sip U) (dCons (dVar 0) (dCons (dOp2 oAdd (dOp1 oLen (dVar 1)) (dC (.int 1))) dNil))) (dCons (dCall (F_law_sip U) (dCons (dVar 0) (dCons (dC (.int 3)) dNil))) dNil))) (sSeq (sSet 3 (dCall (F_law_pick U) (dCons (dVar 0) (dCons (dLst (dCons (dC (.str "a")) (dCons (dC (.str "n")) (dCons (dC (.str "^")) (dCons (dC (.str "+")) (dCons (dC (.str "-")) (dCons (dC (.str "0")) (dCons (dC (.str "1")) (dCons (dC (.str "9")) (dCons (dC (.str " ")) (dCons (dC (.str "B")) (dCons (dC (.str "g")) (dCons (dC (.str "2")) (dCons (dC (.str "")) dNil)))))))))))))) dNil)))) (sSet 1 (dOp2 oAdd (dOp2 oAdd (dSl (dVar 1) oNo (oSo (dVar 4))) (dVar 3)) (dSl (dVar 1) (oSo (dOp2 oAdd (dVar 4) (dVar 5))) oNo)))))) (sRet (dVar 1)))
def F_law_right (U : List Nat) : DF := runD 1 12 (sSeq (sSet 1 (dLst (dCons (dC .non) (dCons (dC (.int 3)) (dCons (dC (.bl true)) (dCons (dTup dNil) (dCons (dTup (dCons (dC (.str "a^n")) dNil)) (dCons (dLst dNil) (dCons (dC (.dic [])) (dCons (dC (.str "")) (dCons (dC (.str " ")) (dCons (dC (.str "None")) (dCons (dC (.str "none ")) (dCons (dC (.str "a")) (dCons (dC (.str "a^")) (dCons (dC (.str "^n")) (dCons (dC (.str "a^nn")) (dCons (dC (.str "a^1n")) dNil)))))))))))))))))) (sSeq (sSet 1 (dOp2 oAdd (dVar 1) (dLst (dCons (dC (.str "a^-1n")) (dCons (dC (.str "a^0n")) (dCons (dC (.str "a^n+0")) (dCons (dC (.str "a^n-0")) (dCons (dC (.str "a^+1")) (dCons (dC (.str "a^-0")) (dCons (dC (.str "a^01")) (dCons (dC (.str "a^10n")) (dCons (dC (.str "a^n+100")) (dCons (dC (.str "a^100")) dNil))))))))))))) (sSeq (sSet 1 (dOp2 oAdd (dVar 1) (dLst (dCons (dC (.str "a^n n")) (dCons (dC (.str "a^n  b^n")) (dCons (dC (.str "a^n+-1")) dNil)))))) (sSeq (sSet 1 (dOp2 oAdd (dVar 1) (dLst (dCons (dC (.str "a^n--1")) (dCons (dC (.str "a^n1")) (dCons (dC (.str "a^n\n")) (dCons (dC (.str "a^N")) (dCons (dC (.str "g^n")) (dCons (dC (.str "a^-n+99")) (dCons (dC (.str "a^-9n-99")) (dCons (dC (.str "a^2n")) (dCons (dM1 sJoin (dC (.str " ")) (dOp2 oMul (dLst (dCons (dC (.str "a^n")) dNil)) (dC (.int 13)))) dNil)))))))))))) (sSeq (sFor (iRan (dC (.int 6))) (gNm 2) (sSeq (sSet 3 (dF (compF (iRan (dOp2 oAdd (dC (.int 1)) (dCall (F_law_sip U) (dCons (dVar 0) (dCons (dC (.int 3)) dNil))))) false [10] [10] tYesD (dCall (F_law_block U) (dCons (dVar 0) dNil))))) (sSeq (sSet 4 (dM1 sJoin (dC (.str " ")) (dF (compF (iSeq (dVar 3)) false [11] [11] tYesD (dOp1 (oSp cW strR (F_Winding_str U) oStrT) (dCall (M_Winding U) (dCons (dVar 11) dNil))))))) (sFor (iSeq (dLst (dCons (dVar 4) (dCons (dCall (F_law_bent U) (dCons (dVar 0) (dCons (dVar 4) dNil))) (dCons (dCall (F_law_bent U) (dCons (dVar 0) (dCons (dVar 4) dNil))) (dCons (dCall (F_law_pick U) (dCons (dVar 0) (dCons (dVar 1) dNil))) dNil)))))) (gNm 5) (sSeq (sSet 6 (dCall (F_law_read U) (dCons (dVar 5) dNil))) (sSeq (sSet 7 (dCaught 1000 "_law_right.<locals>.<lambda>" (toldX told) (dFld [cWinding] "blocks" (dCall (F_Winding_read U) (dCons (dVar 5) dNil))))) (sSeq (sSet 8 (dCaught 1000 "_law_right.<locals>.<lambda>" (toldX told) (dFld [cWinding] "blocks" (dCall (F_Winding_read U) (dCons (dVar 5) dNil))))) (sSeq (sSet 9 (dIf (gBl (dOp2 oIsNot (dVar 6) (dC .non))) (dLst (dCons (dC (.str "given")) (dCons (dOp1 oTupT (dVar 6)) dNil))) (dLst (dCons (dC (.int 1)) (dCons (dC (.int 40)) (dCons (dC (.int 43)) (dCons (dOp1 oReprB (dVar 5)) dNil))))))) (sIf (gBl (dOp2 oNe (dOp1 oReprB (dLst (dCons (dVar 7) (dCons (dVar 8) dNil)))) (dOp1 oReprB (dLst (dCons (dVar 9) (dCons (dVar 9) dNil)))))) (sRet (dC (.bl false))) sPass))))))))) (sRet (dC (.bl true))))))))
def F_law (U : List Nat) : DF := runD 1 3 (sSeq (sSet 1 (dM1 sJoin (dC (.str " ")) (dOp2 oMul (dLst (dCons (dC (.str "ab^-9n-99")) dNil)) (dC (.int 12))))) (sSeq (sIf (gOr (gBl (dOp2 oNe (dOp1 (oSp cW lenR (F_Winding_len U) oLen) (dCall (F_Winding_read U) (dCons (dVar 1) dNil))) (dC (.int 12)))) (gBl (dOp2 oNe (dOp2 oIx (dCaught 1001 "law.<locals>.<lambda>" (toldX told) (dCall (F_Winding_read U) (dCons (dOp2 oAdd (dVar 1) (dC (.str " a^1"))) dNil))) (dC (.int 0))) (dC (.int 1))))) (sRet (dC (.bl false))) sPass) (sRet (dOp1 oAll (dF (compF (iRan (dOp2 oMax (dC (.int 2)) (dOp2 oMin (dOp1 oLen (dVar 0)) (dC (.int 6))))) false [2] [2] tYesD (dCall (F_law_right U) (dCons (dCall (F_law_cup U) (dCons (dVar 0) (dCons (dVar 2) dNil))) dNil))))))))
def gclsA (R : SF) (b : Nat → Bool) (c : Nat) (a dx : Nat) : SF := (sSeq (sSet 1 (dLst (dCons (dOp1 (oIsXv c a dx (b 0)) (dVar 0)) (dCons (dOp1 (oIsXv c a dx (b 1)) (dVar 0)) (dCons (dOp1 (oIsXv c a dx (b 2)) (dVar 0)) dNil))))) (sSeq (sSet 1 (dOp2 oAdd (dVar 1) (dLst (dCons (dOp1 (oIsXv c a dx (b 3)) (dVar 0)) (dCons (dOp1 (oIsXv c a dx (b 4)) (dVar 0)) (dCons (dOp1 (oIsXv c a dx (b 5)) (dVar 0)) dNil)))))) (sSeq (sSet 1 (dOp2 oAdd (dVar 1) (dLst (dCons (dOp1 (oIsXv c a dx (b 6)) (dVar 0)) (dCons (dOp1 (oIsXv c a dx (b 7)) (dVar 0)) (dCons (dOp1 (oIsXv c a dx (b 8)) (dVar 0)) dNil)))))) (sSeq (sSet 1 (dOp2 oAdd (dVar 1) (dLst (dCons (dOp1 (oIsXv c a dx (b 9)) (dVar 0)) (dCons (dOp1 (oIsXv c a dx (b 10)) (dVar 0)) (dCons (dOp1 (oIsXv c a dx (b 11)) (dVar 0)) dNil)))))) (sSeq (sSet 1 (dOp2 oAdd (dVar 1) (dLst (dCons (dOp1 (oIsXv c a dx (b 12)) (dVar 0)) (dCons (dOp1 (oIsXv c a dx (b 13)) (dVar 0)) (dCons (dOp1 (oIsXv c a dx (b 14)) (dVar 0)) dNil)))))) (sSeq (sSet 1 (dOp2 oAdd (dVar 1) (dLst (dCons (dOp1 (oIsXv c a dx (b 15)) (dVar 0)) (dCons (dOp1 (oIsXv c a dx (b 16)) (dVar 0)) (dCons (dOp1 (oIsXv c a dx (b 17)) (dVar 0)) dNil)))))) (sSeq (sSet 1 (dOp2 oAdd (dVar 1) (dLst (dCons (dOp1 (oIsXv c a dx (b 18)) (dVar 0)) (dCons (dOp1 (oIsXv c a dx (b 19)) (dVar 0)) (dCons (dOp1 (oIsXv c a dx (b 20)) (dVar 0)) dNil)))))) (sSeq (sSet 1 (dOp2 oAdd (dVar 1) (dLst (dCons (dOp1 (oIsXv c a dx (b 21)) (dVar 0)) (dCons (dOp1 (oIsXv c a dx (b 22)) (dVar 0)) (dCons (dOp1 (oIsXv c a dx (b 23)) (dVar 0)) (dCons (dOp1 (oIsXv c a dx (b 24)) (dVar 0)) dNil))))))) (sSeq (sSet 1 (dOp2 oAdd (dVar 1) (dLst (dCons (dOp1 (oIsXv c a dx (b 25)) (dVar 0)) (dCons (dOp1 (oIsXv c a dx (b 26)) (dVar 0)) dNil))))) (sSeq (sSet 2 (dLst (dCons (dOp1 (oIsXv c a dx (b 27)) (dVar 0)) (dCons (dOp1 (oIsXv c a dx (b 28)) (dVar 0)) (dCons (dOp1 (oIsXv c a dx (b 29)) (dVar 0)) dNil))))) (sSeq (sSet 2 (dOp2 oAdd (dVar 2) (dLst (dCons (dOp1 (oIsXv c a dx (b 30)) (dVar 0)) (dCons (dOp1 (oIsXv c a dx (b 31)) (dVar 0)) (dCons (dOp1 (oIsXv c a dx (b 32)) (dVar 0)) dNil)))))) R)))))))))))
def gclsR : SF := (sRet (dOp2 oAdd (dF (compF (iRan (dC (.int 27))) false [3] [3] (gTru (dOp2 oIx (dVar 1) (dVar 3))) (dVar 3))) (dF (compF (iRan (dC (.int 6))) false [3] [3] (gTru (dOp2 oIx (dVar 2) (dVar 3))) (dOp2 oAdd (dC (.int 40)) (dVar 3))))))
def gcls (b : Nat → Bool) (c : Nat) (a dx : Nat) : SF := gclsA gclsR b c a dx
def gsuR (c : Nat) (a dx : Nat) : SF := (sSeq (sIf (gOr (gBl (dOp2 oLt (dOp2 oIx (dVar 2) (dC (.int 0))) (dC (.int 14)))) (gBl (dOp2 oIn (dOp2 oIx (dVar 2) (dC (.int 0))) (dLst (dCons (dC (.int 19)) (dCons (dC (.int 23)) (dCons (dC (.int 24)) dNil))))))) (sRet (dOp2 oAdd (dVar 2) (dLst (dCons (dOp1 oReprB (dOp1 (oXf c a dx "given") (dVar 1))) dNil)))) sPass) (sSeq (sIf (gBl (dOp2 oEq (dOp2 oIx (dVar 2) (dC (.int 0))) (dC (.int 21)))) (sRet (dOp2 oAdd (dVar 2) (dLst (dCons (dOp1 oReprB (dOp1 (oXf c a dx "number") (dVar 1))) dNil)))) sPass) (sRet (dIf (gBl (dOp2 oLt (dOp2 oIx (dVar 2) (dC (.int 0))) (dC (.int 26)))) (dOp2 oAdd (dVar 2) (dLst (dCons (dOp1 oReprB (dOp1 (oXf c a dx "index") (dVar 1))) dNil))) (dVar 2)))))
def gsuite (b : Nat → Bool) (c : Nat) (a dx : Nat) : SF := sSeq (sSet 2 (fun env st => onlyOk (dCall (runD 1 4 (gcls b c a dx)) (dCons (dVar 1) dNil) env st))) (gsuR c a dx)
def rowsX : List (Nat × List Bool) := [(cInvalidText, [false, true, false, false, false, false, false, false, false, false, false, false, false, false, false, false, false, false, false, false, false, false, false, false, false, false, false, true, false, false, true, false, false])]
def bX (c : Nat) (i : Nat) : Bool := ((rowsX.lookup c).getD []).getD i false
end K04
namespace KP
open PySem PySem.Spec PyProof.Rows L2 AM TL KP KL
local macro_rules | `(tactic| walk_at "en") => `(tactic| ((try simp only [List.map_cons, List.map_nil, List.replicate, List.replicate_zero, List.replicate_succ, List.cons_append, List.nil_append, List.set_cons_zero, List.set_cons_succ, Nat.reduceSub, Nat.reduceAdd, List.reduceReplicate, AM.putAll, AM.wipeE, List.foldl_cons, List.foldl_nil, List.zip_cons_cons, List.zip_nil_left, List.zip_nil_right]); with_unfolding_all rfl))
local macro_rules | `(tactic| walk_at "w1") => `(tactic| (with_reducible first
  | (apply wx_dVar; focus (with_unfolding_all rfl)) | refine wx_dC ?_ | refine wx_dOp2 ?_ | refine wx_all ?_ | refine wx_any ?_ | refine wx_dOp1 ?_ | refine wx_gBl ?_ | refine wx_gTru ?_ | refine wx_dCall ?_ | refine wx_dCons ?_ | refine wx_dNil ?_
  | (apply en_of; focus (walk_at "en")) | refine ws_sSeq ?_ | refine ws_sIf ?_ | refine ws_sRet ?_ | refine ws_sSet ?_ | refine ws_sAsg ?_ | refine ws_sPass ?_ | refine ws_sRet0 ?_ | refine ws_sAppH ?_ | refine ws_sFldD ?_ | refine ws_sAugD ?_ | refine wx_dNew ?_ | refine wx_iRan2 ?_ | refine wx_iRan3 ?_ | refine wx_fLran ?_ | refine wx_dInG ?_ | refine wx_dIxG ?_ | refine wx_dDicGet ?_ | refine wx_dCat ?_ | (apply wx_dLcall; focus (with_unfolding_all rfl); focus (with_unfolding_all rfl)) | refine wx_dDcall ?_ | refine ws_sExpr ?_ | refine ws_sOwn ?_ | refine ws_sFor ?_ | refine ws_sPar ?_ | refine ws_sPar3 ?_
  | refine ws_gNm ?_ | (apply ws_gTup; focus (with_unfolding_all rfl)) | refine ws_gNil ?_ | refine ws_gCons ?_
  | (apply wx_dOwn; focus (with_unfolding_all rfl)) | (apply wx_dOwn'; focus (with_unfolding_all rfl)) | (apply ws_frz; focus (with_unfolding_all rfl)) | (apply ws_frz'; focus (with_unfolding_all rfl)) | (apply ws_sApp; focus (with_unfolding_all rfl))
  | refine wx_dChain ?_ | refine wx_gAnd ?_ | refine wx_gOr ?_ | refine wx_gNot ?_ | refine wx_dAnd ?_ | refine wx_dOr ?_ | refine wx_dNot ?_ | refine wx_dIf ?_ | refine wx_dNeg ?_
  | refine wx_dTup ?_ | refine wx_dLst ?_ | refine wx_dLstF ?_ | refine wx_dF ?_ | refine wx_oNo ?_ | refine wx_oSo ?_ | refine wx_dSl ?_ | refine wx_dM1 ?_ | refine wx_dM0 ?_ | refine wx_dFld ?_ | refine wx_dProp ?_ | refine wx_dOwn2 ?_ | refine wx_gTruC ?_ | refine wx_iSeq ?_ | refine wx_iRan ?_
  | refine wi_add ?_ | refine wi_sub ?_ | refine wi_lt ?_ | refine wi_le ?_ | refine wi_gt ?_ | refine wi_ge ?_ | refine wi_eq ?_ | refine wi_ne ?_ | refine wi_max ?_ | refine wi_min ?_ | refine wi_lenT ?_ | refine wi_lenL ?_ | refine wi_lenF ?_
  | refine wi_itT ?_ | refine wi_itL ?_ | refine wi_itF ?_ | refine wi_itS ?_ | refine wi_tupL ?_ | refine wi_tupT ?_ | refine wi_isN ?_ | refine wi_isNN ?_ | refine wi_revL ?_ | refine wi_revT ?_ | refine wi_slT ?_ | refine wi_slL ?_ | refine wi_abs ?_ | refine wx_iEnmL ?_ | refine wx_dMeth ?_ | refine wi_intT ?_ | refine wi_inM ?_ | refine wi_notInM ?_
  | refine and_t ?_ | refine and_f ?_ | refine and_nT ?_ | refine and_nF ?_
  | refine Exists.intro _ (And.intro rfl ?_) | refine Exists.intro _ (Exists.intro _ (And.intro rfl ?_)) | refine Exists.intro _ (Exists.intro _ (Exists.intro _ (And.intro rfl ?_)))
  | (refine And.intro ?_ ?_; focus (refine Nat.le_of_ble_eq_true ?_; with_unfolding_all rfl)) | (refine And.intro ?_ ?_; focus (change okRb _ = true; with_unfolding_all rfl)) | (refine And.intro ?_ ?_; focus (change isC _ _ _ _ = true; with_unfolding_all rfl)) | (refine And.intro ?_ ?_; focus (change isI _ _ _ = true; with_unfolding_all rfl)) | (refine And.intro ?_ ?_; focus (change (isI _ _ _ && isI _ _ _) = true; with_unfolding_all rfl))))
local macro_rules | `(tactic| walk_at "w2") => `(tactic| (with_reducible first
  | (apply wx_dVar; focus (with_unfolding_all rfl)) | refine wx_dC ?_ | refine wx_dOp2 ?_ | refine wx_all ?_ | refine wx_any ?_ | refine wx_dOp1 ?_ | refine wx_gBl ?_ | refine wx_gTru ?_ | refine wx_dCall ?_ | refine wx_dCons ?_ | refine wx_dNil ?_
  | (apply en_of; focus (walk_at "en")) | refine ws_sSeq ?_ | refine ws_sRet ?_ | refine ws_sSet ?_ | refine ws_sAsg ?_ | refine ws_sPass ?_ | refine ws_sRet0 ?_ | refine ws_sAppH ?_ | refine ws_sFldD ?_ | refine ws_sAugD ?_ | refine wx_dNew ?_ | refine wx_iRan2 ?_ | refine wx_iRan3 ?_ | refine wx_fLran ?_ | refine wx_dInG ?_ | refine wx_dIxG ?_ | refine wx_dDicGet ?_ | refine wx_dCat ?_ | (apply wx_dLcall; focus (with_unfolding_all rfl); focus (with_unfolding_all rfl)) | refine wx_dDcall ?_ | refine ws_sExpr ?_ | refine ws_sOwn ?_ | refine ws_sFor ?_ | refine ws_sPar ?_ | refine ws_sPar3 ?_
  | refine ws_gNm ?_ | (apply ws_gTup; focus (with_unfolding_all rfl)) | refine ws_gNil ?_ | refine ws_gCons ?_
  | (apply wx_dOwn; focus (with_unfolding_all rfl)) | (apply wx_dOwn'; focus (with_unfolding_all rfl)) | (apply ws_frz; focus (with_unfolding_all rfl)) | (apply ws_frz'; focus (with_unfolding_all rfl)) | (apply ws_sApp; focus (with_unfolding_all rfl))
  | refine wx_dChain ?_ | refine wx_gAnd ?_ | refine wx_gOr ?_ | refine wx_gNot ?_ | refine wx_dAnd ?_ | refine wx_dOr ?_ | refine wx_dNot ?_ | refine wx_dNeg ?_
  | refine wx_dTup ?_ | refine wx_dLst ?_ | refine wx_dLstF ?_ | refine wx_dF ?_ | refine wx_oNo ?_ | refine wx_oSo ?_ | refine wx_dSl ?_ | refine wx_dM1 ?_ | refine wx_dM0 ?_ | refine wx_dFld ?_ | refine wx_dProp ?_ | refine wx_dOwn2 ?_ | refine wx_gTruC ?_ | refine wx_iSeq ?_ | refine wx_iRan ?_
  | refine wi_add ?_ | refine wi_sub ?_ | refine wi_lt ?_ | refine wi_le ?_ | refine wi_gt ?_ | refine wi_ge ?_ | refine wi_eq ?_ | refine wi_ne ?_ | refine wi_max ?_ | refine wi_min ?_ | refine wi_lenT ?_ | refine wi_lenL ?_ | refine wi_lenF ?_
  | refine wi_itT ?_ | refine wi_itL ?_ | refine wi_itF ?_ | refine wi_itS ?_ | refine wi_tupL ?_ | refine wi_tupT ?_ | refine wi_isN ?_ | refine wi_isNN ?_ | refine wi_revL ?_ | refine wi_revT ?_ | refine wi_slT ?_ | refine wi_slL ?_ | refine wi_abs ?_ | refine wx_iEnmL ?_ | refine wx_dMeth ?_ | refine wi_intT ?_ | refine wi_inM ?_ | refine wi_notInM ?_
  | refine and_t ?_ | refine and_f ?_ | refine and_nT ?_ | refine and_nF ?_
  | refine Exists.intro _ (And.intro rfl ?_) | refine Exists.intro _ (Exists.intro _ (And.intro rfl ?_)) | refine Exists.intro _ (Exists.intro _ (Exists.intro _ (And.intro rfl ?_)))
  | (refine And.intro ?_ ?_; focus (refine Nat.le_of_ble_eq_true ?_; with_unfolding_all rfl)) | (refine And.intro ?_ ?_; focus (change okRb _ = true; with_unfolding_all rfl)) | (refine And.intro ?_ ?_; focus (change isC _ _ _ _ = true; with_unfolding_all rfl)) | (refine And.intro ?_ ?_; focus (change isI _ _ _ = true; with_unfolding_all rfl)) | (refine And.intro ?_ ?_; focus (change (isI _ _ _ && isI _ _ _) = true; with_unfolding_all rfl))))
local macro_rules | `(tactic| walk_at "wp") => `(tactic| repeat' (walk_at "w1"))
local macro_rules | `(tactic| walk_at "wq") => `(tactic| repeat' (walk_at "w2"))
local macro_rules | `(tactic| walk_at "sd") => `(tactic| first | assumption | omega | (simp only [List.length_map, List.length_cons, List.length_nil]; omega) | decide)
local macro_rules | `(tactic| walk_at "ca") => `(tactic| (with_reducible first
  | refine wx_kwD rfl ?_
  | refine wi_len (by walk_at "sd") ?_
  | (refine And.intro ?_ ?_; focus (show List.length _ < 16777216; simp only [List.length_cons, List.length_nil, List.length_append, List.length_map]; omega))
  | refine and_nt rfl ?_ | refine and_nt (by omega) ?_ | refine and_dt (by omega) ?_ | refine and_df (by omega) ?_ | refine and_nf (by omega) ?_ | fail))
local macro_rules | `(tactic| walk_at "go") => `(tactic| repeat' (first | walk_at "w1" | walk_at "ca"))
local macro_rules | `(tactic| walk_at "gq") => `(tactic| repeat' (first | walk_at "w2" | walk_at "ca"))
section
def DIG : List Nat := [48, 49, 50, 51, 52, 53, 54, 55, 56, 57]
def chkI (l : List Nat) : Bool := match PySem.intText? (mk l) with
  | some v => decide (v.natAbs < 100000)
  | none => false
def chk2 (l : List Nat) : Bool := chkI l && chkI (45 :: l)
theorem chk_1 : (DIG.all fun a => chk2 [a]) = true := by kernel_rfl
theorem chk_2 : (DIG.all fun a => DIG.all fun b => chk2 [a, b]) = true := by kernel_rfl
theorem chk_3 : (DIG.all fun a => DIG.all fun b => DIG.all fun c => chk2 [a, b, c]) = true := by kernel_rfl
theorem chk_all {l : List Nat} (h : ∀ c ∈ l, c ∈ DIG) (h1 : 1 ≤ l.length) (h2 : l.length ≤ 3) : chk2 l = true := by
  match l, h1, h2 with
  | [a], _, _ => exact List.all_eq_true.mp chk_1 a (h a (by simp))
  | [a, b], _, _ => exact List.all_eq_true.mp (List.all_eq_true.mp chk_2 a (h a (by simp))) b (h b (by simp))
  | [a, b, c], _, _ => exact List.all_eq_true.mp (List.all_eq_true.mp (List.all_eq_true.mp chk_3 a (h a (by simp))) b (h b (by simp))) c (h c (by simp))
  | _ :: _ :: _ :: _ :: _, _, h2 => simp only [List.length_cons] at h2; omega
theorem chk_ex {l : List Nat} (h : chkI l = true) : ∃ v, PySem.intText? (mk l) = some v ∧ v.natAbs < 100000 := by
  unfold chkI at h
  cases e : PySem.intText? (mk l) with
  | none => rw [e] at h; cases h
  | some v => rw [e] at h; exact ⟨v, rfl, of_decide_eq_true h⟩
def IN (d : AM.D) : Prop := d = .non ∨ ∃ i : Int, d = .int i
theorem asc_take {t : List Nat} (h : asc t = true) (n : Nat) : asc (t.take n) = true := by
  unfold asc at h ⊢
  rw [List.all_eq_true] at h ⊢
  exact fun c hc => h c (List.mem_of_mem_take hc)
theorem asc_drop {t : List Nat} (h : asc t = true) (n : Nat) : asc (t.drop n) = true := by
  unfold asc at h ⊢
  rw [List.all_eq_true] at h ⊢
  exact fun c hc => h c (List.mem_of_mem_drop hc)
section
variable {U : List Nat} {st : Sto} {V : AM.D → Sto → Prop}
theorem wi_intS {l : List Nat} {v : Int} (h : PySem.intText? (mk l) = some v) (hl : l.length ≤ 600) (hv : V (.int v) st) : Wx (oIntT (.str (mk l)) st) V := by
  refine wx_eq (a := .int v) (st := st) ?_ hv
  show (match PySem.intText? (mk l) with
    | some n => if (mk l).length ≤ 640 then Res.ok (AM.D.int n) st else .bad
    | none => .bad) = _
  rw [h]
  show (if (mk l).length ≤ 640 then Res.ok (AM.D.int v) st else .bad) = _
  rw [if_pos (by rw [mk_len]; omega)]
theorem w_integer {t : List Nat} (ha : asc t = true) (hl : t.length ≤ 500) (k : ∀ d, IN d → V d st) : Wx (F_integer_in U [.str (mk t)] st) V := by
  unfold F_integer_in
  rw [s_m, s_dig]
  refine wx_run rfl ?_
  refine ws_sSeq (ws_sSet (wx_mono (P := fun d s => (∃ l, d = .str (mk l) ∧ (l = t ∨ t = 45 :: l)) ∧ s = st) ?_ ?_))
  · walk_at "go"
    refine wi_slS (by omega) ?_
    rw [cut_head]
    walk_at "go"
    refine wi_eqM (asc_take ha 1) rfl ?_
    walk_at "go"
    refine and_by (fun q => ?_) (fun q => ?_)
    · walk_at "go"
      refine wi_slS (by omega) ?_
      rw [cut_tail]
      refine ⟨⟨_, rfl, .inr ?_⟩, rfl⟩
      match t, q with
      | a :: r, q => cases q; rfl
    · walk_at "go"
      exact ⟨⟨t, rfl, .inl rfl⟩, rfl⟩
  rintro _ s ⟨⟨l, rfl, hlt⟩, e⟩
  obtain rfl := e.symm
  have ll : l.length ≤ 500 := by
    rcases hlt with rfl | rfl
    · exact hl
    · rw [List.length_cons] at hl; omega
  walk_at "gq"
  refine ws_sIf ?_
  walk_at "go"
  refine and_by (fun q1 => ?_) (fun q1 => ?_)
  · walk_at "go"
    refine and_nby (fun q2 => ?_) (fun q2 => ?_)
    · walk_at "go"
      exact k _ (.inl rfl)
    · walk_at "go"
      refine wx_comp (g := fun c => .str (mk [c])) (xs := l) (fun c => .bl (!decide (c ∈ DIG))) rfl ?_
      walk_at "go"
      refine ⟨rfl, by omega, fun c hc => ?_, ?_⟩
      · walk_at "go"
        exact ⟨rfl, rfl⟩
      refine ⟨l.map fun c => !decide (c ∈ DIG), by rw [List.map_map]; rfl, ?_⟩
      walk_at "go"
      refine ⟨fun q3 => ?_, fun q3 => ?_⟩
      · walk_at "go"
        exact k _ (.inl rfl)
      · have hd : ∀ c ∈ l, c ∈ DIG := fun c hc => by
          rw [List.any_map, List.any_eq_false] at q3
          have := q3 c hc
          simpa using this
        have ck := Bool.and_eq_true_iff.mp (chk_all hd (by omega) (by omega))
        obtain ⟨v, hv, hb⟩ : ∃ v, PySem.intText? (mk t) = some v ∧ v.natAbs < 100000 := by
          rcases hlt with e | e
          · rw [← e]; exact chk_ex ck.1
          · rw [e]; exact chk_ex ck.2
        have nb : v.natAbs < 10 ^ 500 := Nat.lt_of_lt_of_le hb (Nat.le_trans (by decide : (100000 : Nat) ≤ 10 ^ 6) (Nat.pow_le_pow_right (by decide) (by decide)))
        walk_at "go"
        refine wi_intS hv (by omega) ?_
        refine wx_eq (ev_fmtI nb _) ?_
        walk_at "go"
        refine wi_eqM (numI_asc v) ha ?_
        walk_at "go"
        refine and_by (fun q4 => ?_) (fun q4 => ?_)
        · walk_at "go"
          refine wi_intS hv (by omega) ?_
          exact k _ (.inr ⟨v, rfl⟩)
        · walk_at "go"
          exact k _ (.inl rfl)
  · walk_at "go"
    exact k _ (.inl rfl)
theorem w_factor {t : List Nat} (ha : asc t = true) (hl : t.length ≤ 500) (k : ∀ d, IN d → V d st) : Wx (F_factor_in U [.str (mk t)] st) V := by
  unfold F_factor_in
  refine wx_run rfl ?_
  refine ws_sRet ?_
  obtain ⟨d, s, e, hd, e2⟩ := wx_ex (w_integer (U := U) (V := fun d s => IN d ∧ s = st) (st := st) ha hl fun d h => ⟨h, rfl⟩)
  obtain rfl := e2.symm
  have key : ∀ (x : AM.D), V ((valD [(.inr "", .int (1)), (.inr "-", .int (-1))] (.inr (mk t))).getD d) st → Wx (dDget [(.inr "", .int (1)), (.inr "-", .int (-1))] (dVar 0) (dCall (F_integer_in U) (dCons (dVar 0) dNil)) [.sh (.str (mk t))] st) V := fun x hx => by
    refine wx_eq (a := (valD [(.inr "", .int (1)), (.inr "-", .int (-1))] (.inr (mk t))).getD d) (st := st) ?_ hx
    have kd : ∀ x, keyD (.str x) = some (.inr x) := fun x => rfl
    simp [kd, e]
  refine key .non (k _ ?_)
  unfold valD
  simp only [List.find?_cons, List.find?_nil]
  split
  · exact .inr ⟨1, rfl⟩
  · split
    · exact .inr ⟨-1, rfl⟩
    · exact hd
theorem w_over {t : List Nat} (ha : asc t = true) (hl : t.length ≤ 500) (k : ∀ d, IN d → V d st) : Wx (F_over_in U [.str (mk t)] st) V := by
  unfold F_over_in
  rw [s_0, s_p]
  refine wx_run rfl ?_
  refine ws_sSeq (ws_sIf ?_)
  walk_at "go"
  refine wi_eqM ha rfl ?_
  walk_at "go"
  refine and_by (fun q => ?_) (fun q => ?_)
  · walk_at "go"
    exact k _ (.inr ⟨0, rfl⟩)
  · walk_at "go"
    refine wi_slS (by omega) ?_
    rw [cut_head]
    walk_at "go"
    refine wi_eqM (asc_take ha 1) rfl ?_
    walk_at "go"
    refine and_by (fun q => ?_) (fun q => ?_)
    · walk_at "go"
      refine wi_slS (by omega) ?_
      rw [cut_tail]
      walk_at "go"
      exact w_integer (asc_drop ha 1) (by rw [List.length_drop]; omega) k
    · walk_at "go"
      exact w_integer ha hl k
end
end
section
theorem btw_IN {x : AM.D} (h : IN x) (m : Int) : ∃ b, (∀ st, F_is_between U0 [x, .int (-m), .int m] st = .ok (.bl b) st) ∧ (b = true → ∃ i : Int, x = .int i ∧ -m ≤ i ∧ i ≤ m) := by
  rcases h with rfl | ⟨i, rfl⟩
  · exact ⟨false, fun st => by kernel_rfl, fun h => nomatch h⟩
  · refine ⟨_, fun st => p_is_between i (-m) m st, fun h => ?_⟩
    rw [Bool.and_eq_true, decide_eq_true_eq, decide_eq_true_eq] at h
    exact ⟨i, rfl, h⟩
theorem blk_any {a : List Nat} {x y : AM.D} (hl : a.length ≤ 16777216) (hx : IN x) (hy : IN y) : ∃ b, (∀ st, F_is_block U0 [.tup [.str (mk a), x, y]] st = .ok (.bl b) st) ∧ (b = true → ∃ p q, x = .int p ∧ y = .int q ∧ okB a p q) := by
  have e0 : ∀ st, oIx (.tup [.str (mk a), x, y]) (.int 0) st = .ok (.str (mk a)) st := fun st => rfl
  have e1 : ∀ st, oIx (.tup [.str (mk a), x, y]) (.int 1) st = .ok x st := fun st => rfl
  have e2 : ∀ st, oIx (.tup [.str (mk a), x, y]) (.int 2) st = .ok y st := fun st => rfl
  have et : ∀ st, oIsi (is_tuple U0) (.tup [.str (mk a), x, y]) st = .ok (.bl true) st := fun st => rfl
  have el : ∀ st, oLen (.tup [.str (mk a), x, y]) st = .ok (.int 3) st := fun st => rfl
  have s9 : ∀ st, oSub (.int 0) (.int 9) st = .ok (.int (-9)) st := fun st => rfl
  have s99 : ∀ st, oSub (.int 0) (.int 99) st = .ok (.int (-99)) st := fun st => rfl
  obtain ⟨b1, h1, k1⟩ := btw_IN hx 9
  obtain ⟨b2, h2, k2⟩ := btw_IN hy 99
  have hw := p_is_word (U := U0) hl
  by_cases ha : (a.all fun c => decide (c ∈ LET)) = true
  · rw [ha] at hw
    by_cases g1 : (1 : Int) ≤ a.length
    · by_cases g2 : (a.length : Int) ≤ 12
      · refine ⟨b1 && b2, fun st => ?_, fun hb => ?_⟩
        · unfold F_is_block
          refine runD_rt rfl ?_
          cases b1 with
          | true => simp [et, el, e0, hw, ev_lenS hl, e1, e2, g1, g2, s9, s99, h1, h2]
          | false => simp [et, el, e0, hw, ev_lenS hl, e1, e2, g1, g2, s9, s99, h1, h2]
        · obtain ⟨z1, z2⟩ := Bool.and_eq_true_iff.mp hb
          obtain ⟨p, rfl, p1, p2⟩ := k1 z1
          obtain ⟨q, rfl, q1, q2⟩ := k2 z2
          refine ⟨p, q, rfl, rfl, ?_, p1, p2, q1, q2⟩
          unfold okW
          rw [ha, decide_eq_true (by omega), decide_eq_true (by omega)]
          rfl
      · refine ⟨false, fun st => ?_, fun h => nomatch h⟩
        unfold F_is_block
        refine runD_rt rfl ?_
        simp [et, el, e0, hw, ev_lenS hl, g1, g2]
    · refine ⟨false, fun st => ?_, fun h => nomatch h⟩
      unfold F_is_block
      refine runD_rt rfl ?_
      simp [et, el, e0, hw, ev_lenS hl, g1]
  · rw [Bool.not_eq_true] at ha
    rw [ha] at hw
    refine ⟨false, fun st => ?_, fun h => nomatch h⟩
    unfold F_is_block
    refine runD_rt rfl ?_
    simp [et, el, e0, hw]
inductive Prt (c : Nat) (t : List Nat) : List Nat → List Nat → List Nat → Prop
  | yes {a r : List Nat} : t = a ++ c :: r → c ∉ a → Prt c t a [c] r
  | no : c ∉ t → Prt c t t [] []
theorem first_at {c : Nat} : ∀ {t : List Nat}, c ∈ t → ∃ a r, t = a ++ c :: r ∧ c ∉ a
  | x :: t, h => by
    by_cases e : x = c
    · subst e
      exact ⟨[], t, rfl, by simp⟩
    · obtain ⟨a, r, e1, e2⟩ := first_at ((List.mem_cons.mp h).resolve_left fun z => e z.symm)
      exact ⟨x :: a, r, by rw [e1]; rfl, fun z => (List.mem_cons.mp z).elim (fun z => e z.symm) e2⟩
theorem prt_ex (c : Nat) (t : List Nat) : ∃ a s r, Prt c t a s r := by
  by_cases h : c ∈ t
  · obtain ⟨a, r, e, n⟩ := first_at h
    exact ⟨a, [c], r, .yes e n⟩
  · exact ⟨t, [], [], .no h⟩
theorem Prt.ev {c : Nat} {t a s r : List Nat} (h : Prt c t a s r) (hl : t.length ≤ 16000000) (st : Sto) : sPartition (mk t) (.str (mk [c])) st = .ok (.tup [.str (mk a), .str (mk s), .str (mk r)]) st := by
  cases h with
  | yes e n =>
    subst e
    rw [List.length_append, List.length_cons] at hl
    exact ev_partS n (by omega) st
  | no n => exact ev_partN n (by omega) st
theorem Prt.sub {c : Nat} {t a s r : List Nat} (h : Prt c t a s r) (ht : asc t = true) : asc a = true ∧ asc r = true ∧ a.length ≤ t.length ∧ r.length ≤ t.length ∧ asc s = true := by
  cases h with
  | yes e n =>
    subst e
    unfold asc at ht ⊢
    rw [List.all_append, List.all_cons] at ht
    obtain ⟨h1, h2⟩ := Bool.and_eq_true_iff.mp ht
    obtain ⟨h2, h3⟩ := Bool.and_eq_true_iff.mp h2
    refine ⟨h1, h3, by rw [List.length_append]; omega, by rw [List.length_append, List.length_cons]; omega, ?_⟩
    rw [List.all_cons, h2]
    rfl
  | no n => exact ⟨ht, rfl, Nat.le_refl _, Nat.zero_le _, rfl⟩
section
variable {st : Sto} {V : AM.D → Sto → Prop}
theorem wi_part {c : Nat} {t a s r : List Nat} (h : Prt c t a s r) (hl : t.length ≤ 16000000) (hv : V (.tup [.str (mk a), .str (mk s), .str (mk r)]) st) : Wx (sPartition (mk t) (.str (mk [c])) st) V := wx_eq (h.ev hl st) hv
theorem w_block {t : List Nat} (ha : asc t = true) (hl : t.length ≤ 400) (k : ∀ d, ((∃ b, okb b ∧ tx b = t ∧ d = bD b) ∨ (d = .non ∧ ∀ b, okb b → tx b ≠ t)) → V d st) : Wx (F_block_in U0 [.str (mk t)] st) V := by
  by_cases h : ∃ b, okb b ∧ tx b = t
  · obtain ⟨b, hb, rfl⟩ := h
    exact wx_eq (p_block_in (U := U0) hb st) (k _ (.inl ⟨b, hb, rfl, rfl⟩))
  · have no : ∀ b, okb b → tx b ≠ t := fun b hb e => h ⟨b, hb, e⟩
    obtain ⟨a, s, r, hp⟩ := prt_ex 94 t
    obtain ⟨h1, h2, h3, h4, h5⟩ := hp.sub ha
    obtain ⟨a2, s2, r2, hp2⟩ := prt_ex 110 r
    obtain ⟨g1, g2, g3, g4, g5⟩ := hp2.sub h2
    unfold F_block_in
    rw [s_94, s_n]
    refine wx_run rfl ?_
    walk_at "gq"
    refine wi_part hp (by omega) ?_
    walk_at "gq"
    refine wi_part hp2 (by omega) ?_
    walk_at "gq"
    refine wx_mono (P := fun d s' => IN d ∧ s' = st) ?_ ?_
    · refine wx_dIf ?_
      walk_at "go"
      refine wi_eqM g5 rfl ?_
      walk_at "go"
      refine and_by (fun q => ?_) (fun q => ?_)
      · walk_at "go"
        exact w_factor g1 (by omega) fun d hd => ⟨hd, rfl⟩
      · walk_at "go"
        exact ⟨.inr ⟨0, rfl⟩, rfl⟩
    rintro x s' ⟨hx, e⟩
    obtain rfl := e.symm
    walk_at "gq"
    refine wx_mono (P := fun d s2 => IN d ∧ s2 = st) ?_ ?_
    · refine wx_dIf ?_
      walk_at "go"
      refine wi_eqM g5 rfl ?_
      walk_at "go"
      refine and_by (fun q => ?_) (fun q => ?_)
      · walk_at "go"
        exact w_over g2 (by omega) fun d hd => ⟨hd, rfl⟩
      · walk_at "go"
        exact w_integer h2 (by omega) fun d hd => ⟨hd, rfl⟩
    rintro y s' ⟨hy, e⟩
    obtain rfl := e.symm
    obtain ⟨b, hb, kb⟩ := blk_any (by omega : a.length ≤ 16777216) hx hy
    walk_at "gq"
    refine wx_dIf ?_
    walk_at "gq"
    refine wx_eq (hb st) ?_
    walk_at "gq"
    cases b with
    | false =>
      walk_at "go"
      exact k _ (.inr ⟨rfl, no⟩)
    | true =>
      obtain ⟨p, q, rfl, rfl, ho⟩ := kb rfl
      walk_at "gq"
      refine wx_eq (p_text_of (U := U0) ho st) ?_
      walk_at "gq"
      refine wi_eqM (txt_asc ho.1 p q) ha ?_
      rw [decide_eq_false (show ¬ txt a p q = t from no (a, p, q) ho)]
      walk_at "go"
      exact k _ (.inr ⟨rfl, no⟩)
end
end
section
theorem tx_inj {b c : Bk} (hb : okb b) (hc : okb c) (h : tx b = tx c) : b = c := by
  have e1 := p_block_in (U := U0) hb []
  have e2 := p_block_in (U := U0) hc []
  have h : txt b.1 b.2.1 b.2.2 = txt c.1 c.2.1 c.2.2 := h
  rw [h, e2] at e1
  have e3 : dB c.1 c.2.1 c.2.2 = dB b.1 b.2.1 b.2.2 := by
    injection e1
  obtain ⟨w, p, q⟩ := b
  obtain ⟨w', p', q'⟩ := c
  unfold dB at e3
  simp only [AM.D.tup.injEq, List.cons.injEq, AM.D.str.injEq, AM.D.int.injEq, and_true] at e3
  obtain ⟨a1, a2, a3⟩ := e3
  rw [mk_inj.mp a1, a2, a3]
open Classical in
noncomputable def rdP (p : List Nat) : AM.D := if h : ∃ b, okb b ∧ tx b = p then bD h.choose else .non
theorem rdP_yes {b : Bk} (h : okb b) : rdP (tx b) = bD b := by
  have hx : ∃ c, okb c ∧ tx c = tx b := ⟨b, h, rfl⟩
  unfold rdP
  rw [dif_pos hx]
  rw [tx_inj hx.choose_spec.1 h hx.choose_spec.2]
theorem rdP_no {p : List Nat} (h : ∀ b, okb b → tx b ≠ p) : rdP p = .non := by
  unfold rdP
  rw [dif_neg fun ⟨b, hb, e⟩ => h b hb e]
theorem rdP_or (p : List Nat) : (∃ b, okb b ∧ tx b = p ∧ rdP p = bD b) ∨ (rdP p = .non ∧ ∀ b, okb b → tx b ≠ p) := by
  by_cases h : ∃ b, okb b ∧ tx b = p
  · obtain ⟨b, hb, rfl⟩ := h
    exact .inl ⟨b, hb, rfl, rdP_yes hb⟩
  · have no : ∀ b, okb b → tx b ≠ p := fun b hb e => h ⟨b, hb, e⟩
    exact .inr ⟨rdP_no no, no⟩
theorem p_block {t : List Nat} (ha : asc t = true) (hl : t.length ≤ 400) (st : Sto) : F_block_in U0 [.str (mk t)] st = .ok (rdP t) st := by
  have : Wx (F_block_in U0 [.str (mk t)] st) fun d s => d = rdP t ∧ s = st := w_block ha hl fun d h => by
    rcases h with ⟨b, hb, rfl, rfl⟩ | ⟨rfl, no⟩
    · exact ⟨(rdP_yes hb).symm, rfl⟩
    · exact ⟨(rdP_no no).symm, rfl⟩
  obtain ⟨d, s, e, rfl, rfl⟩ := wx_ex this
  exact e
theorem split_ex : ∀ (n : Nat) (t : List Nat), t.length ≤ n → asc t = true → ∃ ps : List (List Nat), ps ≠ [] ∧ (∀ p ∈ ps, 32 ∉ p) ∧ t = joinL [32] ps ∧ (∀ p ∈ ps, p.length ≤ t.length ∧ asc p = true) ∧ ps.length ≤ t.length + 1
  | n, t, hn, ha => by
    by_cases h : 32 ∈ t
    · obtain ⟨a, r, e, no⟩ := first_at h
      match n, hn with
      | 0, hn => rw [e, List.length_append, List.length_cons] at hn; omega
      | n + 1, hn =>
        have hs := (Prt.yes (c := 32) e no).sub ha
        have lr : r.length ≤ n := by rw [e, List.length_append, List.length_cons] at hn; omega
        obtain ⟨ps, h1, h2, h3, h4, h5⟩ := split_ex n r lr hs.2.1
        refine ⟨a :: ps, by simp, fun p hp => (List.mem_cons.mp hp).elim (fun z => z ▸ no) (h2 p), ?_, fun p hp => (List.mem_cons.mp hp).elim (fun z => z ▸ ⟨hs.2.2.1, hs.1⟩) fun hp => ⟨Nat.le_trans (h4 p hp).1 hs.2.2.2.1, (h4 p hp).2⟩, ?_⟩
        · match ps, h1, h3 with
          | p :: ps, _, h3 =>
            have ej : joinL [32] (a :: p :: ps) = a ++ ([32] ++ joinL [32] (p :: ps)) := by
              first | rfl | (simp [joinL]) | (unfold joinL; simp)
            rw [ej, ← h3, e]
            rfl
        · rw [List.length_cons, e, List.length_append, List.length_cons]
          omega
    · exact ⟨[t], by simp, fun p hp => by rw [List.mem_singleton.mp hp]; exact h, rfl, fun p hp => by rw [List.mem_singleton.mp hp]; exact ⟨Nat.le_refl _, ha⟩, by simp⟩
theorem rows_ex : ∀ {ps : List (List Nat)}, (∀ p ∈ ps, ∃ b, okb b ∧ tx b = p) → ∃ R : List Bk, ps = R.map tx ∧ ∀ b ∈ R, okb b
  | [], _ => ⟨[], rfl, fun _ h => nomatch h⟩
  | p :: ps, h => by
    obtain ⟨b, hb, e⟩ := h p List.mem_cons_self
    obtain ⟨R, e2, h2⟩ := rows_ex fun x hx => h x (List.mem_cons_of_mem _ hx)
    exact ⟨b :: R, by rw [List.map_cons, e, ← e2], fun x hx => (List.mem_cons.mp hx).elim (fun z => z ▸ hb) (h2 x)⟩
def NONE : List Nat := [110, 111, 110, 101]
theorem rtx_parts {ps : List (List Nat)} {R : List Bk} (hp : ps ≠ []) (e : ps = R.map tx) : rtx R = joinL [32] ps := by
  have hR : R ≠ [] := fun z => hp (by rw [e, z]; rfl)
  unfold rtx
  rw [if_neg hR, ← e]
def NoR (t : List Nat) : Prop := ∀ R : List Bk, (∀ b ∈ R, okb b) → R.length ≤ 12 → rtx R ≠ t
section
variable {st : Sto} {V : AM.D → Sto → Prop}
noncomputable def isB (p : List Nat) : Bool := match rdP p with
  | .non => false
  | _ => true
theorem isB_ok (p : List Nat) (st : Sto) : F_is_block U0 [rdP p] st = .ok (.bl (isB p)) st ∧ (isB p = true → ∃ c, okb c ∧ tx c = p) := by
  unfold isB
  rcases rdP_or p with ⟨b, hb, e, e2⟩ | ⟨e, no⟩
  · rw [e2]
    exact ⟨by rw [p_blockN hb.1, decide_eq_true hb]; rfl, fun _ => ⟨b, hb, e⟩⟩
  · rw [e]
    exact ⟨by kernel_rfl, fun h => nomatch h⟩
theorem w_blocks {t : List Nat} (ha : asc t = true) (hl : t.length ≤ 390) (k : ∀ d, ((∃ R : List Bk, (∀ b ∈ R, okb b) ∧ R.length ≤ 12 ∧ rtx R = t ∧ d = .tup (R.map bD)) ∨ (d = .non ∧ NoR t)) → V d st) : Wx (F_blocks_in U0 [.str (mk t)] st) V := by
  by_cases h : ∃ R : List Bk, (∀ b ∈ R, okb b) ∧ R.length ≤ 12 ∧ rtx R = t
  · obtain ⟨R, h1, h2, rfl⟩ := h
    exact wx_eq (p_blocks_in (U := U0) h1 h2 st) (k _ (.inl ⟨R, h1, h2, rfl, rfl⟩))
  have no : NoR t := fun R h1 h2 e => h ⟨R, h1, h2, e⟩
  have n0 : t ≠ NONE := fun e => no [] (fun _ z => nomatch z) (by decide) e.symm
  obtain ⟨ps, p1, p2, p3, p4, p5⟩ := split_ex t.length t (Nat.le_refl _) ha
  unfold F_blocks_in
  rw [s_none, s_sp]
  refine wx_run rfl ?_
  refine ws_sSeq (ws_sIf ?_)
  walk_at "go"
  refine wi_eqM ha rfl ?_
  refine ⟨_, rfl, and_df n0 ?_⟩
  walk_at "go"
  refine wx_comp (g := fun p => .str (mk p)) (xs := ps) rdP rfl ?_
  walk_at "go"
  refine wx_eq (a := .lst (ps.map fun p => .str (mk p))) (st := st) ?_ ?_
  · rw [p3]
    exact ev_splitS (c := 32) (by decide) p1 p2 (by rw [← p3]; omega) st
  walk_at "go"
  refine ⟨rfl, by omega, fun p hp => ?_, ?_⟩
  · walk_at "go"
    exact wx_eq (p_block (p4 p hp).2 (by have := (p4 p hp).1; omega) st) ⟨rfl, rfl⟩
  walk_at "go"
  -- are_blocks
  refine wx_mono (P := fun d s => d = .bl false ∧ s = st) ?_ ?_
  · unfold F_are_blocks
    refine wx_run rfl ?_
    refine ws_sSeq (ws_sIf ?_)
    walk_at "go"
    refine wx_eq (a := .bl true) (st := st) rfl ?_
    walk_at "go"
    rw [List.length_map]
    refine and_by (fun q => ?_) (fun q => ?_)
    · walk_at "go"
      exact ⟨rfl, rfl⟩
    · walk_at "go"
      refine wx_comp (g := rdP) (xs := ps) (fun p => .bl (isB p)) rfl ?_
      walk_at "go"
      refine ⟨rfl, by omega, fun p hp => ?_, ?_⟩
      · walk_at "go"
        exact wx_eq (isB_ok p st).1 ⟨rfl, rfl⟩
      refine ⟨ps.map isB, by rw [List.map_map]; rfl, ?_⟩
      refine ⟨?_, rfl⟩
      congr 1
      rw [Bool.eq_false_iff]
      intro hall
      rw [List.all_map, List.all_eq_true] at hall
      obtain ⟨R, e, hR⟩ := rows_ex fun p hp => (isB_ok p st).2 (hall p hp)
      exact no R hR (by have := congrArg List.length e; rw [List.length_map] at this; omega) (by rw [rtx_parts p1 e, ← p3])
  rintro _ s ⟨rfl, e⟩
  obtain rfl := e.symm
  walk_at "go"
  exact k _ (.inr ⟨rfl, no⟩)
end
end
end KP
namespace K04
open PySem PySem.Spec PyProof.Rows L2 AM TL KP KL
local macro_rules | `(tactic| walk_at "en") => `(tactic| ((try simp only [List.map_cons, List.map_nil, List.replicate, List.replicate_zero, List.replicate_succ, List.cons_append, List.nil_append, List.set_cons_zero, List.set_cons_succ, Nat.reduceSub, Nat.reduceAdd, List.reduceReplicate, AM.putAll, AM.wipeE, List.foldl_cons, List.foldl_nil, List.zip_cons_cons, List.zip_nil_left, List.zip_nil_right]); with_unfolding_all rfl))
local macro_rules | `(tactic| walk_at "w1") => `(tactic| (with_reducible first
  | (apply wx_dVar; focus (with_unfolding_all rfl)) | refine wx_dC ?_ | refine wx_dOp2 ?_ | refine wx_all ?_ | refine wx_any ?_ | refine wx_dOp1 ?_ | refine wx_gBl ?_ | refine wx_gTru ?_ | refine wx_dCall ?_ | refine wx_dCons ?_ | refine wx_dNil ?_
  | (apply en_of; focus (walk_at "en")) | refine ws_sSeq ?_ | refine ws_sIf ?_ | refine ws_sRet ?_ | refine ws_sSet ?_ | refine ws_sAsg ?_ | refine ws_sPass ?_ | refine ws_sRet0 ?_ | refine ws_sAppH ?_ | refine ws_sFldD ?_ | refine ws_sAugD ?_ | refine wx_dNew ?_ | refine wx_iRan2 ?_ | refine wx_iRan3 ?_ | refine wx_fLran ?_ | refine wx_dInG ?_ | refine wx_dIxG ?_ | refine wx_dDicGet ?_ | refine wx_dCat ?_ | (apply wx_dLcall; focus (with_unfolding_all rfl); focus (with_unfolding_all rfl)) | refine wx_dDcall ?_ | refine ws_sExpr ?_ | refine ws_sOwn ?_ | refine ws_sFor ?_ | refine ws_sPar ?_ | refine ws_sPar3 ?_
  | refine ws_gNm ?_ | (apply ws_gTup; focus (with_unfolding_all rfl)) | refine ws_gNil ?_ | refine ws_gCons ?_
  | (apply wx_dOwn; focus (with_unfolding_all rfl)) | (apply wx_dOwn'; focus (with_unfolding_all rfl)) | (apply ws_frz; focus (with_unfolding_all rfl)) | (apply ws_frz'; focus (with_unfolding_all rfl)) | (apply ws_sApp; focus (with_unfolding_all rfl))
  | refine wx_dChain ?_ | refine wx_gAnd ?_ | refine wx_gOr ?_ | refine wx_gNot ?_ | refine wx_dAnd ?_ | refine wx_dOr ?_ | refine wx_dNot ?_ | refine wx_dIf ?_ | refine wx_dNeg ?_
  | refine wx_dTup ?_ | refine wx_dLst ?_ | refine wx_dLstF ?_ | refine wx_dF ?_ | refine wx_oNo ?_ | refine wx_oSo ?_ | refine wx_dSl ?_ | refine wx_dM1 ?_ | refine wx_dM0 ?_ | refine wx_dFld ?_ | refine wx_dProp ?_ | refine wx_dOwn2 ?_ | refine wx_gTruC ?_ | refine wx_iSeq ?_ | refine wx_iRan ?_
  | refine wi_add ?_ | refine wi_sub ?_ | refine wi_lt ?_ | refine wi_le ?_ | refine wi_gt ?_ | refine wi_ge ?_ | refine wi_eq ?_ | refine wi_ne ?_ | refine wi_max ?_ | refine wi_min ?_ | refine wi_lenT ?_ | refine wi_lenL ?_ | refine wi_lenF ?_
  | refine wi_itT ?_ | refine wi_itL ?_ | refine wi_itF ?_ | refine wi_itS ?_ | refine wi_tupL ?_ | refine wi_tupT ?_ | refine wi_isN ?_ | refine wi_isNN ?_ | refine wi_revL ?_ | refine wi_revT ?_ | refine wi_slT ?_ | refine wi_slL ?_ | refine wi_abs ?_ | refine wx_iEnmL ?_ | refine wx_dMeth ?_ | refine wi_intT ?_ | refine wi_inM ?_ | refine wi_notInM ?_
  | refine and_t ?_ | refine and_f ?_ | refine and_nT ?_ | refine and_nF ?_
  | refine Exists.intro _ (And.intro rfl ?_) | refine Exists.intro _ (Exists.intro _ (And.intro rfl ?_)) | refine Exists.intro _ (Exists.intro _ (Exists.intro _ (And.intro rfl ?_)))
  | (refine And.intro ?_ ?_; focus (refine Nat.le_of_ble_eq_true ?_; with_unfolding_all rfl)) | (refine And.intro ?_ ?_; focus (change okRb _ = true; with_unfolding_all rfl)) | (refine And.intro ?_ ?_; focus (change isC _ _ _ _ = true; with_unfolding_all rfl)) | (refine And.intro ?_ ?_; focus (change isI _ _ _ = true; with_unfolding_all rfl)) | (refine And.intro ?_ ?_; focus (change (isI _ _ _ && isI _ _ _) = true; with_unfolding_all rfl))))
local macro_rules | `(tactic| walk_at "w2") => `(tactic| (with_reducible first
  | (apply wx_dVar; focus (with_unfolding_all rfl)) | refine wx_dC ?_ | refine wx_dOp2 ?_ | refine wx_all ?_ | refine wx_any ?_ | refine wx_dOp1 ?_ | refine wx_gBl ?_ | refine wx_gTru ?_ | refine wx_dCall ?_ | refine wx_dCons ?_ | refine wx_dNil ?_
  | (apply en_of; focus (walk_at "en")) | refine ws_sSeq ?_ | refine ws_sRet ?_ | refine ws_sSet ?_ | refine ws_sAsg ?_ | refine ws_sPass ?_ | refine ws_sRet0 ?_ | refine ws_sAppH ?_ | refine ws_sFldD ?_ | refine ws_sAugD ?_ | refine wx_dNew ?_ | refine wx_iRan2 ?_ | refine wx_iRan3 ?_ | refine wx_fLran ?_ | refine wx_dInG ?_ | refine wx_dIxG ?_ | refine wx_dDicGet ?_ | refine wx_dCat ?_ | (apply wx_dLcall; focus (with_unfolding_all rfl); focus (with_unfolding_all rfl)) | refine wx_dDcall ?_ | refine ws_sExpr ?_ | refine ws_sOwn ?_ | refine ws_sFor ?_ | refine ws_sPar ?_ | refine ws_sPar3 ?_
  | refine ws_gNm ?_ | (apply ws_gTup; focus (with_unfolding_all rfl)) | refine ws_gNil ?_ | refine ws_gCons ?_
  | (apply wx_dOwn; focus (with_unfolding_all rfl)) | (apply wx_dOwn'; focus (with_unfolding_all rfl)) | (apply ws_frz; focus (with_unfolding_all rfl)) | (apply ws_frz'; focus (with_unfolding_all rfl)) | (apply ws_sApp; focus (with_unfolding_all rfl))
  | refine wx_dChain ?_ | refine wx_gAnd ?_ | refine wx_gOr ?_ | refine wx_gNot ?_ | refine wx_dAnd ?_ | refine wx_dOr ?_ | refine wx_dNot ?_ | refine wx_dNeg ?_
  | refine wx_dTup ?_ | refine wx_dLst ?_ | refine wx_dLstF ?_ | refine wx_dF ?_ | refine wx_oNo ?_ | refine wx_oSo ?_ | refine wx_dSl ?_ | refine wx_dM1 ?_ | refine wx_dM0 ?_ | refine wx_dFld ?_ | refine wx_dProp ?_ | refine wx_dOwn2 ?_ | refine wx_gTruC ?_ | refine wx_iSeq ?_ | refine wx_iRan ?_
  | refine wi_add ?_ | refine wi_sub ?_ | refine wi_lt ?_ | refine wi_le ?_ | refine wi_gt ?_ | refine wi_ge ?_ | refine wi_eq ?_ | refine wi_ne ?_ | refine wi_max ?_ | refine wi_min ?_ | refine wi_lenT ?_ | refine wi_lenL ?_ | refine wi_lenF ?_
  | refine wi_itT ?_ | refine wi_itL ?_ | refine wi_itF ?_ | refine wi_itS ?_ | refine wi_tupL ?_ | refine wi_tupT ?_ | refine wi_isN ?_ | refine wi_isNN ?_ | refine wi_revL ?_ | refine wi_revT ?_ | refine wi_slT ?_ | refine wi_slL ?_ | refine wi_abs ?_ | refine wx_iEnmL ?_ | refine wx_dMeth ?_ | refine wi_intT ?_ | refine wi_inM ?_ | refine wi_notInM ?_
  | refine and_t ?_ | refine and_f ?_ | refine and_nT ?_ | refine and_nF ?_
  | refine Exists.intro _ (And.intro rfl ?_) | refine Exists.intro _ (Exists.intro _ (And.intro rfl ?_)) | refine Exists.intro _ (Exists.intro _ (Exists.intro _ (And.intro rfl ?_)))
  | (refine And.intro ?_ ?_; focus (refine Nat.le_of_ble_eq_true ?_; with_unfolding_all rfl)) | (refine And.intro ?_ ?_; focus (change okRb _ = true; with_unfolding_all rfl)) | (refine And.intro ?_ ?_; focus (change isC _ _ _ _ = true; with_unfolding_all rfl)) | (refine And.intro ?_ ?_; focus (change isI _ _ _ = true; with_unfolding_all rfl)) | (refine And.intro ?_ ?_; focus (change (isI _ _ _ && isI _ _ _) = true; with_unfolding_all rfl))))
local macro_rules | `(tactic| walk_at "wp") => `(tactic| repeat' (walk_at "w1"))
local macro_rules | `(tactic| walk_at "wq") => `(tactic| repeat' (walk_at "w2"))
local macro_rules | `(tactic| walk_at "sd") => `(tactic| first | assumption | omega | (simp only [List.length_map, List.length_cons, List.length_nil]; omega) | decide)
local macro_rules | `(tactic| walk_at "ca") => `(tactic| (with_reducible first
  | refine wx_kwD rfl ?_
  | refine wi_len (by walk_at "sd") ?_
  | (refine And.intro ?_ ?_; focus (show List.length _ < 16777216; simp only [List.length_cons, List.length_nil, List.length_append, List.length_map]; omega))
  | refine and_nt rfl ?_ | refine and_nt (by omega) ?_ | refine and_dt (by omega) ?_ | refine and_df (by omega) ?_ | refine and_nf (by omega) ?_ | fail))
local macro_rules | `(tactic| walk_at "go") => `(tactic| repeat' (first | walk_at "w1" | walk_at "ca"))
local macro_rules | `(tactic| walk_at "gq") => `(tactic| repeat' (first | walk_at "w2" | walk_at "ca"))
section
theorem numI_inj {p q : Int} (hp : p.natAbs < 10 ^ 600) (hq : q.natAbs < 10 ^ 600) (h : numI p = numI q) : p = q := by
  have e1 := int_numI hp
  rw [h, int_numI hq] at e1
  exact (Option.some.inj e1).symm
theorem sm600 {p : Int} (h1 : -99 ≤ p) (h2 : p ≤ 99) : p.natAbs < 10 ^ 600 := by
  have : (100 : Nat) ≤ 10 ^ 600 := Nat.le_trans (by decide : (100 : Nat) ≤ 10 ^ 2) (Nat.pow_le_pow_right (by decide) (by decide))
  omega
def nums : List Int := (List.range 199).map fun i => (-99 + (i : Nat) : Int)
theorem nums_mem {q : Int} : q ∈ nums ↔ -99 ≤ q ∧ q ≤ 99 := by
  unfold nums
  rw [List.mem_map]
  constructor
  · rintro ⟨i, hi, rfl⟩
    have := List.mem_range.mp hi
    omega
  · intro h
    exact ⟨(q + 99).toNat, List.mem_range.mpr (by omega), by omega⟩
def rowN (l : List Int) : List (Str × Int) := l.map fun q => (mk (numI q), q)
def KN : AM.D := .dic (rowSI (rowN nums))
theorem val_yes : ∀ {l : List Int} {q : Int}, (∀ x ∈ l, -99 ≤ x ∧ x ≤ 99) → q ∈ l → valD (rowSI (rowN l)) (.inr (mk (numI q))) = some (.int q)
  | x :: l, q, hl, h => by
    have hx := hl x List.mem_cons_self
    have hq := hl q h
    show ((((Sum.inr (mk (numI x)) : Key), AM.D.int x) :: rowSI (rowN l)).find? fun kv => decide (kv.1 = (.inr (mk (numI q)) : Key))).map (·.2) = _
    by_cases e : x = q
    · subst e
      rw [List.find?_cons_of_pos (by simp)]
      rfl
    · rw [List.find?_cons_of_neg (by
        intro z
        have z := of_decide_eq_true z
        exact e (numI_inj (sm600 hx.1 hx.2) (sm600 hq.1 hq.2) (mk_inj.mp (Sum.inr.inj z))))]
      exact val_yes (fun y hy => hl y (List.mem_cons_of_mem _ hy)) ((List.mem_cons.mp h).resolve_left fun z => e z.symm)
theorem val_no : ∀ {l : List Int} {t : List Nat}, (∀ x ∈ l, t ≠ numI x) → valD (rowSI (rowN l)) (.inr (mk t)) = none
  | [], _, _ => rfl
  | x :: l, t, h => by
    show ((((Sum.inr (mk (numI x)) : Key), AM.D.int x) :: rowSI (rowN l)).find? fun kv => decide (kv.1 = (.inr (mk t) : Key))).map (·.2) = _
    rw [List.find?_cons_of_neg (by
      intro z
      have z := of_decide_eq_true z
      exact h x List.mem_cons_self (mk_inj.mp (Sum.inr.inj z)).symm)]
    exact val_no fun y hy => h y (List.mem_cons_of_mem _ hy)
theorem kn_or (t : List Nat) : (∃ q : Int, -99 ≤ q ∧ q ≤ 99 ∧ t = numI q ∧ valD (rowSI (rowN nums)) (.inr (mk t)) = some (.int q)) ∨ ((∀ q : Int, -99 ≤ q → q ≤ 99 → t ≠ numI q) ∧ valD (rowSI (rowN nums)) (.inr (mk t)) = none) := by
  by_cases h : ∃ q ∈ nums, t = numI q
  · obtain ⟨q, hq, rfl⟩ := h
    have b := nums_mem.mp hq
    exact .inl ⟨q, b.1, b.2, rfl, val_yes (fun x hx => nums_mem.mp hx) hq⟩
  · have no : ∀ x ∈ nums, t ≠ numI x := fun x hx e => h ⟨x, hx, e⟩
    exact .inr ⟨fun q h1 h2 => no q (nums_mem.mpr ⟨h1, h2⟩), val_no no⟩
theorem pairsN : ∀ l : List Int, pairsSI (l.map fun q => AM.D.tup [.str (mk (numI q)), .int q]) = some (rowN l)
  | [] => rfl
  | q :: l => by
    show (pairsSI (l.map fun q => AM.D.tup [.str (mk (numI q)), .int q])).map (fun r => (mk (numI q), q) :: r) = _
    rw [pairsN l]
    rfl
theorem keys_nd : ((rowN nums).map (·.1)).Nodup := by
  have e : (rowN nums).map (·.1) = nums.map fun q => mk (numI q) := by unfold rowN; rw [List.map_map]; rfl
  rw [e]
  have nd : nums.Nodup := by
    unfold nums
    exact List.Pairwise.map _ (fun a b (h : a ≠ b) e => h (by omega)) List.nodup_range
  have key : ∀ l : List Int, l.Nodup → (∀ x ∈ l, -99 ≤ x ∧ x ≤ 99) → (l.map fun q => mk (numI q)).Nodup := by
    intro l
    induction l with
    | nil => intro _ _; exact List.Pairwise.nil
    | cons x l ih =>
      intro h hl
      rw [List.map_cons, List.nodup_cons]
      rw [List.nodup_cons] at h
      refine ⟨fun z => ?_, ih h.2 fun y hy => hl y (List.mem_cons_of_mem _ hy)⟩
      obtain ⟨y, hy, e⟩ := List.mem_map.mp z
      have hx := hl x List.mem_cons_self
      have hy2 := hl y (List.mem_cons_of_mem _ hy)
      have := numI_inj (sm600 hy2.1 hy2.2) (sm600 hx.1 hx.2) (mk_inj.mp e)
      exact h.1 (this ▸ hy)
  exact key nums nd fun x hx => nums_mem.mp hx
theorem p_numbers (st : Sto) : F_law_numbers U0 [] st = .ok KN st := by
  have : Wx (F_law_numbers U0 [] st) fun d s => d = KN ∧ s = st := by
    unfold F_law_numbers
    refine wx_run rfl ?_
    walk_at "go"
    refine wx_comp (g := fun i : Nat => .int (-99 + (i : Nat))) (xs := List.range 199) (fun i => .tup [.str (mk (numI (-99 + (i : Nat)))), .int (-99 + (i : Nat))]) rfl ?_
    walk_at "go"
    refine ⟨-99, 100, rfl, rfl, by decide, by rfl, by decide, fun i hi => ?_, ?_⟩
    · have hi := List.mem_range.mp hi
      have sm : (-99 + (i : Int)).natAbs < 10 ^ 500 := by
        have : (100 : Nat) ≤ 10 ^ 500 := Nat.le_trans (by decide : (100 : Nat) ≤ 10 ^ 2) (Nat.pow_le_pow_right (by decide) (by decide))
        omega
      walk_at "go"
      refine wx_eq (ev_strI sm st) ?_
      walk_at "go"
      exact ⟨rfl, rfl⟩
    refine wx_eq (a := KN) (st := st) ?_ ⟨rfl, rfl⟩
    have e : ((List.range 199).map fun i : Nat => AM.D.tup [.str (mk (numI (-99 + (i : Nat)))), .int (-99 + (i : Nat))]) = nums.map fun q => AM.D.tup [.str (mk (numI q)), .int q] := by
      unfold nums
      rw [List.map_map]
      rfl
    rw [e]
    show (match pairsSI (nums.map fun q => AM.D.tup [.str (mk (numI q)), .int q]) with
      | some r => if (r.map (fun x : Str × Int => x.1)).Nodup then Res.ok (AM.D.dic (rowSI r)) st else .bad
      | none => .bad) = _
    rw [pairsN nums]
    show (if ((rowN nums).map (·.1)).Nodup then Res.ok (AM.D.dic (rowSI (rowN nums))) st else .bad) = _
    rw [if_pos keys_nd]
    rfl
  obtain ⟨d, s, e, rfl, rfl⟩ := wx_ex this
  exact e
end
section
theorem s_1 : ("1" : Str) = mk [49] := by decide +kernel
theorem s_m1 : ("-1" : Str) = mk [45, 49] := by decide +kernel
def Bd (p q : Int) : Prop := -9 ≤ p ∧ p ≤ 9 ∧ -99 ≤ q ∧ q ≤ 99
abbrev kn (t : List Nat) : Option AM.D := valD (rowSI (rowN nums)) (.inr (mk t))
def hP (a : List Nat) : Int := if a = [] then 1 else if a = [45] then -1 else match kn a with
  | some (.int q) => q
  | _ => 0
def cutP (t : List Nat) : List Nat := if t.take 1 = [43] then t.drop 1 else t
def tQ (t : List Nat) : AM.D := if t = [] then .int 0 else (kn (cutP t)).getD .non
theorem hP_fac {a : List Nat} (h0 : hP a ≠ 0) (h1 : a ≠ [49]) (h2 : a ≠ [45, 49]) : a = fac (hP a) := by
  by_cases e1 : a = []
  · subst e1; rfl
  by_cases e2 : a = [45]
  · subst e2; rfl
  have e : hP a = match kn a with
    | some (.int q) => q
    | _ => 0 := by unfold hP; rw [if_neg e1, if_neg e2]
  rcases kn_or a with ⟨q, q1, q2, ea, v⟩ | ⟨no, v⟩
  · have e3 : hP a = q := by rw [e]; unfold kn; rw [v]
    rw [e3]
    unfold fac
    rw [if_neg (fun z => h1 (by rw [ea, z]; decide +kernel)), if_neg (fun z => h2 (by rw [ea, z]; decide +kernel))]
    exact ea
  · exact absurd (by rw [e]; unfold kn; rw [v]) h0
def chkP (i : Nat) : Bool := let p : Int := -9 + (i : Nat)
  decide (p = 0) || (decide (hP (fac p) = p) && !decide (fac p = [49]) && !decide (fac p = [45, 49]) && !decide (110 ∈ fac p))
theorem chkP_all : ((List.range 19).all chkP) = true := by kernel_rfl
theorem of_fac {p : Int} (h1 : -9 ≤ p) (h2 : p ≤ 9) (h0 : p ≠ 0) : hP (fac p) = p ∧ fac p ≠ [49] ∧ fac p ≠ [45, 49] ∧ 110 ∉ fac p := by
  have h := List.all_eq_true.mp chkP_all (p + 9).toNat (List.mem_range.mpr (by omega))
  unfold chkP at h
  have e : (-9 + ((p + 9).toNat : Nat) : Int) = p := by omega
  simp only [e, decide_eq_false h0, Bool.false_or, Bool.and_eq_true, decide_eq_true_eq, Bool.not_eq_true', decide_eq_false_iff_not] at h
  exact ⟨h.1.1.1, h.1.1.2, h.1.2, h.2⟩
def chkQ (i : Nat) : Bool := let q : Int := -99 + (i : Nat)
  (match tQ (ovr q) with
    | .int z => decide (z = q)
    | _ => false) && (decide (ovr q = []) || (!decide (q = 0) && (decide ((ovr q).take 1 = [43]) == decide (q > 0)))) && !decide (110 ∈ numI q)
theorem chkQ_all : ((List.range 199).all chkQ) = true := by kernel_rfl
theorem of_ovr {q : Int} (h1 : -99 ≤ q) (h2 : q ≤ 99) : tQ (ovr q) = .int q ∧ (ovr q ≠ [] → q ≠ 0 ∧ decide ((ovr q).take 1 = [43]) = decide (q > 0)) ∧ 110 ∉ numI q := by
  have h := List.all_eq_true.mp chkQ_all (q + 99).toNat (List.mem_range.mpr (by omega))
  unfold chkQ at h
  have e : (-99 + ((q + 99).toNat : Nat) : Int) = q := by omega
  simp only [e, Bool.and_eq_true, Bool.not_eq_true', decide_eq_false_iff_not, Bool.or_eq_true, decide_eq_true_eq, beq_iff_eq] at h
  obtain ⟨⟨a, b⟩, c⟩ := h
  refine ⟨?_, fun z => (b.resolve_left z), c⟩
  cases et : tQ (ovr q) with
  | int z => rw [et] at a; rw [of_decide_eq_true a]
  | _ => rw [et] at a; exact nomatch a
theorem tQ_or (t : List Nat) : (∃ q : Int, -99 ≤ q ∧ q ≤ 99 ∧ tQ t = .int q ∧ (t = [] ∧ q = 0 ∨ t ≠ [] ∧ cutP t = numI q)) ∨ (tQ t = .non ∧ t ≠ []) := by
  by_cases e : t = []
  · exact .inl ⟨0, by decide, by decide, by unfold tQ; rw [if_pos e], .inl ⟨e, rfl⟩⟩
  · rcases kn_or (cutP t) with ⟨q, q1, q2, ea, v⟩ | ⟨no, v⟩
    · exact .inl ⟨q, q1, q2, by unfold tQ kn; rw [if_neg e, v]; rfl, .inr ⟨e, ea⟩⟩
    · exact .inr ⟨by unfold tQ kn; rw [if_neg e, v]; rfl, e⟩
theorem ovr_of {t : List Nat} {q : Int} (h : t = [] ∧ q = 0 ∨ t ≠ [] ∧ cutP t = numI q) (h2 : t ≠ [] → q ≠ 0 ∧ decide (t.take 1 = [43]) = decide (q > 0)) : t = ovr q := by
  rcases h with ⟨rfl, rfl⟩ | ⟨ne, e⟩
  · rfl
  · obtain ⟨q0, g⟩ := h2 ne
    unfold ovr
    rw [if_neg q0]
    unfold cutP at e
    by_cases c : t.take 1 = [43]
    · rw [decide_eq_true c] at g
      have g := of_decide_eq_true g.symm
      rw [if_neg (by omega)]
      rw [if_pos c] at e
      rw [← e]
      match t, c with
      | a :: r, c => cases c; rfl
    · rw [decide_eq_false c] at g
      have g := of_decide_eq_false g.symm
      rw [if_pos (by omega)]
      rw [if_neg c] at e
      exact e
theorem str_shaped {a : List Nat} (ha : asc a = true) : SeqAt.shaped (.str (mk a)) = true := by
  show (PyData.strOk (mk a) && decide (_ ≤ 64)) = true
  rw [strOk_mk ha]
  rfl
theorem ev_in11 {a : List Nat} (ha : asc a = true) (st : Sto) : oIn (.str (mk a)) (.lst [.str (mk [49]), .str (mk [45, 49])]) st = .ok (.bl (decide (a = [49]) || decide (a = [45, 49]))) st := by
  show oOf (if (SeqAt.shaped (.str (mk a)) && SeqAt.shaped (.list [.str (mk [49]), .str (mk [45, 49])])) = true then some ((mk [49] == mk a) || ((mk [45, 49] == mk a) || false)) else none) st = _
  rw [str_shaped ha, mk_beq, mk_beq]
  rw [if_pos (show (true && SeqAt.shaped (PyData.list [PyData.str (mk [49]), PyData.str (mk [45, 49])])) = true by kernel_rfl)]
  show Res.ok (AM.D.bl _) st = _
  rw [Bool.or_false, decide_eq_decide.mpr (eq_comm (a := [49]) (b := a)), decide_eq_decide.mpr (eq_comm (a := [45, 49]) (b := a))]
section
variable {st : Sto} {V : AM.D → Sto → Prop} {env : AEnv} {fe ff fo : EF}
theorem wx_dDget {r : List (Key × AM.D)} (h : Wx (fe env st) fun d s => Wx (ff env s) fun z s => ∃ k, keyD d = some k ∧ V ((valD r k).getD z) s) : Wx (dDget r fe ff env st) V := wx_bind (wx_mono h fun d s h => wx_bind (wx_mono h fun z s ⟨k, e, h⟩ => by
  rw [e]
  exact .mk h))
theorem wx_dDicIx (h : Wx (fo env st) fun d s => ∃ r, d = .dic r ∧ Wx (fe env s) fun e s => ∃ k v, keyD e = some k ∧ valD r k = some v ∧ V v s) : Wx (dDicIx fo fe env st) V := wx_bind (wx_mono h fun d s ⟨r, e, h⟩ => by
  subst e
  exact wx_bind (wx_mono h fun e s ⟨k, v, e2, e3, h⟩ => by
    rw [e2]
    show Wx (match valD r k with
      | some v => .ok v s
      | none => .bad) V
    rw [e3]
    exact .mk h))
theorem wi_inK {a : AM.D} {r : List (Key × AM.D)} {k : Key} (e : keyD a = some k) (h : V (.bl (valD r k).isSome) st) : Wx (oInK a (.dic r) st) V := by
  show Wx (match keyD a with
    | some k => .ok (.bl (valD r k).isSome) st
    | none => .bad) V
  rw [e]
  exact .mk h
end
theorem ev_neB (a b : Bool) (st : Sto) : oNe (.bl a) (.bl b) st = .ok (.bl (a != b)) st := by
  cases a <;> cases b <;> kernel_rfl
theorem hP_val (a : List Nat) : (valD [(.inr (mk []), AM.D.int 1), (.inr (mk [45]), AM.D.int (-1))] (.inr (mk a))).getD ((kn a).getD (.int 0)) = .int (hP a) := by
  unfold hP
  by_cases e1 : a = []
  · subst e1; rfl
  by_cases e2 : a = [45]
  · subst e2; rfl
  rw [if_neg e1, if_neg e2]
  have e3 : valD [(.inr (mk []), AM.D.int 1), (.inr (mk [45]), AM.D.int (-1))] (.inr (mk a)) = none := by
    unfold valD
    rw [List.find?_cons_of_neg (by
      intro z
      exact e1 (mk_inj.mp (Sum.inr.inj (of_decide_eq_true z))).symm), List.find?_cons_of_neg (by
      intro z
      exact e2 (mk_inj.mp (Sum.inr.inj (of_decide_eq_true z))).symm)]
    rfl
  rw [e3]
  rcases kn_or a with ⟨q, q1, q2, ea, v⟩ | ⟨no, v⟩ <;> (unfold kn; rw [v]; rfl)
theorem cut_uniq {c : Nat} : ∀ {a b t u : List Nat}, c ∉ a → c ∉ b → a ++ c :: t = b ++ c :: u → a = b ∧ t = u
  | [], [], t, u, _, _, e => by cases e; exact ⟨rfl, rfl⟩
  | [], y :: b, t, u, _, h2, e => by
    cases e
    exact absurd List.mem_cons_self h2
  | x :: a, [], t, u, h1, _, e => by
    cases e
    exact absurd List.mem_cons_self h1
  | x :: a, y :: b, t, u, h1, h2, e => by
    rw [List.cons_append, List.cons_append] at e
    obtain ⟨e1, e2⟩ := List.cons.inj e
    obtain ⟨f, g⟩ := cut_uniq (fun z => h1 (List.mem_cons_of_mem _ z)) (fun z => h2 (List.mem_cons_of_mem _ z)) e2
    exact ⟨by rw [e1, f], g⟩
theorem w_power {st : Sto} {V : AM.D → Sto → Prop} {r : List Nat} (ha : asc r = true) (hl : r.length ≤ 390) (k : ∀ d, ((∃ p q, Bd p q ∧ r = pw p q ∧ d = .tup [.int p, .int q]) ∨ (d = .non ∧ ∀ p q, Bd p q → r ≠ pw p q)) → V d st) : Wx (F_law_power U0 [.str (mk r), KN] st) V := by
  obtain ⟨a, s, t, hp⟩ := prt_ex 110 r
  obtain ⟨h1, h2, h3, h4, h5⟩ := hp.sub ha
  unfold F_law_power KN
  rw [s_n, s_0, s_m, s_p, s_1, s_m1]
  refine wx_run rfl ?_
  refine ws_sSeq (ws_sIf ?_)
  walk_at "go"
  cases hp with
  | no n =>
    refine and_nf n ?_
    walk_at "go"
    refine wi_inK rfl ?_
    rcases kn_or r with ⟨q, q1, q2, e, v⟩ | ⟨no, v⟩
    · rw [v]
      walk_at "go"
      refine ⟨fun _ => ?_, fun z => nomatch z⟩
      walk_at "go"
      refine wx_dDicIx ?_
      walk_at "go"
      refine ⟨_, _, rfl, v, ?_⟩
      walk_at "go"
      exact k _ (.inl ⟨0, q, ⟨by decide, by decide, q1, q2⟩, by unfold pw; rw [if_pos rfl]; exact e, rfl⟩)
    · rw [v]
      walk_at "go"
      refine ⟨(fun z => nomatch z), fun _ => ?_⟩
      walk_at "go"
      refine k _ (.inr ⟨rfl, fun p q b e => ?_⟩)
      unfold pw at e
      by_cases z : p = 0
      · rw [if_pos z] at e
        exact no q b.2.2.1 b.2.2.2 e
      · rw [if_neg z] at e
        exact n (by rw [e]; simp)
  | yes e n =>
    refine and_nt (by rw [e]; simp) ?_
    walk_at "go"
    refine wi_part (.yes e n) (by omega) ?_
    walk_at "go"
    refine wx_dDget ?_
    walk_at "gq"
    rw [hP_val a]
    walk_at "gq"
    refine wx_mono (P := fun d s => d = tQ t ∧ s = st) ?_ ?_
    · refine wx_dIf ?_
      walk_at "go"
      refine wi_eqM h2 rfl ?_
      walk_at "go"
      refine and_by (fun q => ?_) (fun q => ?_)
      · walk_at "go"
        exact ⟨by unfold tQ; rw [if_pos q], rfl⟩
      · walk_at "go"
        refine wi_slS (by omega) ?_
        rw [cut_head]
        walk_at "go"
        refine wi_eqM (asc_take h2 1) rfl ?_
        walk_at "go"
        refine and_by (fun c => ?_) (fun c => ?_)
        · walk_at "go"
          refine wi_slS (by omega) ?_
          rw [cut_tail]
          walk_at "go"
          exact ⟨by unfold tQ cutP; rw [if_neg q, if_pos c], rfl⟩
        · walk_at "go"
          exact ⟨by unfold tQ cutP; rw [if_neg q, if_neg c], rfl⟩
    rintro d' s' ⟨e1, e2⟩
    obtain rfl := e1.symm
    obtain rfl := e2.symm
    have key : ∀ p q, Bd p q → r = pw p q → hP a = p ∧ p ≠ 0 ∧ a ≠ [49] ∧ a ≠ [45, 49] ∧ tQ t = .int q ∧ (t ≠ [] → q ≠ 0 ∧ decide (t.take 1 = [43]) = decide (q > 0)) := by
      intro p q b ee
      have p0 : p ≠ 0 := by
        intro z
        unfold pw at ee
        rw [if_pos z] at ee
        exact (of_ovr b.2.2.1 b.2.2.2).2.2 (by rw [← ee, e]; simp)
      unfold pw at ee
      rw [if_neg p0, e] at ee
      obtain ⟨f1, f2, f3, f4⟩ := of_fac b.1 b.2.1 p0
      obtain ⟨rfl, rfl⟩ := cut_uniq n f4 ee
      obtain ⟨g1, g2, g3⟩ := of_ovr b.2.2.1 b.2.2.2
      exact ⟨f1, p0, f2, f3, g1, g2⟩
    have no : ∀ {s1 : Sto}, s1 = st → (∀ p q, Bd p q → r ≠ pw p q) → V .non s1 := fun {s1} e3 h => e3 ▸ k _ (.inr ⟨rfl, h⟩)
    walk_at "gq"
    refine ws_sIf ?_
    walk_at "gq"
    refine wx_eq (ev_in11 h1 st) ?_
    walk_at "gq"
    refine ⟨fun c1 => ?_, fun c1 => ?_⟩
    · walk_at "go"
      refine no rfl fun p q b ee => ?_
      obtain ⟨_, _, f2, f3, _⟩ := key p q b ee
      rw [decide_eq_false f2, decide_eq_false f3] at c1
      exact nomatch c1
    obtain ⟨n1, n2⟩ := Bool.or_eq_false_iff.mp c1
    have n1 := of_decide_eq_false n1
    have n2 := of_decide_eq_false n2
    walk_at "gq"
    refine and_by (fun c2 => ?_) (fun c2 => ?_)
    · walk_at "go"
      refine and_nby (fun c3 => ?_) (fun c3 => ?_)
      · walk_at "go"
        exact no rfl fun p q b ee => c3 (by rw [(key p q b ee).1]; exact b.2.1)
      · walk_at "go"
        refine and_by (fun c4 => ?_) (fun c4 => ?_)
        · walk_at "go"
          exact no rfl fun p q b ee => (key p q b ee).2.1 (by rw [← (key p q b ee).1]; exact c4)
        · walk_at "gq"
          rcases tQ_or t with ⟨q, q1, q2, eq, hq⟩ | ⟨eq, ne⟩
          · rw [eq] at key ⊢
            have fin : ∀ {s1 : Sto}, s1 = st → (t ≠ [] → q ≠ 0 ∧ decide (t.take 1 = [43]) = decide (q > 0)) → V (.tup [.int (hP a), .int q]) s1 := fun {s1} e3 h => e3 ▸ k _ (.inl ⟨hP a, q, ⟨c2, c3, q1, q2⟩, by
              unfold pw
              rw [if_neg c4, ← hP_fac c4 n1 n2, ← ovr_of hq h]
              exact e, rfl⟩)
            walk_at "go"
            refine ⟨(fun z => nomatch (show false = true from z)), fun _ => ?_⟩
            walk_at "go"
            refine wx_eq (ev_neM h2 rfl st) ?_
            walk_at "go"
            refine and_nby (fun ne => ?_) (fun em => ?_)
            · walk_at "go"
              refine and_by (fun c5 => ?_) (fun c5 => ?_)
              · walk_at "go"
                refine no rfl fun p q' b ee => ?_
                obtain ⟨_, _, _, _, f5, f6⟩ := key p q' b ee
                cases f5
                exact (f6 ne).1 c5
              · walk_at "go"
                refine wi_slS (by omega) ?_
                rw [cut_head]
                walk_at "go"
                refine wi_eqM (asc_take h2 1) rfl ?_
                walk_at "go"
                refine wx_eq (ev_neB _ _ st) ?_
                walk_at "go"
                refine ⟨fun c6 => ?_, fun c6 => ?_⟩
                · walk_at "go"
                  refine no rfl fun p q' b ee => ?_
                  obtain ⟨_, _, _, _, f5, f6⟩ := key p q' b ee
                  cases f5
                  rw [(f6 ne).2] at c6
                  rw [bne_self_eq_false] at c6
                  exact nomatch c6
                · walk_at "go"
                  refine fin rfl fun _ => ⟨c5, ?_⟩
                  exact eq_of_beq (by rw [← Bool.not_eq_false']; exact c6)
            · walk_at "go"
              exact fin rfl fun z => absurd em z
          · rw [eq] at key ⊢
            walk_at "go"
            refine ⟨fun _ => ?_, (fun z => nomatch (show true = false from z))⟩
            walk_at "go"
            exact no rfl fun p q b ee => nomatch (key p q b ee).2.2.2.2.1
    · walk_at "go"
      exact no rfl fun p q b ee => c2 (by rw [(key p q b ee).1]; exact b.1)
end
section
theorem parts_of {ps : List (List Nat)} {R : List Bk} (p1 : ps ≠ []) (p2 : ∀ p ∈ ps, 32 ∉ p) (hn : joinL [32] ps ≠ NONE) (hl : (joinL [32] ps).length + 2 ≤ 16777216) (hR : ∀ b ∈ R, okb b) (e : rtx R = joinL [32] ps) : R.map tx = ps := by
  have h0 : R ≠ [] := fun z => hn (by rw [← e, z]; rfl)
  have e2 : rtx R = joinL [32] (R.map tx) := by unfold rtx; rw [if_neg h0]
  rw [e2] at e
  have a := ev_splitS (c := 32) (by decide) p1 p2 hl []
  have b := ev_splitS (c := 32) (ps := R.map tx) (by decide) (fun z => h0 (List.map_eq_nil_iff.mp z)) (by
    intro p hp
    obtain ⟨b, hb, rfl⟩ := List.mem_map.mp hp
    exact tx_sp (hR b hb)) (by rw [e]; exact hl) []
  rw [e, a] at b
  injection b with b _
  have b := AM.D.lst.inj b
  have inj : ∀ {xs ys : List (List Nat)}, xs.map (fun p => AM.D.str (mk p)) = ys.map (fun p => AM.D.str (mk p)) → ys = xs := by
    intro xs
    induction xs with
    | nil =>
      intro ys h
      cases ys with
      | nil => rfl
      | cons y ys => cases h
    | cons x xs ih =>
      intro ys h
      cases ys with
      | nil => cases h
      | cons y ys =>
        rw [List.map_cons, List.map_cons] at h
        obtain ⟨h1, h2⟩ := List.cons.inj h
        rw [ih h2, mk_inj.mp (AM.D.str.inj h1)]
  exact inj b
theorem okW_94 {w : List Nat} (h : okW w = true) : 94 ∉ w := fun z => absurd (okW_all h 94 z) (by decide)
theorem tx_of {b : Bk} {a r : List Nat} (hb : okb b) (n : 94 ∉ a) (e : tx b = a ++ 94 :: r) : a = b.1 ∧ r = pw b.2.1 b.2.2 := by
  have e : b.1 ++ 94 :: pw b.2.1 b.2.2 = a ++ 94 :: r := e
  obtain ⟨f, g⟩ := cut_uniq (okW_94 hb.1) n e
  exact ⟨f.symm, g.symm⟩
theorem w_read {st : Sto} {V : AM.D → Sto → Prop} {t : List Nat} (ha : asc t = true) (hl : t.length ≤ 390) (k : ∀ d, ((∃ R : List Bk, (∀ b ∈ R, okb b) ∧ R.length ≤ 12 ∧ rtx R = t ∧ d = .lst (R.map bD)) ∨ (d = .non ∧ NoR t)) → V d st) : Wx (F_law_read U0 [.str (mk t)] st) V := by
  unfold F_law_read
  rw [s_none, s_sp, s_94, let_eq]
  refine wx_run rfl ?_
  refine ws_sSeq (ws_sIf ?_)
  walk_at "go"
  refine wi_eqB (wi_eqM ha rfl ?_)
  walk_at "go"
  refine and_by (fun n0 => ?_) (fun n0 => ?_)
  · walk_at "go"
    exact k _ (.inl ⟨[], (fun _ z => nomatch z), by decide, n0.symm, rfl⟩)
  obtain ⟨ps, p1, p2, p3, p4, p5⟩ := split_ex t.length t (Nat.le_refl _) ha
  have no : ∀ {s1 : Sto} {p : List Nat}, s1 = st → p ∈ ps → (∀ b, okb b → tx b ≠ p) → V .non s1 := fun {s1 p} e3 hp h => e3 ▸ k _ (.inr ⟨rfl, fun R hR _ e => by
    have e4 := parts_of p1 p2 (by rw [← p3]; exact n0) (by rw [← p3]; omega) hR (by rw [e, p3])
    rw [← e4] at hp
    obtain ⟨b, hb, e5⟩ := List.mem_map.mp hp
    exact h b (hR b hb) e5⟩)
  walk_at "go"
  refine ws_sParE ?_
  walk_at "go"
  refine wx_eq (p_numbers st) ?_
  walk_at "gq"
  refine wx_dIf ?_
  walk_at "go"
  refine wx_eq (a := .bl true) (st := st) rfl ?_
  walk_at "go"
  refine wx_eq (a := .lst (ps.map fun p => .str (mk p))) (st := st) ?_ ?_
  · conv => lhs; rw [p3]
    exact ev_splitS (c := 32) (by decide) p1 p2 (by rw [← p3]; omega) st
  walk_at "go"
  refine ws_forT (it := fun p => .str (mk p)) ps (fun done _ env s => s = st ∧ ∃ (R : List Bk) (a1 a4 a5 a6 a7 : Sl), (∀ b ∈ R, okb b) ∧ R.map tx = done ∧ env = [.sh (.str (mk t)), a1, .sh KN, .own (R.map bD), a4, a5, a6, a7, .un]) rfl ⟨rfl, [], _, _, _, _, _, (fun _ z => nomatch z), rfl, rfl⟩ ?_ ?_
  · rintro done p rest env s ed ⟨rfl, R, a1, a4, a5, a6, a7, hR, eR, rfl⟩
    have hp : p ∈ ps := by rw [← ed]; simp
    have lR : R.length ≤ 390 := by
      have h1 := congrArg List.length ed
      have h2 := congrArg List.length eR
      rw [List.length_append, List.length_cons] at h1
      rw [List.length_map] at h2
      omega
    have ap := (p4 p hp).2
    have lp := (p4 p hp).1
    obtain ⟨a, m, r, hc⟩ := prt_ex 94 p
    obtain ⟨h1, h2, h3, h4, h5⟩ := hc.sub ap
    walk_at "go"
    refine wi_part hc (by omega) ?_
    walk_at "gq"
    cases hc with
    | no n =>
      refine wx_dIf ?_
      walk_at "go"
      refine wi_eqB (wi_eqM rfl rfl ?_)
      walk_at "go"
      refine and_df (by decide) ?_
      walk_at "go"
      refine ⟨fun _ => ?_, (fun z => nomatch (show true = false from z))⟩
      walk_at "go"
      exact no rfl hp fun b hb e => n (by rw [← e]; show 94 ∈ b.1 ++ 94 :: pw b.2.1 b.2.2; simp)
    | yes e n =>
      refine wx_dIf ?_
      walk_at "go"
      refine wi_eqB (wi_eqM rfl rfl ?_)
      walk_at "go"
      refine ⟨fun _ => ?_, (fun z => absurd z (by decide))⟩
      walk_at "go"
      refine w_power h2 (by omega) fun d hd => ?_
      rcases hd with ⟨x, y, b, er, rfl⟩ | ⟨rfl, nop⟩
      · walk_at "go"
        refine ⟨(fun z => nomatch (show false = true from z)), fun _ => ?_⟩
        walk_at "go"
        have bad : okW a = false → ∀ b, okb b → tx b ≠ p := fun z b hb e2 => by
          obtain ⟨f, g⟩ := tx_of hb n (e2.trans e)
          have := hb.1
          rw [← f, z] at this
          exact nomatch this
        refine and_by (fun c1 => ?_) (fun c1 => ?_)
        · walk_at "go"
          refine and_nby (fun c2 => ?_) (fun c2 => ?_)
          · walk_at "go"
            exact no rfl hp (bad (by unfold okW; rw [decide_eq_false (show ¬ a.length ≤ 12 by omega), Bool.false_and, Bool.and_false]))
          · walk_at "go"
            refine wx_comp (g := fun c => .str (mk [c])) (xs := a) (fun c => .bl (decide (c ∈ LET))) rfl ?_
            walk_at "go"
            refine ⟨rfl, by omega, fun c hc => ?_, ?_⟩
            · walk_at "go"
              exact ⟨rfl, rfl⟩
            refine ⟨a.map fun c => decide (c ∈ LET), by rw [List.map_map]; rfl, ?_⟩
            rw [List.all_map]
            walk_at "go"
            refine ⟨fun z => ?_, fun z => ?_⟩
            · have z2 : (a.all fun c => decide (c ∈ LET)) = false := by
                rw [Bool.not_eq_true'] at z
                exact z
              walk_at "go"
              exact no rfl hp (bad (by unfold okW; rw [z2, Bool.and_false, Bool.and_false]))
            · have z2 : (a.all fun c => decide (c ∈ LET)) = true := by
                rw [Bool.not_eq_false'] at z
                exact z
              have ok : okb (a, x, y) := ⟨by
                show okW a = true
                unfold okW
                rw [z2, decide_eq_true (show 1 ≤ a.length by omega), decide_eq_true (show a.length ≤ 12 by omega)]
                rfl, b⟩
              walk_at "go"
              refine ⟨by simp only [List.length_cons, List.length_nil]; omega, ?_⟩
              walk_at "go"
              refine ⟨rfl, R ++ [(a, x, y)], .sh (.str (mk p)), .sh (.tup [.int x, .int y]), .sh (.str (mk a)), .sh (.str (mk [94])), .sh (.str (mk r)), ?_, ?_, ?_⟩
              · intro c hc
                rcases List.mem_append.mp hc with hc | hc
                · exact hR c hc
                · rw [List.mem_singleton.mp hc]; exact ok
              · rw [List.map_append, eR, e, er]
                rfl
              · rw [List.map_append]
                rfl
        · walk_at "go"
          exact no rfl hp (bad (by unfold okW; rw [decide_eq_false (show ¬ 1 ≤ a.length by omega), Bool.false_and]))
      · walk_at "go"
        refine ⟨fun _ => ?_, (fun z => nomatch (show true = false from z))⟩
        walk_at "go"
        refine no rfl hp fun b hb e2 => ?_
        obtain ⟨f, g⟩ := tx_of hb n (e2.trans e)
        exact nop _ _ hb.2 g
  · rintro env s ⟨rfl, R, a1, a4, a5, a6, a7, hR, eR, rfl⟩
    have lR : R.length ≤ 391 := by
      have h2 := congrArg List.length eR
      rw [List.length_map] at h2
      omega
    have eT : rtx R = t := by rw [rtx_parts p1 eR.symm, ← p3]
    walk_at "go"
    rw [List.length_map]
    refine and_by (fun c => ?_) (fun c => ?_)
    · walk_at "go"
      exact k _ (.inl ⟨R, hR, by omega, eT, rfl⟩)
    · walk_at "go"
      refine k _ (.inr ⟨rfl, fun R2 hR2 l2 e2 => ?_⟩)
      have e4 := parts_of p1 p2 (by rw [← p3]; exact n0) (by rw [← p3]; omega) hR2 (by rw [e2, p3])
      have h1 := congrArg List.length e4
      have h2 := congrArg List.length eR
      rw [List.length_map] at h1 h2
      omega
end
section
theorem ws_forC2 {N : AEnv → Sto → Prop} {T : AM.D → Sto → Prop} {g : GF} {h : SF} {d : AM.D} {ds : List AM.D} {env : AEnv} {st : Sto} (q : Ws (g d env st) (fun e s => Ws (h e s) (fun e s => Ws (forL g h ds e s) N T) T) fun _ _ => False) : Ws (forL g h (d :: ds) env st) N T := by
  unfold forL
  refine ws_bind (ws_onx ?_)
  refine ws_mono q (fun e s q => ?_) fun _ _ h => h.elim
  generalize h e s = z at q
  cases q with
  | nx q => exact q
  | rt q => exact .rt q
theorem fle_read {U : List Nat} : FLe (KP.F_Winding_read U) (F_Winding_read U) := fle_run (ule_seq (.refl _) (ule_seq (ule_if ule_never (.refl _)) (.refl _)))
theorem repr_str {t : List Nat} (h : asc t = true) (hl : t.length ≤ 100000) : ∃ z, reprD (.str (mk t)) = some z ∧ PyData.strOk z = true ∧ z.length ≤ 10 * t.length + 2 := by
  have c : PyData.canLay0 (.str (mk t)) = true := by simpa [PyData.canLay0] using strOk_mk h
  have l := shL_ok (.str (mk t)) c
  have o := pb_ok.mp (pb_shown (.str (mk t)) c)
  simp only [PyData.shown, shL, mk_len] at l o
  refine ⟨reprText (mk t), ?_, o, l⟩
  have e : oReprB (.str (mk t)) [] = .ok (.str (reprText (mk t))) [] := by
    show (if (reprText (mk t)).length ≤ sizeLine then Res.ok (AM.D.str (reprText (mk t))) [] else .bad) = _
    rw [if_pos (by rw [sizeLine_val]; omega)]
  unfold reprD
  rw [e]
def oth : List AM.D := [.non, .int 3, .bl true, .tup [], .tup [.str "a^n"], .lst [], .dic []]
def goodO (d : AM.D) : Bool := match reprD d with
  | some s => PyData.strOk s && decide (s.length ≤ 1000)
  | none => false
theorem oth_all : (oth.all goodO) = true := by kernel_rfl
theorem oth_rp {d : AM.D} (h : d ∈ oth) : ∃ z, reprD d = some z ∧ PyData.strOk z = true ∧ z.length ≤ 1000 := by
  have h := List.all_eq_true.mp oth_all d h
  unfold goodO at h
  cases e : reprD d with
  | none => rw [e] at h; cases h
  | some s =>
    rw [e] at h
    obtain ⟨h1, h2⟩ := Bool.and_eq_true_iff.mp h
    exact ⟨s, rfl, h1, of_decide_eq_true h2⟩
theorem oth_ev {d : AM.D} (h : d ∈ oth) (st : Sto) : oEqB d (.str (mk NONE)) st = .ok (.bl false) st ∧ oIsi (is_str U0) d st = .ok (.bl false) st := by
  simp only [oth, List.mem_cons, List.not_mem_nil, or_false] at h
  rcases h with rfl | rfl | rfl | rfl | rfl | rfl | rfl <;> exact ⟨by kernel_rfl, by kernel_rfl⟩
theorem rowZ {z : Str} {m : Nat} (h : PyData.strOk z = true) (hl : z.length ≤ m) : Rp 1 (40 * m + 400) (.lst (([1, 40, 43] : List Int).map AM.D.int ++ [.str z])) := by
  have hz : Rp 0 (10 * z.length + 2) (.str z) := by
    have := Rp.str (a := tl z) (by unfold asc; unfold PyData.strOk at h; rw [← Array.all_toList] at h; exact h)
    rw [mkTl] at this
    exact this
  refine (Rp.lst (n := 0) (k := 10 * m + 20) (m := 4) (fun e he => ?_) (by simp)).mono (by decide) (by omega)
  simp only [List.map_cons, List.map_nil, List.cons_append, List.nil_append, List.mem_cons, List.not_mem_nil, or_false] at he
  rcases he with rfl | rfl | rfl | rfl
  · exact (Rp.int (k := 8) (by decide) (by decide)).mono (by decide) (by omega)
  · exact (Rp.int (k := 8) (by decide) (by decide)).mono (by decide) (by omega)
  · exact (Rp.int (k := 8) (by decide) (by decide)).mono (by decide) (by omega)
  · exact hz.mono (by decide) (by omega)
section
variable {d : AM.D} {st : Sto} {E : Exn → Sto → Prop} {V : AM.D → Sto → Prop}
theorem x_read {t : List Nat} (ha : asc t = true) (hl : t.length ≤ 390) (no : NoR t) (h : E ⟨cInvalidText, [("given", .str (mk t))]⟩ st) : Xx (F_Winding_read U0 [.str (mk t)] st) E := by
  unfold F_Winding_read
  refine xx_run rfl (en_of rfl (xs_seqR ?_))
  walk_at "gq"
  refine wx_dIf ?_
  walk_at "go"
  refine wx_eq (a := .bl true) (st := st) rfl ?_
  walk_at "go"
  refine w_blocks ha hl fun d hd => ?_
  rcases hd with ⟨R, hR, lR, eR, _⟩ | ⟨rfl, _⟩
  · exact absurd eR (no R hR lR)
  walk_at "go"
  refine xs_seqL (xs_sIfT ?_)
  walk_at "go"
  refine ⟨rfl, xs_sRaise ?_⟩
  walk_at "go"
  exact h
theorem x_other (hd : d ∈ oth) (h : E ⟨cInvalidText, [("given", d)]⟩ st) : Xx (F_Winding_read U0 [d] st) E := by
  unfold F_Winding_read
  refine xx_run rfl (en_of rfl (xs_seqR ?_))
  walk_at "gq"
  refine wx_dIf ?_
  walk_at "go"
  refine wx_eq (oth_ev hd st).2 ?_
  walk_at "go"
  refine xs_seqL (xs_sIfT ?_)
  walk_at "go"
  refine ⟨rfl, xs_sRaise ?_⟩
  walk_at "go"
  exact h
theorem w_other (hd : d ∈ oth) (hv : V .non st) : Wx (F_law_read U0 [d] st) V := by
  unfold F_law_read
  rw [s_none, s_sp, s_94, let_eq, s_0]
  refine wx_run rfl ?_
  refine ws_sSeq (ws_sIf ?_)
  walk_at "go"
  refine wx_eq (oth_ev hd st).1 ?_
  walk_at "go"
  refine ws_sParE ?_
  walk_at "go"
  refine wx_eq (p_numbers st) ?_
  walk_at "gq"
  refine wx_dIf ?_
  walk_at "go"
  refine wx_eq (oth_ev hd st).2 ?_
  walk_at "go"
  refine ws_forC2 ?_
  walk_at "go"
  refine wi_part (.no (by simp)) (by decide) ?_
  walk_at "gq"
  refine wx_dIf ?_
  walk_at "go"
  refine wi_eqB (wi_eqM rfl rfl ?_)
  walk_at "go"
  refine and_df (by decide) ?_
  walk_at "go"
  refine ⟨fun _ => ?_, (fun z => nomatch (show true = false from z))⟩
  walk_at "go"
  exact hv
end
end
section
def Pcs4 : List Str := ["a", "n", "^", "+", "-", "0", "1", "9", " ", "B", "g", "2", ""]
theorem ps_all : (Pcs4.all fun s => asc (tl s) && decide ((tl s).length ≤ 1)) = true := by kernel_rfl
theorem ps_or {d : AM.D} (h : d ∈ Pcs4.map AM.D.str) : ∃ p, d = .str (mk p) ∧ asc p = true ∧ p.length ≤ 1 := by
  obtain ⟨s, hs, rfl⟩ := List.mem_map.mp h
  obtain ⟨h1, h2⟩ := Bool.and_eq_true_iff.mp (List.all_eq_true.mp ps_all s hs)
  exact ⟨tl s, by rw [mkTl], h1, of_decide_eq_true h2⟩
theorem cut_lo (t : List Nat) {i : Int} (h : 0 ≤ i) : cutL t (some i) none = t.drop i.toNat := by
  obtain ⟨n, rfl⟩ := Int.eq_ofNat_of_zero_le h
  unfold cutL
  rw [HT.sIx_none, show HT.sIx t.length 0 (some ((n : Nat) : Int)) = min n t.length from HT.sIx_nat _ _ n]
  rw [Int.toNat_natCast]
  by_cases c : n ≤ t.length
  · rw [Nat.min_eq_left c, List.take_of_length_le (by rw [List.length_drop]; omega)]
  · rw [Nat.min_eq_right (by omega), List.drop_of_length_le (Nat.le_refl _), List.drop_of_length_le (by omega), List.take_nil]
theorem cut_hi (t : List Nat) {i : Int} (h : 0 ≤ i) : cutL t none (some i) = t.take i.toNat := by
  obtain ⟨n, rfl⟩ := Int.eq_ofNat_of_zero_le h
  unfold cutL
  rw [HT.sIx_none, show HT.sIx t.length t.length (some ((n : Nat) : Int)) = min n t.length from HT.sIx_nat _ _ n, List.drop_zero, Nat.sub_zero, Int.toNat_natCast]
  by_cases c : n ≤ t.length
  · rw [Nat.min_eq_left c]
  · rw [Nat.min_eq_right (by omega), List.take_of_length_le (Nat.le_refl _), List.take_of_length_le (by omega)]
section
variable {h : Nat} {st : Sto} {V : AM.D → Sto → Prop}
theorem w_bent (c : Cup h st) {t : List Nat} (ha : asc t = true) (hl : t.length ≤ 380) (k : ∀ t' s, asc t' = true → t'.length ≤ t.length + 3 → Mv h st s → V (.str (mk t')) s) : Wx (F_law_bent U0 [.hd h, .str (mk t)] st) V := by
  unfold F_law_bent
  refine wx_run rfl ?_
  walk_at "go"
  refine wx_sip c (by decide) (by decide) fun r s1 r0 r1 m1 => ?_
  walk_at "go"
  refine ⟨okRb_of (by omega) (by omega), ?_⟩
  have lr : r.toNat ≤ 2 := by omega
  obtain ⟨N, hN⟩ : ∃ N, N = r.toNat := ⟨_, rfl⟩
  rw [← hN] at lr ⊢
  refine ws_forT (it := fun i : Nat => .int (0 + (i : Nat))) (List.range N) (fun done rest env s => Mv h st s ∧ ∃ (t' : List Nat) (a2 a3 a4 a5 : Sl), asc t' = true ∧ t'.length ≤ t.length + done.length ∧ env = [.sh (.hd h), .sh (.str (mk t')), a2, a3, a4, a5]) rfl ⟨m1, t, _, _, _, _, ha, Nat.le_refl _, rfl⟩ ?_ ?_
  · rintro done x rest env s ed ⟨m, t', a2, a3, a4, a5, ha', hl', rfl⟩
    have ld : done.length ≤ 2 := by
      have := congrArg List.length ed
      rw [List.length_append, List.length_cons, List.length_range] at this
      omega
    walk_at "go"
    refine wx_sip m.1 (by omega) (by omega) fun i s2 i0 i1 m2 => ?_
    walk_at "go"
    refine wx_sip m2.1 (by decide) (by decide) fun j s3 j0 j1 m3 => ?_
    walk_at "go"
    refine wx_pick m3.1 (by decide) (by decide) fun dp s4 hp m4 => ?_
    obtain ⟨p, rfl, pa, pl⟩ := ps_or (show dp ∈ Pcs4.map AM.D.str from hp)
    walk_at "go"
    refine wi_slS (by omega) ?_
    rw [cut_hi _ i0]
    walk_at "go"
    refine wx_eq (ev_addS (by rw [List.length_take]; omega) _) ?_
    walk_at "go"
    refine wi_slS (by omega) ?_
    rw [cut_lo _ (show 0 ≤ i + j by omega)]
    walk_at "go"
    refine wx_eq (ev_addS (by rw [List.length_append, List.length_take, List.length_drop]; omega) _) ?_
    walk_at "go"
    refine ⟨((m.trans m2).trans m3).trans m4, _, _, _, _, _, ?_, ?_, rfl⟩
    · rw [asc_app, asc_app, asc_take ha', asc_drop ha', pa]
      rfl
    · rw [List.length_append, List.length_append, List.length_take, List.length_drop, List.length_append, List.length_singleton]
      omega
  · rintro env s ⟨m, t', a2, a3, a4, a5, ha', hl', rfl⟩
    walk_at "go"
    rw [List.length_range] at hl'
    exact k _ _ ha' (by omega) m
end
end
section
abbrev TBr (st : Sto) : Prop := hasTab st 1000 "_law_right.<locals>.<lambda>" = true
def Ss : List Str := ["", " ", "None", "none ", "a", "a^", "^n", "a^nn", "a^1n", "a^-1n", "a^0n", "a^n+0", "a^n-0", "a^+1", "a^-0", "a^01", "a^10n", "a^n+100", "a^100", "a^n n", "a^n  b^n", "a^n+-1", "a^n--1", "a^n1", "a^n\n", "a^N", "g^n", "a^-n+99", "a^-9n-99", "a^2n", "a^n a^n a^n a^n a^n a^n a^n a^n a^n a^n a^n a^n a^n"]
def Vs : List AM.D := oth ++ Ss.map AM.D.str
def Tx (d : AM.D) : Prop := (∃ t, d = .str (mk t) ∧ asc t = true ∧ t.length ≤ 390) ∨ d ∈ oth
theorem ss_all : (Ss.all fun s => asc (tl s) && decide ((tl s).length ≤ 390)) = true := by kernel_rfl
theorem vs_or {d : AM.D} (h : d ∈ Vs) : Tx d := by
  rcases List.mem_append.mp h with h | h
  · exact .inr h
  · obtain ⟨s, hs, rfl⟩ := List.mem_map.mp h
    obtain ⟨h1, h2⟩ := Bool.and_eq_true_iff.mp (List.all_eq_true.mp ss_all s hs)
    exact .inl ⟨tl s, by rw [mkTl], h1, of_decide_eq_true h2⟩
theorem rep2 {T : AM.D} {k : Nat} (h : Rp 3 k T) (hk : k ≤ 1000000) : ∃ z, PyData.strOk z = true ∧ ∀ st, oReprB (.lst [T, T]) st = .ok (.str z) st := by
  obtain ⟨z, e, o⟩ := (Rp.lst (n := 3) (k := k) (m := 2) (ds := [T, T]) (fun d hd => by
    simp only [List.mem_cons, List.not_mem_nil, or_false] at hd
    rcases hd with rfl | rfl <;> exact h) (by simp)).repr (by decide) (by omega)
  exact ⟨z, o, e⟩
theorem givenR {R : List Bk} (hR : ∀ b ∈ R, okb b) (hl : R.length ≤ 12) : Rp 3 14007 (.lst [.str "given", .tup (R.map bD)]) := by
  refine (Rp.lst (n := 2) (k := 7000) (m := 2) (fun e he => ?_) (by simp)).mono (by decide) (by decide)
  simp only [List.mem_cons, List.not_mem_nil, or_false] at he
  rcases he with rfl | rfl
  · rw [s_given]
    exact (Rp.str (by decide)).mono (by decide) (by decide)
  · exact row_rp hR hl
section
variable {h : Nat} {st : Sto} {V : AM.D → Sto → Prop}
theorem w_strs {R : List Bk} (hR : ∀ b ∈ R, okb b) (b : Bk) (hb : b ∈ R) (hv : V (.str (mk (tx b))) st) : Wx (oSp cW strR (KP.F_Winding_str U0) oStrT (win [b]) st) V := by
  have e : oSp cW strR (KP.F_Winding_str U0) oStrT (win [b]) st = .ok (.str (mk (tx b))) st := by
    show strR ((KP.F_Winding_str U0) [win [b]] st) = _
    rw [p_str (R := [b]) (fun x hx => by rw [List.mem_singleton.mp hx]; exact hR b hb) (by simp)]
    rfl
  exact wx_eq e hv
theorem w_right (c : Cup h st) (t : TBr st) : Wx (F_law_right U0 [.hd h] st) fun d s => d = .bl true ∧ TBr s := by
  unfold F_law_right
  refine wx_run rfl ?_
  apply en_of
  focus (walk_at "en")
  refine ws_sSeq (ws_sSet (wx_eq (a := .lst (oth ++ (Ss.take 9).map AM.D.str)) (st := st) (by kernel_rfl) ?_))
  apply en_of
  focus (walk_at "en")
  refine ws_sSeq (ws_sSet (wx_eq (a := .lst (oth ++ (Ss.take 19).map AM.D.str)) (st := st) (by kernel_rfl) ?_))
  apply en_of
  focus (walk_at "en")
  refine ws_sSeq (ws_sSet (wx_eq (a := .lst (oth ++ (Ss.take 22).map AM.D.str)) (st := st) (by kernel_rfl) ?_))
  apply en_of
  focus (walk_at "en")
  refine ws_sSeq (ws_sSet (wx_eq (a := .lst Vs) (st := st) (by kernel_rfl) ?_))
  walk_at "go"
  refine ws_forT (it := fun i : Nat => .int (0 + (i : Nat))) (List.range 6) (fun _ _ env s => (Cup h s ∧ TBr s) ∧ ∃ a2 a3 a4 a5 a6 a7 a8 a9 : Sl, env = [.sh (.hd h), .sh (.lst Vs), a2, a3, a4, a5, a6, a7, a8, a9, .un, .un]) rfl ⟨⟨c, t⟩, _, _, _, _, _, _, _, _, rfl⟩ ?_ ?_
  · rintro done x rest env s _ ⟨⟨c, t⟩, a2, a3, a4, a5, a6, a7, a8, a9, rfl⟩
    walk_at "go"
    refine wx_compS (fun s1 => Mv h s s1) (fun y => ∃ b, y = bD b ∧ bk0 b) rfl (by simp) ?_
    walk_at "go"
    refine wx_sip c (by decide) (by decide) fun r s1 r0 r1 m1 => ?_
    walk_at "go"
    refine ⟨okRb_of (by omega) (by omega), by rw [rng_length]; omega, m1, fun d _ s hs => ⟨[d], rfl, ?_⟩, fun ys s3 hl hy m3 => ?_⟩
    · walk_at "go"
      exact wx_block hs.1 fun b s hb mm => ⟨⟨b, rfl, hb⟩, hs.trans mm⟩
    rw [rng_length] at hl
    obtain ⟨R, rfl, lR, hR0⟩ := of_all hy
    have hR : ∀ b ∈ R, okb b := fun b hb => (hR0 b hb).dbk.1
    have lR1 : 1 ≤ R.length ∧ R.length ≤ 3 := by omega
    have t3 : TBr s3 := hasTab_mv c m3 t
    have c3 := m3.1
    have ne : R ≠ [] := fun z => by rw [z] at lR1; simp at lR1
    have eR : rtx R = joinL [32] (R.map tx) := by unfold rtx; rw [if_neg ne]
    clear hl hy m1
    walk_at "go"
    refine wx_comp (g := bD) (xs := R) (fun b => .str (mk (tx b))) rfl ?_
    walk_at "go"
    refine ⟨rfl, by omega, fun b hb => ?_, ?_⟩
    · walk_at "go"
      refine wx_eq (mk_blks (R := [b]) (fun x hx => by rw [List.mem_singleton.mp hx]; exact hR b hb) (by simp) s3) ?_
      walk_at "go"
      exact w_strs hR b hb ⟨rfl, rfl⟩
    have ls := tx_sum hR
    have lt := rtx_len hR (by omega)
    refine wx_eq (ev_joinS (s := [32]) (ps := R.map tx) (by rw [List.map_map]; rfl) (by simp only [List.length_map, List.length_cons, List.length_nil]; omega) s3) ?_
    rw [← eR]
    walk_at "go"
    refine w_bent c3 (rtx_asc hR) (by omega) fun u1 s4 ua1 ul1 m4 => ?_
    walk_at "go"
    refine w_bent m4.1 (rtx_asc hR) (by omega) fun u2 s5 ua2 ul2 m5 => ?_
    walk_at "go"
    refine wx_pick m5.1 (by decide) (by decide) fun d4 s6 hd4 m6 => ?_
    have t6 : TBr s6 := hasTab_mv c3 ((m4.trans m5).trans m6) t3
    have c6 := m6.1
    walk_at "go"
    refine ws_forL (fun _ rest env s' => s' = s6 ∧ (∀ d ∈ rest, Tx d) ∧ ∃ a5 a6 a7 a8 a9 : Sl, env = [.sh (.hd h), .sh (.lst Vs), .sh (.int (0 + (x : Nat))), .sh (.lst (R.map bD)), .sh (.str (mk (rtx R))), a5, a6, a7, a8, a9, .un, .un]) _ [] _ _ ⟨rfl, ?_, _, _, _, _, _, rfl⟩ ?_ ?_
    · intro d hd
      simp only [List.mem_cons, List.not_mem_nil, or_false] at hd
      rcases hd with rfl | rfl | rfl | rfl
      · exact .inl ⟨_, rfl, rtx_asc hR, by omega⟩
      · exact .inl ⟨_, rfl, ua1, by omega⟩
      · exact .inl ⟨_, rfl, ua2, by omega⟩
      · exact vs_or hd4
    · rintro _ d rest env s' ⟨rfl, hr, a5, a6, a7, a8, a9, rfl⟩
      have hr2 : ∀ d ∈ rest, Tx d := fun d hd => hr d (List.mem_cons_of_mem _ hd)
      rcases hr d List.mem_cons_self with ⟨t1, rfl, ta, tl⟩ | hd
      · walk_at "go"
        refine w_read ta tl fun d6 h6 => ?_
        rcases h6 with ⟨R1, hR1, lR1, eR1, rfl⟩ | ⟨rfl, no⟩
        · have er : F_Winding_read U0 [.str (mk t1)] s' = .ok (win R1) s' := by rw [← eR1]; exact fle_read.ok (p_read hR1 lR1 s')
          obtain ⟨z, zo, ze⟩ := rep2 (givenR hR1 lR1) (by decide)
          walk_at "go"
          refine wx_caughtG t6 ?_
          walk_at "go"
          refine wx_eq er ?_
          refine ⟨_, f_blocks R1 s', ?_⟩
          walk_at "go"
          refine wx_caughtG t6 ?_
          walk_at "go"
          refine wx_eq er ?_
          refine ⟨_, f_blocks R1 s', ?_⟩
          walk_at "go"
          refine ⟨fun _ => ?_, (fun z => nomatch (show true = false from z))⟩
          walk_at "go"
          refine wx_eq (ze s') ?_
          walk_at "go"
          refine wx_eq (ze s') ?_
          refine wx_eq (ev_neS zo zo s') ?_
          rw [beq_self_eq_true]
          exact ⟨_, rfl, and_f (ws_sPass ⟨rfl, hr2, _, _, _, _, _, rfl⟩)⟩
        · obtain ⟨z0, e0, o0, l0⟩ := repr_str ta (by omega)
          obtain ⟨z, zo, ze⟩ := rep2 ((rowZ (m := 3902) o0 (by omega)).mono (by decide) (Nat.le_refl _)) (by decide)
          walk_at "go"
          refine wx_caughtX t6 (xx_dFld (xx_dCall ?_))
          walk_at "go"
          refine x_read ta tl no ⟨_, told_one rfl e0, ?_⟩
          walk_at "go"
          refine wx_caughtX t6 (xx_dFld (xx_dCall ?_))
          walk_at "go"
          refine x_read ta tl no ⟨_, told_one rfl e0, ?_⟩
          walk_at "go"
          refine ⟨(fun z => nomatch (show false = true from z)), fun _ => ?_⟩
          walk_at "go"
          refine wx_eq (repr_any e0 s') ?_
          walk_at "go"
          refine wx_eq (ze s') ?_
          walk_at "go"
          refine wx_eq (ze s') ?_
          refine wx_eq (ev_neS zo zo s') ?_
          rw [beq_self_eq_true]
          exact ⟨_, rfl, and_f (ws_sPass ⟨rfl, hr2, _, _, _, _, _, rfl⟩)⟩
      · walk_at "go"
        refine w_other hd ?_
        obtain ⟨z0, e0, o0, l0⟩ := oth_rp hd
        obtain ⟨z, zo, ze⟩ := rep2 ((rowZ (m := 1000) o0 l0).mono (by decide) (Nat.le_refl _)) (by decide)
        walk_at "go"
        refine wx_caughtX t6 (xx_dFld (xx_dCall ?_))
        walk_at "go"
        refine x_other hd ⟨_, told_one rfl e0, ?_⟩
        walk_at "go"
        refine wx_caughtX t6 (xx_dFld (xx_dCall ?_))
        walk_at "go"
        refine x_other hd ⟨_, told_one rfl e0, ?_⟩
        walk_at "go"
        refine ⟨(fun z => nomatch (show false = true from z)), fun _ => ?_⟩
        walk_at "go"
        refine wx_eq (repr_any e0 s') ?_
        walk_at "go"
        refine wx_eq (ze s') ?_
        walk_at "go"
        refine wx_eq (ze s') ?_
        refine wx_eq (ev_neS zo zo s') ?_
        rw [beq_self_eq_true]
        exact ⟨_, rfl, and_f (ws_sPass ⟨rfl, hr2, _, _, _, _, _, rfl⟩)⟩
    · rintro _ env s' ⟨rfl, _, a5, a6, a7, a8, a9, rfl⟩
      exact ⟨⟨c6, t6⟩, _, _, _, _, _, _, _, _, rfl⟩
  · rintro env s ⟨⟨c, t⟩, a2, a3, a4, a5, a6, a7, a8, a9, rfl⟩
    walk_at "go"
    exact ⟨rfl, t⟩
end
abbrev stT : Sto := [.tab 1000 "_law_right.<locals>.<lambda>", .tab 1001 "law.<locals>.<lambda>"]
theorem law_true (ns : List Int) (hn : ns.length ≤ 63) : ∃ st, F_law U0 [.fz (ns.map AM.D.int)] stT = .ok (.bl true) st := by
  have : Wx (F_law U0 [.fz (ns.map AM.D.int)] stT) fun x _ => x = .bl true := by
    unfold F_law
    refine wx_run rfl ?_
    apply en_of
    focus (walk_at "en")
    refine ws_sSeq (ws_sSet (wx_eq (a := .str "ab^-9n-99 ab^-9n-99 ab^-9n-99 ab^-9n-99 ab^-9n-99 ab^-9n-99 ab^-9n-99 ab^-9n-99 ab^-9n-99 ab^-9n-99 ab^-9n-99 ab^-9n-99") (st := stT) (by kernel_rfl) ?_))
    apply en_of
    focus (walk_at "en")
    refine ws_sSeq (ws_sIf (wx_eq (a := false) (st := stT) (by kernel_rfl) (and_f (ws_sPass ?_))))
    refine ws_sRet (wx_lawAllJ TBr hn (by decide) rfl (by simp) (by decide) rfl (by kernel_rfl) (fun s x j => hasTab_app j) (fun h st c j => w_right c j) (fun _ => rfl))
  obtain ⟨d, s, e, rfl⟩ := wx_ex this
  exact ⟨s, e⟩
end
end K04
namespace K04
open PySem PySem.Spec PyProof.Rows L2 AM KL KP
abbrev U : List Nat := [0, 0, 2]
structure Hd (w : World) (mg : Str → Option Value) (K : PySem.W.Frag) : Prop where
  b_ArithmeticError : mg "ArithmeticError" = none
  b_LookupError : mg "LookupError" = none
  b_NotImplemented : mg "NotImplemented" = none
  b_ValueError : mg "ValueError" = none
  b_abs : mg "abs" = none
  b_all : mg "all" = none
  b_any : mg "any" = none
  b_bool : mg "bool" = none
  b_dict : mg "dict" = none
  b_divmod : mg "divmod" = none
  b_enumerate : mg "enumerate" = none
  b_int : mg "int" = none
  b_isinstance : mg "isinstance" = none
  b_len : mg "len" = none
  b_list : mg "list" = none
  b_max : mg "max" = none
  b_min : mg "min" = none
  b_property : mg "property" = none
  b_range : mg "range" = none
  b_repr : mg "repr" = none
  b_staticmethod : mg "staticmethod" = none
  b_str : mg "str" = none
  b_tuple : mg "tuple" = none
  c_MOST_BLOCKS : ∃ t, mg "MOST_BLOCKS" = some (.int 12 t)
  c_MOST_WORD : ∃ t, mg "MOST_WORD" = some (.int 12 t)
  c_MOST_TIMES : ∃ t, mg "MOST_TIMES" = some (.int 9 t)
  c_MOST_MORE : ∃ t, mg "MOST_MORE" = some (.int 99 t)
  c_PEGS : ∃ t, mg "PEGS" = some (.str "abcdef" t)
  c_LETTERS : ∃ t, mg "LETTERS" = some (.str "abcdefABCDEF" t)
  c_DIGITS : ∃ t, mg "DIGITS" = some (.str "0123456789" t)
  c_ITEMS : ∃ t, mg "ITEMS" = some (.int 3 t)
  g_WrongValue : mg "WrongValue" = some (.ref (Γ K cWrongValue))
  g_NotAWinding : mg "NotAWinding" = some (.ref (Γ K cNotAWinding))
  g_InvalidText : mg "InvalidText" = some (.ref (Γ K cInvalidText))
  g_InvalidRounds : mg "InvalidRounds" = some (.ref (Γ K cInvalidRounds))
  g_InvalidPegs : mg "InvalidPegs" = some (.ref (Γ K cInvalidPegs))
  g_InvalidPeg : mg "InvalidPeg" = some (.ref (Γ K cInvalidPeg))
  g_InvalidPlace : mg "InvalidPlace" = some (.ref (Γ K cInvalidPlace))
  g_InvalidFactor : mg "InvalidFactor" = some (.ref (Γ K cInvalidFactor))
  g_InvalidWord : mg "InvalidWord" = some (.ref (Γ K cInvalidWord))
  g_InvalidTimes : mg "InvalidTimes" = some (.ref (Γ K cInvalidTimes))
  g_InvalidWish : mg "InvalidWish" = some (.ref (Γ K cInvalidWish))
  g_InvalidName : mg "InvalidName" = some (.ref (Γ K cInvalidName))
  g_InvalidClaim : mg "InvalidClaim" = some (.ref (Γ K cInvalidClaim))
  g_InvalidIndex : mg "InvalidIndex" = some (.ref (Γ K cInvalidIndex))
  g_InvalidLine : mg "InvalidLine" = some (.ref (Γ K cInvalidLine))
  g_InvalidBlocks : mg "InvalidBlocks" = some (.ref (Γ K cInvalidBlocks))
  g_InvalidLots : mg "InvalidLots" = some (.ref (Γ K cInvalidLots))
  g_InvalidWishes : mg "InvalidWishes" = some (.ref (Γ K cInvalidWishes))
  g_InvalidChanges : mg "InvalidChanges" = some (.ref (Γ K cInvalidChanges))
  g_InvalidDeeds : mg "InvalidDeeds" = some (.ref (Γ K cInvalidDeeds))
  g_WrongName : mg "WrongName" = some (.ref (Γ K cWrongName))
  g_UnknownName : mg "UnknownName" = some (.ref (Γ K cUnknownName))
  g_InUse : mg "InUse" = some (.ref (Γ K cInUse))
  g_NoAnswer : mg "NoAnswer" = some (.ref (Γ K cNoAnswer))
  g_TooMany : mg "TooMany" = some (.ref (Γ K cTooMany))
  g_TooGreat : mg "TooGreat" = some (.ref (Γ K cTooGreat))
  g_PegOut : mg "PegOut" = some (.ref (Γ K cPegOut))
  g_PegIn : mg "PegIn" = some (.ref (Γ K cPegIn))
  g_Broken : mg "Broken" = some (.ref (Γ K cBroken))
  g_NothingToUndo : mg "NothingToUndo" = some (.ref (Γ K cNothingToUndo))
  g_law_caught : mg "_law_caught" = some (.ref (He.ga K "_law_caught"))
  g_law_classes : mg "_law_classes" = some (.ref (He.ga K "_law_classes"))
  x_InvalidText : ExcK K (He.ga K "InvalidText") (He.ma K (He.ga K "InvalidText") "__init__") "given" rx_InvalidText
  g_Known : mg "Known" = some (.ref (Γ K cKnown))
  g_Winding : mg "Winding" = some (.ref (Γ K cWinding))
  g_is_integer : mg "is_integer" = some (.ref (He.ga K "is_integer"))
  g_is_between : mg "is_between" = some (.ref (He.ga K "is_between"))
  g_is_word : mg "is_word" = some (.ref (He.ga K "is_word"))
  g_is_block : mg "is_block" = some (.ref (He.ga K "is_block"))
  g_are_blocks : mg "are_blocks" = some (.ref (He.ga K "are_blocks"))
  g_text_of : mg "text_of" = some (.ref (He.ga K "text_of"))
  g_integer_in : mg "integer_in" = some (.ref (He.ga K "integer_in"))
  g_factor_in : mg "factor_in" = some (.ref (He.ga K "factor_in"))
  g_over_in : mg "over_in" = some (.ref (He.ga K "over_in"))
  g_block_in : mg "block_in" = some (.ref (He.ga K "block_in"))
  g_blocks_in : mg "blocks_in" = some (.ref (He.ga K "blocks_in"))
  g_law_cup : mg "_law_cup" = some (.ref (He.ga K "_law_cup"))
  g_law_sip : mg "_law_sip" = some (.ref (He.ga K "_law_sip"))
  g_law_pick : mg "_law_pick" = some (.ref (He.ga K "_law_pick"))
  g_law_strand : mg "_law_strand" = some (.ref (He.ga K "_law_strand"))
  g_law_block : mg "_law_block" = some (.ref (He.ga K "_law_block"))
  g_law_numbers : mg "_law_numbers" = some (.ref (He.ga K "_law_numbers"))
  g_law_power : mg "_law_power" = some (.ref (He.ga K "_law_power"))
  g_law_read : mg "_law_read" = some (.ref (He.ga K "_law_read"))
  g_law_bent : mg "_law_bent" = some (.ref (He.ga K "_law_bent"))
  g_law_right : mg "_law_right" = some (.ref (He.ga K "_law_right"))
  g_law : mg "law" = some (.ref (He.ga K "law"))
  fl_blocks : ∀ i ∈ [cWinding], Cls K (Γ K i) ∧ NoAttr K (Γ K i) "blocks"
  fl_parts : ∀ i ∈ [cKnown], Cls K (Γ K i) ∧ NoAttr K (Γ K i) "parts"
  is_int : IsT K (Γ K) (.type "int") (is_int U)
  is_bool : IsT K (Γ K) (.type "bool") (is_bool U)
  is_str : IsT K (Γ K) (.type "str") (is_str U)
  is_tuple : IsT K (Γ K) (.type "tuple") (is_tuple U)
  is_Known : IsT K (Γ K) (.ref (Γ K cKnown)) (is_Known U)
  first : PySem.W.selfFirst K (Γ K cW) = true
  mro : PySem.W.mroIn K (Γ K cW) (.type "object") = some true
  nosub : PySem.W.subIn K (.type "str") (.ref (Γ K cW)) = some false
  ne : PySem.W.findIn K (.ref (Γ K cW)) "__ne__" = some (some (.builtin "object.__ne__"))
  fmt : PySem.W.findIn K (.ref (Γ K cW)) "__format__" = some (some (.builtin "object.__format__"))
  d_is_integer : ∃ fd, FunD K "is_integer" "is_integer" (defArgs (top 39)) (defBody (top 39)) (defScope (top 39)) [] [] ((fun K => He.ga K "is_integer") K) fd
  d_is_between : ∃ fd, FunD K "is_between" "is_between" (defArgs (top 40)) (defBody (top 40)) (defScope (top 40)) [] [] ((fun K => He.ga K "is_between") K) fd
  d_is_word : ∃ fd, FunD K "is_word" "is_word" (defArgs (top 41)) (defBody (top 41)) (defScope (top 41)) [] [] ((fun K => He.ga K "is_word") K) fd
  d_is_block : ∃ fd, FunD K "is_block" "is_block" (defArgs (top 45)) (defBody (top 45)) (defScope (top 45)) [] [] ((fun K => He.ga K "is_block") K) fd
  d_Known_init : ∃ fd, FunD K "__init__" "Known.__init__" (defArgs (inClass (top 53) 0)) (defBody (inClass (top 53) 0)) (defScope (inClass (top 53) 0)) [] [] ((fun K => He.ma K (He.ga K "Known") "__init__") K) fd
  d_Winding_init : ∃ fd, FunD K "__init__" "Winding.__init__" (defArgs (inClass (top 54) 0)) (defBody (inClass (top 54) 0)) (defScope (inClass (top 54) 0)) [] [] ((fun K => He.ma K (He.ga K "Winding") "__init__") K) fd
  d_are_blocks : ∃ fd, FunD K "are_blocks" "are_blocks" (defArgs (top 46)) (defBody (top 46)) (defScope (top 46)) [] [] ((fun K => He.ga K "are_blocks") K) fd
  d_text_of : ∃ fd, FunD K "text_of" "text_of" (defArgs (top 47)) (defBody (top 47)) (defScope (top 47)) [] [] ((fun K => He.ga K "text_of") K) fd
  d_integer_in : ∃ fd, FunD K "integer_in" "integer_in" (defArgs (top 48)) (defBody (top 48)) (defScope (top 48)) [] [] ((fun K => He.ga K "integer_in") K) fd
  d_factor_in : ∃ fd, FunD K "factor_in" "factor_in" (defArgs (top 49)) (defBody (top 49)) (defScope (top 49)) [] [] ((fun K => He.ga K "factor_in") K) fd
  d_over_in : ∃ fd, FunD K "over_in" "over_in" (defArgs (top 50)) (defBody (top 50)) (defScope (top 50)) [] [] ((fun K => He.ga K "over_in") K) fd
  d_block_in : ∃ fd, FunD K "block_in" "block_in" (defArgs (top 51)) (defBody (top 51)) (defScope (top 51)) [] [] ((fun K => He.ga K "block_in") K) fd
  d_blocks_in : ∃ fd, FunD K "blocks_in" "blocks_in" (defArgs (top 52)) (defBody (top 52)) (defScope (top 52)) [] [] ((fun K => He.ga K "blocks_in") K) fd
  d_Winding_read : ∃ fd, FunD K "read" "Winding.read" (defArgs (inClass (top 54) 1)) (defBody (inClass (top 54) 1)) (defScope (inClass (top 54) 1)) [] [] ((fun K => sfA K (He.ga K "Winding") "read") K) fd
  d_Winding_len : ∃ fd, FunD K "__len__" "Winding.__len__" (defArgs (inClass (top 54) 9)) (defBody (inClass (top 54) 9)) (defScope (inClass (top 54) 9)) [] [] ((fun K => He.ma K (He.ga K "Winding") "__len__") K) fd
  d_law_cup : ∃ fd, FunD K "_law_cup" "_law_cup" (defArgs (top 56)) (defBody (top 56)) (defScope (top 56)) [] [] ((fun K => He.ga K "_law_cup") K) fd
  d_Winding_str : ∃ fd, FunD K "__str__" "Winding.__str__" (defArgs (inClass (top 54) 11)) (defBody (inClass (top 54) 11)) (defScope (inClass (top 54) 11)) [] [] ((fun K => He.ma K (He.ga K "Winding") "__str__") K) fd
  d_law_sip : ∃ fd, FunD K "_law_sip" "_law_sip" (defArgs (top 57)) (defBody (top 57)) (defScope (top 57)) [] [] ((fun K => He.ga K "_law_sip") K) fd
  d_law_pick : ∃ fd, FunD K "_law_pick" "_law_pick" (defArgs (top 58)) (defBody (top 58)) (defScope (top 58)) [] [] ((fun K => He.ga K "_law_pick") K) fd
  d_law_strand : ∃ fd, FunD K "_law_strand" "_law_strand" (defArgs (top 59)) (defBody (top 59)) (defScope (top 59)) [] [] ((fun K => He.ga K "_law_strand") K) fd
  d_law_block : ∃ fd, FunD K "_law_block" "_law_block" (defArgs (top 60)) (defBody (top 60)) (defScope (top 60)) [] [] ((fun K => He.ga K "_law_block") K) fd
  d_law_numbers : ∃ fd, FunD K "_law_numbers" "_law_numbers" (defArgs (top 63)) (defBody (top 63)) (defScope (top 63)) [] [] ((fun K => He.ga K "_law_numbers") K) fd
  d_law_power : ∃ fd, FunD K "_law_power" "_law_power" (defArgs (top 64)) (defBody (top 64)) (defScope (top 64)) [] [] ((fun K => He.ga K "_law_power") K) fd
  d_law_read : ∃ fd, FunD K "_law_read" "_law_read" (defArgs (top 65)) (defBody (top 65)) (defScope (top 65)) [] [] ((fun K => He.ga K "_law_read") K) fd
  d_law_bent : ∃ fd, FunD K "_law_bent" "_law_bent" (defArgs (top 66)) (defBody (top 66)) (defScope (top 66)) [] [] ((fun K => He.ga K "_law_bent") K) fd
  d_law_right : ∃ fd, FunD K "_law_right" "_law_right" (defArgs (top 67)) (defBody (top 67)) (defScope (top 67)) [] [] ((fun K => He.ga K "_law_right") K) fd
  d_law : ∃ fd, FunD K "law" "law" (defArgs (top 68)) (defBody (top 68)) (defScope (top 68)) [] [] ((fun K => He.ga K "law") K) fd
  d_InvalidText_init : ∃ fd, FunD K "__init__" "InvalidText.__init__" (defArgs (inClass (top 4) 0)) (defBody (inClass (top 4) 0)) (defScope (inClass (top 4) 0)) [] [] ((fun K => He.ma K (He.ga K "InvalidText") "__init__") K) fd
  d_law_caught : ∃ fd, FunD K "_law_caught" "_law_caught" (defArgs (top 62)) (defBody (top 62)) (defScope (top 62)) [] [] ((fun K => He.ga K "_law_caught") K) fd
  d_law_classes : ∃ fd, FunD K "_law_classes" "_law_classes" (defArgs (top 61)) (defBody (top 61)) (defScope (top 61)) [] [] ((fun K => He.ga K "_law_classes") K) fd
  m_Known_init : (He.Fa.meth "Known" "__init__").ok K = true
  mk_Known : Mk K (Γ K cKnown) (He.ma K (Γ K cKnown) "__init__")
  k_Known_init : (He.Fa.cls "Known").ok K = true
  m_Winding_init : (He.Fa.meth "Winding" "__init__").ok K = true
  mk_Winding : Mk K (Γ K cWinding) (He.ma K (Γ K cWinding) "__init__")
  k_Winding_init : (He.Fa.cls "Winding").ok K = true
  s_Winding_read : (Fx.stat "Winding" "read").ok K = true
  m_Winding_len : (He.Fa.meth "Winding" "__len__").ok K = true
  k_Winding_len : (He.Fa.cls "Winding").ok K = true
  m_Winding_str : (He.Fa.meth "Winding" "__str__").ok K = true
  k_Winding_str : (He.Fa.cls "Winding").ok K = true
structure HdT (w : World) (mg : Str → Option Value) (K : PySem.W.Frag) (base : Heap) : Prop extends Hd w mg K where
  tb : ∀ p ∈ tabsOf tf K, LamX.TabB base mg p.1 p.2
section
variable {P : Program} {w : World} {K : PySem.W.Frag} {mg : Str → Option Value} {base : Heap}
theorem tb_law_right (h : HdT w mg K base) : LamX.TabB base mg (He.codeOf K ("_law_right", none)) (Γ K 1000) := h.tb (He.cT K ("_law_right", none)) (List.mem_of_getElem? (i := 0) rfl)
theorem tb_law (h : HdT w mg K base) : LamX.TabB base mg (He.codeOf K ("law", none)) (Γ K 1001) := h.tb (He.cT K ("law", none)) (List.mem_of_getElem? (i := 1) rfl)
theorem rz_InvalidText (h : HdT w mg K base) : Rz K mg (Γ K) "InvalidText" cInvalidText "given" := by
  obtain ⟨fd, D⟩ := h.d_InvalidText_init
  obtain ⟨b, n, i, bm, T⟩ := h.x_InvalidText.rz
  exact ⟨⟨_, b, n, i, bm, _, "given", _, _, fd, _, _, _, _, T, D, ⟨rfl, rfl, rfl, by decide +kernel, rfl, by decide +kernel, by decide +kernel⟩, fun _ _ _ _ _ _ us hl => match us, hl with | [_, _], _ => rfl, by decide, by decide, fun env e => by cases env; cases e; rfl⟩, h.g_InvalidText⟩
def tgts : List Ty1 := [.own "NotAWinding", .own "InvalidText", .own "InvalidRounds", .own "InvalidPegs", .own "InvalidPeg", .own "InvalidPlace", .own "InvalidFactor", .own "InvalidWord", .own "InvalidTimes", .own "InvalidWish", .own "InvalidName", .own "InvalidClaim", .own "InvalidIndex", .own "InvalidLine", .own "InvalidBlocks", .own "InvalidLots", .own "InvalidWishes", .own "InvalidChanges", .own "InvalidDeeds", .own "UnknownName", .own "InUse", .own "TooMany", .own "TooGreat", .own "PegOut", .own "PegIn", .own "Broken", .own "NothingToUndo", .own "WrongValue", .own "WrongName", .own "NoAnswer", .ty "ValueError", .ty "LookupError", .ty "ArithmeticError"]
theorem sc_law_classes : FnScope ["_law_e", "_law_found", "_law_above", "_law_at"] ["_law_e"] (defScope (top 61)) := ⟨rfl, rfl, rfl, by decide +kernel, rfl, by decide +kernel, by decide +kernel⟩
theorem sc_law_caught : FnScope ["_law_act", "_law_e", "_law_found"] ["_law_act"] (defScope (top 62)) := ⟨rfl, rfl, rfl, by decide +kernel, rfl, by decide +kernel, by decide +kernel⟩
theorem cls_ok (h : HdT w mg K base) (c : Nat) (a dx : Addr) (b : Nat → Bool) (hk : ∀ i, i < tgts.length → PySem.W.kitOne K (.ref (Γ K c)) ((tgts.getD i (.ty "")).v K) = some (b i)) {cdv : Value} {A : Around} {outer : List Env} {s : Shared} {H : Hp} {E : XK} {oe : Obj} {g : Addr} (HX : HotAt1 (L2H.cxH (L2N.CX P w) P w K mg base ["_law_e", "_law_found", "_law_above", "_law_at"] "_law_classes" (defScope (top 61)) g cdv A outer s H E (a, oe)) (Γ K) c a dx) :
    PSs (L2H.cxH (L2N.CX P w) P w K mg base ["_law_e", "_law_found", "_law_above", "_law_at"] "_law_classes" (defScope (top 61)) g cdv A outer s H E (a, oe)) (defBody (top 61)) (tS ⟨K, Γ K⟩ (fun c d _ H' => E c d H') (gcls b c a dx)) :=
  (pssd_cons (psd_set sc_law_classes.nd (pd_lst (pad_cons (pd_isXv HX (hk 0 (by decide)) (.own (Γ K cNotAWinding)) (pdb (pd_var 0)) (pe_cls h.g_NotAWinding) h.b_isinstance) (pad_cons (pd_isXv HX (hk 1 (by decide)) (.own (Γ K cInvalidText)) (pdb (pd_var 0)) (pe_cls h.g_InvalidText) h.b_isinstance) (pad_cons (pd_isXv HX (hk 2 (by decide)) (.own (Γ K cInvalidRounds)) (pdb (pd_var 0)) (pe_cls h.g_InvalidRounds) h.b_isinstance) pad_nil))))) (pssd_cons (psd_set sc_law_classes.nd (pd_op opd_add (pdb (pd_var 1)) (pdb (pd_lst (pad_cons (pd_isXv HX (hk 3 (by decide)) (.own (Γ K cInvalidPegs)) (pdb (pd_var 0)) (pe_cls h.g_InvalidPegs) h.b_isinstance) (pad_cons (pd_isXv HX (hk 4 (by decide)) (.own (Γ K cInvalidPeg)) (pdb (pd_var 0)) (pe_cls h.g_InvalidPeg) h.b_isinstance) (pad_cons (pd_isXv HX (hk 5 (by decide)) (.own (Γ K cInvalidPlace)) (pdb (pd_var 0)) (pe_cls h.g_InvalidPlace) h.b_isinstance) pad_nil))))))) (pssd_cons (psd_set sc_law_classes.nd (pd_op opd_add (pdb (pd_var 1)) (pdb (pd_lst (pad_cons (pd_isXv HX (hk 6 (by decide)) (.own (Γ K cInvalidFactor)) (pdb (pd_var 0)) (pe_cls h.g_InvalidFactor) h.b_isinstance) (pad_cons (pd_isXv HX (hk 7 (by decide)) (.own (Γ K cInvalidWord)) (pdb (pd_var 0)) (pe_cls h.g_InvalidWord) h.b_isinstance) (pad_cons (pd_isXv HX (hk 8 (by decide)) (.own (Γ K cInvalidTimes)) (pdb (pd_var 0)) (pe_cls h.g_InvalidTimes) h.b_isinstance) pad_nil))))))) (pssd_cons (psd_set sc_law_classes.nd (pd_op opd_add (pdb (pd_var 1)) (pdb (pd_lst (pad_cons (pd_isXv HX (hk 9 (by decide)) (.own (Γ K cInvalidWish)) (pdb (pd_var 0)) (pe_cls h.g_InvalidWish) h.b_isinstance) (pad_cons (pd_isXv HX (hk 10 (by decide)) (.own (Γ K cInvalidName)) (pdb (pd_var 0)) (pe_cls h.g_InvalidName) h.b_isinstance) (pad_cons (pd_isXv HX (hk 11 (by decide)) (.own (Γ K cInvalidClaim)) (pdb (pd_var 0)) (pe_cls h.g_InvalidClaim) h.b_isinstance) pad_nil))))))) (pssd_cons (psd_set sc_law_classes.nd (pd_op opd_add (pdb (pd_var 1)) (pdb (pd_lst (pad_cons (pd_isXv HX (hk 12 (by decide)) (.own (Γ K cInvalidIndex)) (pdb (pd_var 0)) (pe_cls h.g_InvalidIndex) h.b_isinstance) (pad_cons (pd_isXv HX (hk 13 (by decide)) (.own (Γ K cInvalidLine)) (pdb (pd_var 0)) (pe_cls h.g_InvalidLine) h.b_isinstance) (pad_cons (pd_isXv HX (hk 14 (by decide)) (.own (Γ K cInvalidBlocks)) (pdb (pd_var 0)) (pe_cls h.g_InvalidBlocks) h.b_isinstance) pad_nil))))))) (pssd_cons (psd_set sc_law_classes.nd (pd_op opd_add (pdb (pd_var 1)) (pdb (pd_lst (pad_cons (pd_isXv HX (hk 15 (by decide)) (.own (Γ K cInvalidLots)) (pdb (pd_var 0)) (pe_cls h.g_InvalidLots) h.b_isinstance) (pad_cons (pd_isXv HX (hk 16 (by decide)) (.own (Γ K cInvalidWishes)) (pdb (pd_var 0)) (pe_cls h.g_InvalidWishes) h.b_isinstance) (pad_cons (pd_isXv HX (hk 17 (by decide)) (.own (Γ K cInvalidChanges)) (pdb (pd_var 0)) (pe_cls h.g_InvalidChanges) h.b_isinstance) pad_nil))))))) (pssd_cons (psd_set sc_law_classes.nd (pd_op opd_add (pdb (pd_var 1)) (pdb (pd_lst (pad_cons (pd_isXv HX (hk 18 (by decide)) (.own (Γ K cInvalidDeeds)) (pdb (pd_var 0)) (pe_cls h.g_InvalidDeeds) h.b_isinstance) (pad_cons (pd_isXv HX (hk 19 (by decide)) (.own (Γ K cUnknownName)) (pdb (pd_var 0)) (pe_cls h.g_UnknownName) h.b_isinstance) (pad_cons (pd_isXv HX (hk 20 (by decide)) (.own (Γ K cInUse)) (pdb (pd_var 0)) (pe_cls h.g_InUse) h.b_isinstance) pad_nil))))))) (pssd_cons (psd_set sc_law_classes.nd (pd_op opd_add (pdb (pd_var 1)) (pdb (pd_lst (pad_cons (pd_isXv HX (hk 21 (by decide)) (.own (Γ K cTooMany)) (pdb (pd_var 0)) (pe_cls h.g_TooMany) h.b_isinstance) (pad_cons (pd_isXv HX (hk 22 (by decide)) (.own (Γ K cTooGreat)) (pdb (pd_var 0)) (pe_cls h.g_TooGreat) h.b_isinstance) (pad_cons (pd_isXv HX (hk 23 (by decide)) (.own (Γ K cPegOut)) (pdb (pd_var 0)) (pe_cls h.g_PegOut) h.b_isinstance) (pad_cons (pd_isXv HX (hk 24 (by decide)) (.own (Γ K cPegIn)) (pdb (pd_var 0)) (pe_cls h.g_PegIn) h.b_isinstance) pad_nil)))))))) (pssd_cons (psd_set sc_law_classes.nd (pd_op opd_add (pdb (pd_var 1)) (pdb (pd_lst (pad_cons (pd_isXv HX (hk 25 (by decide)) (.own (Γ K cBroken)) (pdb (pd_var 0)) (pe_cls h.g_Broken) h.b_isinstance) (pad_cons (pd_isXv HX (hk 26 (by decide)) (.own (Γ K cNothingToUndo)) (pdb (pd_var 0)) (pe_cls h.g_NothingToUndo) h.b_isinstance) pad_nil)))))) (pssd_cons (psd_set sc_law_classes.nd (pd_lst (pad_cons (pd_isXv HX (hk 27 (by decide)) (.own (Γ K cWrongValue)) (pdb (pd_var 0)) (pe_cls h.g_WrongValue) h.b_isinstance) (pad_cons (pd_isXv HX (hk 28 (by decide)) (.own (Γ K cWrongName)) (pdb (pd_var 0)) (pe_cls h.g_WrongName) h.b_isinstance) (pad_cons (pd_isXv HX (hk 29 (by decide)) (.own (Γ K cNoAnswer)) (pdb (pd_var 0)) (pe_cls h.g_NoAnswer) h.b_isinstance) pad_nil))))) (pssd_cons (psd_set sc_law_classes.nd (pd_op opd_add (pdb (pd_var 2)) (pdb (pd_lst (pad_cons (pd_isXv HX (hk 30 (by decide)) (.ty "ValueError") (pdb (pd_var 0)) (pe_bltn (v := .ty "ValueError") (by rfl) h.b_ValueError (by decide +kernel) rfl (by decide)) h.b_isinstance) (pad_cons (pd_isXv HX (hk 31 (by decide)) (.ty "LookupError") (pdb (pd_var 0)) (pe_bltn (v := .ty "LookupError") (by rfl) h.b_LookupError (by decide +kernel) rfl (by decide)) h.b_isinstance) (pad_cons (pd_isXv HX (hk 32 (by decide)) (.ty "ArithmeticError") (pdb (pd_var 0)) (pe_bltn (v := .ty "ArithmeticError") (by rfl) h.b_ArithmeticError (by decide +kernel) rfl (by decide)) h.b_isinstance) pad_nil))))))) (pssd_one (psd_ret (pd_op opd_add (pdb (pdf (pf_compH (own := [("_law_at", 3)]) (tup := false) (is := [3]) HX sc_law_classes.nd (pid_ranH h.b_range pd_int) ⟨rfl, of_decide_eq_true (by kernel_rfl), of_decide_eq_true (by kernel_rfl), of_decide_eq_true (by kernel_rfl), of_decide_eq_true (by kernel_rfl)⟩ (fun _ _ _ _ _ _ => pgc_name sc_law_classes.nd) (fun _ _ _ _ _ _ => (ptsd_one (pt_tru (pdb (pd_ix (pdb (pd_var 1)) (pdb (pd_var 3))))))) (fun _ _ _ _ _ _ => (pd_var 3))))) (pdb (pdf (pf_compH (own := [("_law_at", 3)]) (tup := false) (is := [3]) HX sc_law_classes.nd (pid_ranH h.b_range pd_int) ⟨rfl, of_decide_eq_true (by kernel_rfl), of_decide_eq_true (by kernel_rfl), of_decide_eq_true (by kernel_rfl), of_decide_eq_true (by kernel_rfl)⟩ (fun _ _ _ _ _ _ => pgc_name sc_law_classes.nd) (fun _ _ _ _ _ _ => (ptsd_one (pt_tru (pdb (pd_ix (pdb (pd_var 2)) (pdb (pd_var 3))))))) (fun _ _ _ _ _ _ => (pd_op opd_add (pdb pd_int) (pdb (pd_var 3)))))))))))))))))))))
theorem suite_ok (h : HdT w mg K base) (c : Nat) (a dx : Addr) (b : Nat → Bool) (hk : ∀ i, i < tgts.length → PySem.W.kitOne K (.ref (Γ K c)) ((tgts.getD i (.ty "")).v K) = some (b i)) (hno : ∀ n ∈ [("given" : Str), "number", "index"], PySem.W.findIn K (.ref (Γ K c)) n = some none) {cdv : Value} {A : Around} {outer : List Env} {s : Shared} {H : Hp} {E : XK} {oe : Obj} {g : Addr} {pn : List (Addr × Obj)} {k : Nat}
    (hr0 : L2H.RoomH (k + 1) (A.deeper (envOfC "_law_caught" (defScope (top 62)) s.heap.objs.size g cdv))) (hgd : A.guards = some []) (HX : HotAt1 ((cxOf (L2N.CX P w) P w K mg base ["_law_act", "_law_e", "_law_found"] "_law_caught" (defScope (top 62)) g cdv A outer s H E).suite a ((a, oe) :: pn)) (Γ K) c a dx) : PSs ((cxOf (L2N.CX P w) P w K mg base ["_law_act", "_law_e", "_law_found"] "_law_caught" (defScope (top 62)) g cdv A outer s H E).suite a ((a, oe) :: pn)) (hdlr (defBody (top 62))) (tS ⟨K, Γ K⟩ WN (gsuite b c a dx)) := by
  obtain ⟨fd, D1⟩ := h.d_law_classes
  have hr : L2H.RoomH (k + 1) ((cxOf (L2N.CX P w) P w K mg base ["_law_act", "_law_e", "_law_found"] "_law_caught" (defScope (top 62)) g cdv A outer s H E).suite a ((a, oe) :: pn)).A := ⟨hr0.dp, hr0.un⟩
  have hu : ((cxOf (L2N.CX P w) P w K mg base ["_law_act", "_law_e", "_law_found"] "_law_caught" (defScope (top 62)) g cdv A outer s H E).suite a ((a, oe) :: pn)).A.units + 64 < cLine := by have := hr.un; omega
  have hu2 : ((cxOf (L2N.CX P w) P w K mg base ["_law_act", "_law_e", "_law_found"] "_law_caught" (defScope (top 62)) g cdv A outer s H E).suite a ((a, oe) :: pn)).A.units + 65 < cLine := by have := hr.un; omega
  exact (pssd_cons (psd_set sc_law_caught.nd (pd_callHot (k := 0) HX (hr.mono (by omega)) D1 sc_law_classes rfl h.g_law_classes (pd_var 1) (fun _ _ _ _ _ _ us hl => match us, hl with | [_], _ => rfl) (fun cdv A outer s H E oe hr1 hgd1 HX1 => cls_ok h c a dx b hk HX1))) (pssd_cons (psd_if (PW.pt (pwd_or (pt_cmp opd_lt (pdb (pd_ix (pdb (pd_var 2)) (pdb pd_int))) (pdb pd_int)) (pwd1 (pt_cmp (opd_in hu2) (pdb (pd_ix (pdb (pd_var 2)) (pdb pd_int))) (pdb (pd_lst (pad_cons pd_int (pad_cons pd_int (pad_cons pd_int pad_nil)))))) _))) (pssd_one (psd_ret (pd_op opd_add (pdb (pd_var 2)) (pdb (pd_lst (pad_cons (pd_call1 (cd_reprW hgd hu) h.b_repr (pdb (pd_xf HX (hno "given" (by decide)) (pdb (pd_var 1))))) pad_nil)))))) pssd_nil) (pssd_cons (psd_if (pt_cmp (opd_eq hu) (pdb (pd_ix (pdb (pd_var 2)) (pdb pd_int))) (pdb pd_int)) (pssd_one (psd_ret (pd_op opd_add (pdb (pd_var 2)) (pdb (pd_lst (pad_cons (pd_call1 (cd_reprW hgd hu) h.b_repr (pdb (pd_xf HX (hno "number" (by decide)) (pdb (pd_var 1))))) pad_nil)))))) pssd_nil) (pssd_one (psd_ret (pd_if (pt_cmp opd_lt (pdb (pd_ix (pdb (pd_var 2)) (pdb pd_int))) (pdb pd_int)) (pd_op opd_add (pdb (pd_var 2)) (pdb (pd_lst (pad_cons (pd_call1 (cd_reprW hgd hu) h.b_repr (pdb (pd_xf HX (hno "index" (by decide)) (pdb (pd_var 1))))) pad_nil)))) (pd_var 2)))))))
theorem live_ok (h : HdT w mg K base) (c : Nat) (hc : c ∈ told.map (·.1)) : LiveX K (Γ K c) tgts (bX c) := by
  rcases List.mem_cons.mp hc with e | hc
  · subst e; exact LiveX.of (bs := [false, true, false, false, false, false, false, false, false, false, false, false, false, false, false, false, false, false, false, false, false, false, false, false, false, false, false, true, false, false, true, false, false]) h.x_InvalidText rfl rfl (fun _ => rfl)
  cases hc
theorem cls_part (R : SF) (b : Nat → Bool) (c a dx : Nat) (fs : List (Str × AM.D)) (st : Sto) : gclsA R b c a dx [.sh (.exv c a dx fs), .un, .un, .un] st = R [.sh (.exv c a dx fs), .sh (.lst [.bl (b 0), .bl (b 1), .bl (b 2), .bl (b 3), .bl (b 4), .bl (b 5), .bl (b 6), .bl (b 7), .bl (b 8), .bl (b 9), .bl (b 10), .bl (b 11), .bl (b 12), .bl (b 13), .bl (b 14), .bl (b 15), .bl (b 16), .bl (b 17), .bl (b 18), .bl (b 19), .bl (b 20), .bl (b 21), .bl (b 22), .bl (b 23), .bl (b 24), .bl (b 25), .bl (b 26)]), .sh (.lst [.bl (b 27), .bl (b 28), .bl (b 29), .bl (b 30), .bl (b 31), .bl (b 32)]), .un] st := by
  simp [gclsA, sSeq, sSet, dLst, dCons, dNil, dOp1, dVar, dOp2, oAdd, Res.then, Res.bind, SR.bind, sizeLine_eq]
theorem su_InvalidText (a dx : Nat) (d : AM.D) (s : Str) (h2 : ∀ st, oReprB d st = .ok (.str s) st) (st : Sto) : gsuR cInvalidText a dx [.un, .sh (.exv cInvalidText a dx [("given", d)]), .sh (.lst (([1, 40, 43] : List Int).map AM.D.int))] st = .rt (.lst (([1, 40, 43] : List Int).map AM.D.int ++ [.str s])) st := by
  have ix : ∀ st, oIx.go (atI [AM.D.int 1, AM.D.int 40, AM.D.int 43] 0) st = .ok (.int 1) st := fun _ => rfl
  have hin : ∀ st, oOf (inD (.int 1) (.lst [.int 19, .int 23, .int 24])) st = .ok (.bl false) st := fun _ => rfl
  have heq : ∀ st, oEq (.int 1) (.int 21) st = .ok (.bl false) st := fun _ => rfl
  simp [gsuR, h2, ix, hin, heq, sSeq, sIf, sRet, sPass, gOr, gBl, dIf, dC, oLt, oIx, oIn, dLst, dCons, dNil, dOp1, dVar, dOp2, oAdd, Res.then, Res.bind, SR.bind, sizeLine_eq]
theorem sv_InvalidText (a dx : Nat) (d : AM.D) (s : Str) (e : reprD d = some s) (st : Sto) : gsuite (bX cInvalidText) cInvalidText a dx [.un, .sh (.exv cInvalidText a dx [("given", d)]), .un] st = .rt (.lst (([1, 40, 43] : List Int).map AM.D.int ++ [.str s])) st := by
  have h0 : gcls (bX cInvalidText) cInvalidText a dx [.sh (.exv cInvalidText a dx [("given", d)]), .un, .un, .un] st = .rt (.lst (([1, 40, 43] : List Int).map AM.D.int)) st := (cls_part gclsR (bX cInvalidText) cInvalidText a dx _ st).trans (by kernel_rfl)
  have h1 : runD 1 4 (gcls (bX cInvalidText) cInvalidText a dx) [.exv cInvalidText a dx [("given", d)]] st = .ok (.lst (([1, 40, 43] : List Int).map AM.D.int)) st := by
    show (match gcls (bX cInvalidText) cInvalidText a dx [.sh (.exv cInvalidText a dx [("given", d)]), .un, .un, .un] st with
      | .nx _ st' => Res.ok AM.D.non st'
      | .rt d st' => .ok d st'
      | .exc e st' => .exc e st'
      | _ => .bad) = _
    rw [h0]
  show SR.bind ((onlyOk (runD 1 4 (gcls (bX cInvalidText) cInvalidText a dx) [.exv cInvalidText a dx [("given", d)]] st)).then fun r st' => SR.nx [Sl.un, Sl.sh (.exv cInvalidText a dx [("given", d)]), Sl.sh r] st') (gsuR cInvalidText a dx) = _
  rw [h1]
  exact su_InvalidText a dx d s (repr_any e) st
theorem told_ok (e : Exn) (l : List AM.D) (hl : toldX told e = some l) : e.c ∈ told.map (·.1) ∧ ∀ a dx st, gsuite (bX e.c) e.c a dx [.un, .sh (.exv e.c a dx e.fs), .un] st = .rt (.lst l) st := by
  obtain ⟨ns, f, d, s, e1, e2, e3, rfl⟩ := toldX_ok hl
  obtain ⟨c, fs⟩ := e
  obtain rfl : fs = [(f, d)] := e2
  have m := lookup_mem e1
  refine ⟨List.mem_map.mpr ⟨_, m, rfl⟩, ?_⟩
  rcases List.mem_cons.mp m with z | m
  · cases z; exact fun a dx st => sv_InvalidText a dx d s e3 st
  cases m
theorem cgt (h : HdT w mg K base) (k : Nat) : Cgt P w K mg base (Γ K) k "_law_caught" (toldX told) := by
  obtain ⟨fd, D⟩ := h.d_law_caught
  exact Cgt.mk (live := fun c => c ∈ told.map (·.1)) (sg := fun c a dx => gsuite (bX c) c a dx) D sc_law_caught h.g_law_caught (fun _ _ _ _ _ _ us hl => match us, hl with | [_], _ => rfl) rfl (.inl rfl) (by decide) (by decide) h.g_WrongValue h.g_WrongName h.g_NoAnswer rfl rfl rfl (by decide) (by decide) (by decide)
    (fun c hc => (live_ok h c hc).exm) (fun c hc => (live_ok h c hc).xv) (fun c a dx hc cdv A outer s H E oe pn hr hgd HX => suite_ok h c a dx (bX c) (live_ok h c hc).kit (live_ok h c hc).no hr hgd HX) told_ok
theorem sc_is_integer : FnScope ["value"] ["value"] (defScope (top 39)) := ⟨rfl, rfl, rfl, by decide +kernel, rfl, by decide +kernel, by decide +kernel⟩
theorem b_is_integer (h : HdT w mg K base) {fd : FuncData} (D : FunD K "is_integer" "is_integer" (defArgs (top 39)) (defBody (top 39)) (defScope (top 39)) [] [] ((fun K => He.ga K "is_integer") K) fd) : FnB P w K mg base 1 ((fun K => He.ga K "is_integer") K) fd ["value"] (spD ⟨K, Γ K⟩ (F_is_integer U)) :=
  def_ok D sc_is_integer _ fun cdv A outer s H E G =>
    (pssd_one (psd_ret (pd_and (pd_isi h.is_int (.ty "int") (pdb (pd_var 0)) (pe_bltn (v := .ty "int") (by rfl) h.b_int (by decide +kernel) rfl (by decide)) h.b_isinstance) (pd_one (pd_not (pd_isi h.is_bool (.ty "bool") (pdb (pd_var 0)) (pe_bltn (v := .ty "bool") (by rfl) h.b_bool (by decide +kernel) rfl (by decide)) h.b_isinstance))))))
theorem v_is_integer (h : HdT w mg K base) : FnV P w K mg base 1 ((fun K => He.ga K "is_integer") K) (spD ⟨K, Γ K⟩ (F_is_integer U)) := by
  obtain ⟨fd, D⟩ := h.d_is_integer
  exact (b_is_integer h D).v D (fun _ _ _ _ _ _ us hl => match us, hl with | [_], _ => rfl)
theorem k_is_integer (h : HdT w mg K base) : Kn P w K mg base (Γ K) 1 "is_integer" [] (F_is_integer U) := by
  obtain ⟨fd, D⟩ := h.d_is_integer
  exact ⟨_, h.g_is_integer, D.kp, Cal.fn0 (v_is_integer h)⟩
theorem sc_is_between : FnScope ["value", "low", "high"] ["value", "low", "high"] (defScope (top 40)) := ⟨rfl, rfl, rfl, by decide +kernel, rfl, by decide +kernel, by decide +kernel⟩
theorem b_is_between (h : HdT w mg K base) {fd : FuncData} (D : FunD K "is_between" "is_between" (defArgs (top 40)) (defBody (top 40)) (defScope (top 40)) [] [] ((fun K => He.ga K "is_between") K) fd) : FnB P w K mg base 2 ((fun K => He.ga K "is_between") K) fd ["value", "low", "high"] (spD ⟨K, Γ K⟩ (F_is_between U)) :=
  def_ok D sc_is_between _ fun cdv A outer s H E G =>
    (pssd_one (psd_ret (pd_and (pd_call G (k_is_integer h) (pad_cons (pd_var 0) pad_nil)) (pd_one (pd_chain opd_le opd_le (pdb (pd_var 1)) (pdb (pd_var 0)) (pdb (pd_var 2)))))))
theorem v_is_between (h : HdT w mg K base) : FnV P w K mg base 2 ((fun K => He.ga K "is_between") K) (spD ⟨K, Γ K⟩ (F_is_between U)) := by
  obtain ⟨fd, D⟩ := h.d_is_between
  exact (b_is_between h D).v D (fun _ _ _ _ _ _ us hl => match us, hl with | [_, _, _], _ => rfl)
theorem k_is_between (h : HdT w mg K base) : Kn P w K mg base (Γ K) 2 "is_between" [] (F_is_between U) := by
  obtain ⟨fd, D⟩ := h.d_is_between
  exact ⟨_, h.g_is_between, D.kp, Cal.fn0 (v_is_between h)⟩
theorem sc_is_word : FnScope ["value", "sign"] ["value"] (defScope (top 41)) := ⟨rfl, rfl, rfl, by decide +kernel, rfl, by decide +kernel, by decide +kernel⟩
theorem b_is_word (h : HdT w mg K base) {fd : FuncData} (D : FunD K "is_word" "is_word" (defArgs (top 41)) (defBody (top 41)) (defScope (top 41)) [] [] ((fun K => He.ga K "is_word") K) fd) : FnB P w K mg base 1 ((fun K => He.ga K "is_word") K) fd ["value"] (spD ⟨K, Γ K⟩ (F_is_word U)) :=
  def_ok D sc_is_word _ fun cdv A outer s H E G =>
    (pssd_one (psd_ret (pd_and (pd_isi h.is_str (.ty "str") (pdb (pd_var 0)) (pe_bltn (v := .ty "str") (by rfl) h.b_str (by decide +kernel) rfl (by decide)) h.b_isinstance) (pd_one (pd_call1 (cd_all G.calm) h.b_all (pdb (pdf (pf_comp (own := [("sign", 1)]) (tup := false) (is := [1]) G.calm sc_is_word.nd (pid_seq (pd_var 0)) ⟨rfl, of_decide_eq_true (by kernel_rfl), of_decide_eq_true (by kernel_rfl), of_decide_eq_true (by kernel_rfl), of_decide_eq_true (by kernel_rfl)⟩ (fun _ _ _ _ _ => (pgc_name sc_is_word.nd)) (fun _ _ _ _ _ => ptsd_nil) (fun _ _ _ _ _ => (pd_cmp (opd_inO (G.blk _ _ _ _ _)) (pdb (pd_var 1)) (pdb (pd_gstr h.c_LETTERS))))))))))))
theorem v_is_word (h : HdT w mg K base) : FnV P w K mg base 1 ((fun K => He.ga K "is_word") K) (spD ⟨K, Γ K⟩ (F_is_word U)) := by
  obtain ⟨fd, D⟩ := h.d_is_word
  exact (b_is_word h D).v D (fun _ _ _ _ _ _ us hl => match us, hl with | [_], _ => rfl)
theorem k_is_word (h : HdT w mg K base) : Kn P w K mg base (Γ K) 1 "is_word" [] (F_is_word U) := by
  obtain ⟨fd, D⟩ := h.d_is_word
  exact ⟨_, h.g_is_word, D.kp, Cal.fn0 (v_is_word h)⟩
theorem sc_is_block : FnScope ["value"] ["value"] (defScope (top 45)) := ⟨rfl, rfl, rfl, by decide +kernel, rfl, by decide +kernel, by decide +kernel⟩
theorem b_is_block (h : HdT w mg K base) {fd : FuncData} (D : FunD K "is_block" "is_block" (defArgs (top 45)) (defBody (top 45)) (defScope (top 45)) [] [] ((fun K => He.ga K "is_block") K) fd) : FnB P w K mg base 3 ((fun K => He.ga K "is_block") K) fd ["value"] (spD ⟨K, Γ K⟩ (F_is_block U)) :=
  def_ok D sc_is_block _ fun cdv A outer s H E G =>
    (pssd_cons (psd_if (PW.pt (pwd_or (ptd_not (pt_tru (pdb (pd_isi h.is_tuple (.ty "tuple") (pdb (pd_var 0)) (pe_bltn (v := .ty "tuple") (by rfl) h.b_tuple (by decide +kernel) rfl (by decide)) h.b_isinstance)))) (pwd_or (pt_cmp (opd_ne G.rm.units) (pdb (pd_call1 cd_len h.b_len (pdb (pd_var 0)))) (pdb (pd_gint h.c_ITEMS))) (pwd1 (ptd_not (pt_tru (pdb (pd_call G (k_is_word h) (pad_cons (pd_ix (pdb (pd_var 0)) (pdb pd_int)) pad_nil))))) _)))) (pssd_one (psd_ret pd_bl)) pssd_nil) (pssd_cons (psd_if (PW.pt (pwd_or (ptd_not (pt_chainD opd_le opd_le (pdb pd_int) (pdb (pd_call1 cd_len h.b_len (pdb (pd_ix (pdb (pd_var 0)) (pdb pd_int))))) (pdb (pd_gint h.c_MOST_WORD)))) (pwd1 (ptd_not (pt_tru (pdb (pd_call G (k_is_between h) (pad_cons (pd_ix (pdb (pd_var 0)) (pdb pd_int)) (pad_cons (pd_op opd_sub (pdb pd_int) (pdb (pd_gint h.c_MOST_TIMES))) (pad_cons (pd_gint h.c_MOST_TIMES) pad_nil))))))) _))) (pssd_one (psd_ret pd_bl)) pssd_nil) (pssd_one (psd_ret (pd_call G (k_is_between h) (pad_cons (pd_ix (pdb (pd_var 0)) (pdb pd_int)) (pad_cons (pd_op opd_sub (pdb pd_int) (pdb (pd_gint h.c_MOST_MORE))) (pad_cons (pd_gint h.c_MOST_MORE) pad_nil))))))))
theorem v_is_block (h : HdT w mg K base) : FnV P w K mg base 3 ((fun K => He.ga K "is_block") K) (spD ⟨K, Γ K⟩ (F_is_block U)) := by
  obtain ⟨fd, D⟩ := h.d_is_block
  exact (b_is_block h D).v D (fun _ _ _ _ _ _ us hl => match us, hl with | [_], _ => rfl)
theorem k_is_block (h : HdT w mg K base) : Kn P w K mg base (Γ K) 3 "is_block" [] (F_is_block U) := by
  obtain ⟨fd, D⟩ := h.d_is_block
  exact ⟨_, h.g_is_block, D.kp, Cal.fn0 (v_is_block h)⟩
theorem sc_Known_init : FnScope ["self", "parts"] ["self", "parts"] (defScope (inClass (top 53) 0)) := ⟨rfl, rfl, rfl, by decide +kernel, rfl, by decide +kernel, by decide +kernel⟩
theorem b_Known_init (h : HdT w mg K base) {fd : FuncData} (D : FunD K "__init__" "Known.__init__" (defArgs (inClass (top 53) 0)) (defBody (inClass (top 53) 0)) (defScope (inClass (top 53) 0)) [] [] ((fun K => He.ma K (He.ga K "Known") "__init__") K) fd) : FnB P w K mg base 1 ((fun K => He.ma K (He.ga K "Known") "__init__") K) fd ["self", "parts"] (spD ⟨K, Γ K⟩ (F_Known_init U)) :=
  def_ok D sc_Known_init _ fun cdv A outer s H E G =>
    (pssd_one (psd_fld [cKnown] h.fl_parts (pd_var 0) (pd_var 1)))
theorem v_Known_init (h : HdT w mg K base) : FnV P w K mg base 1 ((fun K => He.ma K (He.ga K "Known") "__init__") K) (spD ⟨K, Γ K⟩ (F_Known_init U)) := by
  obtain ⟨fd, D⟩ := h.d_Known_init
  exact (b_Known_init h D).v D (fun _ _ _ _ _ _ us hl => match us, hl with | [_, _], _ => rfl)
theorem k_Known (h : HdT w mg K base) : Kn P w K mg base (Γ K) 2 "Known" [] (M_Known U) := ⟨_, h.g_Known, h.mk_Known.kp, Cal.mkI h.mk_Known (v_Known_init h) mk_Known⟩
theorem sc_Winding_init : FnScope ["self", "blocks", "index", "block"] ["self", "blocks"] (defScope (inClass (top 54) 0)) := ⟨rfl, rfl, rfl, by decide +kernel, rfl, by decide +kernel, by decide +kernel⟩
theorem v_Winding_init (h : HdT w mg K base) : FnV P w K mg base 4 ((fun K => He.ma K (He.ga K "Winding") "__init__") K) (spD ⟨K, Γ K⟩ (F_Winding_init U)) := by
  obtain ⟨fd, D⟩ := h.d_Winding_init
  exact star_ok (ps := ["self"]) D sc_Winding_init _ (fun kV doc pm an cdv ct => StX.bind_star1 (B := fun us => bindArgs (PySem.W.fnOf "__init__" "Winding.__init__" (defArgs (inClass (top 54) 0)) (defBody (inClass (top 54) 0)) (defScope (inClass (top 54) 0)) .none kV doc pm an cdv ct) ⟨us, []⟩) (fun a => rfl) (fun a r rs => rfl)) fun cdv A outer s H E G =>
    (pssd_one (psd_if (PW.pt (pwd_and (pt_cmp (opd_eq G.rm.units) (pdb (pd_call1 cd_len h.b_len (pdb (pd_var 1)))) (pdb pd_int)) (pwd1 (pt_tru (pdb (pd_isi h.is_Known (.own _) (pdb (pd_ix (pdb (pd_var 1)) (pdb pd_int))) (pe_cls h.g_Known) h.b_isinstance))) _))) (pssd_one (psd_fld [cWinding] h.fl_blocks (pd_var 0) (pd_fld [cKnown] h.fl_parts (pd_ix (pdb (pd_var 1)) (pdb pd_int))))) (pssd_cons (psd_for G.po G.calm (pid_enum h.b_enumerate (pd_var 1)) (pgd_tup G.calm (pgsd_cons (pgd_name sc_Winding_init.nd) (pgsd_cons (pgd_name sc_Winding_init.nd) pgsd_nil))) (pssd_one (psd_if (PW.pt (pwd_or (pt_cmp opd_ge (pdb (pd_var 2)) (pdb (pd_gint h.c_MOST_BLOCKS))) (pwd1 (ptd_not (pt_tru (pdb (pd_call G (k_is_block h) (pad_cons (pd_var 3) pad_nil))))) _))) (pssd_one psd_never) pssd_nil))) (pssd_one (psd_fld [cWinding] h.fl_blocks (pd_var 0) (pd_var 1))))))
theorem k_Winding (h : HdT w mg K base) : Kn P w K mg base (Γ K) 5 "Winding" [] (M_Winding U) := ⟨_, h.g_Winding, h.mk_Winding.kp, Cal.mkI h.mk_Winding (v_Winding_init h) mk_Winding⟩
theorem sc_are_blocks : FnScope ["value", "block"] ["value"] (defScope (top 46)) := ⟨rfl, rfl, rfl, by decide +kernel, rfl, by decide +kernel, by decide +kernel⟩
theorem b_are_blocks (h : HdT w mg K base) {fd : FuncData} (D : FunD K "are_blocks" "are_blocks" (defArgs (top 46)) (defBody (top 46)) (defScope (top 46)) [] [] ((fun K => He.ga K "are_blocks") K) fd) : FnB P w K mg base 4 ((fun K => He.ga K "are_blocks") K) fd ["value"] (spD ⟨K, Γ K⟩ (F_are_blocks U)) :=
  def_ok D sc_are_blocks _ fun cdv A outer s H E G =>
    (pssd_cons (psd_if (PW.pt (pwd_or (ptd_not (pt_tru (pdb (pd_isi h.is_tuple (.ty "tuple") (pdb (pd_var 0)) (pe_bltn (v := .ty "tuple") (by rfl) h.b_tuple (by decide +kernel) rfl (by decide)) h.b_isinstance)))) (pwd1 (pt_cmp opd_gt (pdb (pd_call1 cd_len h.b_len (pdb (pd_var 0)))) (pdb (pd_gint h.c_MOST_BLOCKS))) _))) (pssd_one (psd_ret pd_bl)) pssd_nil) (pssd_one (psd_ret (pd_call1 (cd_all G.calm) h.b_all (pdb (pdf (pf_comp (own := [("block", 1)]) (tup := false) (is := [1]) G.calm sc_are_blocks.nd (pid_seq (pd_var 0)) ⟨rfl, of_decide_eq_true (by kernel_rfl), of_decide_eq_true (by kernel_rfl), of_decide_eq_true (by kernel_rfl), of_decide_eq_true (by kernel_rfl)⟩ (fun _ _ _ _ _ => (pgc_name sc_are_blocks.nd)) (fun _ _ _ _ _ => ptsd_nil) (fun _ _ _ _ _ => (pd_call (G.blk _ _ _ _ _) (k_is_block h) (pad_cons (pd_var 1) pad_nil))))))))))
theorem v_are_blocks (h : HdT w mg K base) : FnV P w K mg base 4 ((fun K => He.ga K "are_blocks") K) (spD ⟨K, Γ K⟩ (F_are_blocks U)) := by
  obtain ⟨fd, D⟩ := h.d_are_blocks
  exact (b_are_blocks h D).v D (fun _ _ _ _ _ _ us hl => match us, hl with | [_], _ => rfl)
theorem k_are_blocks (h : HdT w mg K base) : Kn P w K mg base (Γ K) 4 "are_blocks" [] (F_are_blocks U) := by
  obtain ⟨fd, D⟩ := h.d_are_blocks
  exact ⟨_, h.g_are_blocks, D.kp, Cal.fn0 (v_are_blocks h)⟩
theorem sc_text_of : FnScope ["block", "factor", "word", "times", "over"] ["block"] (defScope (top 47)) := ⟨rfl, rfl, rfl, by decide +kernel, rfl, by decide +kernel, by decide +kernel⟩
theorem b_text_of (h : HdT w mg K base) {fd : FuncData} (D : FunD K "text_of" "text_of" (defArgs (top 47)) (defBody (top 47)) (defScope (top 47)) [] [] ((fun K => He.ga K "text_of") K) fd) : FnB P w K mg base 1 ((fun K => He.ga K "text_of") K) fd ["block"] (spD ⟨K, Γ K⟩ (F_text_of U)) :=
  def_ok D sc_text_of _ fun cdv A outer s H E G =>
    (pssd_cons (psd_asg (pd_var 0) (pgd_tup G.calm (pgsd_cons (pgd_name sc_text_of.nd) (pgsd_cons (pgd_name sc_text_of.nd) (pgsd_cons (pgd_name sc_text_of.nd) pgsd_nil))))) (pssd_cons (psd_if (pt_cmp (opd_eq G.rm.units) (pdb (pd_var 3)) (pdb pd_int)) (pssd_one (psd_ret (pd_joined (.cons (pd_fmt (pdb (pd_var 2))) (.cons pd_str (.cons (pd_fmt (pdb (pd_var 4))) .nil)))))) pssd_nil) (pssd_cons (psd_set sc_text_of.nd (pd_dget (r := [(.inl (1), .str ""), (.inl (-1), .str "-")]) G (.cons (kk := .inl (1)) (u := .str "") (by exact pe_int) (by exact pe_str) rfl (.cons (kk := .inl (-1)) (u := .str "-") (pe_negc) (by exact pe_str) rfl .nil)) (pd_var 3) (pd_joined1 (pd_fmt (pdb (pd_var 3)))))) (pssd_cons (psd_if (pt_cmp (opd_eq G.rm.units) (pdb (pd_var 4)) (pdb pd_int)) (pssd_one (psd_ret (pd_joined (.cons (pd_fmt (pdb (pd_var 2))) (.cons pd_str (.cons (pd_fmt (pdb (pd_var 1))) (.cons pd_str .nil))))))) pssd_nil) (pssd_one (psd_ret (pd_if (pt_cmp opd_lt (pdb (pd_var 4)) (pdb pd_int)) (pd_joined (.cons (pd_fmt (pdb (pd_var 2))) (.cons pd_str (.cons (pd_fmt (pdb (pd_var 1))) (.cons pd_str (.cons (pd_fmt (pdb (pd_var 4))) .nil)))))) (pd_joined (.cons (pd_fmt (pdb (pd_var 2))) (.cons pd_str (.cons (pd_fmt (pdb (pd_var 1))) (.cons pd_str (.cons (pd_fmt (pdb (pd_var 4))) .nil)))))))))))))
theorem v_text_of (h : HdT w mg K base) : FnV P w K mg base 1 ((fun K => He.ga K "text_of") K) (spD ⟨K, Γ K⟩ (F_text_of U)) := by
  obtain ⟨fd, D⟩ := h.d_text_of
  exact (b_text_of h D).v D (fun _ _ _ _ _ _ us hl => match us, hl with | [_], _ => rfl)
theorem k_text_of (h : HdT w mg K base) : Kn P w K mg base (Γ K) 1 "text_of" [] (F_text_of U) := by
  obtain ⟨fd, D⟩ := h.d_text_of
  exact ⟨_, h.g_text_of, D.kp, Cal.fn0 (v_text_of h)⟩
theorem sc_integer_in : FnScope ["text", "digits", "digit"] ["text"] (defScope (top 48)) := ⟨rfl, rfl, rfl, by decide +kernel, rfl, by decide +kernel, by decide +kernel⟩
theorem b_integer_in (h : HdT w mg K base) {fd : FuncData} (D : FunD K "integer_in" "integer_in" (defArgs (top 48)) (defBody (top 48)) (defScope (top 48)) [] [] ((fun K => He.ga K "integer_in") K) fd) : FnB P w K mg base 1 ((fun K => He.ga K "integer_in") K) fd ["text"] (spD ⟨K, Γ K⟩ (F_integer_in U)) :=
  def_ok D sc_integer_in _ fun cdv A outer s H E G =>
    (pssd_cons (psd_set sc_integer_in.nd (pd_if (pt_cmp (opd_eq G.rm.units) (pdb (pd_slice (pdb (pd_var 0)) pod_none (pod_some pd_int))) (pdb pd_str)) (pd_slice (pdb (pd_var 0)) (pod_some pd_int) pod_none) (pd_var 0))) (pssd_cons (psd_if (PW.pt (pwd_or (ptd_not (pt_chainD opd_le opd_le (pdb pd_int) (pdb (pd_call1 cd_len h.b_len (pdb (pd_var 1)))) (pdb pd_int))) (pwd1 (pt_tru (pdb (pd_call1 (cd_any G.calm) h.b_any (pdb (pdf (pf_comp (own := [("digit", 2)]) (tup := false) (is := [2]) G.calm sc_integer_in.nd (pid_seq (pd_var 1)) ⟨rfl, of_decide_eq_true (by kernel_rfl), of_decide_eq_true (by kernel_rfl), of_decide_eq_true (by kernel_rfl), of_decide_eq_true (by kernel_rfl)⟩ (fun _ _ _ _ _ => (pgc_name sc_integer_in.nd)) (fun _ _ _ _ _ => ptsd_nil) (fun _ _ _ _ _ => (pd_cmp (opd_notInO (G.blk _ _ _ _ _)) (pdb (pd_var 2)) (pdb (pd_gstr h.c_DIGITS)))))))))) _))) (pssd_one (psd_ret pd_non)) pssd_nil) (pssd_one (psd_ret (pd_if (pt_cmp (opd_eq G.rm.units) (pdb (pd_joined1 (pd_fmt (pdb (pd_callT1 cd_int h.b_int (pdb (pd_var 0))))))) (pdb (pd_var 0))) (pd_callT1 cd_int h.b_int (pdb (pd_var 0))) pd_non)))))
theorem v_integer_in (h : HdT w mg K base) : FnV P w K mg base 1 ((fun K => He.ga K "integer_in") K) (spD ⟨K, Γ K⟩ (F_integer_in U)) := by
  obtain ⟨fd, D⟩ := h.d_integer_in
  exact (b_integer_in h D).v D (fun _ _ _ _ _ _ us hl => match us, hl with | [_], _ => rfl)
theorem k_integer_in (h : HdT w mg K base) : Kn P w K mg base (Γ K) 1 "integer_in" [] (F_integer_in U) := by
  obtain ⟨fd, D⟩ := h.d_integer_in
  exact ⟨_, h.g_integer_in, D.kp, Cal.fn0 (v_integer_in h)⟩
theorem sc_factor_in : FnScope ["text"] ["text"] (defScope (top 49)) := ⟨rfl, rfl, rfl, by decide +kernel, rfl, by decide +kernel, by decide +kernel⟩
theorem b_factor_in (h : HdT w mg K base) {fd : FuncData} (D : FunD K "factor_in" "factor_in" (defArgs (top 49)) (defBody (top 49)) (defScope (top 49)) [] [] ((fun K => He.ga K "factor_in") K) fd) : FnB P w K mg base 2 ((fun K => He.ga K "factor_in") K) fd ["text"] (spD ⟨K, Γ K⟩ (F_factor_in U)) :=
  def_ok D sc_factor_in _ fun cdv A outer s H E G =>
    (pssd_one (psd_ret (pd_dget (r := [(.inr "", .int (1)), (.inr "-", .int (-1))]) G (.cons (kk := .inr "") (u := .int (1)) (by exact pe_str) (by exact pe_int) rfl (.cons (kk := .inr "-") (u := .int (-1)) (by exact pe_str) (pe_negc) rfl .nil)) (pd_var 0) (pd_call G (k_integer_in h) (pad_cons (pd_var 0) pad_nil)))))
theorem v_factor_in (h : HdT w mg K base) : FnV P w K mg base 2 ((fun K => He.ga K "factor_in") K) (spD ⟨K, Γ K⟩ (F_factor_in U)) := by
  obtain ⟨fd, D⟩ := h.d_factor_in
  exact (b_factor_in h D).v D (fun _ _ _ _ _ _ us hl => match us, hl with | [_], _ => rfl)
theorem k_factor_in (h : HdT w mg K base) : Kn P w K mg base (Γ K) 2 "factor_in" [] (F_factor_in U) := by
  obtain ⟨fd, D⟩ := h.d_factor_in
  exact ⟨_, h.g_factor_in, D.kp, Cal.fn0 (v_factor_in h)⟩
theorem sc_over_in : FnScope ["text"] ["text"] (defScope (top 50)) := ⟨rfl, rfl, rfl, by decide +kernel, rfl, by decide +kernel, by decide +kernel⟩
theorem b_over_in (h : HdT w mg K base) {fd : FuncData} (D : FunD K "over_in" "over_in" (defArgs (top 50)) (defBody (top 50)) (defScope (top 50)) [] [] ((fun K => He.ga K "over_in") K) fd) : FnB P w K mg base 2 ((fun K => He.ga K "over_in") K) fd ["text"] (spD ⟨K, Γ K⟩ (F_over_in U)) :=
  def_ok D sc_over_in _ fun cdv A outer s H E G =>
    (pssd_cons (psd_if (pt_cmp (opd_eq G.rm.units) (pdb (pd_var 0)) (pdb pd_str)) (pssd_one (psd_ret pd_int)) pssd_nil) (pssd_one (psd_ret (pd_if (pt_cmp (opd_eq G.rm.units) (pdb (pd_slice (pdb (pd_var 0)) pod_none (pod_some pd_int))) (pdb pd_str)) (pd_call G (k_integer_in h) (pad_cons (pd_slice (pdb (pd_var 0)) (pod_some pd_int) pod_none) pad_nil)) (pd_call G (k_integer_in h) (pad_cons (pd_var 0) pad_nil))))))
theorem v_over_in (h : HdT w mg K base) : FnV P w K mg base 2 ((fun K => He.ga K "over_in") K) (spD ⟨K, Γ K⟩ (F_over_in U)) := by
  obtain ⟨fd, D⟩ := h.d_over_in
  exact (b_over_in h D).v D (fun _ _ _ _ _ _ us hl => match us, hl with | [_], _ => rfl)
theorem k_over_in (h : HdT w mg K base) : Kn P w K mg base (Γ K) 2 "over_in" [] (F_over_in U) := by
  obtain ⟨fd, D⟩ := h.d_over_in
  exact ⟨_, h.g_over_in, D.kp, Cal.fn0 (v_over_in h)⟩
theorem sc_block_in : FnScope ["text", "times", "over", "block", "word", "sign", "power", "head", "letter", "tail"] ["text"] (defScope (top 51)) := ⟨rfl, rfl, rfl, by decide +kernel, rfl, by decide +kernel, by decide +kernel⟩
theorem b_block_in (h : HdT w mg K base) {fd : FuncData} (D : FunD K "block_in" "block_in" (defArgs (top 51)) (defBody (top 51)) (defScope (top 51)) [] [] ((fun K => He.ga K "block_in") K) fd) : FnB P w K mg base 4 ((fun K => He.ga K "block_in") K) fd ["text"] (spD ⟨K, Γ K⟩ (F_block_in U)) :=
  def_ok D sc_block_in _ fun cdv A outer s H E G =>
    (pssd_cons (psd_asg (pd_partition (pd_var 0) (pdb pd_str)) (pgd_tup G.calm (pgsd_cons (pgd_name sc_block_in.nd) (pgsd_cons (pgd_name sc_block_in.nd) (pgsd_cons (pgd_name sc_block_in.nd) pgsd_nil))))) (pssd_cons (psd_asg (pd_partition (pd_var 6) (pdb pd_str)) (pgd_tup G.calm (pgsd_cons (pgd_name sc_block_in.nd) (pgsd_cons (pgd_name sc_block_in.nd) (pgsd_cons (pgd_name sc_block_in.nd) pgsd_nil))))) (pssd_cons (psd_set sc_block_in.nd (pd_if (pt_cmp (opd_eq G.rm.units) (pdb (pd_var 8)) (pdb pd_str)) (pd_call G (k_factor_in h) (pad_cons (pd_var 7) pad_nil)) pd_int)) (pssd_cons (psd_set sc_block_in.nd (pd_if (pt_cmp (opd_eq G.rm.units) (pdb (pd_var 8)) (pdb pd_str)) (pd_call G (k_over_in h) (pad_cons (pd_var 9) pad_nil)) (pd_call G (k_integer_in h) (pad_cons (pd_var 6) pad_nil)))) (pssd_cons (psd_set sc_block_in.nd (pd_tup (pad_cons (pd_var 4) (pad_cons (pd_var 1) (pad_cons (pd_var 2) pad_nil))))) (pssd_one (psd_ret (pd_if (PW.pt (pwd_and (pt_tru (pdb (pd_call G (k_is_block h) (pad_cons (pd_var 3) pad_nil)))) (pwd1 (pt_cmp (opd_eq G.rm.units) (pdb (pd_call G (k_text_of h) (pad_cons (pd_var 3) pad_nil))) (pdb (pd_var 0))) _))) (pd_var 3) pd_non))))))))
theorem v_block_in (h : HdT w mg K base) : FnV P w K mg base 4 ((fun K => He.ga K "block_in") K) (spD ⟨K, Γ K⟩ (F_block_in U)) := by
  obtain ⟨fd, D⟩ := h.d_block_in
  exact (b_block_in h D).v D (fun _ _ _ _ _ _ us hl => match us, hl with | [_], _ => rfl)
theorem k_block_in (h : HdT w mg K base) : Kn P w K mg base (Γ K) 4 "block_in" [] (F_block_in U) := by
  obtain ⟨fd, D⟩ := h.d_block_in
  exact ⟨_, h.g_block_in, D.kp, Cal.fn0 (v_block_in h)⟩
theorem sc_blocks_in : FnScope ["text", "found", "part"] ["text"] (defScope (top 52)) := ⟨rfl, rfl, rfl, by decide +kernel, rfl, by decide +kernel, by decide +kernel⟩
theorem b_blocks_in (h : HdT w mg K base) {fd : FuncData} (D : FunD K "blocks_in" "blocks_in" (defArgs (top 52)) (defBody (top 52)) (defScope (top 52)) [] [] ((fun K => He.ga K "blocks_in") K) fd) : FnB P w K mg base 5 ((fun K => He.ga K "blocks_in") K) fd ["text"] (spD ⟨K, Γ K⟩ (F_blocks_in U)) :=
  def_ok D sc_blocks_in _ fun cdv A outer s H E G =>
    (pssd_cons (psd_if (pt_cmp (opd_eq G.rm.units) (pdb (pd_var 0)) (pdb pd_str)) (pssd_one (psd_ret (pd_tup pad_nil))) pssd_nil) (pssd_cons (psd_set sc_blocks_in.nd (pd_callT1 cd_tuple h.b_tuple (pdb (pdf (pf_comp (own := [("part", 2)]) (tup := false) (is := [2]) G.calm sc_blocks_in.nd (pid_seq (pd_split (pd_var 0) (pdb pd_str))) ⟨rfl, of_decide_eq_true (by kernel_rfl), of_decide_eq_true (by kernel_rfl), of_decide_eq_true (by kernel_rfl), of_decide_eq_true (by kernel_rfl)⟩ (fun _ _ _ _ _ => (pgc_name sc_blocks_in.nd)) (fun _ _ _ _ _ => ptsd_nil) (fun _ _ _ _ _ => (pd_call (G.blk _ _ _ _ _) (k_block_in h) (pad_cons (pd_var 2) pad_nil)))))))) (pssd_one (psd_ret (pd_if (pt_tru (pdb (pd_call G (k_are_blocks h) (pad_cons (pd_var 1) pad_nil)))) (pd_var 1) pd_non)))))
theorem v_blocks_in (h : HdT w mg K base) : FnV P w K mg base 5 ((fun K => He.ga K "blocks_in") K) (spD ⟨K, Γ K⟩ (F_blocks_in U)) := by
  obtain ⟨fd, D⟩ := h.d_blocks_in
  exact (b_blocks_in h D).v D (fun _ _ _ _ _ _ us hl => match us, hl with | [_], _ => rfl)
theorem k_blocks_in (h : HdT w mg K base) : Kn P w K mg base (Γ K) 5 "blocks_in" [] (F_blocks_in U) := by
  obtain ⟨fd, D⟩ := h.d_blocks_in
  exact ⟨_, h.g_blocks_in, D.kp, Cal.fn0 (v_blocks_in h)⟩
theorem sc_Winding_read : FnScope ["text", "found"] ["text"] (defScope (inClass (top 54) 1)) := ⟨rfl, rfl, rfl, by decide +kernel, rfl, by decide +kernel, by decide +kernel⟩
theorem b_Winding_read (h : HdT w mg K base) {fd : FuncData} (D : FunD K "read" "Winding.read" (defArgs (inClass (top 54) 1)) (defBody (inClass (top 54) 1)) (defScope (inClass (top 54) 1)) [] [] ((fun K => sfA K (He.ga K "Winding") "read") K) fd) : FnB P w K mg base 6 ((fun K => sfA K (He.ga K "Winding") "read") K) fd ["text"] (spD ⟨K, Γ K⟩ (F_Winding_read U)) :=
  def_ok D sc_Winding_read _ fun cdv A outer s H E G =>
    (pssd_cons (psd_set sc_Winding_read.nd (pd_if (pt_tru (pdb (pd_isi h.is_str (.ty "str") (pdb (pd_var 0)) (pe_bltn (v := .ty "str") (by rfl) h.b_str (by decide +kernel) rfl (by decide)) h.b_isinstance))) (pd_call G (k_blocks_in h) (pad_cons (pd_var 0) pad_nil)) pd_non)) (pssd_cons (psd_if (pt_cmp opd_is (pdb (pd_var 1)) (pdb pd_non)) (pssd_one (psd_raise G (rz_InvalidText h) (pd_var 0))) pssd_nil) (pssd_one (psd_ret (pd_call G (k_Winding h) (pad_cons (pd_call G (k_Known h) (pad_cons (pd_var 1) pad_nil)) pad_nil))))))
theorem v_Winding_read (h : HdT w mg K base) : FnV P w K mg base 6 ((fun K => sfA K (He.ga K "Winding") "read") K) (spD ⟨K, Γ K⟩ (F_Winding_read U)) := by
  obtain ⟨fd, D⟩ := h.d_Winding_read
  exact (b_Winding_read h D).v D (fun _ _ _ _ _ _ us hl => match us, hl with | [_], _ => rfl)
theorem k_Winding_read (h : HdT w mg K base) : KnT P w K mg base (Γ K) 6 cWinding "read" [] (F_Winding_read U) := KnT.of (x := "Winding") rfl h.s_Winding_read (Cal.fn0 (v_Winding_read h))
theorem k_Winding_read_kw (h : HdT w mg K base) : KnT P w K mg base (Γ K) 6 cWinding "read" ["text"] (F_Winding_read U) := by
  obtain ⟨fd, D⟩ := h.d_Winding_read
  refine KnT.of (x := "Winding") rfl h.s_Winding_read (Cal.fnK (b_Winding_read h D) (fun l => l) (fun h => h) (fun h => h) fun s us ws X hw hl => ?_)
  exact kw_binds D hw hl fun _ _ _ _ _ _ ws hl => match ws, hl with | [_], _ => rfl
theorem sc_Winding_len : FnScope ["self"] ["self"] (defScope (inClass (top 54) 9)) := ⟨rfl, rfl, rfl, by decide +kernel, rfl, by decide +kernel, by decide +kernel⟩
theorem b_Winding_len (h : HdT w mg K base) {fd : FuncData} (D : FunD K "__len__" "Winding.__len__" (defArgs (inClass (top 54) 9)) (defBody (inClass (top 54) 9)) (defScope (inClass (top 54) 9)) [] [] ((fun K => He.ma K (He.ga K "Winding") "__len__") K) fd) : FnB P w K mg base 1 ((fun K => He.ma K (He.ga K "Winding") "__len__") K) fd ["self"] (spD ⟨K, Γ K⟩ (F_Winding_len U)) :=
  def_ok D sc_Winding_len _ fun cdv A outer s H E G =>
    (pssd_one (psd_ret (pd_call1 cd_len h.b_len (pdb (pd_fld [cWinding] h.fl_blocks (pd_var 0))))))
theorem v_Winding_len (h : HdT w mg K base) : FnV P w K mg base 1 ((fun K => He.ma K (He.ga K "Winding") "__len__") K) (spD ⟨K, Γ K⟩ (F_Winding_len U)) := by
  obtain ⟨fd, D⟩ := h.d_Winding_len
  exact (b_Winding_len h D).v D (fun _ _ _ _ _ _ us hl => match us, hl with | [_], _ => rfl)
theorem k_Winding_len (h : HdT w mg K base) : KnS P w K mg base (Γ K) 1 cWinding "__len__" (F_Winding_len U) := KnS.of (x := "Winding") (m := "__len__") rfl h.m_Winding_len (v_Winding_len h)
theorem sc_law_cup : FnScope ["_law_script", "_law_spot", "_law_cell", "_law_part"] ["_law_script", "_law_spot"] (defScope (top 56)) := ⟨rfl, rfl, rfl, by decide +kernel, rfl, by decide +kernel, by decide +kernel⟩
theorem b_law_cup (h : HdT w mg K base) {fd : FuncData} (D : FunD K "_law_cup" "_law_cup" (defArgs (top 56)) (defBody (top 56)) (defScope (top 56)) [] [] ((fun K => He.ga K "_law_cup") K) fd) : FnB P w K mg base 1 ((fun K => He.ga K "_law_cup") K) fd ["_law_script", "_law_spot"] (spD ⟨K, Γ K⟩ (F_law_cup U)) :=
  def_ok D sc_law_cup _ fun cdv A outer s H E G =>
    (pssd_cons (psd_set sc_law_cup.nd (pd_if (pt_cmp opd_lt (pdb (pd_var 1)) (pdb (pd_call1 cd_len h.b_len (pdb (pd_var 0))))) (pd_ix (pdb (pd_var 0)) (pdb (pd_var 1))) (pd_op opd_add (pdb (pd_op opd_mul (pdb pd_int) (pdb (pd_var 1)))) (pdb pd_int)))) (pssd_cons (psd_for G.po G.calm (pid_seq (pd_if (pt_cmp opd_ge (pdb (pd_var 1)) (pdb (pd_call1 cd_len h.b_len (pdb (pd_var 0))))) (pd_slice (pdb (pd_var 0)) pod_none (pod_some pd_int)) (pd_lst pad_nil))) (pgd_name sc_law_cup.nd) (pssd_one (psd_set sc_law_cup.nd (pd_op opd_mod (pdb (pd_callT1 cd_int h.b_int (pdb (pd_op opd_add (pdb (pd_op opd_mul (pdb (pd_var 2)) (pdb pd_int))) (pdb (pd_var 3)))))) (pdb pd_int))))) (pssd_one (psd_ret (pd_new (pf_lst (pad_cons (pd_op opd_mod (pdb (pd_callT1 cd_int h.b_int (pdb (pd_op opd_add (pdb (pd_op opd_add (pdb (pd_op opd_mul (pdb (pd_var 2)) (pdb pd_int))) (pdb (pd_op opd_mul (pdb pd_int) (pdb (pd_var 1)))))) (pdb pd_int))))) (pdb pd_int)) (pad_cons (pd_if (PW.pt (pwd_or (pt_cmp opd_lt (pdb (pd_var 2)) (pdb pd_int)) (pwd1 (pt_cmp opd_ge (pdb (pd_var 2)) (pdb (pd_op opd_pow (pdb pd_int) (pdb pd_int)))) _))) (pd_call1 cd_abs h.b_abs (pdb (pd_var 2))) pd_int) pad_nil))))))))
theorem v_law_cup (h : HdT w mg K base) : FnV P w K mg base 1 ((fun K => He.ga K "_law_cup") K) (spD ⟨K, Γ K⟩ (F_law_cup U)) := by
  obtain ⟨fd, D⟩ := h.d_law_cup
  exact (b_law_cup h D).v D (fun _ _ _ _ _ _ us hl => match us, hl with | [_, _], _ => rfl)
theorem k_law_cup (h : HdT w mg K base) : Kn P w K mg base (Γ K) 1 "_law_cup" [] (F_law_cup U) := by
  obtain ⟨fd, D⟩ := h.d_law_cup
  exact ⟨_, h.g_law_cup, D.kp, Cal.fn0 (v_law_cup h)⟩
theorem sc_Winding_str : FnScope ["self", "block"] ["self"] (defScope (inClass (top 54) 11)) := ⟨rfl, rfl, rfl, by decide +kernel, rfl, by decide +kernel, by decide +kernel⟩
theorem b_Winding_str (h : HdT w mg K base) {fd : FuncData} (D : FunD K "__str__" "Winding.__str__" (defArgs (inClass (top 54) 11)) (defBody (inClass (top 54) 11)) (defScope (inClass (top 54) 11)) [] [] ((fun K => He.ma K (He.ga K "Winding") "__str__") K) fd) : FnB P w K mg base 2 ((fun K => He.ma K (He.ga K "Winding") "__str__") K) fd ["self"] (spD ⟨K, Γ K⟩ (F_Winding_str U)) :=
  def_ok D sc_Winding_str _ fun cdv A outer s H E G =>
    (pssd_cons (psd_if (pt_cmp (opd_eq G.rm.units) (pdb (pd_call1 cd_len h.b_len (pdb (pd_fld [cWinding] h.fl_blocks (pd_var 0))))) (pdb pd_int)) (pssd_one (psd_ret pd_str)) pssd_nil) (pssd_one (psd_ret (pd_join pd_str (pdb (pdf (pf_comp (own := [("block", 1)]) (tup := false) (is := [1]) G.calm sc_Winding_str.nd (pid_seq (pd_fld [cWinding] h.fl_blocks (pd_var 0))) ⟨rfl, of_decide_eq_true (by kernel_rfl), of_decide_eq_true (by kernel_rfl), of_decide_eq_true (by kernel_rfl), of_decide_eq_true (by kernel_rfl)⟩ (fun _ _ _ _ _ => (pgc_name sc_Winding_str.nd)) (fun _ _ _ _ _ => ptsd_nil) (fun _ _ _ _ _ => (pd_call (G.blk _ _ _ _ _) (k_text_of h) (pad_cons (pd_var 1) pad_nil))))))))))
theorem v_Winding_str (h : HdT w mg K base) : FnV P w K mg base 2 ((fun K => He.ma K (He.ga K "Winding") "__str__") K) (spD ⟨K, Γ K⟩ (F_Winding_str U)) := by
  obtain ⟨fd, D⟩ := h.d_Winding_str
  exact (b_Winding_str h D).v D (fun _ _ _ _ _ _ us hl => match us, hl with | [_], _ => rfl)
theorem k_Winding_str (h : HdT w mg K base) : KnS P w K mg base (Γ K) 2 cWinding "__str__" (F_Winding_str U) := KnS.of (x := "Winding") (m := "__str__") rfl h.m_Winding_str (v_Winding_str h)
theorem sc_law_sip : FnScope ["_law_cup_here", "_law_many", "_law_part"] ["_law_cup_here", "_law_many"] (defScope (top 57)) := ⟨rfl, rfl, rfl, by decide +kernel, rfl, by decide +kernel, by decide +kernel⟩
theorem b_law_sip (h : HdT w mg K base) {fd : FuncData} (D : FunD K "_law_sip" "_law_sip" (defArgs (top 57)) (defBody (top 57)) (defScope (top 57)) [] [] ((fun K => He.ga K "_law_sip") K) fd) : FnB P w K mg base 1 ((fun K => He.ga K "_law_sip") K) fd ["_law_cup_here", "_law_many"] (spD ⟨K, Γ K⟩ (F_law_sip U)) :=
  def_ok D sc_law_sip _ fun cdv A outer s H E G =>
    (pssd_cons (psd_asg (pd_op opd_mod (pdb (pd_callT1 cd_int h.b_int (pdb (pd_op opd_add (pdb (pd_op opd_mul (pdb (pd_ix (pdb (pd_var 0)) (pdb pd_int))) (pdb pd_int))) (pdb pd_int))))) (pdb pd_int)) (pgd_ix (pd_var 0) pd_int)) (pssd_cons (psd_if (pt_cmp opd_gt (pdb (pd_ix (pdb (pd_var 0)) (pdb pd_int))) (pdb pd_int)) (pssd_cons (psd_asg (pd_call2 cd_divmod h.b_divmod (pdb (pd_ix (pdb (pd_var 0)) (pdb pd_int))) (pdb (pd_var 1))) (pgd_tup G.calm (pgsd_cons (pgd_ix (pd_var 0) pd_int) (pgsd_cons (pgd_name sc_law_sip.nd) pgsd_nil)))) (pssd_one (psd_ret (pd_var 2)))) pssd_nil) (pssd_one (psd_ret (pd_op opd_mod (pdb (pd_callT1 cd_int h.b_int (pdb (pd_op opd_div (pdb (pd_ix (pdb (pd_var 0)) (pdb pd_int))) (pdb pd_int))))) (pdb (pd_var 1)))))))
theorem v_law_sip (h : HdT w mg K base) : FnV P w K mg base 1 ((fun K => He.ga K "_law_sip") K) (spD ⟨K, Γ K⟩ (F_law_sip U)) := by
  obtain ⟨fd, D⟩ := h.d_law_sip
  exact (b_law_sip h D).v D (fun _ _ _ _ _ _ us hl => match us, hl with | [_, _], _ => rfl)
theorem k_law_sip (h : HdT w mg K base) : Kn P w K mg base (Γ K) 1 "_law_sip" [] (F_law_sip U) := by
  obtain ⟨fd, D⟩ := h.d_law_sip
  exact ⟨_, h.g_law_sip, D.kp, Cal.fn0 (v_law_sip h)⟩
theorem sc_law_pick : FnScope ["_law_cup_here", "_law_things"] ["_law_cup_here", "_law_things"] (defScope (top 58)) := ⟨rfl, rfl, rfl, by decide +kernel, rfl, by decide +kernel, by decide +kernel⟩
theorem b_law_pick (h : HdT w mg K base) {fd : FuncData} (D : FunD K "_law_pick" "_law_pick" (defArgs (top 58)) (defBody (top 58)) (defScope (top 58)) [] [] ((fun K => He.ga K "_law_pick") K) fd) : FnB P w K mg base 2 ((fun K => He.ga K "_law_pick") K) fd ["_law_cup_here", "_law_things"] (spD ⟨K, Γ K⟩ (F_law_pick U)) :=
  def_ok D sc_law_pick _ fun cdv A outer s H E G =>
    (pssd_one (psd_ret (pd_ix (pdb (pd_var 1)) (pdb (pd_call G (k_law_sip h) (pad_cons (pd_var 0) (pad_cons (pd_call1 cd_len h.b_len (pdb (pd_var 1))) pad_nil)))))))
theorem v_law_pick (h : HdT w mg K base) : FnV P w K mg base 2 ((fun K => He.ga K "_law_pick") K) (spD ⟨K, Γ K⟩ (F_law_pick U)) := by
  obtain ⟨fd, D⟩ := h.d_law_pick
  exact (b_law_pick h D).v D (fun _ _ _ _ _ _ us hl => match us, hl with | [_, _], _ => rfl)
theorem k_law_pick (h : HdT w mg K base) : Kn P w K mg base (Γ K) 2 "_law_pick" [] (F_law_pick U) := by
  obtain ⟨fd, D⟩ := h.d_law_pick
  exact ⟨_, h.g_law_pick, D.kp, Cal.fn0 (v_law_pick h)⟩
theorem sc_law_strand : FnScope ["_law_cup_here", "_law_most", "_law_signs_here", "_law_found", "_law_turn"] ["_law_cup_here", "_law_most"] (defScope (top 59)) := ⟨rfl, rfl, rfl, by decide +kernel, rfl, by decide +kernel, by decide +kernel⟩
theorem b_law_strand (h : HdT w mg K base) {fd : FuncData} (D : FunD K "_law_strand" "_law_strand" (defArgs (top 59)) (defBody (top 59)) (defScope (top 59)) [] [] ((fun K => He.ga K "_law_strand") K) fd) : FnB P w K mg base 3 ((fun K => He.ga K "_law_strand") K) fd ["_law_cup_here", "_law_most"] (spD ⟨K, Γ K⟩ (F_law_strand U)) :=
  def_ok D sc_law_strand _ fun cdv A outer s H E G =>
    (pssd_cons (psd_set sc_law_strand.nd (pd_call G (k_law_pick h) (pad_cons (pd_var 0) (pad_cons (pd_lst (pad_cons pd_str (pad_cons pd_str (pad_cons pd_str (pad_cons pd_str (pad_cons pd_str pad_nil)))))) pad_nil)))) (pssd_cons (psd_set sc_law_strand.nd (pd_join pd_str (pdb (pdf (pf_comp (own := [("_law_turn", 4)]) (tup := false) (is := [4]) G.calm sc_law_strand.nd (pid_range1 h.b_range (pd_op opd_add (pdb pd_int) (pdb (pd_call G (k_law_sip h) (pad_cons (pd_var 0) (pad_cons (pd_var 1) pad_nil)))))) ⟨rfl, of_decide_eq_true (by kernel_rfl), of_decide_eq_true (by kernel_rfl), of_decide_eq_true (by kernel_rfl), of_decide_eq_true (by kernel_rfl)⟩ (fun _ _ _ _ _ => (pgc_name sc_law_strand.nd)) (fun _ _ _ _ _ => ptsd_nil) (fun _ _ _ _ _ => (pd_call (G.blk _ _ _ _ _) (k_law_pick h) (pad_cons (pd_var 0) (pad_cons (pd_callT1 (cd_list (G.blk _ _ _ _ _).calm) h.b_list (pdb (pd_var 2))) pad_nil))))))))) (pssd_one (psd_ret (pd_if (PW.pt (pwd_and (pt_cmp (opd_eq G.rm.units) (pdb (pd_call G (k_law_sip h) (pad_cons (pd_var 0) (pad_cons pd_int pad_nil)))) (pdb pd_int)) (pwd1 (pt_cmp opd_lt (pdb (pd_call1 cd_len h.b_len (pdb (pd_var 3)))) (pdb pd_int)) _))) (pd_op opd_add (pdb (pd_var 3)) (pdb (pd_var 3))) (pd_var 3))))))
theorem v_law_strand (h : HdT w mg K base) : FnV P w K mg base 3 ((fun K => He.ga K "_law_strand") K) (spD ⟨K, Γ K⟩ (F_law_strand U)) := by
  obtain ⟨fd, D⟩ := h.d_law_strand
  exact (b_law_strand h D).v D (fun _ _ _ _ _ _ us hl => match us, hl with | [_, _], _ => rfl)
theorem k_law_strand (h : HdT w mg K base) : Kn P w K mg base (Γ K) 3 "_law_strand" [] (F_law_strand U) := by
  obtain ⟨fd, D⟩ := h.d_law_strand
  exact ⟨_, h.g_law_strand, D.kp, Cal.fn0 (v_law_strand h)⟩
theorem sc_law_block : FnScope ["_law_cup_here", "_law_times_here", "_law_over"] ["_law_cup_here"] (defScope (top 60)) := ⟨rfl, rfl, rfl, by decide +kernel, rfl, by decide +kernel, by decide +kernel⟩
theorem b_law_block (h : HdT w mg K base) {fd : FuncData} (D : FunD K "_law_block" "_law_block" (defArgs (top 60)) (defBody (top 60)) (defScope (top 60)) [] [] ((fun K => He.ga K "_law_block") K) fd) : FnB P w K mg base 4 ((fun K => He.ga K "_law_block") K) fd ["_law_cup_here"] (spD ⟨K, Γ K⟩ (F_law_block U)) :=
  def_ok D sc_law_block _ fun cdv A outer s H E G =>
    (pssd_cons (psd_par G.calm sc_law_block.nd (pad_cons (pd_call G (k_law_pick h) (pad_cons (pd_var 0) (pad_cons (pd_lst (pad_cons pd_int (pad_cons pd_int (pad_cons pd_int (pad_cons (pd_neg pd_int) (pad_cons pd_int (pad_cons (pd_neg pd_int) pad_nil))))))) pad_nil))) (pad_cons (pd_op opd_sub (pdb (pd_call G (k_law_sip h) (pad_cons (pd_var 0) (pad_cons pd_int pad_nil)))) (pdb pd_int)) pad_nil)) (i := 1) (j := 2)) (pssd_one (psd_ret (pd_tup (pad_cons (pd_call G (k_law_strand h) (pad_cons (pd_var 0) (pad_cons pd_int pad_nil))) (pad_cons (pd_var 1) (pad_cons (pd_if (PW.pt (pwd_and (pt_cmp (opd_eq G.rm.units) (pdb (pd_var 1)) (pdb pd_int)) (pwd1 (pt_cmp (opd_eq G.rm.units) (pdb (pd_var 2)) (pdb pd_int)) _))) pd_int (pd_var 2)) pad_nil)))))))
theorem v_law_block (h : HdT w mg K base) : FnV P w K mg base 4 ((fun K => He.ga K "_law_block") K) (spD ⟨K, Γ K⟩ (F_law_block U)) := by
  obtain ⟨fd, D⟩ := h.d_law_block
  exact (b_law_block h D).v D (fun _ _ _ _ _ _ us hl => match us, hl with | [_], _ => rfl)
theorem k_law_block (h : HdT w mg K base) : Kn P w K mg base (Γ K) 4 "_law_block" [] (F_law_block U) := by
  obtain ⟨fd, D⟩ := h.d_law_block
  exact ⟨_, h.g_law_block, D.kp, Cal.fn0 (v_law_block h)⟩
theorem sc_law_numbers : FnScope ["_law_number"] [] (defScope (top 63)) := ⟨rfl, rfl, rfl, by decide +kernel, rfl, by decide +kernel, by decide +kernel⟩
theorem b_law_numbers (h : HdT w mg K base) {fd : FuncData} (D : FunD K "_law_numbers" "_law_numbers" (defArgs (top 63)) (defBody (top 63)) (defScope (top 63)) [] [] ((fun K => He.ga K "_law_numbers") K) fd) : FnB P w K mg base 1 ((fun K => He.ga K "_law_numbers") K) fd [] (spD ⟨K, Γ K⟩ (F_law_numbers U)) :=
  def_ok D sc_law_numbers _ fun cdv A outer s H E G =>
    (pssd_one (psd_ret (pd_callT1 (cd_dictP G.calm) h.b_dict (pdb (pdf (pf_comp (own := [("_law_number", 0)]) (tup := false) (is := [0]) G.calm sc_law_numbers.nd (pid_range2 h.b_range (pd_neg pd_int) pd_int) ⟨rfl, of_decide_eq_true (by kernel_rfl), of_decide_eq_true (by kernel_rfl), of_decide_eq_true (by kernel_rfl), of_decide_eq_true (by kernel_rfl)⟩ (fun _ _ _ _ _ => (pgc_name sc_law_numbers.nd)) (fun _ _ _ _ _ => ptsd_nil) (fun _ _ _ _ _ => (pd_tup (pad_cons (pd_callT1 cd_str h.b_str (pdb (pd_var 0))) (pad_cons (pd_var 0) pad_nil))))))))))
theorem v_law_numbers (h : HdT w mg K base) : FnV P w K mg base 1 ((fun K => He.ga K "_law_numbers") K) (spD ⟨K, Γ K⟩ (F_law_numbers U)) := by
  obtain ⟨fd, D⟩ := h.d_law_numbers
  exact (b_law_numbers h D).v D (fun _ _ _ _ _ _ us hl => match us, hl with | [], _ => rfl)
theorem k_law_numbers (h : HdT w mg K base) : Kn P w K mg base (Γ K) 1 "_law_numbers" [] (F_law_numbers U) := by
  obtain ⟨fd, D⟩ := h.d_law_numbers
  exact ⟨_, h.g_law_numbers, D.kp, Cal.fn0 (v_law_numbers h)⟩
theorem sc_law_power : FnScope ["_law_power_here", "_law_known", "_law_times_here", "_law_over", "_law_head", "_law_sign", "_law_tail"] ["_law_power_here", "_law_known"] (defScope (top 64)) := ⟨rfl, rfl, rfl, by decide +kernel, rfl, by decide +kernel, by decide +kernel⟩
theorem b_law_power (h : HdT w mg K base) {fd : FuncData} (D : FunD K "_law_power" "_law_power" (defArgs (top 64)) (defBody (top 64)) (defScope (top 64)) [] [] ((fun K => He.ga K "_law_power") K) fd) : FnB P w K mg base 1 ((fun K => He.ga K "_law_power") K) fd ["_law_power_here", "_law_known"] (spD ⟨K, Γ K⟩ (F_law_power U)) :=
  def_ok D sc_law_power _ fun cdv A outer s H E G =>
    (pssd_cons (psd_if (pt_cmp (opd_notInO G) (pdb pd_str) (pdb (pd_var 0))) (pssd_one (psd_ret (pd_if (pt_cmp (opd_inKG G) (pdb (pd_var 0)) (pdb (pd_var 1))) (pd_tup (pad_cons pd_int (pad_cons (pd_dicix G (pd_var 1) (pd_var 0) (by exact fun _ _ => rfl)) pad_nil))) pd_non))) pssd_nil) (pssd_cons (psd_asg (pd_partition (pd_var 0) (pdb pd_str)) (pgd_tup G.calm (pgsd_cons (pgd_name sc_law_power.nd) (pgsd_cons (pgd_name sc_law_power.nd) (pgsd_cons (pgd_name sc_law_power.nd) pgsd_nil))))) (pssd_cons (psd_set sc_law_power.nd (pd_dget (r := [(.inr "", .int (1)), (.inr "-", .int (-1))]) G (.cons (kk := .inr "") (u := .int (1)) (by exact pe_str) (by exact pe_int) rfl (.cons (kk := .inr "-") (u := .int (-1)) (by exact pe_str) (pe_negc) rfl .nil)) (pd_var 4) (pd_dicget G (pd_var 1) (pd_var 4) pd_int))) (pssd_cons (psd_set sc_law_power.nd (pd_if (pt_cmp (opd_eq G.rm.units) (pdb (pd_var 6)) (pdb pd_str)) pd_int (pd_dicget G (pd_var 1) (pd_if (pt_cmp (opd_eq G.rm.units) (pdb (pd_slice (pdb (pd_var 6)) pod_none (pod_some pd_int))) (pdb pd_str)) (pd_slice (pdb (pd_var 6)) (pod_some pd_int) pod_none) (pd_var 6)) pd_non))) (pssd_cons (psd_if (PW.pt (pwd_or (pt_cmp (opd_inO G) (pdb (pd_var 4)) (pdb (pd_lst (pad_cons pd_str (pad_cons pd_str pad_nil))))) (pwd_or (ptd_not (pt_chainD opd_le opd_le (pdb (pd_neg pd_int)) (pdb (pd_var 2)) (pdb pd_int))) (pwd_or (pt_cmp (opd_eq G.rm.units) (pdb (pd_var 2)) (pdb pd_int)) (pwd1 (pt_cmp opd_is (pdb (pd_var 3)) (pdb pd_non)) _))))) (pssd_one (psd_ret pd_non)) pssd_nil) (pssd_cons (psd_if (PW.pt (pwd_and (pt_cmp (opd_ne G.rm.units) (pdb (pd_var 6)) (pdb pd_str)) (pwd1 (PW.pt (pwd_or (pt_cmp (opd_eq G.rm.units) (pdb (pd_var 3)) (pdb pd_int)) (pwd1 (pt_cmp (opd_ne G.rm.units) (pdb (pd_cmp (opd_eq G.rm.units) (pdb (pd_slice (pdb (pd_var 6)) pod_none (pod_some pd_int))) (pdb pd_str))) (pdb (pd_cmp opd_gt (pdb (pd_var 3)) (pdb pd_int)))) _))) _))) (pssd_one (psd_ret pd_non)) pssd_nil) (pssd_one (psd_ret (pd_tup (pad_cons (pd_var 2) (pad_cons (pd_var 3) pad_nil)))))))))))
theorem v_law_power (h : HdT w mg K base) : FnV P w K mg base 1 ((fun K => He.ga K "_law_power") K) (spD ⟨K, Γ K⟩ (F_law_power U)) := by
  obtain ⟨fd, D⟩ := h.d_law_power
  exact (b_law_power h D).v D (fun _ _ _ _ _ _ us hl => match us, hl with | [_, _], _ => rfl)
theorem k_law_power (h : HdT w mg K base) : Kn P w K mg base (Γ K) 1 "_law_power" [] (F_law_power U) := by
  obtain ⟨fd, D⟩ := h.d_law_power
  exact ⟨_, h.g_law_power, D.kp, Cal.fn0 (v_law_power h)⟩
theorem sc_law_read : FnScope ["_law_line_here", "_law_part", "_law_known", "_law_found", "_law_both", "_law_strand_here", "_law_sign", "_law_power_here", "_law_one_here"] ["_law_line_here"] (defScope (top 65)) := ⟨rfl, rfl, rfl, by decide +kernel, rfl, by decide +kernel, by decide +kernel⟩
theorem b_law_read (h : HdT w mg K base) {fd : FuncData} (D : FunD K "_law_read" "_law_read" (defArgs (top 65)) (defBody (top 65)) (defScope (top 65)) [] [] ((fun K => He.ga K "_law_read") K) fd) : FnB P w K mg base 2 ((fun K => He.ga K "_law_read") K) fd ["_law_line_here"] (spD ⟨K, Γ K⟩ (F_law_read U)) :=
  def_ok D sc_law_read _ fun cdv A outer s H E G =>
    (pssd_cons (psd_if (pt_cmp (opd_eqB G.rm.units) (pdb (pd_var 0)) (pdb pd_str)) (pssd_one (psd_ret (pd_lst pad_nil))) pssd_nil) (pssd_cons (psd_parE G.calm sc_law_read.nd (pd_call0 G (k_law_numbers h)) (pf_lst pad_nil) (i := 2) (j := 3)) (pssd_cons (psd_for G.po G.calm (pid_seq (pd_if (pt_tru (pdb (pd_isi h.is_str (.ty "str") (pdb (pd_var 0)) (pe_bltn (v := .ty "str") (by rfl) h.b_str (by decide +kernel) rfl (by decide)) h.b_isinstance))) (pd_split (pd_var 0) (pdb pd_str)) (pd_lst (pad_cons pd_str pad_nil)))) (pgd_name sc_law_read.nd) (pssd_cons (psd_asg (pd_partition (pd_var 1) (pdb pd_str)) (pgd_tup G.calm (pgsd_cons (pgd_name sc_law_read.nd) (pgsd_cons (pgd_name sc_law_read.nd) (pgsd_cons (pgd_name sc_law_read.nd) pgsd_nil))))) (pssd_cons (psd_set sc_law_read.nd (pd_if (pt_cmp (opd_eqB G.rm.units) (pdb (pd_var 6)) (pdb pd_str)) (pd_call G (k_law_power h) (pad_cons (pd_var 7) (pad_cons (pd_var 2) pad_nil))) pd_non)) (pssd_cons (psd_if (PW.pt (pwd_or (pt_cmp opd_is (pdb (pd_var 4)) (pdb pd_non)) (pwd_or (ptd_not (pt_chainD opd_le opd_le (pdb pd_int) (pdb (pd_call1 cd_len h.b_len (pdb (pd_var 5)))) (pdb pd_int))) (pwd1 (ptd_not (pt_tru (pdb (pd_call1 (cd_all G.calm) h.b_all (pdb (pdf (pf_comp (own := [("_law_one_here", 8)]) (tup := false) (is := [8]) G.calm sc_law_read.nd (pid_seq (pd_var 5)) ⟨rfl, of_decide_eq_true (by kernel_rfl), of_decide_eq_true (by kernel_rfl), of_decide_eq_true (by kernel_rfl), of_decide_eq_true (by kernel_rfl)⟩ (fun _ _ _ _ _ => (pgc_name sc_law_read.nd)) (fun _ _ _ _ _ => ptsd_nil) (fun _ _ _ _ _ => (pd_cmp (opd_inO (G.blk _ _ _ _ _)) (pdb (pd_var 8)) (pdb pd_str)))))))))) _)))) (pssd_one (psd_ret pd_non)) pssd_nil) (pssd_one (psd_app 3 (pd_tup (pad_cons (pd_var 5) (pad_cons (pd_ix (pdb (pd_var 4)) (pdb pd_int)) (pad_cons (pd_ix (pdb (pd_var 4)) (pdb pd_int)) pad_nil)))))))))) (pssd_one (psd_frz 3 (psd_ret (pd_if (pt_cmp opd_lt (pdb (pd_call1 cd_len h.b_len (pd_own 3))) (pdb pd_int)) (pd_var 3) pd_non)))))))
theorem v_law_read (h : HdT w mg K base) : FnV P w K mg base 2 ((fun K => He.ga K "_law_read") K) (spD ⟨K, Γ K⟩ (F_law_read U)) := by
  obtain ⟨fd, D⟩ := h.d_law_read
  exact (b_law_read h D).v D (fun _ _ _ _ _ _ us hl => match us, hl with | [_], _ => rfl)
theorem k_law_read (h : HdT w mg K base) : Kn P w K mg base (Γ K) 2 "_law_read" [] (F_law_read U) := by
  obtain ⟨fd, D⟩ := h.d_law_read
  exact ⟨_, h.g_law_read, D.kp, Cal.fn0 (v_law_read h)⟩
theorem sc_law_bent : FnScope ["_law_cup_here", "_law_line_here", "_law_turn", "_law_sign", "_law_at", "_law_kind"] ["_law_cup_here", "_law_line_here"] (defScope (top 66)) := ⟨rfl, rfl, rfl, by decide +kernel, rfl, by decide +kernel, by decide +kernel⟩
theorem b_law_bent (h : HdT w mg K base) {fd : FuncData} (D : FunD K "_law_bent" "_law_bent" (defArgs (top 66)) (defBody (top 66)) (defScope (top 66)) [] [] ((fun K => He.ga K "_law_bent") K) fd) : FnB P w K mg base 3 ((fun K => He.ga K "_law_bent") K) fd ["_law_cup_here", "_law_line_here"] (spD ⟨K, Γ K⟩ (F_law_bent U)) :=
  def_ok D sc_law_bent _ fun cdv A outer s H E G =>
    (pssd_cons (psd_for G.po G.calm (pid_range1 h.b_range (pd_call G (k_law_sip h) (pad_cons (pd_var 0) (pad_cons pd_int pad_nil)))) (pgd_name sc_law_bent.nd) (pssd_cons (psd_par G.calm sc_law_bent.nd (pad_cons (pd_call G (k_law_sip h) (pad_cons (pd_var 0) (pad_cons (pd_op opd_add (pdb (pd_call1 cd_len h.b_len (pdb (pd_var 1)))) (pdb pd_int)) pad_nil))) (pad_cons (pd_call G (k_law_sip h) (pad_cons (pd_var 0) (pad_cons pd_int pad_nil))) pad_nil)) (i := 4) (j := 5)) (pssd_cons (psd_set sc_law_bent.nd (pd_call G (k_law_pick h) (pad_cons (pd_var 0) (pad_cons (pd_lst (pad_cons pd_str (pad_cons pd_str (pad_cons pd_str (pad_cons pd_str (pad_cons pd_str (pad_cons pd_str (pad_cons pd_str (pad_cons pd_str (pad_cons pd_str (pad_cons pd_str (pad_cons pd_str (pad_cons pd_str (pad_cons pd_str pad_nil)))))))))))))) pad_nil)))) (pssd_one (psd_set sc_law_bent.nd (pd_op opd_add (pdb (pd_op opd_add (pdb (pd_slice (pdb (pd_var 1)) pod_none (pod_some (pd_var 4)))) (pdb (pd_var 3)))) (pdb (pd_slice (pdb (pd_var 1)) (pod_some (pd_op opd_add (pdb (pd_var 4)) (pdb (pd_var 5)))) pod_none)))))))) (pssd_one (psd_ret (pd_var 1))))
theorem v_law_bent (h : HdT w mg K base) : FnV P w K mg base 3 ((fun K => He.ga K "_law_bent") K) (spD ⟨K, Γ K⟩ (F_law_bent U)) := by
  obtain ⟨fd, D⟩ := h.d_law_bent
  exact (b_law_bent h D).v D (fun _ _ _ _ _ _ us hl => match us, hl with | [_, _], _ => rfl)
theorem k_law_bent (h : HdT w mg K base) : Kn P w K mg base (Γ K) 3 "_law_bent" [] (F_law_bent U) := by
  obtain ⟨fd, D⟩ := h.d_law_bent
  exact ⟨_, h.g_law_bent, D.kp, Cal.fn0 (v_law_bent h)⟩
theorem sc_law_right : FnScope ["_law_cup_here", "_law_odd", "_law_turn", "_law_row", "_law_good", "_law_line_here", "_law_due", "_law_told_here", "_law_again_here", "_law_wanted", "_law_again", "_law_block_here"] ["_law_cup_here"] (defScope (top 67)) := ⟨rfl, rfl, rfl, by decide +kernel, rfl, by decide +kernel, by decide +kernel⟩
theorem b_law_right (h : HdT w mg K base) {fd : FuncData} (D : FunD K "_law_right" "_law_right" (defArgs (top 67)) (defBody (top 67)) (defScope (top 67)) [] [] ((fun K => He.ga K "_law_right") K) fd) : FnB P w K mg base 9 ((fun K => He.ga K "_law_right") K) fd ["_law_cup_here"] (spD ⟨K, Γ K⟩ (F_law_right U)) :=
  def_okT (p := ("_law_right", none)) D sc_law_right _ fun A outer s H E G =>
    (pssd_cons (psd_set sc_law_right.nd (pd_lst (pad_cons pd_non (pad_cons pd_int (pad_cons pd_bl (pad_cons (pd_tup pad_nil) (pad_cons (pd_tup (pad_cons pd_str pad_nil)) (pad_cons (pd_lst pad_nil) (pad_cons pd_dic0 (pad_cons pd_str (pad_cons pd_str (pad_cons pd_str (pad_cons pd_str (pad_cons pd_str (pad_cons pd_str (pad_cons pd_str (pad_cons pd_str (pad_cons pd_str pad_nil)))))))))))))))))) (pssd_cons (psd_set sc_law_right.nd (pd_op opd_add (pdb (pd_var 1)) (pdb (pd_lst (pad_cons pd_str (pad_cons pd_str (pad_cons pd_str (pad_cons pd_str (pad_cons pd_str (pad_cons pd_str (pad_cons pd_str (pad_cons pd_str (pad_cons pd_str (pad_cons pd_str pad_nil)))))))))))))) (pssd_cons (psd_set sc_law_right.nd (pd_op opd_add (pdb (pd_var 1)) (pdb (pd_lst (pad_cons pd_str (pad_cons pd_str (pad_cons pd_str pad_nil))))))) (pssd_cons (psd_set sc_law_right.nd (pd_op opd_add (pdb (pd_var 1)) (pdb (pd_lst (pad_cons pd_str (pad_cons pd_str (pad_cons pd_str (pad_cons pd_str (pad_cons pd_str (pad_cons pd_str (pad_cons pd_str (pad_cons pd_str (pad_cons (pd_join pd_str (pdb (pd_op opd_mul (pdb (pd_lst (pad_cons pd_str pad_nil))) (pdb pd_int)))) pad_nil))))))))))))) (pssd_cons (psd_for G.po G.calm (pid_range1 h.b_range pd_int) (pgd_name sc_law_right.nd) (pssd_cons (psd_setLc (own := [("_law_again", 10)]) (tup := false) (is := [10]) G.calm sc_law_right.nd (pid_range1 h.b_range (pd_op opd_add (pdb pd_int) (pdb (pd_call G (k_law_sip h) (pad_cons (pd_var 0) (pad_cons pd_int pad_nil)))))) ⟨rfl, of_decide_eq_true (by kernel_rfl), of_decide_eq_true (by kernel_rfl), of_decide_eq_true (by kernel_rfl), of_decide_eq_true (by kernel_rfl)⟩ (fun _ _ _ _ _ => (pgc_name sc_law_right.nd)) (fun _ _ _ _ _ => ptsd_nil) (fun _ _ _ _ _ => (pd_call (G.blk _ _ _ _ _) (k_law_block h) (pad_cons (pd_var 0) pad_nil)))) (pssd_cons (psd_set sc_law_right.nd (pd_join pd_str (pdb (pdf (pf_comp (own := [("_law_block_here", 11)]) (tup := false) (is := [11]) G.calm sc_law_right.nd (pid_seq (pd_var 3)) ⟨rfl, of_decide_eq_true (by kernel_rfl), of_decide_eq_true (by kernel_rfl), of_decide_eq_true (by kernel_rfl), of_decide_eq_true (by kernel_rfl)⟩ (fun _ _ _ _ _ => (pgc_name sc_law_right.nd)) (fun _ _ _ _ _ => ptsd_nil) (fun _ _ _ _ _ => (pd_callT1 (cd_strC (G.blk _ _ _ _ _) (k_Winding_str h) cd_str) h.b_str (pdb (pd_call (G.blk _ _ _ _ _) (k_Winding h) (pad_cons (pd_var 11) pad_nil)))))))))) (pssd_one (psd_for G.po G.calm (pid_seq (pd_lst (pad_cons (pd_var 4) (pad_cons (pd_call G (k_law_bent h) (pad_cons (pd_var 0) (pad_cons (pd_var 4) pad_nil))) (pad_cons (pd_call G (k_law_bent h) (pad_cons (pd_var 0) (pad_cons (pd_var 4) pad_nil))) (pad_cons (pd_call G (k_law_pick h) (pad_cons (pd_var 0) (pad_cons (pd_var 1) pad_nil))) pad_nil)))))) (pgd_name sc_law_right.nd) (pssd_cons (psd_set sc_law_right.nd (pd_call G (k_law_read h) (pad_cons (pd_var 5) pad_nil))) (pssd_cons (psd_set sc_law_right.nd (pd_caught (i := 1000) (q := "_law_right.<locals>.<lambda>") (T := toldX told) (by first | rfl | kernel_rfl) G (cgt h _) (tb_law_right h) rfl (LamX.lamS_by (by kernel_rfl)) rfl (fun _ _ _ _ _ => rfl) (fun A outer s H E f1 c1 G1 => (pd_fld [cWinding] h.fl_blocks (pd_stat G1 (k_Winding_read h) (pe_cls h.g_Winding) (pad_cons (pd_var 5) pad_nil)))))) (pssd_cons (psd_set sc_law_right.nd (pd_caught (i := 1000) (q := "_law_right.<locals>.<lambda>") (T := toldX told) (by first | rfl | kernel_rfl) G (cgt h _) (tb_law_right h) rfl (LamX.lamS_by (by kernel_rfl)) rfl (fun _ _ _ _ _ => rfl) (fun A outer s H E f1 c1 G2 => (pd_fld [cWinding] h.fl_blocks (pd_statK0 G2 (k_Winding_read_kw h) (pe_cls h.g_Winding) (pkd_cons (pd_var 5) pkd_nil) (by intro env st ds st' e; exact dCons_len1 e)))))) (pssd_cons (psd_set sc_law_right.nd (pd_if (pt_cmp opd_isNot (pdb (pd_var 6)) (pdb pd_non)) (pd_lst (pad_cons pd_str (pad_cons (pd_callT1 cd_tuple h.b_tuple (pdb (pd_var 6))) pad_nil))) (pd_lst (pad_cons pd_int (pad_cons pd_int (pad_cons pd_int (pad_cons (pd_call1 (cd_reprW G.gd G.rm.units) h.b_repr (pdb (pd_var 5))) pad_nil))))))) (pssd_one (psd_if (pt_cmp (opd_ne G.rm.units) (pdb (pd_call1 (cd_reprW G.gd G.rm.units) h.b_repr (pdb (pd_lst (pad_cons (pd_var 7) (pad_cons (pd_var 8) pad_nil)))))) (pdb (pd_call1 (cd_reprW G.gd G.rm.units) h.b_repr (pdb (pd_lst (pad_cons (pd_var 9) (pad_cons (pd_var 9) pad_nil))))))) (pssd_one (psd_ret pd_bl)) pssd_nil))))))))))) (pssd_one (psd_ret pd_bl)))))))
theorem v_law_right (h : HdT w mg K base) : FnV P w K mg base 9 ((fun K => He.ga K "_law_right") K) (spD ⟨K, Γ K⟩ (F_law_right U)) := by
  obtain ⟨fd, D⟩ := h.d_law_right
  exact (b_law_right h D).v D (fun _ _ _ _ _ _ us hl => match us, hl with | [_], _ => rfl)
theorem k_law_right (h : HdT w mg K base) : Kn P w K mg base (Γ K) 9 "_law_right" [] (F_law_right U) := by
  obtain ⟨fd, D⟩ := h.d_law_right
  exact ⟨_, h.g_law_right, D.kp, Cal.fn0 (v_law_right h)⟩
theorem sc_law : FnScope ["_law_script", "_law_full", "_law_spot"] ["_law_script"] (defScope (top 68)) := ⟨rfl, rfl, rfl, by decide +kernel, rfl, by decide +kernel, by decide +kernel⟩
theorem b_law (h : HdT w mg K base) {fd : FuncData} (D : FunD K "law" "law" (defArgs (top 68)) (defBody (top 68)) (defScope (top 68)) [] [] ((fun K => He.ga K "law") K) fd) : FnB P w K mg base 10 ((fun K => He.ga K "law") K) fd ["_law_script"] (spD ⟨K, Γ K⟩ (F_law U)) :=
  def_okT (p := ("law", none)) D sc_law _ fun A outer s H E G =>
    (pssd_cons (psd_set sc_law.nd (pd_join pd_str (pdb (pd_op opd_mul (pdb (pd_lst (pad_cons pd_str pad_nil))) (pdb pd_int))))) (pssd_cons (psd_if (PW.pt (pwd_or (pt_cmp (opd_ne G.rm.units) (pdb (pd_call1 (cd_lenC G (k_Winding_len h) cd_len) h.b_len (pdb (pd_stat G (k_Winding_read h) (pe_cls h.g_Winding) (pad_cons (pd_var 1) pad_nil))))) (pdb pd_int)) (pwd1 (pt_cmp (opd_ne G.rm.units) (pdb (pd_ix (pdb (pd_caught (i := 1001) (q := "law.<locals>.<lambda>") (T := toldX told) (by first | rfl | kernel_rfl) G (cgt h _) (tb_law h) rfl (LamX.lamS_by (by kernel_rfl)) rfl (fun _ _ _ _ _ => rfl) (fun A outer s H E f1 c1 G1 => (pd_stat G1 (k_Winding_read h) (pe_cls h.g_Winding) (pad_cons (pd_op opd_add (pdb (pd_var 1)) (pdb pd_str)) pad_nil))))) (pdb pd_int))) (pdb pd_int)) _))) (pssd_one (psd_ret pd_bl)) pssd_nil) (pssd_one (psd_ret (pd_call1 (cd_all G.calm) h.b_all (pdb (pdf (pf_comp (own := [("_law_spot", 2)]) (tup := false) (is := [2]) G.calm sc_law.nd (pid_range1 h.b_range (pd_call2 (cd_max G.calm) h.b_max (pdb pd_int) (pdb (pd_call2 (cd_min G.calm) h.b_min (pdb (pd_call1 cd_len h.b_len (pdb (pd_var 0)))) (pdb pd_int))))) ⟨rfl, of_decide_eq_true (by kernel_rfl), of_decide_eq_true (by kernel_rfl), of_decide_eq_true (by kernel_rfl), of_decide_eq_true (by kernel_rfl)⟩ (fun _ _ _ _ _ => (pgc_name sc_law.nd)) (fun _ _ _ _ _ => ptsd_nil) (fun _ _ _ _ _ => (pd_call (G.blk _ _ _ _ _) (k_law_right h) (pad_cons (pd_call (G.blk _ _ _ _ _) (k_law_cup h) (pad_cons (pd_var 0) (pad_cons (pd_var 2) pad_nil))) pad_nil)))))))))))
end
theorem hd_of {w : World} {mg : Str → Option Value} {K : PySem.W.Frag} {h : Heap} (Y : K.In h) (N : h.Ns mainGlobals mg) (c : SaysM fa fn ex K) (cx : SaysX fa fn ex Γ ts w K) : Hd w mg K where
  b_ArithmeticError := He.free_ok Y N (c.fact 0 (f := .free "ArithmeticError"))
  b_LookupError := He.free_ok Y N (c.fact 1 (f := .free "LookupError"))
  b_NotImplemented := He.free_ok Y N (c.fact 2 (f := .free "NotImplemented"))
  b_ValueError := He.free_ok Y N (c.fact 3 (f := .free "ValueError"))
  b_abs := He.free_ok Y N (c.fact 4 (f := .free "abs"))
  b_all := He.free_ok Y N (c.fact 5 (f := .free "all"))
  b_any := He.free_ok Y N (c.fact 6 (f := .free "any"))
  b_bool := He.free_ok Y N (c.fact 7 (f := .free "bool"))
  b_dict := He.free_ok Y N (c.fact 8 (f := .free "dict"))
  b_divmod := He.free_ok Y N (c.fact 9 (f := .free "divmod"))
  b_enumerate := He.free_ok Y N (c.fact 10 (f := .free "enumerate"))
  b_int := He.free_ok Y N (c.fact 11 (f := .free "int"))
  b_isinstance := He.free_ok Y N (c.fact 12 (f := .free "isinstance"))
  b_len := He.free_ok Y N (c.fact 13 (f := .free "len"))
  b_list := He.free_ok Y N (c.fact 14 (f := .free "list"))
  b_max := He.free_ok Y N (c.fact 15 (f := .free "max"))
  b_min := He.free_ok Y N (c.fact 16 (f := .free "min"))
  b_property := He.free_ok Y N (c.fact 17 (f := .free "property"))
  b_range := He.free_ok Y N (c.fact 18 (f := .free "range"))
  b_repr := He.free_ok Y N (c.fact 19 (f := .free "repr"))
  b_staticmethod := He.free_ok Y N (c.fact 20 (f := .free "staticmethod"))
  b_str := He.free_ok Y N (c.fact 21 (f := .free "str"))
  b_tuple := He.free_ok Y N (c.fact 22 (f := .free "tuple"))
  c_MOST_BLOCKS := He.int_ok Y N (c.fact 23 (f := .int "MOST_BLOCKS" 12))
  c_MOST_WORD := He.int_ok Y N (c.fact 24 (f := .int "MOST_WORD" 12))
  c_MOST_TIMES := He.int_ok Y N (c.fact 25 (f := .int "MOST_TIMES" 9))
  c_MOST_MORE := He.int_ok Y N (c.fact 26 (f := .int "MOST_MORE" 99))
  c_PEGS := He.str_ok Y N (c.fact 27 (f := .str "PEGS" "abcdef"))
  c_LETTERS := He.str_ok Y N (c.fact 28 (f := .str "LETTERS" "abcdefABCDEF"))
  c_DIGITS := He.str_ok Y N (c.fact 29 (f := .str "DIGITS" "0123456789"))
  c_ITEMS := He.int_ok Y N (c.fact 30 (f := .int "ITEMS" 3))
  g_WrongValue := He.glo_ok Y N (c.fact 31 (f := .glo "WrongValue"))
  g_NotAWinding := He.glo_ok Y N (c.fact 32 (f := .glo "NotAWinding"))
  g_InvalidText := He.glo_ok Y N (c.fact 33 (f := .glo "InvalidText"))
  g_InvalidRounds := He.glo_ok Y N (c.fact 34 (f := .glo "InvalidRounds"))
  g_InvalidPegs := He.glo_ok Y N (c.fact 35 (f := .glo "InvalidPegs"))
  g_InvalidPeg := He.glo_ok Y N (c.fact 36 (f := .glo "InvalidPeg"))
  g_InvalidPlace := He.glo_ok Y N (c.fact 37 (f := .glo "InvalidPlace"))
  g_InvalidFactor := He.glo_ok Y N (c.fact 38 (f := .glo "InvalidFactor"))
  g_InvalidWord := He.glo_ok Y N (c.fact 39 (f := .glo "InvalidWord"))
  g_InvalidTimes := He.glo_ok Y N (c.fact 40 (f := .glo "InvalidTimes"))
  g_InvalidWish := He.glo_ok Y N (c.fact 41 (f := .glo "InvalidWish"))
  g_InvalidName := He.glo_ok Y N (c.fact 42 (f := .glo "InvalidName"))
  g_InvalidClaim := He.glo_ok Y N (c.fact 43 (f := .glo "InvalidClaim"))
  g_InvalidIndex := He.glo_ok Y N (c.fact 44 (f := .glo "InvalidIndex"))
  g_InvalidLine := He.glo_ok Y N (c.fact 45 (f := .glo "InvalidLine"))
  g_InvalidBlocks := He.glo_ok Y N (c.fact 46 (f := .glo "InvalidBlocks"))
  g_InvalidLots := He.glo_ok Y N (c.fact 47 (f := .glo "InvalidLots"))
  g_InvalidWishes := He.glo_ok Y N (c.fact 48 (f := .glo "InvalidWishes"))
  g_InvalidChanges := He.glo_ok Y N (c.fact 49 (f := .glo "InvalidChanges"))
  g_InvalidDeeds := He.glo_ok Y N (c.fact 50 (f := .glo "InvalidDeeds"))
  g_WrongName := He.glo_ok Y N (c.fact 51 (f := .glo "WrongName"))
  g_UnknownName := He.glo_ok Y N (c.fact 52 (f := .glo "UnknownName"))
  g_InUse := He.glo_ok Y N (c.fact 53 (f := .glo "InUse"))
  g_NoAnswer := He.glo_ok Y N (c.fact 54 (f := .glo "NoAnswer"))
  g_TooMany := He.glo_ok Y N (c.fact 55 (f := .glo "TooMany"))
  g_TooGreat := He.glo_ok Y N (c.fact 56 (f := .glo "TooGreat"))
  g_PegOut := He.glo_ok Y N (c.fact 57 (f := .glo "PegOut"))
  g_PegIn := He.glo_ok Y N (c.fact 58 (f := .glo "PegIn"))
  g_Broken := He.glo_ok Y N (c.fact 59 (f := .glo "Broken"))
  g_NothingToUndo := He.glo_ok Y N (c.fact 60 (f := .glo "NothingToUndo"))
  g_law_caught := He.glo_ok Y N (c.fact 61 (f := .glo "_law_caught"))
  g_law_classes := He.glo_ok Y N (c.fact 62 (f := .glo "_law_classes"))
  x_InvalidText := excB_ok (c.more 0 (f := .exc "InvalidText" "given" 0 rx_InvalidText))
  g_Known := He.glo_ok Y N (c.fact 63 (f := .glo "Known"))
  g_Winding := He.glo_ok Y N (c.fact 64 (f := .glo "Winding"))
  g_is_integer := He.glo_ok Y N (c.fact 65 (f := .glo "is_integer"))
  g_is_between := He.glo_ok Y N (c.fact 66 (f := .glo "is_between"))
  g_is_word := He.glo_ok Y N (c.fact 67 (f := .glo "is_word"))
  g_is_block := He.glo_ok Y N (c.fact 68 (f := .glo "is_block"))
  g_are_blocks := He.glo_ok Y N (c.fact 69 (f := .glo "are_blocks"))
  g_text_of := He.glo_ok Y N (c.fact 70 (f := .glo "text_of"))
  g_integer_in := He.glo_ok Y N (c.fact 71 (f := .glo "integer_in"))
  g_factor_in := He.glo_ok Y N (c.fact 72 (f := .glo "factor_in"))
  g_over_in := He.glo_ok Y N (c.fact 73 (f := .glo "over_in"))
  g_block_in := He.glo_ok Y N (c.fact 74 (f := .glo "block_in"))
  g_blocks_in := He.glo_ok Y N (c.fact 75 (f := .glo "blocks_in"))
  g_law_cup := He.glo_ok Y N (c.fact 76 (f := .glo "_law_cup"))
  g_law_sip := He.glo_ok Y N (c.fact 77 (f := .glo "_law_sip"))
  g_law_pick := He.glo_ok Y N (c.fact 78 (f := .glo "_law_pick"))
  g_law_strand := He.glo_ok Y N (c.fact 79 (f := .glo "_law_strand"))
  g_law_block := He.glo_ok Y N (c.fact 80 (f := .glo "_law_block"))
  g_law_numbers := He.glo_ok Y N (c.fact 81 (f := .glo "_law_numbers"))
  g_law_power := He.glo_ok Y N (c.fact 82 (f := .glo "_law_power"))
  g_law_read := He.glo_ok Y N (c.fact 83 (f := .glo "_law_read"))
  g_law_bent := He.glo_ok Y N (c.fact 84 (f := .glo "_law_bent"))
  g_law_right := He.glo_ok Y N (c.fact 85 (f := .glo "_law_right"))
  g_law := He.glo_ok Y N (c.fact 86 (f := .glo "law"))
  fl_blocks := fun i hi => by
    rcases List.mem_cons.mp hi with e | hi
    · rw [e]; exact ⟨He.cls_ok (c.fact 87 (f := .cls "Winding")), He.noat_ok (c.fact 88 (f := .noat "Winding" "blocks"))⟩
    cases hi
  fl_parts := fun i hi => by
    rcases List.mem_cons.mp hi with e | hi
    · rw [e]; exact ⟨He.cls_ok (c.fact 89 (f := .cls "Known")), He.noat_ok (c.fact 90 (f := .noat "Known" "parts"))⟩
    cases hi
  is_int := fun p hp => by
    rcases List.mem_cons.mp hp with e | hp
    · rw [e]; exact kit_ok (c.more 1 (f := .kit (.ty "NoneType") (.ty "int") false))
    rcases List.mem_cons.mp hp with e | hp
    · rw [e]; exact kit_ok (c.more 2 (f := .kit (.ty "bool") (.ty "int") true))
    rcases List.mem_cons.mp hp with e | hp
    · rw [e]; exact kit_ok (c.more 3 (f := .kit (.ty "int") (.ty "int") true))
    rcases List.mem_cons.mp hp with e | hp
    · rw [e]; exact kit_ok (c.more 4 (f := .kit (.ty "str") (.ty "int") false))
    rcases List.mem_cons.mp hp with e | hp
    · rw [e]; exact kit_ok (c.more 5 (f := .kit (.ty "tuple") (.ty "int") false))
    rcases List.mem_cons.mp hp with e | hp
    · rw [e]; exact kit_ok (c.more 6 (f := .kit (.ty "list") (.ty "int") false))
    rcases List.mem_cons.mp hp with e | hp
    · rw [e]; exact kit_ok (c.more 7 (f := .kit (.ty "dict") (.ty "int") false))
    rcases List.mem_cons.mp hp with e | hp
    · rw [e]; exact ⟨clsI_ok (c.more 8 (f := .clsI "Known")), kit_ok (c.more 9 (f := .kit (.own "Known") (.ty "int") false))⟩
    rcases List.mem_cons.mp hp with e | hp
    · rw [e]; exact ⟨clsI_ok (c.more 10 (f := .clsI "Winding")), kit_ok (c.more 11 (f := .kit (.own "Winding") (.ty "int") false))⟩
    cases hp
  is_bool := fun p hp => by
    rcases List.mem_cons.mp hp with e | hp
    · rw [e]; exact kit_ok (c.more 12 (f := .kit (.ty "NoneType") (.ty "bool") false))
    rcases List.mem_cons.mp hp with e | hp
    · rw [e]; exact kit_ok (c.more 13 (f := .kit (.ty "bool") (.ty "bool") true))
    rcases List.mem_cons.mp hp with e | hp
    · rw [e]; exact kit_ok (c.more 14 (f := .kit (.ty "int") (.ty "bool") false))
    rcases List.mem_cons.mp hp with e | hp
    · rw [e]; exact kit_ok (c.more 15 (f := .kit (.ty "str") (.ty "bool") false))
    rcases List.mem_cons.mp hp with e | hp
    · rw [e]; exact kit_ok (c.more 16 (f := .kit (.ty "tuple") (.ty "bool") false))
    rcases List.mem_cons.mp hp with e | hp
    · rw [e]; exact kit_ok (c.more 17 (f := .kit (.ty "list") (.ty "bool") false))
    rcases List.mem_cons.mp hp with e | hp
    · rw [e]; exact kit_ok (c.more 18 (f := .kit (.ty "dict") (.ty "bool") false))
    rcases List.mem_cons.mp hp with e | hp
    · rw [e]; exact ⟨clsI_ok (c.more 8 (f := .clsI "Known")), kit_ok (c.more 19 (f := .kit (.own "Known") (.ty "bool") false))⟩
    rcases List.mem_cons.mp hp with e | hp
    · rw [e]; exact ⟨clsI_ok (c.more 10 (f := .clsI "Winding")), kit_ok (c.more 20 (f := .kit (.own "Winding") (.ty "bool") false))⟩
    cases hp
  is_str := fun p hp => by
    rcases List.mem_cons.mp hp with e | hp
    · rw [e]; exact kit_ok (c.more 21 (f := .kit (.ty "NoneType") (.ty "str") false))
    rcases List.mem_cons.mp hp with e | hp
    · rw [e]; exact kit_ok (c.more 22 (f := .kit (.ty "bool") (.ty "str") false))
    rcases List.mem_cons.mp hp with e | hp
    · rw [e]; exact kit_ok (c.more 23 (f := .kit (.ty "int") (.ty "str") false))
    rcases List.mem_cons.mp hp with e | hp
    · rw [e]; exact kit_ok (c.more 24 (f := .kit (.ty "str") (.ty "str") true))
    rcases List.mem_cons.mp hp with e | hp
    · rw [e]; exact kit_ok (c.more 25 (f := .kit (.ty "tuple") (.ty "str") false))
    rcases List.mem_cons.mp hp with e | hp
    · rw [e]; exact kit_ok (c.more 26 (f := .kit (.ty "list") (.ty "str") false))
    rcases List.mem_cons.mp hp with e | hp
    · rw [e]; exact kit_ok (c.more 27 (f := .kit (.ty "dict") (.ty "str") false))
    rcases List.mem_cons.mp hp with e | hp
    · rw [e]; exact ⟨clsI_ok (c.more 8 (f := .clsI "Known")), kit_ok (c.more 28 (f := .kit (.own "Known") (.ty "str") false))⟩
    rcases List.mem_cons.mp hp with e | hp
    · rw [e]; exact ⟨clsI_ok (c.more 10 (f := .clsI "Winding")), kit_ok (c.more 29 (f := .kit (.own "Winding") (.ty "str") false))⟩
    cases hp
  is_tuple := fun p hp => by
    rcases List.mem_cons.mp hp with e | hp
    · rw [e]; exact kit_ok (c.more 30 (f := .kit (.ty "NoneType") (.ty "tuple") false))
    rcases List.mem_cons.mp hp with e | hp
    · rw [e]; exact kit_ok (c.more 31 (f := .kit (.ty "bool") (.ty "tuple") false))
    rcases List.mem_cons.mp hp with e | hp
    · rw [e]; exact kit_ok (c.more 32 (f := .kit (.ty "int") (.ty "tuple") false))
    rcases List.mem_cons.mp hp with e | hp
    · rw [e]; exact kit_ok (c.more 33 (f := .kit (.ty "str") (.ty "tuple") false))
    rcases List.mem_cons.mp hp with e | hp
    · rw [e]; exact kit_ok (c.more 34 (f := .kit (.ty "tuple") (.ty "tuple") true))
    rcases List.mem_cons.mp hp with e | hp
    · rw [e]; exact kit_ok (c.more 35 (f := .kit (.ty "list") (.ty "tuple") false))
    rcases List.mem_cons.mp hp with e | hp
    · rw [e]; exact kit_ok (c.more 36 (f := .kit (.ty "dict") (.ty "tuple") false))
    rcases List.mem_cons.mp hp with e | hp
    · rw [e]; exact ⟨clsI_ok (c.more 8 (f := .clsI "Known")), kit_ok (c.more 37 (f := .kit (.own "Known") (.ty "tuple") false))⟩
    rcases List.mem_cons.mp hp with e | hp
    · rw [e]; exact ⟨clsI_ok (c.more 10 (f := .clsI "Winding")), kit_ok (c.more 38 (f := .kit (.own "Winding") (.ty "tuple") false))⟩
    cases hp
  is_Known := fun p hp => by
    rcases List.mem_cons.mp hp with e | hp
    · rw [e]; exact kit_ok (c.more 39 (f := .kit (.ty "NoneType") (.own "Known") false))
    rcases List.mem_cons.mp hp with e | hp
    · rw [e]; exact kit_ok (c.more 40 (f := .kit (.ty "bool") (.own "Known") false))
    rcases List.mem_cons.mp hp with e | hp
    · rw [e]; exact kit_ok (c.more 41 (f := .kit (.ty "int") (.own "Known") false))
    rcases List.mem_cons.mp hp with e | hp
    · rw [e]; exact kit_ok (c.more 42 (f := .kit (.ty "str") (.own "Known") false))
    rcases List.mem_cons.mp hp with e | hp
    · rw [e]; exact kit_ok (c.more 43 (f := .kit (.ty "tuple") (.own "Known") false))
    rcases List.mem_cons.mp hp with e | hp
    · rw [e]; exact kit_ok (c.more 44 (f := .kit (.ty "list") (.own "Known") false))
    rcases List.mem_cons.mp hp with e | hp
    · rw [e]; exact ⟨clsI_ok (c.more 8 (f := .clsI "Known")), kit_ok (c.more 45 (f := .kit (.own "Known") (.own "Known") true))⟩
    rcases List.mem_cons.mp hp with e | hp
    · rw [e]; exact ⟨clsI_ok (c.more 10 (f := .clsI "Winding")), kit_ok (c.more 46 (f := .kit (.own "Winding") (.own "Known") false))⟩
    rcases List.mem_cons.mp hp with e | hp
    · rw [e]; exact kit_ok (c.more 47 (f := .kit (.ty "dict") (.own "Known") false))
    cases hp
  first := first_ok (c.more 48 (f := .first "Winding"))
  mro := mro_ok (c.more 49 (f := .mro "Winding"))
  nosub := sub_ok (c.more 50 (f := .sub (.ty "str") (.own "Winding") false))
  ne := built_ok (c.more 51 (f := .built "Winding" "__ne__" "object.__ne__"))
  fmt := built_ok (c.more 52 (f := .built "Winding" "__format__" "object.__format__"))
  d_is_integer := c.def_ 0
  d_is_between := c.def_ 1
  d_is_word := c.def_ 2
  d_is_block := c.def_ 3
  d_Known_init := c.def_ 4
  d_Winding_init := c.def_ 5
  d_are_blocks := c.def_ 6
  d_text_of := c.def_ 7
  d_integer_in := c.def_ 8
  d_factor_in := c.def_ 9
  d_over_in := c.def_ 10
  d_block_in := c.def_ 11
  d_blocks_in := c.def_ 12
  d_Winding_read := c.def_ 13
  d_Winding_len := c.def_ 14
  d_law_cup := c.def_ 15
  d_Winding_str := c.def_ 16
  d_law_sip := c.def_ 17
  d_law_pick := c.def_ 18
  d_law_strand := c.def_ 19
  d_law_block := c.def_ 20
  d_law_numbers := c.def_ 21
  d_law_power := c.def_ 22
  d_law_read := c.def_ 23
  d_law_bent := c.def_ 24
  d_law_right := c.def_ 25
  d_law := c.def_ 26
  d_InvalidText_init := c.def_ 27
  d_law_caught := c.def_ 28
  d_law_classes := c.def_ 29
  m_Known_init := (c.fact 91 (f := .meth "Known" "__init__"))
  mk_Known := He.mkr_ok (c.fact 92 (f := .mkr "Known"))
  k_Known_init := (c.fact 89 (f := .cls "Known"))
  m_Winding_init := (c.fact 93 (f := .meth "Winding" "__init__"))
  mk_Winding := He.mkr_ok (c.fact 94 (f := .mkr "Winding"))
  k_Winding_init := (c.fact 87 (f := .cls "Winding"))
  s_Winding_read := (c.more 53 (f := .stat "Winding" "read"))
  m_Winding_len := (c.fact 95 (f := .meth "Winding" "__len__"))
  k_Winding_len := (c.fact 87 (f := .cls "Winding"))
  m_Winding_str := (c.fact 96 (f := .meth "Winding" "__str__"))
  k_Winding_str := (c.fact 87 (f := .cls "Winding"))
def st0q : List (Nat × Str) := [(1000, "_law_right.<locals>.<lambda>"), (1001, "law.<locals>.<lambda>")]
def st0 : Sto := st0q.map fun u => .tab u.1 u.2
theorem st0_ok (K : PySem.W.Frag) : tabsSt ⟨K, Γ K⟩ (tabsOf tf K) st0 := tabsSt_of _ st0q rfl fun n p u h1 h2 => by
  match n with
  | 0 => cases h1; cases h2; rfl
  | 1 => cases h1; cases h2; rfl
  | _ + 2 => cases h2
end K04
open PySem PySem.W PySem.Calls PyProof.Rows
theorem PySem.Challenge.cw_knotspools_k04_texts_refused_holds : PySem.Challenge.rw_knotspools_k04_texts_refused.Holds := by
  refine K04.fin ?_
  intro w mg fa h Y N hmg
  obtain ⟨K, KX, c⟩ := Y
  have H := K04.hd_of (w := w) KX N c.x.m c.x
  obtain ⟨fd, D⟩ := H.d_law
  have e := hmg.symm.trans H.g_law
  cases e
  exact ⟨K, K04.Γ K, fd, (K04.F_law K04.U), AM.tabsOf K04.tf K, K04.st0, KX, c.t.s KX, K04.st0_ok K, fun s v => (L2.FunD.bindsA (ps := ["_law_script"]) D fun _ _ _ _ _ _ us hl => match us, hl with | [_], _ => rfl) s [v] rfl, K04.law_true, fun base _ _ hT => K04.b_law ⟨H, hT⟩ D⟩
