import PyProof.Rows.All
import Wide.All
import OpenK.AllK
import Wide.FinOn
import HandS.Head0
import HandS.Head1
import HandS.Head2
import HandS.HeadNt
import HandS.HeadHook3
import HandS.HeadHook4
import KE.KStateDown
import HandS.ForMost
import HandS.Defaults
import HandS.Exc
import HandS.IsInst
import HandS.Walk
import HandS.Flow
import HandS.Lambda
import HandS.TupAny
import HandS.TupMul
import HandS.Codes
import HandS.Deep
import HandS.Text
import HandS.FStr
import HandS.WideBits
import HandS.Star
import HandS.ExcOwn
import HandS.Property
import HandS.ClsMeth
import KE.KFmtOwn
import KE.RegKCallOwn
import HandS.Iter
import KE.GoesEnum
import HandS.Dict
import PyProof.ReprRoads
import HandS.HeadEnd
import HandS.Ends
import HandS.Wide
import KE.SortKeyHeap
import HandS.SortKw
import HandS.Style
import HandS.Conv
import PyProof.LongRange
import HandS.Replace
import HandS.DictComp
import HandS.More
import KE.GoesZip
import HandS.Zip
import PySem.Challenge.RW_knotspools_k74_values_of_any_kind_judged
set_option Elab.async false
set_option linter.all false
set_option maxRecDepth 100000
set_option maxHeartbeats 4000000
namespace AM
open PySem PySem.Spec PyProof.Rows L2 He
def strsAre : List Value → List Str → Bool
  | .str y _ :: vs, z :: zs => decide (y = z) && strsAre vs zs
  | [], [] => true
  | _, _ => false
inductive Ty1 where
  | ty (n : String) | own (x : Str)
def Ty1.v (K : PySem.W.Frag) : Ty1 → Value
  | .ty n => .type n
  | .own x => .ref (ga K x)
inductive Fx where
  | clsI (x : Str)
  | built (x m : Str) (id : String)
  | mro (x : Str)
  | first (x : Str)
  | kit (t u : Ty1) (b : Bool)
  | prop (x f : Str)
  | stat (x m : Str)
  | sub (t u : Ty1) (b : Bool)
  | tupS (x : Str) (zs : List Str)
def pfA (K : PySem.W.Frag) (C : Addr) (f : Str) : Addr := match PySem.W.recIn K (ma K C f) "property" with
  | some (.ref g :: _) => g
  | _ => 0
def sfA (K : PySem.W.Frag) (C : Addr) (m : Str) : Addr := He5.wf K C "staticmethod" m
def Fx.ok (K : PySem.W.Frag) : Fx → Bool
  | .clsI x => (Fa.cls x).ok K && (eqO (PySem.W.findIn K (.ref (ga K x)) "__class__") (some (some (.builtin "object.__class__"))) && (eqO (PySem.W.specialIn K (.builtin "object.__class__") "__get__") (some (some (.builtin "getset_descriptor.__get__"))) &&
      (decide (PySem.W.takesIn K (.builtin "object.__class__") = some true) && decide (PySem.W.mroIn K (ga K x) (.type "object") = some true))))
  | .built x m id => eqO (PySem.W.findIn K (.ref (ga K x)) m) (some (some (.builtin id)))
  | .mro x => decide (PySem.W.mroIn K (ga K x) (.type "object") = some true)
  | .first x => PySem.W.selfFirst K (ga K x)
  | .sub t u b => decide (PySem.W.subIn K (t.v K) (u.v K) = some b)
  | .tupS x zs => eqO (PySem.W.nsIn K mainGlobals x) (some (some (.ref (ga K x)))) && (match K.lookup (ga K x) with
    | some o => decide (o.cls = .type "tuple") && (match o.data with
      | .seq its _ => decide (its.size ≤ 100) && strsAre its.toList zs
      | _ => false)
    | none => false)
  | .kit t u b => decide (PySem.W.kitOne K (t.v K) (u.v K) = some b)
  | .prop x f => (Fa.cls x).ok K && (eqO (PySem.W.findIn K (.ref (ga K x)) f) (some (some (.ref (ma K (ga K x) f)))) && (eqO (PySem.W.specialIn K (.ref (ma K (ga K x) f)) "__get__") (some (some (.builtin "property.__get__"))) &&
      (decide (PySem.W.takesIn K (.ref (ma K (ga K x) f)) = some true) && (match PySem.W.recIn K (ma K (ga K x) f) "property" with
        | some (.ref _ :: _) => true
        | _ => false))))
  | .stat x m => eqO (PySem.W.specialIn K (.ref (ga K x)) "__getattribute__") (some (some (.builtin "type.__getattribute__"))) && (decide (PySem.W.typeIn K (.ref (ga K x)) = some (.type "type")) && (PySem.W.readsIn K (ga K x) (.type "type") && (He5.wrapB K (ga K x) "staticmethod" "staticmethod.__get__" m &&
      PySem.W.keepIn K (.ref (sfA K (ga K x) m)))))
def obsM (fa : List Fa) (fn : List He5.DefA) (ex : List Fx) (K : PySem.W.Frag) : He.AlD := ((fa.all fun f => f.ok K) && ((fn.all fun d => d.ok K) && ex.all fun f => f.ok K), fn.map fun d => He5.fnA K (d.at_ K))
def SaysM (fa : List Fa) (fn : List He5.DefA) (ex : List Fx) (K : PySem.W.Frag) : Prop := obsM fa fn ex K = He5.valA fn
def walkA {α : Type} : List Addr → Nat → List Addr → (Nat → List Addr → α) → α
  | [], seen, out, k => k seen out
  | a :: r, seen, out, k => match Nat.testBit seen a with
    | true => walkA r seen out k
    | false => walkA r (seen ||| (1 <<< a)) (a :: out) k
def asM (g : Addr → Option Obj) : Nat → Nat → List Addr → List Addr
  | 0, _, front => front
  | n + 1, seen, front => front ++ walkA (front.flatMap fun a => match g a with
    | some o => refsD o
    | none => []) seen [] fun seen' out => asM g n seen' out
def asN (g : Addr → Option Obj) (n : Nat) : List Addr := asM g n (1 <<< mainGlobals) [mainGlobals] ++ [cStatics]
inductive Tv where
  | int (i : Int)
  | pair (i : Int) (c : Nat)
def Tv.b (K : PySem.W.Frag) (Γ : Nat → Addr) : Tv → Value → Bool
  | .int i, .int j _ => decide (i = j)
  | .pair i c, .ref t => (match K.lookup t with
    | some o => decide (o.cls = .type "tuple") && (match o.data with
      | .seq its _ => (match its.toList with
        | [.int j _, .ref g] => decide (j = i) && decide (g = Γ c)
        | _ => false)
      | _ => false)
    | none => false)
  | _, _ => false
def tabB (K : PySem.W.Frag) (Γ : Nat → Addr) (x : Str) (r : List (Str × Tv)) : Bool := eqO (PySem.W.nsIn K mainGlobals x) (some (some (.ref (ga K x)))) && r.all fun q => match PySem.W.nsIn K (ga K x) q.1 with
  | some (some u) => q.2.b K Γ u
  | _ => false
abbrev TabM : Type := Str × List (Str × Tv)
abbrev AlM : Type := He.AlD × (Bool × List (Option (List (Option (Str × Int)))))
def obsX (fa : List Fa) (fn : List He5.DefA) (ex : List Fx) (Γ : PySem.W.Frag → Nat → Addr) (ts : List TabM) (K : PySem.W.Frag) : AlM := (obsM fa fn ex K, ts.all fun t => tabB K (Γ K) t.1 t.2, ts.map fun t => dicW K (ga K t.1))
def valX (fn : List He5.DefA) (ts : List TabM) (w : World) : AlM := (He5.valA fn, true, ts.map fun t => some (keysIn w.params (t.2.map (·.1))))
def SaysX (fa : List Fa) (fn : List He5.DefA) (ex : List Fx) (Γ : PySem.W.Frag → Nat → Addr) (ts : List TabM) (w : World) (K : PySem.W.Frag) : Prop := obsX fa fn ex Γ ts K = valX fn ts w
end AM
namespace KP
open PySem AM
def T_SIZES : List (Str × Tv) := [("out", .int 2), ("turn", .int 2), ("join", .int 2), ("split", .int 4), ("cut", .int 3), ("glue", .int 2), ("undo", .int 3), ("back", .int 3), ("open", .int 3), ("root", .int 3)]
def T_JUDGES : List (Str × Tv) := [("free", .pair 2 41), ("free at", .pair 3 42), ("held at", .pair 3 43), ("held", .pair 3 44), ("length", .pair 4 45), ("same", .pair 3 46), ("lots", .pair 4 47)]
end KP
namespace AM
open PySem PySem.Spec PyProof.Rows L2 He
def apartB : List Addr → Bool
  | [] => true
  | a :: r => !(r.any fun b => decide (b = a)) && apartB r
def tabsOf (tf : List Defn) (K : PySem.W.Frag) : List (Addr × Addr) := tf.map fun p => cT K p
abbrev AlY : Type := AlM × Bool
def obsY (n : Nat) (fa : List Fa) (fn : List He5.DefA) (ex : List Fx) (Γ : PySem.W.Frag → Nat → Addr) (ts : List TabM) (tf : List Defn) (g : Addr → Option Obj) : AlY :=
  (obsX fa fn ex Γ ts (frT g (asN g n)), tabsB g tf (frT g (asN g n)) && apartB ((tabsOf tf (frT g (asN g n))).map (·.2)))
def valY (fn : List He5.DefA) (ts : List TabM) (w : World) : AlY := (valX fn ts w, true)
structure TabsH (tf : List Defn) (h : Heap) (K : PySem.W.Frag) : Prop where
  hd : ∀ p ∈ tabsOf tf K, PySem.W.codeHdIn K p.1 p.2 = true
  out : ∀ p ∈ tabsOf tf K, K.lookup p.2 = none
  empty : ∀ p ∈ tabsOf tf K, h.get? p.2 = some { cls := .none, data := .fields #[] }
  nd : ((tabsOf tf K).map (·.2)).Nodup
structure SaysY (fa : List Fa) (fn : List He5.DefA) (ex : List Fx) (Γ : PySem.W.Frag → Nat → Addr) (ts : List TabM) (tf : List Defn) (w : World) (h : Heap) (K : PySem.W.Frag) : Prop where
  x : SaysX fa fn ex Γ ts w K
  t : TabsH tf h K
theorem apart_ok : ∀ {l : List Addr}, apartB l = true → l.Nodup
  | [], _ => List.nodup_nil
  | a :: r, h => by
    obtain ⟨h1, h2⟩ := ba h
    refine List.nodup_cons.mpr ⟨fun z => ?_, apart_ok h2⟩
    have q : (r.any fun b => decide (b = a)) = true := List.any_eq_true.mpr ⟨a, z, decide_eq_true rfl⟩
    rw [q] at h1
    cases h1
section
variable {n : Nat} {fa : List Fa} {fn : List He5.DefA} {ex : List Fx} {Γ : PySem.W.Frag → Nat → Addr} {ts : List TabM} {tf : List Defn} {w : World} {h : Heap}
theorem saysY_of (e : obsY n fa fn ex Γ ts tf h.get? = valY fn ts w) : SaysY fa fn ex Γ ts tf w h (frT h.get? (asN h.get? n)) := by
  have e1 : obsX fa fn ex Γ ts (frT h.get? (asN h.get? n)) = valX fn ts w := congrArg Prod.fst e
  have e2 : (tabsB h.get? tf (frT h.get? (asN h.get? n)) && apartB ((tabsOf tf (frT h.get? (asN h.get? n))).map (·.2))) = true := congrArg Prod.snd e
  obtain ⟨h1, h2⟩ := ba e2
  have one : ∀ p ∈ tabsOf tf (frT h.get? (asN h.get? n)), PySem.W.codeHdIn (frT h.get? (asN h.get? n)) p.1 p.2 = true ∧ (frT h.get? (asN h.get? n)).lookup p.2 = none ∧ h.get? p.2 = some { cls := .none, data := .fields #[] } := fun p hp => by
    obtain ⟨d, hd, rfl⟩ := List.mem_map.mp hp
    obtain ⟨k1, k2⟩ := ba (List.all_eq_true.mp h1 d hd)
    split at k2
    · rename_i o ho
      exact ⟨k1, frT_none ho k2, by rw [ho, emptyTab_eq k2]⟩
    · cases k2
  exact ⟨e1, fun p hp => (one p hp).1, fun p hp => (one p hp).2.1, fun p hp => (one p hp).2.2, apart_ok h2⟩
end
def hookY (n : Nat) (fa : List Fa) (fn : List He5.DefA) (ex : List Fx) (Γ : PySem.W.Frag → Nat → Addr) (ts : List TabM) (tf : List Defn) : PySem.W.Hook where
  α := AlY
  obs := fun s => obsY n fa fn ex Γ ts tf s.heap.get?
  val := fun w => valY fn ts w
  says := fun w h => ∃ K : PySem.W.Frag, K.In h ∧ SaysY fa fn ex Γ ts tf w h K
  of := fun _ _ e => ⟨_, frT_in, saysY_of e⟩
  keeps := fun _ _ _ ⟨K, hK, c⟩ k => ⟨K, PySem.W.Frag.In.keeps hK k, c.x, c.t.hd, c.t.out, fun p hp => k _ _ (c.t.empty p hp), c.t.nd⟩
theorem obsY_eq {n : Nat} {fa : List Fa} {fn : List He5.DefA} {ex : List Fx} {Γ : PySem.W.Frag → Nat → Addr} {ts : List TabM} {tf : List Defn} {g : Addr → Option Obj} {s : Shared} (h : ∀ a, g a = s.heap.get? a) : obsY n fa fn ex Γ ts tf g = (hookY n fa fn ex Γ ts tf).obs s := by
  obtain rfl : g = s.heap.get? := funext h
  rfl
def gaT (cn : List Str) (tf : List Defn) (K : PySem.W.Frag) (i : Nat) : Addr := match i / 1000 with
  | 0 => ga K (cn.getD i "")
  | _ + 1 => (cT K (tf.getD (i - 1000) ("", none))).2
end AM
namespace K74
open PySem PySem.Spec PyProof.Rows L2 AM KP
def top (i : Nat) : Stmt := PySem.Challenge.pw_knotspools_k74_values_of_any_kind_judged.main.body.getD i (.Pass ⟨0, 0, 0, 0⟩)
def cn0 : List Str := ["WrongValue", "NotAWinding", "InvalidText", "InvalidRounds", "InvalidPegs", "InvalidPeg", "InvalidPlace", "InvalidFactor", "InvalidWord", "InvalidTimes", "InvalidWish", "InvalidName", "InvalidClaim", "InvalidIndex", "InvalidLine", "InvalidBlocks", "InvalidLots", "InvalidWishes", "InvalidChanges", "InvalidDeeds"]
def cn20 : List Str := ["WrongName", "UnknownName", "InUse", "NoAnswer", "TooMany", "TooGreat", "PegOut", "PegIn", "Broken", "NothingToUndo", "Known", "Winding", "Loosening", "State", "Earlier", "ThreadTrial", "Thread", "Kept", "Trial", "Book"]
def cn40 : List Str := ["Console", "shows_free", "shows_free_at", "shows_held_at", "shows_held", "shows_length", "shows_same", "shows_lots"]
def cn : List Str := cn0 ++ (cn20 ++ (cn40))
def tf : List He.Defn := [("parts_of", none)]
abbrev Γ (K : PySem.W.Frag) (i : Nat) : Addr := gaT cn tf K i
def fn : List He5.DefA := [
  ⟨fun K => He.ga K "is_integer", "is_integer", "is_integer", defArgs (top 8), defBody (top 8), defScope (top 8), [], []⟩,
  ⟨fun K => He.ga K "is_between", "is_between", "is_between", defArgs (top 9), defBody (top 9), defScope (top 9), [], []⟩,
  ⟨fun K => He.ga K "is_word", "is_word", "is_word", defArgs (top 11), defBody (top 11), defScope (top 11), [], []⟩,
  ⟨fun K => He.ga K "is_block", "is_block", "is_block", defArgs (top 40), defBody (top 40), defScope (top 40), [], []⟩,
  ⟨fun K => He.ga K "are_blocks", "are_blocks", "are_blocks", defArgs (top 41), defBody (top 41), defScope (top 41), [], []⟩,
  ⟨fun K => He.ga K "is_step", "is_step", "is_step", defArgs (top 20), defBody (top 20), defScope (top 20), [], []⟩,
  ⟨fun K => He.ga K "left_out", "left_out", "left_out", defArgs (top 21), defBody (top 21), defScope (top 21), [], []⟩,
  ⟨fun K => He.ga K "undone_word", "undone_word", "undone_word", defArgs (top 14), defBody (top 14), defScope (top 14), [], []⟩,
  ⟨fun K => He.ga K "turned", "turned", "turned", defArgs (top 22), defBody (top 22), defScope (top 22), [], []⟩,
  ⟨fun K => He.ga K "joined", "joined", "joined", defArgs (top 23), defBody (top 23), defScope (top 23), [], []⟩,
  ⟨fun K => He.ga K "parted", "parted", "parted", defArgs (top 24), defBody (top 24), defScope (top 24), [], []⟩,
  ⟨fun K => He.ga K "is_plain", "is_plain", "is_plain", defArgs (top 19), defBody (top 19), defScope (top 19), [], []⟩,
  ⟨fun K => He.ga K "cut_at", "cut_at", "cut_at", defArgs (top 25), defBody (top 25), defScope (top 25), [], []⟩,
  ⟨fun K => He.ga K "glued", "glued", "glued", defArgs (top 26), defBody (top 26), defScope (top 26), [], []⟩,
  ⟨fun K => He.ga K "do_undo", "do_undo", "do_undo", defArgs (top 13), defBody (top 13), defScope (top 13), [], []⟩,
  ⟨fun K => He.ga K "unpaired", "unpaired", "unpaired", defArgs (top 27), defBody (top 27), defScope (top 27), [], []⟩,
  ⟨fun K => He.ga K "passed", "passed", "passed", defArgs (top 28), defBody (top 28), defScope (top 28), [], []⟩,
  ⟨fun K => He.ga K "opened", "opened", "opened", defArgs (top 29), defBody (top 29), defScope (top 29), [], []⟩,
  ⟨fun K => He.ga K "rooted", "rooted", "rooted", defArgs (top 30), defBody (top 30), defScope (top 30), [], []⟩,
  ⟨fun K => He.ga K "replaced", "replaced", "replaced", defArgs (top 31), defBody (top 31), defScope (top 31), [], []⟩,
  ⟨fun K => He.ga K "done", "done", "done", defArgs (top 32), defBody (top 32), defScope (top 32), [], []⟩,
  ⟨fun K => He.ga K "all_done", "all_done", "all_done", defArgs (top 33), defBody (top 33), defScope (top 33), [], []⟩,
  ⟨fun K => He.ga K "lead_to_nothing", "lead_to_nothing", "lead_to_nothing", defArgs (top 53), defBody (top 53), defScope (top 53), [], []⟩,
  ⟨fun K => He.ga K "shows_free", "shows_free", "shows_free", defArgs (top 55), defBody (top 55), defScope (top 55), [], []⟩,
  ⟨fun K => He.ga K "is_rounds", "is_rounds", "is_rounds", defArgs (top 10), defBody (top 10), defScope (top 10), [], []⟩,
  ⟨fun K => He.ga K "at_rounds", "at_rounds", "at_rounds", defArgs (top 37), defBody (top 37), defScope (top 37), [], []⟩,
  ⟨fun K => He.ga K "shows_free_at", "shows_free_at", "shows_free_at", defArgs (top 56), defBody (top 56), defScope (top 56), [], []⟩,
  ⟨fun K => He.ga K "is_tight_item", "is_tight_item", "is_tight_item", defArgs (top 34), defBody (top 34), defScope (top 34), [], []⟩,
  ⟨fun K => He.ga K "is_tight", "is_tight", "is_tight", defArgs (top 35), defBody (top 35), defScope (top 35), [], []⟩,
  ⟨fun K => He.ga K "lead_to_tight", "lead_to_tight", "lead_to_tight", defArgs (top 54), defBody (top 54), defScope (top 54), [], []⟩,
  ⟨fun K => He.ga K "shows_held_at", "shows_held_at", "shows_held_at", defArgs (top 57), defBody (top 57), defScope (top 57), [], []⟩,
  ⟨fun K => He.ga K "shows_held", "shows_held", "shows_held", defArgs (top 58), defBody (top 58), defScope (top 58), [], []⟩,
  ⟨fun K => He.ga K "length_of", "length_of", "length_of", defArgs (top 49), defBody (top 49), defScope (top 49), [], []⟩,
  ⟨fun K => He.ga K "shows_length", "shows_length", "shows_length", defArgs (top 59), defBody (top 59), defScope (top 59), [], []⟩,
  ⟨fun K => He.ga K "undone_row", "undone_row", "undone_row", defArgs (top 51), defBody (top 51), defScope (top 51), [], []⟩,
  ⟨fun K => He.ga K "shows_same", "shows_same", "shows_same", defArgs (top 60), defBody (top 60), defScope (top 60), [], []⟩,
  ⟨fun K => He.ga K "only", "only", "only", defArgs (top 15), defBody (top 15), defScope (top 15), [], []⟩,
  ⟨fun K => He.ga K "left_of", "left_of", "left_of", defArgs (top 42), defBody (top 42), defScope (top 42), [], []⟩,
  ⟨fun K => He.ga K "parts_of", "parts_of", "parts_of", defArgs (top 44), defBody (top 44), defScope (top 44), [], []⟩,
  ⟨fun K => He.ga K "has_all", "has_all", "has_all", defArgs (top 45), defBody (top 45), defScope (top 45), [], []⟩,
  ⟨fun K => He.ga K "least", "least", "least", defArgs (top 46), defBody (top 46), defScope (top 46), [], []⟩,
  ⟨fun K => He.ga K "cuts_of", "cuts_of", "cuts_of", defArgs (top 47), defBody (top 47), defScope (top 47), [], []⟩,
  ⟨fun K => He.ga K "pegs_in", "pegs_in", "pegs_in", defArgs (top 52), defBody (top 52), defScope (top 52), [], []⟩,
  ⟨fun K => He.ga K "are_pegs", "are_pegs", "are_pegs", defArgs (top 12), defBody (top 12), defScope (top 12), [], []⟩,
  ⟨fun K => He.ga K "are_lots", "are_lots", "are_lots", defArgs (top 61), defBody (top 61), defScope (top 61), [], []⟩,
  ⟨fun K => He.ga K "shows_lots", "shows_lots", "shows_lots", defArgs (top 62), defBody (top 62), defScope (top 62), [], []⟩,
  ⟨fun K => He.ga K "accepts", "accepts", "accepts", defArgs (top 64), defBody (top 64), defScope (top 64), [], []⟩,
  ⟨fun K => He.ga K "_law_bag", "_law_bag", "_law_bag", defArgs (top 66), defBody (top 66), defScope (top 66), [], []⟩,
  ⟨fun K => He.ga K "_law_menu", "_law_menu", "_law_menu", defArgs (top 69), defBody (top 69), defScope (top 69), [], []⟩,
  ⟨fun K => He.ga K "_law_take", "_law_take", "_law_take", defArgs (top 67), defBody (top 67), defScope (top 67), [], []⟩,
  ⟨fun K => He.ga K "_law_of", "_law_of", "_law_of", defArgs (top 68), defBody (top 68), defScope (top 68), [], []⟩,
  ⟨fun K => He.ga K "_law_with", "_law_with", "_law_with", defArgs (top 70), defBody (top 70), defScope (top 70), [], []⟩,
  ⟨fun K => He.ga K "_law_with", "_law_with", "_law_with", defArgs (top 70), defBody (top 70), defScope (top 70), [], []⟩,
  ⟨fun K => He.ga K "_law_with", "_law_with", "_law_with", defArgs (top 70), defBody (top 70), defScope (top 70), [], []⟩,
  ⟨fun K => He.ga K "_law_with", "_law_with", "_law_with", defArgs (top 70), defBody (top 70), defScope (top 70), [], []⟩,
  ⟨fun K => He.ga K "_law_with", "_law_with", "_law_with", defArgs (top 70), defBody (top 70), defScope (top 70), [], []⟩,
  ⟨fun K => He.ga K "_law_with", "_law_with", "_law_with", defArgs (top 70), defBody (top 70), defScope (top 70), [], []⟩,
  ⟨fun K => He.ga K "_law_with", "_law_with", "_law_with", defArgs (top 70), defBody (top 70), defScope (top 70), [], []⟩,
  ⟨fun K => He.ga K "_law_wrong", "_law_wrong", "_law_wrong", defArgs (top 71), defBody (top 71), defScope (top 71), [], []⟩,
  ⟨fun K => He.ga K "_law_right", "_law_right", "_law_right", defArgs (top 72), defBody (top 72), defScope (top 72), [], []⟩,
  ⟨fun K => He.ga K "law", "law", "law", defArgs (top 73), defBody (top 73), defScope (top 73), [], []⟩]
def fa0 : List He.Fa := [.free "abs", .free "all", .free "any", .free "bool", .free "divmod", .free "enumerate", .free "int", .free "isinstance", .free "len", .free "list", .free "max", .free "min", .free "range", .free "sorted", .free "str", .free "sum", .free "tuple", .free "zip", .int "MOST_BLOCKS" 12, .int "MOST_WORD" 12, .int "MOST_TIMES" 9, .int "MOST_MORE" 99, .int "GREATEST" 1000000000000000000000000000000, .str "PEGS" "abcdef", .str "LETTERS" "abcdefABCDEF"]
def fa1 : List He.Fa := [.int "ITEMS" 3, .glo "is_integer", .glo "is_between", .glo "is_word", .glo "is_block", .glo "are_blocks", .glo "is_step", .glo "left_out", .glo "undone_word", .glo "turned", .glo "joined", .glo "parted", .glo "is_plain", .glo "cut_at", .glo "glued", .glo "do_undo", .glo "unpaired", .glo "passed", .glo "opened", .glo "rooted", .glo "replaced", .glo "done", .glo "all_done", .glo "lead_to_nothing", .glo "shows_free"]
def fa2 : List He.Fa := [.glo "is_rounds", .glo "at_rounds", .glo "shows_free_at", .glo "is_tight_item", .glo "is_tight", .glo "lead_to_tight", .glo "shows_held_at", .glo "shows_held", .glo "length_of", .glo "shows_length", .glo "undone_row", .glo "shows_same", .glo "only", .glo "left_of", .glo "parts_of", .glo "has_all", .glo "least", .glo "cuts_of", .glo "pegs_in", .glo "are_pegs", .glo "are_lots", .glo "shows_lots", .glo "accepts", .glo "_law_bag", .glo "_law_menu"]
def fa3 : List He.Fa := [.glo "_law_take", .glo "_law_of", .glo "_law_with", .glo "_law_wrong", .glo "_law_right", .glo "law"]
def fa : List He.Fa := fa0 ++ (fa1 ++ (fa2 ++ (fa3)))
def ex0 : List Fx := [.tupS "PAIRS" ["join", "glue", "back"], .kit (.ty "NoneType") (.ty "int") false, .kit (.ty "bool") (.ty "int") true, .kit (.ty "int") (.ty "int") true, .kit (.ty "str") (.ty "int") false, .kit (.ty "tuple") (.ty "int") false, .kit (.ty "list") (.ty "int") false, .kit (.ty "dict") (.ty "int") false, .kit (.ty "NoneType") (.ty "bool") false, .kit (.ty "bool") (.ty "bool") true, .kit (.ty "int") (.ty "bool") false, .kit (.ty "str") (.ty "bool") false, .kit (.ty "tuple") (.ty "bool") false, .kit (.ty "list") (.ty "bool") false, .kit (.ty "dict") (.ty "bool") false, .kit (.ty "NoneType") (.ty "str") false, .kit (.ty "bool") (.ty "str") false, .kit (.ty "int") (.ty "str") false, .kit (.ty "str") (.ty "str") true, .kit (.ty "tuple") (.ty "str") false, .kit (.ty "list") (.ty "str") false, .kit (.ty "dict") (.ty "str") false, .kit (.ty "NoneType") (.ty "tuple") false, .kit (.ty "bool") (.ty "tuple") false, .kit (.ty "int") (.ty "tuple") false]
def ex1 : List Fx := [.kit (.ty "str") (.ty "tuple") false, .kit (.ty "tuple") (.ty "tuple") true, .kit (.ty "list") (.ty "tuple") false, .kit (.ty "dict") (.ty "tuple") false]
def ex : List Fx := ex0 ++ (ex1)
def loose0 : List Str := ["MOST_BLOCKS", "MOST_WORD", "MOST_TIMES", "MOST_MORE", "GREATEST", "PEGS", "LETTERS", "is_integer", "is_between", "is_rounds", "is_word", "are_pegs", "do_undo", "undone_word", "only", "SIZES", "PAIRS", "is_plain", "is_step", "left_out", "turned", "joined", "parted", "cut_at", "glued"]
def loose1 : List Str := ["unpaired", "passed", "opened", "rooted", "replaced", "done", "all_done", "is_tight_item", "is_tight", "at_rounds", "ITEMS", "is_block", "are_blocks", "left_of", "parts_of", "has_all", "least", "cuts_of", "length_of", "undone_row", "pegs_in", "lead_to_nothing", "lead_to_tight", "shows_free", "shows_free_at"]
def loose2 : List Str := ["shows_held_at", "shows_held", "shows_length", "shows_same", "are_lots", "shows_lots", "JUDGES", "accepts", "_law_bag", "_law_take", "_law_of", "_law_menu", "_law_with", "_law_wrong", "_law_right"]
def loose : List Str := loose0 ++ (loose1 ++ (loose2))
def ts : List TabM := [("SIZES", T_SIZES), ("JUDGES", T_JUDGES)]
abbrev R : PySem.W.OpenRow := PySem.W.OpenLaw.row PySem.Challenge.rw_knotspools_k74_values_of_any_kind_judged
abbrev hk : PySem.W.Hook := hookY 6 fa fn ex Γ ts tf
def ob (s : PySem.W.SharedT) : AlY := obsY 6 fa fn ex Γ ts tf (HandSHeadRun.getT s)
theorem ob_eq (s : PySem.W.SharedT) : ob s = hk.obs s.abs := obsY_eq (HandSHeadRun.getT_eq s)
set_option maxHeartbeats 0 in
theorem run0 (w : World) : HandSHeadRun.RunEq R (PySem.W.view R.prog [73]) hk ob 9000 loose (w.withFollow "special-get-raises" false) := by intro os; kernel_rfl
set_option maxHeartbeats 0 in
theorem run1 (w : World) : HandSHeadRun.RunEq R (PySem.W.view R.prog [73]) hk ob 9000 loose (w.withFollow "special-get-raises" true) := by intro os; kernel_rfl
theorem run (w : World) : HandSHeadRun.RunEq R (PySem.W.view R.prog [73]) hk ob 9000 loose w := PySem.W.byRow2 (P := fun w => HandSHeadRun.RunEq R (PySem.W.view R.prog [73]) hk ob 9000 loose w) "special-get-raises" run0 run1 w
end K74
namespace AM
open PySem PySem.Spec PyProof.Rows L2
abbrev St := List (Option V)
structure Ct where
  K : PySem.W.Frag
  Γ : Nat → Addr
abbrev XC (X : Cx) (Γ : Nat → Addr) : Ct := ⟨X.K, Γ⟩
inductive D where
  | non | bl (b : Bool) | int (i : Int) | str (s : Str) | ty (n : String) | cls (c : Nat)
  | tup (ds : List D) | lst (ds : List D) | fz (ds : List D) | ins (c : Nat) (fs : List (Str × D)) | hd (n : Nat) | dic (r : List (Key × D))
def imV : D → Option V
  | .non => some .non
  | .bl b => some (.bl b)
  | .int i => some (.int i)
  | .str s => some (.str s)
  | _ => none
def imR : List (Key × D) → Option (List (Key × V))
  | [] => some []
  | (k, d) :: r => match imV d, imR r with
    | some v, some vs => some ((k, v) :: vs)
    | _, _ => none
inductive Cell where
  | lst (ds : List D) | obj (c : Nat) (fs : List (Str × D)) | tab (i : Nat) (q : Str)
abbrev Sto := List Cell
structure Exn where
  c : Nat
  fs : List (Str × D)
inductive Res (α : Type) where
  | ok (a : α) (st : Sto) | exc (e : Exn) (st : Sto) | bad
inductive Sl where
  | un | sh (d : D) | own (ds : List D)
abbrev AEnv := List Sl
inductive SR where
  | nx (env : AEnv) (st : Sto) | rt (d : D) (st : Sto) | bk (env : AEnv) (st : Sto) | ct (env : AEnv) (st : Sto) | exc (e : Exn) (st : Sto) | bad
abbrev EF := AEnv → Sto → Res D
abbrev EFs := AEnv → Sto → Res (List D)
abbrev TF := AEnv → Sto → Res Bool
abbrev SF := AEnv → Sto → SR
abbrev DF := List D → Sto → Res D
def SqF (K : PySem.W.Frag) (H : Hp) (S : Addr → Prop) (a : Addr) (vs : List V) : Prop := (∃ o, H a = some (.frz o (.lst vs)) ∧ ¬ S a) ∨ SqL K (fun _ => none) a vs
theorem SqF.sql {K : PySem.W.Frag} {H : Hp} {S : Addr → Prop} {a : Addr} {vs : List V} (h : SqF K H S a vs) : SqL K H a vs := by
  rcases h with ⟨o, e, _⟩ | (e | ⟨o, e⟩) | h
  · exact .inl (.inr ⟨o, e⟩)
  · cases e
  · cases e
  · exact .inr h
theorem SqF.imp {K : PySem.W.Frag} {H H' : Hp} {S S' : Addr → Prop} {a : Addr} {vs : List V} (h : SqF K H S a vs) (i : ∀ o, H a = some o → ¬ S a → H' a = some o ∧ ¬ S' a) : SqF K H' S' a vs := by
  rcases h with ⟨o, e, n⟩ | h
  · exact .inl ⟨o, i _ e n⟩
  · exact .inr h
mutual
inductive Den (K : Ct) (ρ : List Addr) (S : Addr → Prop) (H : Hp) : V → D → Prop
  | non : Den K ρ S H .non .non
  | bl (b : Bool) : Den K ρ S H (.bl b) (.bl b)
  | int (i : Int) : Den K ρ S H (.int i) (.int i)
  | str (x : Str) : Den K ρ S H (.str x) (.str x)
  | ty (n : String) : Den K ρ S H (.ty n) (.ty n)
  | cls (c : Nat) : Den K ρ S H (.ref (K.Γ c)) (.cls c)
  | tup {a : Addr} {vs : List V} {ds : List D} : SqT K.K H a vs → Dens K ρ S H vs ds → Den K ρ S H (.ref a) (.tup ds)
  | lst {a : Addr} {vs : List V} {ds : List D} : H a = some (.lst vs) → ¬ S a → Dens K ρ S H vs ds → Den K ρ S H (.ref a) (.lst ds)
  | fz {a : Addr} {vs : List V} {ds : List D} : SqF K.K H S a vs → Dens K ρ S H vs ds → Den K ρ S H (.ref a) (.fz ds)
  | ins {a dx : Addr} {c : Nat} {gs : List (Str × V)} {fs : List (Str × D)} : H a = some (.ins (K.Γ c) dx gs) → ¬ S a → DenF K ρ S H gs fs → Den K ρ S H (.ref a) (.ins c fs)
  | hd {a : Addr} {n : Nat} : ρ[n]? = some a → Den K ρ S H (.ref a) (.hd n)
  | dic {a : Addr} {r : List (Key × D)} {kvs : List (Key × V)} : H a = some (.dK kvs) → ¬ S a → imR r = some kvs → Den K ρ S H (.ref a) (.dic r)
inductive Dens (K : Ct) (ρ : List Addr) (S : Addr → Prop) (H : Hp) : List V → List D → Prop
  | nil : Dens K ρ S H [] []
  | cons {v : V} {d : D} {vs : List V} {ds : List D} : Den K ρ S H v d → Dens K ρ S H vs ds → Dens K ρ S H (v :: vs) (d :: ds)
inductive DenF (K : Ct) (ρ : List Addr) (S : Addr → Prop) (H : Hp) : List (Str × V) → List (Str × D) → Prop
  | nil : DenF K ρ S H [] []
  | cons {f : Str} {v : V} {d : D} {vs : List (Str × V)} {ds : List (Str × D)} : Den K ρ S H v d → DenF K ρ S H vs ds → DenF K ρ S H ((f, v) :: vs) ((f, d) :: ds)
end
structure Ext (K : Ct) (ρ : List Addr) (H : Hp) (ρ' : List Addr) (H' : Hp) : Prop where
  pre : ∃ l, ρ' = ρ ++ l
  keep : ∀ a o, H a = some o → a ∉ ρ → H' a = some o ∧ a ∉ ρ'
  tups : ∀ a vs, SqT K.K H a vs → SqT K.K H' a vs
section
variable {K : Ct} {ρ ρ' ρ2 : List Addr} {S S' : Addr → Prop} {H H' H2 : Hp}
theorem Ext.refl : Ext K ρ H ρ H := ⟨⟨[], by simp⟩, fun _ _ h n => ⟨h, n⟩, fun _ _ h => h⟩
theorem Ext.trans (a : Ext K ρ H ρ' H') (b : Ext K ρ' H' ρ2 H2) : Ext K ρ H ρ2 H2 := by
  obtain ⟨l, e⟩ := a.pre
  obtain ⟨l2, e2⟩ := b.pre
  refine ⟨⟨l ++ l2, by rw [e2, e, List.append_assoc]⟩, fun x o h n => ?_, fun x vs h => b.tups x vs (a.tups x vs h)⟩
  obtain ⟨h1, n1⟩ := a.keep x o h n
  exact b.keep x o h1 n1
theorem Ext.hd (a : Ext K ρ H ρ' H') {n : Nat} {x : Addr} (h : ρ[n]? = some x) : ρ'[n]? = some x := by
  obtain ⟨l, e⟩ := a.pre
  rw [e, List.getElem?_append_left (List.getElem?_eq_some_iff.mp h).1]
  exact h
mutual
theorem Den.mono (x : Ext K ρ H ρ' H') (hS : ∀ a, S' a → S a ∨ H a = none) (hr : ∀ a, a ∈ ρ → S a) : ∀ {v : V} {d : D}, Den K ρ S H v d → Den K ρ' S' H' v d
  | _, _, .non => .non
  | _, _, .bl b => .bl b
  | _, _, .int i => .int i
  | _, _, .str s => .str s
  | _, _, .ty n => .ty n
  | _, _, .cls a => .cls a
  | _, _, .tup h t => .tup (x.tups _ _ h) (Dens.mono x hS hr t)
  | _, _, .lst h n t => by
    refine .lst (x.keep _ _ h fun z => n (hr _ z)).1 (fun z => ?_) (Dens.mono x hS hr t)
    rcases hS _ z with q | q
    · exact n q
    · rw [q] at h; cases h
  | _, _, .fz h t => by
    refine .fz (h.imp fun o e n => ⟨(x.keep _ _ e fun z => n (hr _ z)).1, fun z => ?_⟩) (Dens.mono x hS hr t)
    rcases hS _ z with q | q
    · exact n q
    · rw [q] at e; cases e
  | _, _, .ins h n t => by
    refine .ins (x.keep _ _ h fun z => n (hr _ z)).1 (fun z => ?_) (DenF.mono x hS hr t)
    rcases hS _ z with q | q
    · exact n q
    · rw [q] at h; cases h
  | _, _, .hd h => .hd (x.hd h)
  | _, _, .dic h n t => by
    refine .dic (x.keep _ _ h fun z => n (hr _ z)).1 (fun z => ?_) t
    rcases hS _ z with q | q
    · exact n q
    · rw [q] at h; cases h
theorem Dens.mono (x : Ext K ρ H ρ' H') (hS : ∀ a, S' a → S a ∨ H a = none) (hr : ∀ a, a ∈ ρ → S a) : ∀ {vs : List V} {ds : List D}, Dens K ρ S H vs ds → Dens K ρ' S' H' vs ds
  | _, _, .nil => .nil
  | _, _, .cons h t => .cons (Den.mono x hS hr h) (Dens.mono x hS hr t)
theorem DenF.mono (x : Ext K ρ H ρ' H') (hS : ∀ a, S' a → S a ∨ H a = none) (hr : ∀ a, a ∈ ρ → S a) : ∀ {vs : List (Str × V)} {ds : List (Str × D)}, DenF K ρ S H vs ds → DenF K ρ' S' H' vs ds
  | _, _, .nil => .nil
  | _, _, .cons h t => .cons (Den.mono x hS hr h) (DenF.mono x hS hr t)
end
theorem Dens.length : ∀ {vs : List V} {ds : List D}, Dens K ρ S H vs ds → vs.length = ds.length
  | _, _, .nil => rfl
  | _, _, .cons _ t => by rw [List.length_cons, List.length_cons, Dens.length t]
theorem Dens.get : ∀ {vs : List V} {ds : List D} {i : Nat} {d : D}, Dens K ρ S H vs ds → ds[i]? = some d → ∃ v, vs[i]? = some v ∧ Den K ρ S H v d
  | _, _, _, _, .nil, e => by simp at e
  | _, _, 0, _, .cons h _, e => by simp at e; subst e; exact ⟨_, rfl, h⟩
  | _, _, i + 1, d, .cons _ t, e => by
    obtain ⟨v, h1, h2⟩ := Dens.get (i := i) (d := d) t (by simpa using e)
    exact ⟨v, by simpa using h1, h2⟩
theorem Dens.getV : ∀ {vs : List V} {ds : List D} {i : Nat} {v : V}, Dens K ρ S H vs ds → vs[i]? = some v → ∃ d, ds[i]? = some d ∧ Den K ρ S H v d
  | _, _, _, _, .nil, e => by simp at e
  | _, _, 0, _, .cons h _, e => by simp at e; subst e; exact ⟨_, rfl, h⟩
  | _, _, i + 1, d, .cons _ t, e => by
    obtain ⟨v, h1, h2⟩ := Dens.getV (i := i) (v := d) t (by simpa using e)
    exact ⟨v, by simpa using h1, h2⟩
theorem Dens.append : ∀ {vs ws : List V} {ds es : List D}, Dens K ρ S H vs ds → Dens K ρ S H ws es → Dens K ρ S H (vs ++ ws) (ds ++ es)
  | _, _, _, _, .nil, t => t
  | _, _, _, _, .cons h r, t => .cons h (Dens.append r t)
theorem Dens.take : ∀ {vs : List V} {ds : List D} (n : Nat), Dens K ρ S H vs ds → Dens K ρ S H (vs.take n) (ds.take n)
  | _, _, 0, _ => .nil
  | _, _, _ + 1, .nil => .nil
  | _, _, n + 1, .cons h t => .cons h (Dens.take n t)
theorem Dens.drop : ∀ {vs : List V} {ds : List D} (n : Nat), Dens K ρ S H vs ds → Dens K ρ S H (vs.drop n) (ds.drop n)
  | _, _, 0, t => t
  | _, _, _ + 1, .nil => .nil
  | _, _, n + 1, .cons _ t => Dens.drop n t
theorem Dens.set : ∀ {vs : List V} {ds : List D} {v : V} {d : D} (n : Nat), Dens K ρ S H vs ds → Den K ρ S H v d → Dens K ρ S H (vs.set n v) (ds.set n d)
  | _, _, _, _, _, .nil, _ => .nil
  | _, _, _, _, 0, .cons _ t, h => .cons h t
  | _, _, _, _, n + 1, .cons q t, h => .cons q (Dens.set n t h)
theorem Dens.reverse {vs : List V} {ds : List D} (h : Dens K ρ S H vs ds) : Dens K ρ S H vs.reverse ds.reverse := by
  have go : ∀ {vs : List V} {ds : List D}, Dens K ρ S H vs ds → Dens K ρ S H vs.reverse ds.reverse := by
    intro vs
    induction vs with
    | nil => intro ds h; cases h; exact .nil
    | cons v vs ih =>
      intro ds h
      cases h with
      | cons a b =>
        rw [List.reverse_cons, List.reverse_cons]
        exact Dens.append (ih b) (.cons a .nil)
  exact go h
theorem DenF.lookup : ∀ {gs : List (Str × V)} {fs : List (Str × D)} {f : Str} {d : D}, DenF K ρ S H gs fs → fs.lookup f = some d → ∃ v, gs.lookup f = some v ∧ Den K ρ S H v d
  | _, _, f, d, .nil, e => by simp at e
  | _, _, f, d, .cons (f := g) (v := v) (d := c) h t, e => by
    by_cases q : (f == g) = true
    · rw [List.lookup_cons, q] at e
      cases e
      exact ⟨v, by rw [List.lookup_cons, q], h⟩
    · have q' : (f == g) = false := by simpa using q
      rw [List.lookup_cons, q'] at e
      obtain ⟨v, h1, h2⟩ := DenF.lookup t e
      exact ⟨v, by rw [List.lookup_cons, q']; exact h1, h2⟩
end
structure Wd where
  ρ : List Addr
  R : Addr → Prop
  O : List (Option Addr)
def Wd.S (w : Wd) : Addr → Prop := fun a => a ∈ w.ρ ∨ w.R a ∨ some a ∈ w.O
def TabC (K : Ct) (S : Addr → Prop) (H : Hp) (a : Addr) (i : Nat) (q : Str) : Prop := a = K.Γ i ∧ ∃ ps : Array Value, H a = some (.tbl ps) ∧ TriplesOk ps.toList ∧ ∀ (pos : Pos) (cv : Value), codeAmong pos ps.toList = some cv → ∃ c, cv = .ref c ∧ H c = some (LamX.CodeO c q) ∧ ¬ S c
theorem TabC.gen {K : Ct} {S S' : Addr → Prop} {H H' : Hp} {a : Addr} {i : Nat} {q : Str} (h : TabC K S H a i q) (e : H' a = H a) (k : ∀ b o, H b = some o → ¬ S b → H' b = some o ∧ ¬ S' b) : TabC K S' H' a i q := by
  obtain ⟨h0, ps, h1, h2, h3⟩ := h
  refine ⟨h0, ps, e.trans h1, h2, fun pos cv hc => ?_⟩
  obtain ⟨c, c1, c2, c3⟩ := h3 pos cv hc
  obtain ⟨k1, k2⟩ := k c _ c2 c3
  exact ⟨c, c1, k1, k2⟩
theorem TabC.mono {K : Ct} {ρ ρ' : List Addr} {S S' : Addr → Prop} {H H' : Hp} {a : Addr} {i : Nat} {q : Str} (h : TabC K S H a i q) (e : H' a = H a) (x : Ext K ρ H ρ' H') (hS : ∀ a, S' a → S a ∨ H a = none) (hr : ∀ a, a ∈ ρ → S a) : TabC K S' H' a i q :=
  h.gen e fun b o e n => ⟨(x.keep b o e fun z => n (hr b z)).1, fun z => (hS b z).elim n fun z => by rw [e] at z; cases z⟩
def CellOk (K : Ct) (ρ : List Addr) (S : Addr → Prop) (H : Hp) (a : Addr) : Cell → Prop
  | .lst ds => ∃ vs, H a = some (.lst vs) ∧ Dens K ρ S H vs ds
  | .obj c fs => ∃ dx gs, H a = some (.ins (K.Γ c) dx gs) ∧ DenF K ρ S H gs fs
  | .tab i q => TabC K S H a i q
structure StOk (K : Ct) (ρ : List Addr) (S : Addr → Prop) (H : Hp) (st : Sto) : Prop where
  len : ρ.length = st.length
  nd : ρ.Nodup
  cell : ∀ (n : Nat) a c, ρ[n]? = some a → st[n]? = some c → CellOk K ρ S H a c
theorem CellOk.some {K : Ct} {ρ : List Addr} {S : Addr → Prop} {H : Hp} {a : Addr} {c : Cell} (h : CellOk K ρ S H a c) : ∃ o, H a = some o ∧ ∀ u, o ≠ .tup u := by
  cases c with
  | lst ds => obtain ⟨vs, e, _⟩ := h; exact ⟨_, e, fun u z => by cases z⟩
  | obj C fs => obtain ⟨dx, gs, e, _⟩ := h; exact ⟨_, e, fun u z => by cases z⟩
  | tab i q => obtain ⟨_, ps, e, _⟩ := h; exact ⟨_, e, fun u z => by cases z⟩
theorem StOk.there {K : Ct} {ρ : List Addr} {S : Addr → Prop} {H : Hp} {st : Sto} (s : StOk K ρ S H st) {a : Addr} (h : a ∈ ρ) : ∃ o, H a = some o := by
  obtain ⟨n, hn, e⟩ := List.mem_iff_getElem.mp h
  have hc : n < st.length := by rw [← s.len]; exact hn
  obtain ⟨o, z, _⟩ := (s.cell n a st[n] (by rw [List.getElem?_eq_getElem hn, e]) (by rw [List.getElem?_eq_getElem hc])).some
  exact ⟨o, z⟩
def SlotOk (K : Ct) (w : Wd) (H : Hp) : Option V → Sl → Option Addr → Prop
  | v, .sh d, o => o = none ∧ ∃ x, v = some x ∧ Den K w.ρ w.S H x d
  | v, .own ds, o => ∃ a vs, o = some a ∧ v = some (V.ref a) ∧ H a = some (.lst vs) ∧ Dens K w.ρ w.S H vs ds
  | _, .un, o => o = none
structure Rel (K : Ct) (w : Wd) (env : AEnv) (st : Sto) (σ : AM.St) (H : Hp) : Prop where
  sto : StOk K w.ρ w.S H st
  res : ∀ a, w.R a → (∃ o, H a = some o) ∧ a ∉ w.ρ
  len : σ.length = env.length
  lenO : w.O.length = env.length
  slot : ∀ (i : Nat) v s o, σ[i]? = some v → env[i]? = some s → w.O[i]? = some o → SlotOk K w H v s o
  ndO : ∀ (i j : Nat) a, w.O[i]? = some (some a) → w.O[j]? = some (some a) → i = j
  disO : ∀ a, some a ∈ w.O → a ∉ w.ρ ∧ ¬ w.R a
section
variable {K : Ct} {w w' w2 : Wd} {env env' : AEnv} {st st' : Sto} {σ σ' : AM.St} {H H' H2 : Hp}
theorem Rel.own (r : Rel K w env st σ H) {i : Nat} {a : Addr} (h : w.O[i]? = some (some a)) : ∃ ds vs, env[i]? = some (.own ds) ∧ σ[i]? = some (some (V.ref a)) ∧ H a = some (.lst vs) ∧ Dens K w.ρ w.S H vs ds := by
  have hi := (List.getElem?_eq_some_iff.mp h).1
  have h1 : i < env.length := by rw [← r.lenO]; exact hi
  have h2 : i < σ.length := by rw [r.len]; exact h1
  have q := r.slot i σ[i] env[i] (some a) (List.getElem?_eq_getElem h2) (List.getElem?_eq_getElem h1) h
  cases e : env[i] with
  | un => rw [e] at q; cases (show some a = none from q)
  | sh d => rw [e] at q; cases q.1
  | own ds =>
    rw [e] at q
    obtain ⟨b, vs, e1, e2, e3, e4⟩ := q
    cases e1
    exact ⟨ds, vs, by rw [List.getElem?_eq_getElem h1, e], by rw [List.getElem?_eq_getElem h2, e2], e3, e4⟩
theorem Rel.thereS (r : Rel K w env st σ H) {a : Addr} (h : w.S a) : ∃ o, H a = some o := by
  rcases h with h | h | h
  · exact r.sto.there h
  · exact (r.res a h).1
  · obtain ⟨i, hi, e⟩ := List.mem_iff_getElem.mp h
    obtain ⟨_, vs, _, _, z, _⟩ := r.own (i := i) (a := a) (by rw [List.getElem?_eq_getElem hi, e])
    exact ⟨_, z⟩
theorem Rel.fresh (r : Rel K w env st σ H) {a : Addr} (h : H a = none) : ¬ w.S a := fun z => by
  obtain ⟨o, e⟩ := r.thereS z
  rw [h] at e; cases e
theorem Rel.sh (r : Rel K w env st σ H) {i : Nat} {d : D} (h : env[i]? = some (.sh d)) : ∃ v, σ[i]? = some (some v) ∧ Den K w.ρ w.S H v d := by
  have h1 := (List.getElem?_eq_some_iff.mp h).1
  have h2 : i < σ.length := by rw [r.len]; exact h1
  have h3 : i < w.O.length := by rw [r.lenO]; exact h1
  obtain ⟨_, x, e, q⟩ := r.slot i σ[i] _ w.O[i] (List.getElem?_eq_getElem h2) h (List.getElem?_eq_getElem h3)
  exact ⟨x, by rw [List.getElem?_eq_getElem h2, e], q⟩
theorem Rel.ownE (r : Rel K w env st σ H) {i : Nat} {ds : List D} (h : env[i]? = some (.own ds)) : ∃ a vs, w.O[i]? = some (some a) ∧ σ[i]? = some (some (V.ref a)) ∧ H a = some (.lst vs) ∧ Dens K w.ρ w.S H vs ds := by
  have h1 := (List.getElem?_eq_some_iff.mp h).1
  have h2 : i < σ.length := by rw [r.len]; exact h1
  have h3 : i < w.O.length := by rw [r.lenO]; exact h1
  obtain ⟨a, vs, e1, e2, e3, e4⟩ := r.slot i σ[i] _ w.O[i] (List.getElem?_eq_getElem h2) h (List.getElem?_eq_getElem h3)
  exact ⟨a, vs, by rw [List.getElem?_eq_getElem h3, e1], by rw [List.getElem?_eq_getElem h2, e2], e3, e4⟩
theorem inS_ρ {a : Addr} (h : a ∈ w.ρ) : w.S a := .inl h
theorem S_ext (r : Rel K w env st σ H) {ρ' : List Addr} (x : Ext K w.ρ H ρ' H') : ∀ a, (⟨ρ', w.R, w.O⟩ : Wd).S a → w.S a ∨ H a = none := fun a h => by
  cases q : H a with
  | none => exact .inr rfl
  | some o =>
    refine .inl ?_
    by_cases hr : a ∈ w.ρ
    · exact .inl hr
    · rcases h with h | h | h
      · exact absurd h (x.keep a o q hr).2
      · exact .inr (.inl h)
      · exact .inr (.inr h)
theorem Rel.ext (r : Rel K w env st σ H) {ρ' : List Addr} (x : Ext K w.ρ H ρ' H') (s : StOk K ρ' (⟨ρ', w.R, w.O⟩ : Wd).S H' st') : Rel K ⟨ρ', w.R, w.O⟩ env st' σ H' where
  sto := s
  res := fun a h => by
    obtain ⟨⟨o, e⟩, n⟩ := r.res a h
    obtain ⟨e', n'⟩ := x.keep a o e n
    exact ⟨⟨o, e'⟩, n'⟩
  len := r.len
  lenO := r.lenO
  slot := fun i v sl o h1 h2 h3 => by
    have q := r.slot i v sl o h1 h2 h3
    have m : ∀ {v d}, Den K w.ρ w.S H v d → Den K ρ' (⟨ρ', w.R, w.O⟩ : Wd).S H' v d := fun h => h.mono x (S_ext r x) fun _ => inS_ρ
    have ms : ∀ {v d}, Dens K w.ρ w.S H v d → Dens K ρ' (⟨ρ', w.R, w.O⟩ : Wd).S H' v d := fun h => h.mono x (S_ext r x) fun _ => inS_ρ
    cases sl with
    | un => exact q
    | sh d => obtain ⟨e, z, ez, hz⟩ := q; exact ⟨e, z, ez, m hz⟩
    | own ds =>
      obtain ⟨a, vs, e1, e2, e3, e4⟩ := q
      have hm : some a ∈ w.O := by rw [e1] at h3; exact List.mem_of_getElem? h3
      exact ⟨a, vs, e1, e2, (x.keep a _ e3 (r.disO a hm).1).1, ms e4⟩
  ndO := r.ndO
  disO := fun a h => by
    obtain ⟨n1, n2⟩ := r.disO a h
    obtain ⟨i, hi, e⟩ := List.mem_iff_getElem.mp h
    obtain ⟨_, vs, _, _, z, _⟩ := r.own (i := i) (a := a) (by rw [List.getElem?_eq_getElem hi, e])
    exact ⟨(x.keep a _ z n1).2, n2⟩
end
end AM
namespace AM
open PySem PySem.Spec PyProof.Rows L2
def Res.bind {α β : Type} (r : Res α) (k : α → Sto → Res β) : Res β := match r with
  | .ok a st => k a st
  | .exc e st => .exc e st
  | .bad => .bad
abbrev DnT (β α : Type) := Ct → List Addr → (Addr → Prop) → Hp → β → α → Prop
abbrev Wd.at_ (w : Wd) (ρ : List Addr) : Wd := ⟨ρ, w.R, w.O⟩
def dnB : DnT Bool Bool := fun _ _ _ _ b c => b = c
def Post {α β : Type} (Dn : DnT β α) (K : Ct) (W : WX) (w : Wd) (H : Hp) (σ : St) (r : Res α) (Q : β → Hp → Prop) : Prop := match r with
  | .ok a st' => ∀ ρ' H' x, StOk K ρ' (w.at_ ρ').S H' st' → Ext K w.ρ H ρ' H' → Dn K ρ' (w.at_ ρ').S H' x a → Q x H'
  | .exc e st' => ∀ ρ' H' d gs, StOk K ρ' (w.at_ ρ').S H' st' → Ext K w.ρ H ρ' H' → H' d = some (.xd gs) → DenF K ρ' (w.at_ ρ').S H' gs e.fs → W (.ref (K.Γ e.c)) (some d) σ H'
  | .bad => False
def tG {α β : Type} (Dn : DnT β α) (K : Ct) (W : WX) (f : AEnv → Sto → Res α) : St → Hp → (β → Hp → Prop) → Prop := fun σ H Q =>
  ∃ w env st, Rel K w env st σ H ∧ Post Dn K W w H σ (f env st) Q
abbrev tD (K : Ct) (W : WX) (f : EF) : TE := tG (α := D) (β := V) Den K W f
abbrev tDs (K : Ct) (W : WX) (f : EFs) : TA := tG (α := List D) (β := List V) Dens K W f
abbrev tT (K : Ct) (W : WX) (f : TF) : TT := tG (α := Bool) (β := Bool) dnB K W f
section
variable {α β γ δ : Type} {Da : DnT β α} {Dg : DnT δ γ} {K : Ct} {W : WX} {w : Wd} {env : AEnv} {st : Sto} {σ : St} {H H' : Hp} {Q : δ → Hp → Prop}
theorem Post.mono {r : Res α} {Q Q' : β → Hp → Prop} (h : Post Da K W w H σ r Q) (i : ∀ x H, Q x H → Q' x H) : Post Da K W w H σ r Q' := by
  cases r with
  | ok a st => exact fun ρ' H' x h1 h2 h3 => i _ _ (h ρ' H' x h1 h2 h3)
  | exc e st => exact h
  | bad => exact h
theorem Post.back {r : Res γ} {ρ1 : List Addr} {H1 : Hp} (x : Ext K w.ρ H ρ1 H1) (h : Post Dg K W w H σ r Q) : Post Dg K W (w.at_ ρ1) H1 σ r Q := by
  cases r with
  | ok a st => exact fun ρ' H' y h1 h2 h3 => h ρ' H' y h1 (x.trans h2) h3
  | exc e st => exact fun ρ' H' d gs h1 h2 h3 h4 => h ρ' H' d gs h1 (x.trans h2) h3 h4
  | bad => exact h
theorem Post.bind {f : Res α} {g : α → Sto → Res γ} (r : Rel K w env st σ H) (h : Post Dg K W w H σ (f.bind g) Q) :
    Post Da K W w H σ f fun x H1 => ∃ w1 st1 a, Rel K w1 env st1 σ H1 ∧ (∃ ρ1, w1 = w.at_ ρ1) ∧ Ext K w.ρ H w1.ρ H1 ∧ Da K w1.ρ w1.S H1 x a ∧ Post Dg K W w1 H1 σ (g a st1) Q := by
  cases f with
  | ok a st1 =>
    intro ρ' H' x h1 h2 h3
    exact ⟨w.at_ ρ', st1, a, r.ext h2 h1, ⟨ρ', rfl⟩, h2, h3, Post.back h2 h⟩
  | exc e st1 => exact h
  | bad => exact h
theorem t1 {f : AEnv → Sto → Res α} {g : AEnv → α → Sto → Res γ} (h : tG Dg K W (fun env st => (f env st).bind (g env)) σ H Q) :
    tG Da K W f σ H fun x H1 => ∃ w env st a, Rel K w env st σ H1 ∧ Da K w.ρ w.S H1 x a ∧ Post Dg K W w H1 σ (g env a st) Q := by
  obtain ⟨w, env, st, r, p⟩ := h
  refine ⟨w, env, st, r, (Post.bind (Da := Da) r p).mono ?_⟩
  rintro x H1 ⟨w1, st1, a, r1, _, _, d, p1⟩
  exact ⟨w1, env, st1, a, r1, d, p1⟩
def Lasts {α β : Type} (Da : DnT β α) : Prop := ∀ {K : Ct} {w w' : Wd} {env : AEnv} {st : Sto} {σ : St} {H H' : Hp} {x : β} {a : α}, Rel K w env st σ H → (∃ ρ', w' = w.at_ ρ') → Ext K w.ρ H w'.ρ H' → Da K w.ρ w.S H x a → Da K w'.ρ w'.S H' x a
theorem lastsD : Lasts (α := D) (β := V) Den := fun r e x h => by
  obtain ⟨ρ', rfl⟩ := e
  exact h.mono x (S_ext r x) fun _ => inS_ρ
theorem lastsDs : Lasts (α := List D) (β := List V) Dens := fun r e x h => by
  obtain ⟨ρ', rfl⟩ := e
  exact h.mono x (S_ext r x) fun _ => inS_ρ
theorem t2 {α2 β2 : Type} {Db : DnT β2 α2} (la : Lasts Da) {f : AEnv → Sto → Res α} {g : AEnv → α → Sto → Res α2} {k : AEnv → α → α2 → Sto → Res γ}
    (h : tG Dg K W (fun env st => (f env st).bind fun a st1 => (g env a st1).bind fun b st2 => k env a b st2) σ H Q) :
    tG Da K W f σ H fun x H1 => ∃ w env st a, Rel K w env st σ H1 ∧ Da K w.ρ w.S H1 x a ∧ Post Db K W w H1 σ (g env a st) fun y H2 =>
      ∃ w st2 b, Rel K w env st2 σ H2 ∧ Da K w.ρ w.S H2 x a ∧ Db K w.ρ w.S H2 y b ∧ Post Dg K W w H2 σ (k env a b st2) Q := by
  obtain ⟨w, env, st, r, p⟩ := h
  refine ⟨w, env, st, r, (Post.bind (Da := Da) r p).mono ?_⟩
  rintro x H1 ⟨w1, st1, a, r1, _, _, d, p1⟩
  refine ⟨w1, env, st1, a, r1, d, (Post.bind (Da := Db) r1 p1).mono ?_⟩
  rintro y H2 ⟨w2, st2, b, r2, e2, x2, d2, p2⟩
  exact ⟨w2, st2, b, r2, la r1 e2 x2 d, d2, p2⟩
end
theorem peImp {X : Cx} {e : Expr} {t t' : TE} (h : PE X e t) (i : ∀ σ H Q, t' σ H Q → t σ H Q) : PE X e t' := ⟨fun pins s σ H Q I hw => h.run pins s σ H Q I (i σ H Q hw)⟩
theorem ptImp {X : Cx} {e : Expr} {t t' : TT} (h : PT X e t) (i : ∀ σ H Q, t' σ H Q → t σ H Q) : PT X e t' := ⟨fun pins s σ H Q I hw => h.run pins s σ H Q I (i σ H Q hw)⟩
theorem pwImp {X : Cx} {e : Expr} {t t' : TT} (h : PW X e t) (i : ∀ σ H Q, t' σ H Q → t σ H Q) : PW X e t' := ⟨fun wh pins s σ H Q I hw => h.run wh pins s σ H Q I (i σ H Q hw)⟩
theorem paImp {X : Cx} {e : List Expr} {t t' : TA} (h : PA X e t) (i : ∀ σ H Q, t' σ H Q → t σ H Q) : PA X e t' := ⟨fun pos pins s σ H Q I hw => h.run pos pins s σ H Q I (i σ H Q hw)⟩
theorem psImp {X : Cx} {e : Stmt} {t t' : TS} (h : PS X e t) (i : ∀ D σ H, t' D σ H → t D σ H) : PS X e t' := ⟨fun pins s σ H D I hw => h.run pins s σ H D I (i D σ H hw)⟩
theorem pssImp {X : Cx} {e : List Stmt} {t t' : TS} (h : PSs X e t) (i : ∀ D σ H, t' D σ H → t D σ H) : PSs X e t' := ⟨fun pins s σ H D I hw => h.run pins s σ H D I (i D σ H hw)⟩
section
variable {K : Ct} {W : WX} {w : Wd} {env : AEnv} {st : Sto} {σ : St} {H : Hp} {Q : VK} {p : Addr} {o : HO}
theorem SqT.upd {a : Addr} {vs : List V} (hp : H p = none) (h : SqT K.K H a vs) : SqT K.K (upd H p o) a vs := by
  rcases h with (h | ⟨u, h⟩) | h
  · exact .inl (.inl (by rw [upd_ne (ne_of_none h hp)]; exact h))
  · exact .inl (.inr ⟨u, by rw [upd_ne (ne_of_none h hp)]; exact h⟩)
  · exact .inr h
theorem Ext.new {ρ : List Addr} (hp : H p = none) : Ext K ρ H ρ (upd H p o) :=
  ⟨⟨[], by simp⟩, fun a u h n => ⟨by rw [upd_ne (ne_of_none h hp)]; exact h, n⟩, fun a vs h => SqT.upd hp h⟩
theorem StOk.ext {ρ : List Addr} {S S' : Addr → Prop} {H' : Hp} (s : StOk K ρ S H st) (x : Ext K ρ H ρ H') (hS : ∀ a, S' a → S a ∨ H a = none) (hr : ∀ a, a ∈ ρ → S a) (hc : ∀ a, a ∈ ρ → H' a = H a) : StOk K ρ S' H' st where
  len := s.len
  nd := s.nd
  cell := fun n a c h1 h2 => by
    have q := s.cell n a c h1 h2
    have e := hc a (List.mem_of_getElem? h1)
    cases c with
    | lst ds => obtain ⟨vs, z, t⟩ := q; exact ⟨vs, by rw [e]; exact z, t.mono x hS hr⟩
    | obj C fs => obtain ⟨dx, gs, z, t⟩ := q; exact ⟨dx, gs, by rw [e]; exact z, t.mono x hS hr⟩
    | tab i q' => exact TabC.mono q e x hS hr
theorem Rel.newSto (r : Rel K w env st σ H) (hp : H p = none) : StOk K w.ρ (w.at_ w.ρ).S (upd H p o) st :=
  r.sto.ext (Ext.new hp) (fun a h => .inl h) (fun a h => .inl h) fun a h => by
    obtain ⟨u, e⟩ := r.sto.there h
    exact upd_ne (ne_of_none e hp)
theorem Rel.new (r : Rel K w env st σ H) (hp : H p = none) : Rel K w env st σ (upd H p o) := r.ext (Ext.new hp) (r.newSto hp)
theorem Post.ok {α β : Type} {Da : DnT β α} {Q : β → Hp → Prop} {a : α} {x : β} (r : Rel K w env st σ H) (h : Post Da K W w H σ (.ok a st) Q) (d : Da K w.ρ w.S H x a) : Q x H := h w.ρ H x r.sto Ext.refl d
theorem Post.okNew {a : D} (r : Rel K w env st σ H) (h : Post Den K W w H σ (.ok a st) Q) (hp : H p = none) (d : Den K w.ρ w.S (upd H p o) (.ref p) a) : Q (.ref p) (upd H p o) :=
  h w.ρ (upd H p o) (.ref p) (r.newSto hp) (Ext.new hp) d
theorem Dens.new {vs : List V} {ds : List D} (r : Rel K w env st σ H) (hp : H p = none) (h : Dens K w.ρ w.S H vs ds) : Dens K w.ρ w.S (upd H p o) vs ds := h.mono (Ext.new hp) (fun a h => .inl h) fun a h => .inl h
theorem Den.new {v : V} {d : D} (r : Rel K w env st σ H) (hp : H p = none) (h : Den K w.ρ w.S H v d) : Den K w.ρ w.S (upd H p o) v d := h.mono (Ext.new hp) (fun a h => .inl h) fun a h => .inl h
theorem Post.newTup {vs : List V} {ds : List D} (r : Rel K w env st σ H) (h : Post Den K W w H σ (.ok (.tup ds) st) Q) (d : Dens K w.ρ w.S H vs ds) (hp : H p = none) : Q (.ref p) (upd H p (.tup vs)) :=
  h.okNew r hp (.tup (.inl (.inl upd_same)) (d.new r hp))
theorem Post.newLst {vs : List V} {ds : List D} (r : Rel K w env st σ H) (h : Post Den K W w H σ (.ok (.lst ds) st) Q) (d : Dens K w.ρ w.S H vs ds) (hp : H p = none) : Q (.ref p) (upd H p (.lst vs)) :=
  h.okNew r hp (.lst upd_same (r.fresh hp) (d.new r hp))
end
end AM
namespace AM
open PySem PySem.Spec PyProof.Rows L2
def DenB : DnT V D := fun K ρ S H v d => match d with
  | .lst ds => ∃ a vs, v = .ref a ∧ H a = some (.lst vs) ∧ a ∉ ρ ∧ Dens K ρ S H vs ds
  | d => Den K ρ S H v d
section
variable {K : Ct} {W : WX} {w : Wd} {env : AEnv} {st : Sto} {σ : St} {H : Hp} {v : V} {d : D}
theorem Den.b (h : Den K w.ρ w.S H v d) : DenB K w.ρ w.S H v d := by
  cases h with
  | lst a b c => exact ⟨_, _, rfl, a, fun z => b (inS_ρ z), c⟩
  | non => exact .non
  | bl b => exact .bl b
  | int i => exact .int i
  | str s => exact .str s
  | ty n => exact .ty n
  | cls a => exact .cls a
  | tup a b => exact .tup a b
  | fz a c => exact .fz a c
  | ins a b c => exact .ins a b c
  | hd a => exact .hd a
  | dic a b c => exact .dic a b c
theorem DenB.tup {ds : List D} (h : DenB K w.ρ w.S H v (.tup ds)) : ∃ a vs, v = .ref a ∧ SqT K.K H a vs ∧ Dens K w.ρ w.S H vs ds := by
  have q : Den K w.ρ w.S H v (.tup ds) := h
  cases q with
  | tup a b => exact ⟨_, _, rfl, a, b⟩
theorem DenB.lst {ds : List D} (h : DenB K w.ρ w.S H v (.lst ds)) : ∃ a vs, v = .ref a ∧ H a = some (.lst vs) ∧ a ∉ w.ρ ∧ Dens K w.ρ w.S H vs ds := h
theorem DenB.fz {ds : List D} (h : DenB K w.ρ w.S H v (.fz ds)) : ∃ a vs, v = .ref a ∧ SqF K.K H w.S a vs ∧ Dens K w.ρ w.S H vs ds := by
  have q : Den K w.ρ w.S H v (.fz ds) := h
  cases q with
  | fz a c => exact ⟨_, _, rfl, a, c⟩
theorem DenB.str {s : Str} (h : DenB K w.ρ w.S H v (.str s)) : v = .str s := by
  have q : Den K w.ρ w.S H v (.str s) := h
  cases q with
  | str => rfl
theorem DenB.int {i : Int} (h : DenB K w.ρ w.S H v (.int i)) : v = .int i := by
  have q : Den K w.ρ w.S H v (.int i) := h
  cases q with
  | int => rfl
theorem DenB.bl {i : Bool} (h : DenB K w.ρ w.S H v (.bl i)) : v = .bl i := by
  have q : Den K w.ρ w.S H v (.bl i) := h
  cases q with
  | bl => rfl
theorem DenB.non (h : DenB K w.ρ w.S H v .non) : v = .non := by
  have q : Den K w.ρ w.S H v .non := h
  cases q with
  | non => rfl
theorem DenB.ty {n : String} (h : DenB K w.ρ w.S H v (.ty n)) : v = .ty n := by
  have q : Den K w.ρ w.S H v (.ty n) := h
  cases q with
  | ty => rfl
theorem DenB.cls {c : Nat} (h : DenB K w.ρ w.S H v (.cls c)) : v = .ref (K.Γ c) := by
  have q : Den K w.ρ w.S H v (.cls c) := h
  cases q with
  | cls => rfl
theorem DenB.hd {n : Nat} (h : DenB K w.ρ w.S H v (.hd n)) : ∃ a, v = .ref a ∧ w.ρ[n]? = some a := by
  have q : Den K w.ρ w.S H v (.hd n) := h
  cases q with
  | hd e => exact ⟨_, rfl, e⟩
theorem DenB.ins {c : Nat} {fs : List (Str × D)} (h : DenB K w.ρ w.S H v (.ins c fs)) : ∃ a dx gs, v = .ref a ∧ H a = some (.ins (K.Γ c) dx gs) ∧ ¬ w.S a ∧ DenF K w.ρ w.S H gs fs := by
  have q : Den K w.ρ w.S H v (.ins c fs) := h
  cases q with
  | ins a b c => exact ⟨_, _, _, rfl, a, b, c⟩
theorem DenB.dic {rr : List (Key × D)} (h : DenB K w.ρ w.S H v (.dic rr)) : ∃ a kvs, v = .ref a ∧ H a = some (.dK kvs) ∧ ¬ w.S a ∧ imR rr = some kvs := by
  have q : Den K w.ρ w.S H v (.dic rr) := h
  cases q with
  | dic a b c => exact ⟨_, _, rfl, a, b, c⟩
theorem Rel.cellL (r : Rel K w env st σ H) {n : Nat} {a : Addr} {ds : List D} (h : w.ρ[n]? = some a) (e : st[n]? = some (.lst ds)) : ∃ vs, H a = some (.lst vs) ∧ Dens K w.ρ w.S H vs ds := r.sto.cell n a _ h e
theorem Rel.cellO (r : Rel K w env st σ H) {n c : Nat} {a : Addr} {fs : List (Str × D)} (h : w.ρ[n]? = some a) (e : st[n]? = some (.obj c fs)) : ∃ dx gs, H a = some (.ins (K.Γ c) dx gs) ∧ DenF K w.ρ w.S H gs fs := r.sto.cell n a _ h e
end
theorem lastsDB : Lasts (α := D) (β := V) DenB := by
  intro K w w' env st σ H H' x a r e z h
  obtain ⟨ρ', rfl⟩ := e
  have m : ∀ {v d}, Den K w.ρ w.S H v d → Den K ρ' (w.at_ ρ').S H' v d := fun h => h.mono z (S_ext r z) fun _ => inS_ρ
  cases a with
  | lst ds =>
    obtain ⟨b, vs, e1, e2, n, t⟩ := h
    exact ⟨b, vs, e1, (z.keep _ _ e2 n).1, (z.keep _ _ e2 n).2, t.mono z (S_ext r z) fun _ => inS_ρ⟩
  | _ => exact m h
abbrev tDB (K : Ct) (W : WX) (f : EF) : TE := tG (α := D) (β := V) DenB K W f
section
variable {X : Cx} {Γ : Nat → Addr} {W : WX} {e a b c : Expr} {f fa fb fc : EF} {pos : Pos}
theorem pdb (h : PE X e (tD (XC X Γ) W f)) : PE X e (tDB (XC X Γ) W f) := peImp h fun σ H Q ⟨w, env, st, r, p⟩ => ⟨w, env, st, r, by
  cases q : f env st with
  | ok d st' => rw [q] at p; exact fun ρ' H' x h1 h2 h3 => p ρ' H' x h1 h2 (Den.b (w := w.at_ ρ') h3)
  | exc x st' => rw [q] at p; exact p
  | bad => rw [q] at p; exact p⟩
def dVar (i : Nat) : EF := fun env st => match env[i]? with
  | some (.sh d) => .ok d st
  | _ => .bad
def dOwn (i : Nat) : EF := fun env st => match env[i]? with
  | some (.own ds) => .ok (.lst ds) st
  | some (.sh d) => .ok d st
  | _ => .bad
def dC (d : D) : EF := fun _ st => .ok d st
theorem pd_var (i : Nat) {x : Str} (hN : X.N[i]? = some x := by rfl) (hv : Vis X.env.scope x := by first | exact Or.inl rfl | exact Or.inr (Or.inl rfl) | exact Or.inr (Or.inr rfl)) (hd : (x == ("__debug__" : Str)) = false := by decide)
    (hcd : (x == ("__classdict__" : Str)) = false := by decide) : PE X (.Name x pos) (tD (XC X Γ) W (dVar i)) := peImp (pe_var hN hv hd hcd) fun σ H Q ⟨w, env, st, r, p⟩ => by
  unfold dVar at p
  split at p
  · rename_i d e
    obtain ⟨v, e1, h⟩ := r.sh e
    exact ⟨v, e1, Post.ok r p h⟩
  · exact p.elim
theorem pd_own (i : Nat) {x : Str} (hN : X.N[i]? = some x := by rfl) (hv : Vis X.env.scope x := by first | exact Or.inl rfl | exact Or.inr (Or.inl rfl) | exact Or.inr (Or.inr rfl)) (hd : (x == ("__debug__" : Str)) = false := by decide)
    (hcd : (x == ("__classdict__" : Str)) = false := by decide) : PE X (.Name x pos) (tDB (XC X Γ) W (dOwn i)) := peImp (pe_var hN hv hd hcd) fun σ H Q ⟨w, env, st, r, p⟩ => by
  unfold dOwn at p
  split at p
  · rename_i ds e
    obtain ⟨a, vs, e0, e1, e2, h⟩ := r.ownE e
    exact ⟨_, e1, Post.ok (Da := DenB) r p ⟨a, vs, rfl, e2, (r.disO a (List.mem_of_getElem? e0)).1, h⟩⟩
  · rename_i d e
    obtain ⟨v, e1, h⟩ := r.sh e
    exact ⟨v, e1, Post.ok (Da := DenB) r p h.b⟩
  · exact p.elim
theorem pdc {v : V} {d : D} (h : PE X e (tC v)) (r : ∀ ρ S H, Den (XC X Γ) ρ S H v d) : PE X e (tD (XC X Γ) W (dC d)) := peImp h fun σ H Q ⟨w, env, st, rl, p⟩ => Post.ok rl p (r _ _ _)
theorem pd_int {i j} : PE X (.Constant (.int i) j pos) (tD (XC X Γ) W (dC (.int i))) := pdc pe_int fun _ _ _ => .int i
theorem pd_str {i j} : PE X (.Constant (.str i) j pos) (tD (XC X Γ) W (dC (.str i))) := pdc pe_str fun _ _ _ => .str i
theorem pd_bl {i j} : PE X (.Constant (.bool i) j pos) (tD (XC X Γ) W (dC (.bl i))) := pdc pe_bl fun _ _ _ => .bl i
theorem pd_non {j} : PE X (.Constant .none j pos) (tD (XC X Γ) W (dC .non)) := pdc pe_non fun _ _ _ => .non
theorem pd_glob {x : Str} {v : V} {u : Value} {d : D} (hm : X.mg x = some u) (r : RelV v u) (h : ∀ ρ S H, Den (XC X Γ) ρ S H v d) (hg : Gl X x := by rfl) (hd : (x == ("__debug__" : Str)) = false := by decide) : PE X (.Name x pos) (tD (XC X Γ) W (dC d)) := pdc (pe_glob hg hm r hd) h
abbrev Op2 := D → D → Sto → Res D
def rD2 (K : Ct) (W : WX) (k : Op2) : R2 := fun x y H Q => ∃ w env st σ a b, Rel K w env st σ H ∧ DenB K w.ρ w.S H x a ∧ DenB K w.ρ w.S H y b ∧ Post Den K W w H σ (k a b st) Q
def dOp2 (k : Op2) (fa fb : EF) : EF := fun env st => (fa env st).bind fun a st1 => (fb env st1).bind fun b st2 => k a b st2
theorem dOp2_ok {K : Ct} {k : Op2} {r : R2} {σ : St} {H : Hp} {Q : VK} (h : tD K W (dOp2 k fa fb) σ H Q) (i : ∀ x y H Q, rD2 K W k x y H Q → r x y H Q) : tOp r (tDB K W fa) (tDB K W fb) σ H Q := by
  obtain ⟨w, env, st, rl, p⟩ := t2 (Da := DenB) (Db := DenB) (g := fun env a st => fb env st) (k := fun env a b st => k a b st) lastsDB h
  refine ⟨w, env, st, rl, p.mono ?_⟩
  rintro x H1 ⟨w1, env1, st1, a, r1, d1, p1⟩
  refine ⟨w1, env1, st1, r1, p1.mono ?_⟩
  rintro y H2 ⟨w2, st2, b, r2, d2, d3, p2⟩
  exact i _ _ _ _ ⟨w2, env1, st2, σ, a, b, r2, d2, d3, p2⟩
theorem pd_op {op : Operator} {k : Op2} (ho : OpR X (binaryOp op) (rD2 (XC X Γ) W k)) (ha : PE X a (tDB (XC X Γ) W fa)) (hb : PE X b (tDB (XC X Γ) W fb)) : PE X (.BinOp a op b pos) (tD (XC X Γ) W (dOp2 k fa fb)) :=
  peImp (pe_op ho ha hb) fun _ _ _ h => dOp2_ok h fun _ _ _ _ q => q
theorem opr {f : Value → Value → Sem Value} {k : Op2} (h : ∀ (w : Wd) (env : AEnv) (st : Sto) (σ : St) (H : Hp) (x y : V) (a b : D) (Q : VK), Rel (XC X Γ) w env st σ H → DenB (XC X Γ) w.ρ w.S H x a → DenB (XC X Γ) w.ρ w.S H y b → Post Den (XC X Γ) W w H σ (k a b st) Q →
    ∃ r : R2, OpR X f r ∧ r x y H Q) : OpR X f (rD2 (XC X Γ) W k) := fun pins s σ H x y v u Q I rx ry ⟨w, env, st, σ', a, b, r, d1, d2, p⟩ => by
  obtain ⟨rr, ho, q⟩ := h w env st σ' H x y a b Q r d1 d2 p
  exact ho pins s σ H x y v u Q I rx ry q
def oAdd : Op2 := fun a b st => match a, b with
  | .int i, .int j => .ok (.int (i + j)) st
  | .str i, .str j => if i.length + j.length ≤ sizeLine then .ok (.str (i ++ j)) st else .bad
  | .tup i, .tup j => if i.length + j.length ≤ sizeLine then .ok (.tup (i ++ j)) st else .bad
  | .lst i, .lst j => if i.length + j.length ≤ sizeLine then .ok (.lst (i ++ j)) st else .bad
  | _, _ => .bad
def oSub : Op2 := fun a b st => match a, b with
  | .int i, .int j => .ok (.int (i - j)) st
  | _, _ => .bad
def small64 (i : Int) : Bool := decide (-(2 ^ 64) < i) && decide (i < 2 ^ 64)
def mk (l : List Nat) : Str := ⟨l.toArray⟩
theorem mk_len (l : List Nat) : (mk l).length = l.length := by
  show l.toArray.size = l.length
  simp
def oMul : Op2 := fun a b st => match a, b with
  | .int i, .int j => if (small64 i || small64 j) = true then .ok (.int (i * j)) st else .bad
  | .str s, .int j => if s.length * j.toNat ≤ sizeLine ∧ -(2 ^ 62) ≤ j ∧ j < 2 ^ 62 then .ok (.str (mk (List.replicate j.toNat s.cps.toList).flatten)) st else .bad
  | .lst i, .int j => if i.length * j.toNat ≤ sizeLine ∧ -(2 ^ 63) ≤ j ∧ j < 2 ^ 63 then .ok (.lst (List.replicate j.toNat i).flatten) st else .bad
  | _, _ => .bad
def oDiv : Op2 := fun a b st => match a, b with
  | .int i, .int j => if 0 < j ∧ j < 1073741824 then .ok (.int (i / j)) st else .bad
  | _, _ => .bad
def oMod : Op2 := fun a b st => match a, b with
  | .int i, .int j => if 0 < j then .ok (.int (i % j)) st else .bad
  | _, _ => .bad
def oPow : Op2 := fun a b st => match a, b with
  | .int i, .int j => if 0 ≤ j ∧ j ≤ 1000000 ∧ i.natAbs < 2 ^ 64 then .ok (.int (i ^ j.toNat)) st else .bad
  | _, _ => .bad
theorem Str.mul_list (x : Str) (n : Nat) : (⟨(List.replicate n x.cps).foldl (· ++ ·) #[]⟩ : Str) = mk (List.replicate n x.cps.toList).flatten := by
  have go : ∀ (n : Nat) (acc : Array Nat), (List.replicate n x.cps).foldl (· ++ ·) acc = (acc.toList ++ (List.replicate n x.cps.toList).flatten).toArray := by
    intro n
    induction n with
    | zero => intro acc; simp
    | succ n ih =>
      intro acc
      rw [List.replicate_succ, List.foldl_cons, ih, List.replicate_succ, List.flatten_cons, Array.toList_append, List.append_assoc]
  rw [go]
  rfl
theorem flatten_len {α : Type} (l : List α) : ∀ n : Nat, ((List.replicate n l).flatten).length = n * l.length
  | 0 => by simp
  | n + 1 => by rw [List.replicate_succ, List.flatten_cons, List.length_append, flatten_len l n, Nat.succ_mul, Nat.add_comm]
theorem op_rep_str : OpR X (binaryOp .Mult) (fun x y H Q => ∃ s j, x = .str s ∧ y = .int j ∧ s.length * j.toNat ≤ sizeLine ∧ -(2 ^ 62) ≤ j ∧ j < 2 ^ 62 ∧ Q (.str (mk (List.replicate j.toNat s.cps.toList).flatten)) H) := by
  intro pins s σ H x y v u Q I rx ry h
  obtain ⟨z, j, rfl, rfl, hz, h1, h2, q⟩ := h
  obtain ⟨t, rfl⟩ := rx
  obtain ⟨t', rfl⟩ := ry
  have hs : sizeLine = 16777216 := sizeLine_eq
  by_cases hj : j < 1
  · refine PySem.P.mul_str_none hj (by omega) ⟨.str Str.empty, H, I.tok _, ⟨_, rfl⟩, ?_⟩
    have e : j.toNat = 0 := by omega
    rw [e] at q
    exact q
  · have hlen : z.length * j.toNat < 2 ^ 62 := by omega
    refine PySem.P.mul_str (by rw [decide_eq_false (by omega), decide_eq_false (by omega)]; rfl) (fun _ _ z0 => ?_) (fun _ _ => ?_) ?_
    · have hpos : 0 < j := by omega
      have h3 : (z.length : Int) * j ≤ 2 ^ 62 := by
        have e : ((j.toNat : Nat) : Int) = j := Int.toNat_of_nonneg (by omega)
        rw [← e]
        have := Int.ofNat_le.mpr (Nat.le_of_lt hlen)
        simpa using this
      have h4 : (z.length : Int) ≤ (2 ^ 63 - 1) / j := (Int.le_ediv_iff_mul_le hpos).mpr (by omega)
      omega
    · exact decide_eq_false (by omega)
    · rw [if_neg hj]
      rw [← Str.mul_list] at q
      by_cases hb : (j == 1 || z.length == 0) = true
      · rw [if_pos hb]
        refine ⟨.str z, H, I, ⟨t, rfl⟩, ?_⟩
        have e : (⟨(List.replicate j.toNat z.cps).foldl (· ++ ·) #[]⟩ : Str) = z := by
          rw [Str.mul_list]
          rcases Bool.or_eq_true _ _ ▸ hb with q1 | q1
          · have ej : j = 1 := by simpa using q1
            subst ej
            show mk (List.replicate 1 z.cps.toList).flatten = z
            simp [mk]
          · have ez : z.cps = #[] := Array.size_eq_zero_iff.mp (show z.length = 0 by simpa using q1)
            obtain ⟨c⟩ := z
            have ez' : c = #[] := ez
            subst ez'
            show mk (List.replicate j.toNat []).flatten = _
            simp [mk]
        rw [e] at q
        exact q
      · rw [if_neg hb]
        refine ⟨?_, .str _, H, I.tok _, ⟨_, rfl⟩, q⟩
        rw [Str.mul_list, mk_len, flatten_len]
        have : z.cps.toList.length = z.length := Array.length_toList
        rw [this, Nat.mul_comm]
        exact hz
theorem opd_add : OpR X (binaryOp .Add) (rD2 (XC X Γ) W oAdd) := opr fun w env st σ H x y a b Q r d1 d2 p => by
  cases a with
  | int i =>
    cases b with
    | int j => exact ⟨_, op_add, i, j, d1.int, d2.int, Post.ok r p (.int _)⟩
    | _ => exact p.elim
  | str i =>
    cases b with
    | str j =>
      rw [show oAdd (.str i) (.str j) st = if i.length + j.length ≤ sizeLine then .ok (.str (i ++ j)) st else .bad from rfl] at p
      split at p
      · rename_i hz
        exact ⟨_, op_add_str, i, j, d1.str, d2.str, hz, Post.ok r p (.str _)⟩
      · exact p.elim
    | _ => exact p.elim
  | tup i =>
    cases b with
    | tup j =>
      rw [show oAdd (.tup i) (.tup j) st = if i.length + j.length ≤ sizeLine then .ok (.tup (i ++ j)) st else .bad from rfl] at p
      split at p
      · rename_i hz
        obtain ⟨a1, v1, e1, q1, t1⟩ := d1.tup
        obtain ⟨a2, v2, e2, q2, t2⟩ := d2.tup
        refine ⟨_, op_catA, a1, a2, v1, v2, e1, e2, q1, q2, by rw [t1.length, t2.length]; exact hz, fun z => ?_, fun _ z => ?_, fun _ _ pp hp => ?_⟩
        · subst z
          cases t1
          exact Post.ok r p (.tup q2 t2)
        · subst z
          cases t2
          rw [List.append_nil] at p
          exact Post.ok r p (.tup q1 t1)
        · exact p.newTup r (t1.append t2) hp
      · exact p.elim
    | _ => exact p.elim
  | lst i =>
    cases b with
    | lst j =>
      rw [show oAdd (.lst i) (.lst j) st = if i.length + j.length ≤ sizeLine then .ok (.lst (i ++ j)) st else .bad from rfl] at p
      split at p
      · rename_i hz
        obtain ⟨a1, v1, e1, q1, n1, t1⟩ := d1.lst
        obtain ⟨a2, v2, e2, q2, n2, t2⟩ := d2.lst
        exact ⟨_, op_cat, a1, a2, v1, v2, e1, e2, q1, q2, by rw [t1.length, t2.length]; exact hz, fun pp hp => p.newLst r (t1.append t2) hp⟩
      · exact p.elim
    | _ => exact p.elim
  | _ => exact p.elim
end
end AM
namespace AM
open PySem PySem.Spec PyProof.Rows L2
mutual
def D.py : D → Option PyData
  | .non => some .none
  | .bl b => some (.bool b)
  | .int i => some (.int i)
  | .str s => some (.str s)
  | .tup ds => (pyL ds).map .tuple
  | .lst ds => (pyL ds).map .list
  | _ => none
def pyL : List D → Option (List PyData)
  | [] => some []
  | d :: ds => match D.py d, pyL ds with
    | some x, some xs => some (x :: xs)
    | _, _ => none
end
section
variable {K : Ct} {w : Wd} {H : Hp}
mutual
theorem Den.dp {ρ : List Addr} {S : Addr → Prop} : ∀ {d : D} {v : V} {x : PyData}, Den K ρ S H v d → d.py = some x → Dp K.K H v x
  | .non, _, _, .non, e => by cases e; exact .non
  | .bl _, _, _, .bl b, e => by cases e; exact .bl b
  | .int _, _, _, .int b, e => by cases e; exact .int b
  | .str _, _, _, .str b, e => by cases e; exact .str b
  | .tup ds, _, _, .tup h t, e => by
    unfold D.py at e
    cases q : pyL ds with
    | none => rw [q] at e; cases e
    | some xs => rw [q] at e; cases e; exact .tup h (Dens.dp t q)
  | .lst ds, _, _, .lst h _ t, e => by
    unfold D.py at e
    cases q : pyL ds with
    | none => rw [q] at e; cases e
    | some xs => rw [q] at e; cases e; exact .lst (.inl (.inl h)) (Dens.dp t q)
  | .ty _, _, _, .ty _, e => by cases e
  | .cls _, _, _, .cls _, e => by cases e
  | .fz _, _, _, .fz _ _, e => by cases e
  | .ins _ _, _, _, .ins _ _ _, e => by cases e
  | .hd _, _, _, .hd _, e => by cases e
theorem Dens.dp {ρ : List Addr} {S : Addr → Prop} : ∀ {ds : List D} {vs : List V} {xs : List PyData}, Dens K ρ S H vs ds → pyL ds = some xs → DpAll K.K H vs xs
  | [], _, _, .nil, e => by cases e; exact .nil
  | d :: ds, _, _, .cons h t, e => by
    unfold pyL at e
    cases q1 : d.py with
    | none => rw [q1] at e; cases e
    | some x =>
      cases q2 : pyL ds with
      | none => rw [q1, q2] at e; cases e
      | some xs => rw [q1, q2] at e; cases e; exact .cons (Den.dp h q1) (Dens.dp t q2)
end
theorem DenB.dp {d : D} {v : V} {x : PyData} (h : DenB K w.ρ w.S H v d) (e : d.py = some x) : Dp K.K H v x := by
  cases d with
  | lst ds =>
    obtain ⟨a, vs, rfl, q, _, t⟩ := h
    unfold D.py at e
    cases z : pyL ds with
    | none => rw [z] at e; cases e
    | some xs => rw [z] at e; cases e; exact .lst (.inl (.inl q)) (t.dp z)
  | _ => exact Den.dp (show Den K w.ρ w.S H v _ from h) e
end
def eqD (a b : D) : Option Bool := match a.py, b.py with
  | some x, some y => if (SeqAt.shaped x && SeqAt.shaped y) = true then some (PyData.eqv x y) else none
  | _, _ => none
def oOf (r : Option Bool) (st : Sto) : Res D := match r with
  | some b => .ok (.bl b) st
  | none => .bad
def oEq : Op2 := fun a b st => oOf (eqD a b) st
def oNe : Op2 := fun a b st => oOf ((eqD a b).map not) st
theorem eqD_some {a b : D} {r : Bool} (h : eqD a b = some r) : ∃ x y, a.py = some x ∧ b.py = some y ∧ SeqAt.shaped x = true ∧ SeqAt.shaped y = true ∧ r = PyData.eqv x y := by
  unfold eqD at h
  cases e1 : a.py with
  | none => rw [e1] at h; cases h
  | some x =>
    cases e2 : b.py with
    | none => rw [e1, e2] at h; cases h
    | some y =>
      rw [e1, e2] at h
      have h2 : (if (SeqAt.shaped x && SeqAt.shaped y) = true then some (PyData.eqv x y) else none) = some r := h
      split at h2
      · rename_i c
        obtain ⟨c1, c2⟩ := Bool.and_eq_true_iff.mp c
        exact ⟨x, y, rfl, rfl, c1, c2, (Option.some.inj h2).symm⟩
      · cases h2
def inStr (x z : Str) : Bool := match x.cps.toList with
  | [c] => decide (c ∈ z.cps.toList)
  | _ => !(Builtin.Str.occurrences z x 0 z.length 1).isEmpty
def inD (a b : D) : Option Bool := match b with
  | .str z => (match a with
    | .str x => some (inStr x z)
    | _ => none)
  | .tup ds => inSeq a ds
  | .lst ds => inSeq a ds
  | _ => none
where
  inSeq (a : D) (ds : List D) : Option Bool := match a.py, pyL ds with
    | some x, some xs => if (SeqAt.shaped x && SeqAt.shaped (.list xs)) = true then some (xs.any fun z => PyData.eqv z x) else none
    | _, _ => none
def oIn : Op2 := fun a b st => oOf (inD a b) st
def oNotIn : Op2 := fun a b st => oOf ((inD a b).map not) st
def D.isNon : D → Bool
  | .non => true
  | _ => false
def oIs : Op2 := fun a b st => match b with
  | .non => .ok (.bl a.isNon) st
  | _ => .bad
def oIsNot : Op2 := fun a b st => match b with
  | .non => .ok (.bl (!a.isNon)) st
  | _ => .bad
def ltStr (a b : Str) : Bool := decide (a.cps.toList < b.cps.toList)
def oLt : Op2 := fun a b st => match a, b with
  | .int i, .int j => .ok (.bl (decide (i < j))) st
  | .str i, .str j => .ok (.bl (ltStr i j)) st
  | _, _ => .bad
def oLe : Op2 := fun a b st => match a, b with
  | .int i, .int j => .ok (.bl (decide (i ≤ j))) st
  | .str i, .str j => .ok (.bl (!ltStr j i)) st
  | _, _ => .bad
def oGt : Op2 := fun a b st => match a, b with
  | .int i, .int j => .ok (.bl (decide (j < i))) st
  | .str i, .str j => .ok (.bl (ltStr j i)) st
  | _, _ => .bad
def oGe : Op2 := fun a b st => match a, b with
  | .int i, .int j => .ok (.bl (decide (j ≤ i))) st
  | .str i, .str j => .ok (.bl (!ltStr i j)) st
  | _, _ => .bad
section
variable {X : Cx} {Γ : Nat → Addr} {W : WX}
theorem opd_int {f : Value → Value → Sem Value} {k : Op2} {g : Int → Int → Int} (ho : OpR X f (rI0 fun i j => .int (g i j))) (h1 : ∀ i j st, k (.int i) (.int j) st = .ok (.int (g i j)) st)
    (h2 : ∀ a b st, (∃ i j, a = .int i ∧ b = .int j) ∨ k a b st = .bad) : OpR X f (rD2 (XC X Γ) W k) := opr fun w env st σ H x y a b Q r d1 d2 p => by
  rcases h2 a b st with ⟨i, j, rfl, rfl⟩ | e
  · rw [h1] at p
    exact ⟨_, ho, i, j, d1.int, d2.int, Post.ok r p (.int _)⟩
  · rw [e] at p; exact p.elim
theorem opd_sub : OpR X (binaryOp .Sub) (rD2 (XC X Γ) W oSub) := opd_int op_sub (fun _ _ _ => rfl) fun a b st => by
  cases a <;> cases b <;> first | exact .inl ⟨_, _, rfl, rfl⟩ | exact .inr rfl
theorem opd_mul : OpR X (binaryOp .Mult) (rD2 (XC X Γ) W oMul) := opr fun w env st σ H x y a b Q r d1 d2 p => by
  cases a with
  | int i =>
    cases b with
    | int j =>
      rw [show oMul (.int i) (.int j) st = if (small64 i || small64 j) = true then .ok (.int (i * j)) st else .bad from rfl] at p
      split at p
      · rename_i hz
        refine ⟨_, op_mul, i, j, d1.int, d2.int, ?_, Post.ok r p (.int _)⟩
        unfold small64 at hz
        rcases Bool.or_eq_true _ _ ▸ hz with q | q
        · obtain ⟨q1, q2⟩ := Bool.and_eq_true_iff.mp q
          exact .inl ⟨of_decide_eq_true q1, of_decide_eq_true q2⟩
        · obtain ⟨q1, q2⟩ := Bool.and_eq_true_iff.mp q
          exact .inr ⟨of_decide_eq_true q1, of_decide_eq_true q2⟩
      · exact p.elim
    | _ => exact p.elim
  | str s =>
    cases b with
    | int j =>
      rw [show oMul (.str s) (.int j) st = if s.length * j.toNat ≤ sizeLine ∧ -(2 ^ 62) ≤ j ∧ j < 2 ^ 62 then .ok (.str (mk (List.replicate j.toNat s.cps.toList).flatten)) st else .bad from rfl] at p
      split at p
      · rename_i hz
        exact ⟨_, op_rep_str, s, j, d1.str, d2.int, hz.1, hz.2.1, hz.2.2, Post.ok r p (.str _)⟩
      · exact p.elim
    | _ => exact p.elim
  | lst s =>
    cases b with
    | int j =>
      rw [show oMul (.lst s) (.int j) st = if s.length * j.toNat ≤ sizeLine ∧ -(2 ^ 63) ≤ j ∧ j < 2 ^ 63 then .ok (.lst (List.replicate j.toNat s).flatten) st else .bad from rfl] at p
      split at p
      · rename_i hz
        obtain ⟨a1, v1, e1, q1, n1, t1⟩ := d1.lst
        refine ⟨_, op_rep, a1, j, v1, e1, d2.int, q1, hz.2.1, hz.2.2, by rw [t1.length]; exact hz.1, fun pp hp => p.newLst r (vs := (List.replicate j.toNat v1).flatten) ?_ hp⟩
        clear p
        generalize j.toNat = n
        induction n with
        | zero => exact .nil
        | succ n ih => rw [List.replicate_succ, List.replicate_succ, List.flatten_cons, List.flatten_cons]; exact t1.append ih
      · exact p.elim
    | _ => exact p.elim
  | _ => exact p.elim
theorem opd_div : OpR X (binaryOp .FloorDiv) (rD2 (XC X Γ) W oDiv) := opr fun w env st σ H x y a b Q r d1 d2 p => by
  cases a with
  | int i =>
    cases b with
    | int j =>
      rw [show oDiv (.int i) (.int j) st = if 0 < j ∧ j < 1073741824 then .ok (.int (i / j)) st else .bad from rfl] at p
      split at p
      · rename_i hz
        exact ⟨_, op_fdiv, i, j, d1.int, d2.int, hz, Post.ok r p (.int _)⟩
      · exact p.elim
    | _ => exact p.elim
  | _ => exact p.elim
theorem opd_mod : OpR X (binaryOp .Mod) (rD2 (XC X Γ) W oMod) := opr fun w env st σ H x y a b Q r d1 d2 p => by
  cases a with
  | int i =>
    cases b with
    | int j =>
      rw [show oMod (.int i) (.int j) st = if 0 < j then .ok (.int (i % j)) st else .bad from rfl] at p
      split at p
      · rename_i hz
        exact ⟨_, op_mod, i, j, d1.int, d2.int, hz, Post.ok r p (.int _)⟩
      · exact p.elim
    | _ => exact p.elim
  | _ => exact p.elim
theorem opd_pow : OpR X (binaryOp .Pow) (rD2 (XC X Γ) W oPow) := opr fun w env st σ H x y a b Q r d1 d2 p => by
  cases a with
  | int i =>
    cases b with
    | int j =>
      rw [show oPow (.int i) (.int j) st = if 0 ≤ j ∧ j ≤ 1000000 ∧ i.natAbs < 2 ^ 64 then .ok (.int (i ^ j.toNat)) st else .bad from rfl] at p
      split at p
      · rename_i hz
        exact ⟨_, op_pow, i, j, d1.int, d2.int, hz, Post.ok r p (.int _)⟩
      · exact p.elim
    | _ => exact p.elim
  | _ => exact p.elim
theorem opd_eq (hu : X.A.units + 64 < cLine) : OpR X (compareOp .Eq) (rD2 (XC X Γ) W oEq) := opr fun w env st σ H x y a b Q r d1 d2 p => by
  cases e : eqD a b with
  | none => rw [show oEq a b st = oOf (eqD a b) st from rfl, e] at p; exact p.elim
  | some v =>
    rw [show oEq a b st = oOf (eqD a b) st from rfl, e] at p
    obtain ⟨dx, dy, e1, e2, s1, s2, rfl⟩ := eqD_some e
    exact ⟨_, op_eqD hu, dx, dy, d1.dp e1, d2.dp e2, s1, s2, Post.ok r p (.bl _)⟩
theorem opd_ne (hu : X.A.units + 64 < cLine) : OpR X (compareOp .NotEq) (rD2 (XC X Γ) W oNe) := opr fun w env st σ H x y a b Q r d1 d2 p => by
  cases e : eqD a b with
  | none => rw [show oNe a b st = oOf ((eqD a b).map not) st from rfl, e] at p; exact p.elim
  | some v =>
    rw [show oNe a b st = oOf ((eqD a b).map not) st from rfl, e] at p
    obtain ⟨dx, dy, e1, e2, s1, s2, rfl⟩ := eqD_some e
    exact ⟨_, op_neD hu, dx, dy, d1.dp e1, d2.dp e2, s1, s2, Post.ok r p (.bl _)⟩
end
end AM
namespace AM
open PySem PySem.Spec PyProof.Rows L2
section
variable {X : Cx} {Γ : Nat → Addr} {W : WX}
def rInT (K : PySem.W.Frag) (neg : Bool) : R2 := fun x y H Q => ∃ d ds, Dp K H x d ∧ Dp K H y (.tuple ds) ∧ SeqAt.shaped d = true ∧ Q (.bl (neg ^^ ds.any fun z => PyData.eqv z d)) H ∧ SeqAt.shaped (.list ds) = true
theorem op_inTup (hu : X.A.units + 65 < cLine) : OpR X (compareOp .In) (rInT X.K false) := fun pins s σ H x y v u Q I rx ry ⟨d, ds, hd, he, sd, q, se⟩ => by
  obtain ⟨as, h1⟩ := hd.reads I d x v rx
  obtain ⟨bs, h2⟩ := he.reads I _ y u ry
  rw [Bool.false_xor] at q
  exact SeqAt.in_tuple_reads h2 h1 (SeqAt.canLay_of_shaped se) (SeqAt.canLay_of_shaped sd) (PyProof.Rows.room_in_shaped sd hu) ⟨V.bl _, H, I, rfl, q⟩
theorem op_notInTup (hu : X.A.units + 65 < cLine) : OpR X (compareOp .NotIn) (rInT X.K true) := fun pins s σ H x y v u Q I rx ry ⟨d, ds, hd, he, sd, q, se⟩ => by
  obtain ⟨as, h1⟩ := hd.reads I d x v rx
  obtain ⟨bs, h2⟩ := he.reads I _ y u ry
  rw [Bool.true_xor] at q
  exact SeqAt.notIn_tuple_reads h2 h1 (SeqAt.canLay_of_shaped se) (SeqAt.canLay_of_shaped sd) (PyProof.Rows.room_in_shaped sd hu) ⟨V.bl _, H, I, rfl, q⟩
theorem inSeq_some {a : D} {ds : List D} {r : Bool} (h : inD.inSeq a ds = some r) : ∃ x xs, a.py = some x ∧ pyL ds = some xs ∧ SeqAt.shaped x = true ∧ SeqAt.shaped (.list xs) = true ∧ r = xs.any fun z => PyData.eqv z x := by
  unfold inD.inSeq at h
  cases e1 : a.py with
  | none => rw [e1] at h; cases h
  | some x =>
    cases e2 : pyL ds with
    | none => rw [e1, e2] at h; cases h
    | some y =>
      rw [e1, e2] at h
      have h2 : (if (SeqAt.shaped x && SeqAt.shaped (.list y)) = true then some (y.any fun z => PyData.eqv z x) else none) = some r := h
      split at h2
      · rename_i c
        obtain ⟨c1, c2⟩ := Bool.and_eq_true_iff.mp c
        exact ⟨x, y, rfl, rfl, c1, c2, (Option.some.inj h2).symm⟩
      · cases h2
theorem inStr_one {x z : Str} {c : Nat} (h : x.cps.toList = [c]) : x = ⟨#[c]⟩ ∧ inStr x z = decide (c ∈ z.cps.toList) := by
  refine ⟨?_, by unfold inStr; rw [h]⟩
  obtain ⟨a⟩ := x
  show (⟨a⟩ : Str) = ⟨#[c]⟩
  congr 1
  exact Array.toList_inj.mp (by rw [show a.toList = [c] from h])
theorem inStr_many {x z : Str} (h : ∀ c, x.cps.toList ≠ [c]) : inStr x z = !(Builtin.Str.occurrences z x 0 z.length 1).isEmpty := by
  unfold inStr
  split
  · rename_i c e
    exact absurd e (h c)
  · rfl
theorem opd_inG {f : Value → Value → Sem Value} {k : Op2} {neg : Bool} (hk : ∀ a b st, k a b st = oOf ((inD a b).map fun r => neg ^^ r) st)
    (h1 : OpR X f fun x y H Q => ∃ (c : Nat) (z : Str), x = .str ⟨#[c]⟩ ∧ y = .str z ∧ Q (.bl (neg ^^ decide (c ∈ z.cps.toList))) H)
    (h2 : OpR X f fun x y H Q => ∃ i j : Str, x = .str i ∧ y = .str j ∧ Q (.bl (neg ^^ !(Builtin.Str.occurrences j i 0 j.length 1).isEmpty)) H)
    (h3 : OpR X f fun x y H Q => ∃ d ds, Dp X.K H x d ∧ Dp X.K H y (.list ds) ∧ SeqAt.shaped d = true ∧ SeqAt.shaped (.list ds) = true ∧ Q (.bl (neg ^^ ds.any fun z => PyData.eqv z d)) H)
    (h4 : OpR X f (rInT X.K neg)) : OpR X f (rD2 (XC X Γ) W k) := opr fun w env st σ H x y a b Q r d1 d2 p => by
  rw [hk] at p
  cases e : inD a b with
  | none => rw [e] at p; exact p.elim
  | some v =>
    rw [e] at p
    have p : Post Den (XC X Γ) W w H σ (.ok (.bl (neg ^^ v)) st) Q := p
    cases b with
    | str z =>
      cases a with
      | str s =>
        have e : v = inStr s z := (Option.some.inj (show some (inStr s z) = some v from e)).symm
        by_cases c : ∃ c, s.cps.toList = [c]
        · obtain ⟨c, hc⟩ := c
          obtain ⟨e1, e2⟩ := inStr_one (z := z) hc
          exact ⟨_, h1, c, z, by rw [← e1]; exact d1.str, d2.str, by rw [← e2, ← e]; exact Post.ok r p (.bl _)⟩
        · have e2 := inStr_many (z := z) fun k hk => c ⟨k, hk⟩
          exact ⟨_, h2, s, z, d1.str, d2.str, by rw [← e2, ← e]; exact Post.ok r p (.bl _)⟩
      | _ => cases e
    | tup ds =>
      obtain ⟨dx, xs, e1, e2, s1, s2, rfl⟩ := inSeq_some (show inD.inSeq a ds = some v from e)
      exact ⟨_, h4, dx, xs, d1.dp e1, d2.dp (show D.py (.tup ds) = some (.tuple xs) by unfold D.py; rw [e2] <;> rfl), s1, Post.ok r p (.bl _), s2⟩
    | lst ds =>
      obtain ⟨dx, xs, e1, e2, s1, s2, rfl⟩ := inSeq_some (show inD.inSeq a ds = some v from e)
      exact ⟨_, h3, dx, xs, d1.dp e1, d2.dp (show D.py (.lst ds) = some (.list xs) by unfold D.py; rw [e2] <;> rfl), s1, s2, Post.ok r p (.bl _)⟩
    | _ => cases e
theorem oprImp {f : Value → Value → Sem Value} {r r' : R2} (h : OpR X f r) (i : ∀ x y H Q, r' x y H Q → r x y H Q) : OpR X f r' := fun pins s σ H x y v u Q I rx ry q => h pins s σ H x y v u Q I rx ry (i _ _ _ _ q)
theorem opd_in (hu : X.A.units + 65 < cLine) : OpR X (compareOp .In) (rD2 (XC X Γ) W oIn) := opd_inG (neg := false) (fun a b st => by unfold oIn; congr 1; cases inD a b <;> simp)
  (oprImp op_in_sign fun x y H Q ⟨c, z, a, b, q⟩ => ⟨c, z, a, b, by rw [Bool.false_xor] at q; exact q⟩)
  (oprImp op_in_str fun x y H Q ⟨c, z, a, b, q⟩ => ⟨c, z, a, b, by rw [Bool.false_xor] at q; exact q⟩)
  (oprImp (op_inD hu) fun x y H Q ⟨d, ds, a, b, c, e, q⟩ => ⟨d, ds, a, b, c, e, by rw [Bool.false_xor] at q; exact q⟩) (op_inTup hu)
theorem opd_notIn (hu : X.A.units + 65 < cLine) : OpR X (compareOp .NotIn) (rD2 (XC X Γ) W oNotIn) := opd_inG (neg := true) (fun a b st => by unfold oNotIn; congr 1; cases inD a b <;> simp)
  (oprImp op_notIn_sign fun x y H Q ⟨c, z, a, b, q⟩ => ⟨c, z, a, b, by rw [Bool.true_xor] at q; exact q⟩)
  (oprImp L2.op_notIn_str fun x y H Q ⟨c, z, a, b, q⟩ => ⟨c, z, a, b, by rw [Bool.true_xor] at q; exact q⟩)
  (oprImp (op_notInD hu) fun x y H Q ⟨d, ds, a, b, c, e, q⟩ => ⟨d, ds, a, b, c, e, by rw [Bool.true_xor] at q; exact q⟩) (op_notInTup hu)
theorem isNon_of {K : Ct} {w : Wd} {H : Hp} {v : V} {d : D} (h : DenB K w.ρ w.S H v d) : decide (v = .non) = d.isNon := by
  cases d with
  | lst ds => obtain ⟨a, vs, rfl, _⟩ := h; rfl
  | _ =>
    have q : Den K w.ρ w.S H v _ := h
    cases q <;> rfl
theorem opd_is : OpR X (compareOp .Is) (rD2 (XC X Γ) W oIs) := opr fun w env st σ H x y a b Q r d1 d2 p => by
  cases b with
  | non => exact ⟨_, op_isN, d2.non, by rw [isNon_of d1]; exact Post.ok r p (.bl _)⟩
  | _ => exact p.elim
theorem opd_isNot : OpR X (compareOp .IsNot) (rD2 (XC X Γ) W oIsNot) := opr fun w env st σ H x y a b Q r d1 d2 p => by
  cases b with
  | non => exact ⟨_, op_notN, d2.non, by rw [isNon_of d1]; exact Post.ok r p (.bl _)⟩
  | _ => exact p.elim
theorem opd_lt : OpR X (compareOp .Lt) (rD2 (XC X Γ) W oLt) := opr fun w env st σ H x y a b Q r d1 d2 p => by
  cases a with
  | int i =>
    cases b with
    | int j => exact ⟨_, op_lt, i, j, d1.int, d2.int, Post.ok r p (.bl _)⟩
    | _ => exact p.elim
  | str i =>
    cases b with
    | str j => exact ⟨_, op_lt_str, i, j, d1.str, d2.str, Post.ok r p (.bl _)⟩
    | _ => exact p.elim
  | _ => exact p.elim
theorem opd_le : OpR X (compareOp .LtE) (rD2 (XC X Γ) W oLe) := opr fun w env st σ H x y a b Q r d1 d2 p => by
  cases a with
  | int i =>
    cases b with
    | int j => exact ⟨_, op_le, i, j, d1.int, d2.int, Post.ok r p (.bl _)⟩
    | _ => exact p.elim
  | str i =>
    cases b with
    | str j => exact ⟨_, op_le_str, i, j, d1.str, d2.str, Post.ok r p (.bl _)⟩
    | _ => exact p.elim
  | _ => exact p.elim
theorem opd_gt : OpR X (compareOp .Gt) (rD2 (XC X Γ) W oGt) := opr fun w env st σ H x y a b Q r d1 d2 p => by
  cases a with
  | int i =>
    cases b with
    | int j => exact ⟨_, op_gt, i, j, d1.int, d2.int, Post.ok r p (.bl _)⟩
    | _ => exact p.elim
  | str i =>
    cases b with
    | str j => exact ⟨_, op_gt_str, i, j, d1.str, d2.str, Post.ok r p (.bl _)⟩
    | _ => exact p.elim
  | _ => exact p.elim
theorem opd_ge : OpR X (compareOp .GtE) (rD2 (XC X Γ) W oGe) := opr fun w env st σ H x y a b Q r d1 d2 p => by
  cases a with
  | int i =>
    cases b with
    | int j => exact ⟨_, op_ge, i, j, d1.int, d2.int, Post.ok r p (.bl _)⟩
    | _ => exact p.elim
  | str i =>
    cases b with
    | str j => exact ⟨_, op_ge_str, i, j, d1.str, d2.str, Post.ok r p (.bl _)⟩
    | _ => exact p.elim
  | _ => exact p.elim
end
section
variable {X : Cx} {Γ : Nat → Addr} {W : WX} {e a b c : Expr} {f fa fb fc : EF} {g ga gb : TF} {pos : Pos} {op op' : CmpOp} {k k' : Op2} {rest : List Expr}
theorem pd_cmp (ho : OpR X (compareOp op) (rD2 (XC X Γ) W k)) (ha : PE X a (tDB (XC X Γ) W fa)) (hb : PE X b (tDB (XC X Γ) W fb)) (hm : behindInMarks op b = false := by first | exact nomark _ | rfl | with_unfolding_all rfl) : PE X (.Compare a [op] [b] pos) (tD (XC X Γ) W (dOp2 k fa fb)) :=
  peImp (pe_cmpR ho ha hb hm) fun _ _ _ h => dOp2_ok h fun _ _ _ _ q => q
def truD : D → Option Bool
  | .non => some false
  | .bl b => some b
  | .int i => some (i != 0)
  | .str s => if s.length ≤ sizeLine then some ((s.length : Int) != 0) else none
  | .tup ds => some (!ds.isEmpty)
  | .lst ds => some (!ds.isEmpty)
  | _ => none
def bOf (r : Option Bool) (st : Sto) : Res Bool := match r with
  | some b => .ok b st
  | none => .bad
def gTru (f : EF) : TF := fun env st => (f env st).bind fun d st => bOf (truD d) st
theorem Dens.isEmpty {K : Ct} {ρ : List Addr} {S : Addr → Prop} {H : Hp} {vs : List V} {ds : List D} (h : Dens K ρ S H vs ds) : vs.isEmpty = ds.isEmpty := by
  cases h <;> rfl
theorem pt_tru (h : PE X a (tDB (XC X Γ) W f)) (he : ∀ whole, isTrue a X.env whole = (do let v ← whole; standAt a.pos; holding [v] (truthy v)) := by intro _; rfl) : PT X a (tT (XC X Γ) W (gTru f)) :=
  ptImp (pt_truth h he) fun σ H Q hq => by
    obtain ⟨w, env, st, r, p⟩ := t1 (Da := DenB) hq
    refine ⟨w, env, st, r, p.mono ?_⟩
    rintro x H1 ⟨w1, env1, st1, d, r1, d1, p1⟩
    cases e : truD d with
    | none => rw [e] at p1; exact p1.elim
    | some k =>
      rw [e] at p1
      refine ⟨k, ?_, Post.ok (Da := dnB) (x := k) r1 p1 rfl⟩
      cases d with
      | non => rw [d1.non]; exact (Option.some.inj e).symm
      | bl i => rw [d1.bl]; exact (Option.some.inj e).symm
      | int i => rw [d1.int]; exact (Option.some.inj e).symm
      | str s =>
        rw [d1.str]
        unfold truD at e
        dsimp only at e
        split at e
        · rename_i hz
          exact ⟨hz, (Option.some.inj e).symm⟩
        · cases e
      | tup ds =>
        obtain ⟨a, vs, rfl, q, t⟩ := d1.tup
        exact .inr (.inl ⟨vs, q, by rw [t.isEmpty]; exact (Option.some.inj e).symm⟩)
      | lst ds =>
        obtain ⟨a, vs, rfl, q, _, t⟩ := d1.lst
        exact .inl ⟨vs, SqL.of q, by rw [t.isEmpty]; exact (Option.some.inj e).symm⟩
      | _ => cases e
def gBl (f : EF) : TF := fun env st => (f env st).bind fun d st => match d with
  | .bl b => .ok b st
  | _ => .bad
theorem gBl_ok {K : Ct} {t : TE} {σ : St} {H : Hp} {Q : Bool → Hp → Prop} (h : tT K W (gBl f) σ H Q) : tD K W f σ H fun x H1 => ∃ k, x = .bl k ∧ Q k H1 := by
  obtain ⟨w, env, st, r, p⟩ := t1 (Da := Den) h
  refine ⟨w, env, st, r, p.mono ?_⟩
  rintro x H1 ⟨w1, env1, st1, d, r1, d1, p1⟩
  cases d with
  | bl b => exact ⟨b, DenB.bl (w := w1) d1.b, Post.ok (Da := dnB) (x := b) r1 p1 rfl⟩
  | _ => exact p1.elim
theorem pt_cmp (ho : OpR X (compareOp op) (rD2 (XC X Γ) W k)) (ha : PE X a (tDB (XC X Γ) W fa)) (hb : PE X b (tDB (XC X Γ) W fb)) (hm : behindInMarks op b = false := by first | exact nomark _ | rfl | with_unfolding_all rfl) : PT X (.Compare a [op] [b] pos) (tT (XC X Γ) W (gBl (dOp2 k fa fb))) :=
  ptImp (pt_cmpR ho ha hb hm) fun σ H Q h => dOp2_ok (gBl_ok (t := tD (XC X Γ) W (dOp2 k fa fb)) h) fun _ _ _ _ q => q
def dChain (k k' : Op2) (fa fb fc : EF) : EF := fun env st => (fa env st).bind fun a st1 => (fb env st1).bind fun b st2 => (k a b st2).bind fun r st3 => match r with
  | .bl true => (fc env st3).bind fun c st4 => k' b c st4
  | .bl false => .ok (.bl false) st3
  | _ => .bad
theorem dChain_ok {K : Ct} {r r' : R2} {σ : St} {H : Hp} {Q : VK} (h : tD K W (dChain k k' fa fb fc) σ H Q) (i : ∀ x y H Q, rD2 K W k x y H Q → r x y H Q) (i' : ∀ x y H Q, rD2 K W k' x y H Q → r' x y H Q) :
    tChain r r' (tDB K W fa) (tDB K W fb) (tDB K W fc) σ H Q := by
  obtain ⟨w, env, st, rl, p⟩ := t2 (Da := DenB) (Db := DenB) (g := fun env a st => fb env st) (k := fun env a b st2 => (k a b st2).bind fun r st3 => match r with
    | .bl true => (fc env st3).bind fun c st4 => k' b c st4
    | .bl false => .ok (.bl false) st3
    | _ => .bad) lastsDB h
  refine ⟨w, env, st, rl, p.mono ?_⟩
  rintro x H1 ⟨w1, env1, st1, a, r1, d1, p1⟩
  refine ⟨w1, env1, st1, r1, p1.mono ?_⟩
  rintro y H2 ⟨w2, st2, b, r2, d2, d3, p2⟩
  refine i _ _ _ _ ⟨w2, env1, st2, σ, a, b, r2, d2, d3, (Post.bind (Da := Den) r2 p2).mono ?_⟩
  rintro z H3 ⟨w3, st3, c, r3, e3, x3, d4, p3⟩
  have d3' := lastsDB r2 e3 x3 d3
  cases c with
  | bl v =>
    refine ⟨v, DenB.bl (w := w3) d4.b, ?_⟩
    cases v with
    | true =>
      rw [if_pos rfl]
      refine ⟨w3, env1, st3, r3, (Post.bind (Da := DenB) r3 p3).mono ?_⟩
      rintro z2 H4 ⟨w4, st4, c2, r4, e4, x4, d5, p4⟩
      exact i' _ _ _ _ ⟨w4, env1, st4, σ, b, c2, r4, lastsDB r3 e4 x4 d3', d5, p4⟩
    | false =>
      rw [if_neg Bool.false_ne_true]
      exact Post.ok r3 p3 (.bl _)
  | _ => exact p3.elim
theorem pd_chain (ho : OpR X (compareOp op) (rD2 (XC X Γ) W k)) (ho' : OpR X (compareOp op') (rD2 (XC X Γ) W k')) (ha : PE X a (tDB (XC X Γ) W fa)) (hb : PE X b (tDB (XC X Γ) W fb)) (hc : PE X c (tDB (XC X Γ) W fc)) (hm : lastMarks [op, op'] [b, c] = false := by with_unfolding_all rfl) :
    PE X (.Compare a [op, op'] [b, c] pos) (tD (XC X Γ) W (dChain k k' fa fb fc)) := peImp (pe_chain ho ho' ha hb hc hm) fun σ H Q h => dChain_ok h (fun _ _ _ _ q => q) fun _ _ _ _ q => q
theorem pt_chainD (ho : OpR X (compareOp op) (rD2 (XC X Γ) W k)) (ho' : OpR X (compareOp op') (rD2 (XC X Γ) W k')) (ha : PE X a (tDB (XC X Γ) W fa)) (hb : PE X b (tDB (XC X Γ) W fb)) (hc : PE X c (tDB (XC X Γ) W fc)) (hm : lastMarks [op, op'] [b, c] = false := by with_unfolding_all rfl) :
    PT X (.Compare a [op, op'] [b, c] pos) (tT (XC X Γ) W (gBl (dChain k k' fa fb fc))) := ptImp (pt_chain ho ho' ha hb hc hm) fun σ H Q h => dChain_ok (gBl_ok (t := tD (XC X Γ) W (dChain k k' fa fb fc)) h) (fun _ _ _ _ q => q) fun _ _ _ _ q => q
def gAnd (g h : TF) : TF := fun env st => (g env st).bind fun b st => if b = true then h env st else .ok false st
def gOr (g h : TF) : TF := fun env st => (g env st).bind fun b st => if b = true then .ok true st else h env st
def gNot (g : TF) : TF := fun env st => (g env st).bind fun b st => .ok (!b) st
theorem pwd1 {t : TT} (h : PT X a t) (op : BoolOp) : PW X (.BoolOp op [a] pos) t := by
  cases op with
  | And => exact pw_and1 h
  | Or => exact pw_or1 h
theorem pwd_and (ha : PT X a (tT (XC X Γ) W ga)) (hb : PW X (.BoolOp .And (b :: rest) pos) (tT (XC X Γ) W gb)) : PW X (.BoolOp .And (a :: b :: rest) pos) (tT (XC X Γ) W (gAnd ga gb)) := pwImp (pw_and ha hb) fun σ H Q h => by
  obtain ⟨w, env, st, r, p⟩ := t1 (Da := dnB) h
  refine ⟨w, env, st, r, p.mono ?_⟩
  rintro x H1 ⟨w1, env1, st1, d, r1, d1, p1⟩
  cases (show x = d from d1)
  cases x with
  | true =>
    rw [if_pos rfl] at p1 ⊢
    exact ⟨w1, env1, st1, r1, p1⟩
  | false =>
    rw [if_neg Bool.false_ne_true] at p1 ⊢
    exact Post.ok (Da := dnB) (x := false) r1 p1 rfl
theorem pwd_or (ha : PT X a (tT (XC X Γ) W ga)) (hb : PW X (.BoolOp .Or (b :: rest) pos) (tT (XC X Γ) W gb)) : PW X (.BoolOp .Or (a :: b :: rest) pos) (tT (XC X Γ) W (gOr ga gb)) := pwImp (pw_or ha hb) fun σ H Q h => by
  obtain ⟨w, env, st, r, p⟩ := t1 (Da := dnB) h
  refine ⟨w, env, st, r, p.mono ?_⟩
  rintro x H1 ⟨w1, env1, st1, d, r1, d1, p1⟩
  cases (show x = d from d1)
  cases x with
  | true =>
    rw [if_pos rfl] at p1 ⊢
    exact Post.ok (Da := dnB) (x := true) r1 p1 rfl
  | false =>
    rw [if_neg Bool.false_ne_true] at p1 ⊢
    exact ⟨w1, env1, st1, r1, p1⟩
theorem ptd_not (ha : PT X a (tT (XC X Γ) W ga)) : PT X (.UnaryOp .Not a pos) (tT (XC X Γ) W (gNot ga)) := ptImp (pt_not ha) fun σ H Q h => by
  obtain ⟨w, env, st, r, p⟩ := t1 (Da := dnB) h
  refine ⟨w, env, st, r, p.mono ?_⟩
  rintro x H1 ⟨w1, env1, st1, d, r1, d1, p1⟩
  cases (show x = d from d1)
  exact Post.ok (Da := dnB) (x := !x) r1 p1 rfl
def dAnd (f g : EF) : EF := fun env st => (f env st).bind fun d st => match d with
  | .bl true => g env st
  | .bl false => .ok (.bl false) st
  | _ => .bad
def dOr (f g : EF) : EF := fun env st => (f env st).bind fun d st => match d with
  | .bl true => .ok (.bl true) st
  | .bl false => g env st
  | _ => .bad
def dNot (f : EF) : EF := fun env st => (f env st).bind fun d st => match d with
  | .bl b => .ok (.bl (!b)) st
  | _ => .bad
theorem pd_one {op : BoolOp} {t : TE} (h : PE X a t) : PE X (.BoolOp op [a] pos) t := pe_one h
theorem pd_and (ha : PE X a (tD (XC X Γ) W fa)) (hb : PE X (.BoolOp .And (b :: rest) pos) (tD (XC X Γ) W fb)) : PE X (.BoolOp .And (a :: b :: rest) pos) (tD (XC X Γ) W (dAnd fa fb)) := peImp (pe_and ha hb) fun σ H Q h => by
  obtain ⟨w, env, st, r, p⟩ := t1 (Da := Den) h
  refine ⟨w, env, st, r, p.mono ?_⟩
  rintro x H1 ⟨w1, env1, st1, d, r1, d1, p1⟩
  cases d with
  | bl v =>
    refine ⟨v, DenB.bl (w := w1) d1.b, ?_⟩
    cases v with
    | true =>
      rw [if_pos rfl]
      exact ⟨w1, env1, st1, r1, p1⟩
    | false =>
      rw [if_neg Bool.false_ne_true]
      exact Post.ok r1 p1 (.bl _)
  | _ => exact p1.elim
theorem pd_not (ha : PE X a (tD (XC X Γ) W fa)) : PE X (.UnaryOp .Not a pos) (tD (XC X Γ) W (dNot fa)) := peImp (pe_not ha) fun σ H Q h => by
  obtain ⟨w, env, st, r, p⟩ := t1 (Da := Den) h
  refine ⟨w, env, st, r, p.mono ?_⟩
  rintro x H1 ⟨w1, env1, st1, d, r1, d1, p1⟩
  cases d with
  | bl v => exact ⟨v, DenB.bl (w := w1) d1.b, Post.ok r1 p1 (.bl _)⟩
  | _ => exact p1.elim
def dIf (g : TF) (f h : EF) : EF := fun env st => (g env st).bind fun b st => if b = true then f env st else h env st
theorem pd_if (hc : PT X c (tT (XC X Γ) W g)) (ha : PE X a (tD (XC X Γ) W fa)) (hb : PE X b (tD (XC X Γ) W fb)) : PE X (.IfExp c a b pos) (tD (XC X Γ) W (dIf g fa fb)) := peImp (pe_ifExp hc ha hb) fun σ H Q h => by
  obtain ⟨w, env, st, r, p⟩ := t1 (Da := dnB) h
  refine ⟨w, env, st, r, p.mono ?_⟩
  rintro x H1 ⟨w1, env1, st1, d, r1, d1, p1⟩
  cases (show x = d from d1)
  cases x with
  | true =>
    rw [if_pos rfl] at p1 ⊢
    exact ⟨w1, env1, st1, r1, p1⟩
  | false =>
    rw [if_neg Bool.false_ne_true] at p1 ⊢
    exact ⟨w1, env1, st1, r1, p1⟩
def dNeg (f : EF) : EF := fun env st => (f env st).bind fun d st => match d with
  | .int i => .ok (.int (-i)) st
  | _ => .bad
theorem pd_neg (ha : PE X a (tD (XC X Γ) W fa)) : PE X (.UnaryOp .USub a pos) (tD (XC X Γ) W (dNeg fa)) := peImp (pe_un un_neg ha) fun σ H Q h => by
  obtain ⟨w, env, st, r, p⟩ := t1 (Da := Den) h
  refine ⟨w, env, st, r, p.mono ?_⟩
  rintro x H1 ⟨w1, env1, st1, d, r1, d1, p1⟩
  cases d with
  | int v => exact ⟨v, DenB.int (w := w1) d1.b, Post.ok r1 p1 (.int _)⟩
  | _ => exact p1.elim
end
end AM
namespace AM
open PySem PySem.Spec PyProof.Rows L2
section
variable {X : Cx} {Γ : Nat → Addr} {W : WX} {e a b c : Expr} {es : List Expr} {f fa fb fc : EF} {fs : EFs} {pos : Pos}
def dNil : EFs := fun _ st => .ok [] st
def dCons (f : EF) (fs : EFs) : EFs := fun env st => (f env st).bind fun d st1 => (fs env st1).bind fun ds st2 => .ok (d :: ds) st2
theorem pad_nil : PA X [] (tDs (XC X Γ) W dNil) := paImp pa_nil fun σ H Q ⟨w, env, st, r, p⟩ => Post.ok (Da := Dens) r p .nil
theorem pad_cons (ha : PE X e (tD (XC X Γ) W f)) (hr : PA X es (tDs (XC X Γ) W fs)) (hs : starEach (e :: es) X.env = (false, eval e X.env) :: starEach es X.env := by rfl) : PA X (e :: es) (tDs (XC X Γ) W (dCons f fs)) :=
  paImp (pa_cons ha hr hs) fun σ H Q h => by
    obtain ⟨w, env, st, rl, p⟩ := t2 (Da := Den) (Db := Dens) (g := fun env a st => fs env st) (k := fun env a b st => .ok (a :: b) st) lastsD h
    refine ⟨w, env, st, rl, p.mono ?_⟩
    rintro x H1 ⟨w1, env1, st1, a, r1, d1, p1⟩
    refine ⟨w1, env1, st1, r1, p1.mono ?_⟩
    rintro y H2 ⟨w2, st2, b, r2, d2, d3, p2⟩
    exact Post.ok (Da := Dens) r2 p2 (.cons d2 d3)
def dTup (fs : EFs) : EF := fun env st => (fs env st).bind fun ds st => if ds.length ≤ sizeLine then .ok (.tup ds) st else .bad
def dLst (fs : EFs) : EF := fun env st => (fs env st).bind fun ds st => if ds.length ≤ sizeLine then .ok (.lst ds) st else .bad
theorem pd_tup {x1} (h : PA X es (tDs (XC X Γ) W fs)) : PE X (.Tuple es x1 pos) (tD (XC X Γ) W (dTup fs)) := peImp (pe_tup h) fun σ H Q hq => by
  obtain ⟨w, env, st, r, p⟩ := t1 (Da := Dens) hq
  refine ⟨w, env, st, r, p.mono ?_⟩
  rintro x H1 ⟨w1, env1, st1, d, r1, d1, p1⟩
  by_cases hz : d.length ≤ sizeLine
  · rw [if_pos hz] at p1
    exact ⟨by rw [d1.length]; exact hz, fun pp hp => p1.newTup r1 d1 hp⟩
  · rw [if_neg hz] at p1; exact p1.elim
theorem pd_lst (h : PA X es (tDs (XC X Γ) W fs)) : PE X (.List es pos) (tD (XC X Γ) W (dLst fs)) := peImp (pe_lst h) fun σ H Q hq => by
  obtain ⟨w, env, st, r, p⟩ := t1 (Da := Dens) hq
  refine ⟨w, env, st, r, p.mono ?_⟩
  rintro x H1 ⟨w1, env1, st1, d, r1, d1, p1⟩
  by_cases hz : d.length ≤ sizeLine
  · rw [if_pos hz] at p1
    exact ⟨by rw [d1.length]; exact hz, fun pp hp => p1.newLst r1 d1 hp⟩
  · rw [if_neg hz] at p1; exact p1.elim
def oIx : Op2 := fun a b st => match b with
  | .int i => (match a with
    | .tup ds => go (atI ds i) st
    | .lst ds => go (atI ds i) st
    | .fz ds => go (atI ds i) st
    | .str s => if s.length ≤ sizeLine then go ((atI s.cps.toList i).map fun c => .str (mk [c])) st else .bad
    | .hd n => (match st[n]? with
      | some (.lst ds) => go (atI ds i) st
      | _ => .bad)
    | _ => .bad)
  | _ => .bad
where
  go (o : Option D) (st : Sto) : Res D := match o with
    | some d => .ok d st
    | none => .bad
theorem Dens.atI {K : Ct} {ρ : List Addr} {S : Addr → Prop} {H : Hp} {vs : List V} {ds : List D} {i : Int} {d : D} (h : Dens K ρ S H vs ds) (e : L2.atI ds i = some d) : ∃ v, L2.atI vs i = some v ∧ Den K ρ S H v d := by
  unfold L2.atI at e ⊢
  rw [h.length]
  cases q : ixN ds.length i with
  | none => rw [q] at e; cases e
  | some j => rw [q] at e; exact h.get e
theorem ixr {k : Op2} (h : ∀ (w : Wd) (env : AEnv) (st : Sto) (σ : St) (H : Hp) (x y : V) (a b : D) (Q : VK), Rel (XC X Γ) w env st σ H → DenB (XC X Γ) w.ρ w.S H x a → DenB (XC X Γ) w.ρ w.S H y b → Post Den (XC X Γ) W w H σ (k a b st) Q →
    ∃ r : R2, IxR X r ∧ r x y H Q) : IxR X (rD2 (XC X Γ) W k) := fun value slice pins s σ H x y v u Q I rx ry ⟨w, env, st, σ', a, b, r, d1, d2, p⟩ hs => by
  obtain ⟨rr, ho, q⟩ := h w env st σ' H x y a b Q r d1 d2 p
  exact ho value slice pins s σ H x y v u Q I rx ry q hs
theorem ixd : IxR X (rD2 (XC X Γ) W oIx) := ixr fun w env st σ H x y a b Q r d1 d2 p => by
  cases b with
  | int i =>
    have li : ∀ {ds : List D} {vs : List V} {q : Addr}, Dens (XC X Γ) w.ρ w.S H vs ds → x = .ref q → SqL X.K H q vs → Post Den (XC X Γ) W w H σ (oIx.go (atI ds i) st) Q → ∃ r : R2, IxR X r ∧ r x y H Q := fun {ds vs q} t e1 hq p => by
      cases e : atI ds i with
      | none => rw [e] at p; exact p.elim
      | some d =>
        rw [e] at p
        obtain ⟨v, h1, h2⟩ := t.atI e
        exact ⟨_, ix_list, q, vs, i, v, e1, d2.int, hq, h1, Post.ok r p h2⟩
    cases a with
    | tup ds =>
      obtain ⟨q, vs, e1, hq, t⟩ := d1.tup
      have p : Post Den (XC X Γ) W w H σ (oIx.go (atI ds i) st) Q := p
      cases e : atI ds i with
      | none => rw [e] at p; exact p.elim
      | some d =>
        rw [e] at p
        obtain ⟨v, h1, h2⟩ := t.atI e
        exact ⟨_, ix_tup, q, vs, i, v, e1, d2.int, hq, h1, Post.ok r p h2⟩
    | lst ds =>
      obtain ⟨q, vs, e1, hq, _, t⟩ := d1.lst
      exact li t e1 (SqL.of hq) p
    | fz ds =>
      obtain ⟨q, vs, e1, hq, t⟩ := d1.fz
      exact li t e1 hq.sql p
    | str s =>
      have p : Post Den (XC X Γ) W w H σ (if s.length ≤ sizeLine then oIx.go ((atI s.cps.toList i).map fun c => .str (mk [c])) st else .bad) Q := p
      split at p
      · rename_i hz
        cases e : atI s.cps.toList i with
        | none => rw [e] at p; exact p.elim
        | some d =>
          rw [e] at p
          exact ⟨_, ix_str, s, i, d, d1.str, d2.int, hz, e, Post.ok r p (.str _)⟩
      · exact p.elim
    | hd n =>
      obtain ⟨q, e1, e2⟩ := d1.hd
      have p : Post Den (XC X Γ) W w H σ (match st[n]? with
        | some (.lst ds) => oIx.go (atI ds i) st
        | _ => .bad) Q := p
      split at p
      · rename_i ds e3
        obtain ⟨vs, hq, t⟩ := r.cellL e2 e3
        exact li t e1 (SqL.of hq) p
      · exact p.elim
    | _ => exact p.elim
  | _ => cases a <;> exact p.elim
theorem pd_ix (ha : PE X a (tDB (XC X Γ) W fa)) (hb : PE X b (tDB (XC X Γ) W fb)) (hs : PlainIx b := by intro _ _; rfl) : PE X (.Subscript a b pos) (tD (XC X Γ) W (dOp2 oIx fa fb)) := peImp (pe_ix ixd ha hb hs) fun _ _ _ h => dOp2_ok h fun _ _ _ _ q => q
abbrev OF := AEnv → Sto → Res (Option Int)
def dnO : DnT (Option Int) (Option Int) := fun _ _ _ _ a b => a = b
abbrev tO (K : Ct) (W : WX) (f : OF) : TO := tG (α := Option Int) (β := Option Int) dnO K W f
theorem poImp {e : Option Expr} {t t' : TO} (h : PO X e t) (i : ∀ σ H Q, t' σ H Q → t σ H Q) : PO X e t' := ⟨fun pins s σ H Q I hw => h.run pins s σ H Q I (i σ H Q hw)⟩
def oNo : OF := fun _ st => .ok none st
def oSo (f : EF) : OF := fun env st => (f env st).bind fun d st => match d with
  | .int i => .ok (some i) st
  | _ => .bad
theorem pod_none : PO X none (tO (XC X Γ) W oNo) := poImp po_none fun σ H Q ⟨w, env, st, r, p⟩ => Post.ok (Da := dnO) (x := none) r p rfl
theorem pod_some (h : PE X e (tD (XC X Γ) W f)) : PO X (some e) (tO (XC X Γ) W (oSo f)) := poImp (po_some h) fun σ H Q hq => by
  obtain ⟨w, env, st, r, p⟩ := t1 (Da := Den) hq
  refine ⟨w, env, st, r, p.mono ?_⟩
  rintro x H1 ⟨w1, env1, st1, d, r1, d1, p1⟩
  cases d with
  | int i => exact ⟨i, DenB.int (w := w1) d1.b, Post.ok (Da := dnO) (x := some i) r1 p1 rfl⟩
  | _ => exact p1.elim
def cutL {α : Type} (xs : List α) (lo hi : Option Int) : List α := (xs.drop (HT.sIx xs.length 0 lo)).take (HT.sIx xs.length xs.length hi - HT.sIx xs.length 0 lo)
def oSl (a : D) (lo hi : Option Int) (st : Sto) : Res D := match a with
  | .tup ds => .ok (.tup (cutL ds lo hi)) st
  | .lst ds => .ok (.lst (cutL ds lo hi)) st
  | .fz ds => .ok (.lst (cutL ds lo hi)) st
  | .str s => if s.length ≤ sizeLine then .ok (.str (mk (cutL s.cps.toList lo hi))) st else .bad
  | _ => .bad
def dSl (f : EF) (lo hi : OF) : EF := fun env st => (f env st).bind fun d st1 => (lo env st1).bind fun l st2 => (hi env st2).bind fun h st3 => oSl d l h st3
theorem Dens.cut {K : Ct} {ρ : List Addr} {S : Addr → Prop} {H : Hp} {vs : List V} {ds : List D} (h : Dens K ρ S H vs ds) (lo hi : Option Int) : Dens K ρ S H (cutV vs lo hi) (cutL ds lo hi) := by
  unfold cutV cutL
  rw [h.length]
  exact (h.drop _).take _
theorem pd_slice {lo hi : Option Expr} {gl gh : OF} {p2 : Pos} (he : PE X e (tDB (XC X Γ) W f)) (hl : PO X lo (tO (XC X Γ) W gl)) (hh : PO X hi (tO (XC X Γ) W gh)) : PE X (.Subscript e (.Slice lo hi none p2) pos) (tD (XC X Γ) W (dSl f gl gh)) := by
  refine peImp (pe_slice (r := fun x l h H Q => ∃ w env st σ a, Rel (XC X Γ) w env st σ H ∧ DenB (XC X Γ) w.ρ w.S H x a ∧ Post Den (XC X Γ) W w H σ (oSl a l h st) Q) ?_ he hl hh) ?_
  · intro pins s σ H x v vl vu lo hi sl Q I rx hs pl pu ⟨w, env, st, σ', a, r, d1, p⟩
    cases a with
    | tup ds =>
      obtain ⟨q, vs, e1, hq, t⟩ := d1.tup
      refine sl_tupA pins s σ H x v vl vu lo hi sl Q I rx hs pl pu ⟨q, vs, e1, hq, fun z => ?_, fun _ pp hp => p.newTup r (t.cut lo hi) hp⟩
      have e : cutL ds lo hi = ds := by
        unfold cutL
        rw [← t.length, z.1, z.2, List.drop_zero, Nat.sub_zero, t.length, List.take_length]
      have p : Post Den (XC X Γ) W w H σ' (.ok (.tup (cutL ds lo hi)) st) Q := p
      rw [e] at p
      exact Post.ok r p (.tup hq t)
    | lst ds =>
      obtain ⟨q, vs, e1, hq, _, t⟩ := d1.lst
      exact sl_list pins s σ H x v vl vu lo hi sl Q I rx hs pl pu ⟨q, vs, e1, SqL.of hq, fun pp hp => p.newLst r (t.cut lo hi) hp⟩
    | fz ds =>
      obtain ⟨q, vs, e1, hq, t⟩ := d1.fz
      exact sl_list pins s σ H x v vl vu lo hi sl Q I rx hs pl pu ⟨q, vs, e1, hq.sql, fun pp hp => p.newLst r (t.cut lo hi) hp⟩
    | str z =>
      have p : Post Den (XC X Γ) W w H σ' (if z.length ≤ sizeLine then .ok (.str (mk (cutL z.cps.toList lo hi))) st else .bad) Q := p
      split at p
      · rename_i hz
        refine sl_str pins s σ H x v vl vu lo hi sl Q I rx hs pl pu ⟨z, d1.str, hz, ?_⟩
        have e : cutS z lo hi = mk (cutL z.cps.toList lo hi) := by
          unfold cutS mk cutL
          rw [Array.length_toList]
          rfl
        rw [e]
        exact Post.ok r p (.str _)
      · exact p.elim
    | _ => exact p.elim
  · intro σ H Q h
    obtain ⟨w, env, st, rl, p⟩ := t2 (Da := DenB) (Db := dnO) (g := fun env a st => gl env st) (k := fun env a b st => (gh env st).bind fun h st3 => oSl a b h st3) lastsDB h
    refine ⟨w, env, st, rl, p.mono ?_⟩
    rintro x H1 ⟨w1, env1, st1, a, r1, d1, p1⟩
    refine ⟨w1, env1, st1, r1, p1.mono ?_⟩
    rintro y H2 ⟨w2, st2, b, r2, d2, d3, p2⟩
    cases (show y = b from d3)
    refine ⟨w2, env1, st2, r2, (Post.bind (Da := dnO) r2 p2).mono ?_⟩
    rintro z H3 ⟨w3, st3, c, r3, e3, x3, d4, p3⟩
    cases (show z = c from d4)
    exact ⟨w3, env1, st3, σ, a, r3, lastsDB r2 e3 x3 d2, p3⟩
abbrev Op1 := D → Sto → Res D
def dOp1 (k : Op1) (f : EF) : EF := fun env st => (f env st).bind fun d st => k d st
def rC1 (K : Ct) (W : WX) (k : Op1) : List V → Hp → VK → Prop := fun xs H Q => ∃ w env st σ x a, xs = [x] ∧ Rel K w env st σ H ∧ DenB K w.ρ w.S H x a ∧ Post Den K W w H σ (k a st) Q
def rC2 (K : Ct) (W : WX) (k : Op2) : List V → Hp → VK → Prop := fun xs H Q => ∃ w env st σ x y a b, xs = [x, y] ∧ Rel K w env st σ H ∧ DenB K w.ρ w.S H x a ∧ DenB K w.ρ w.S H y b ∧ Post Den K W w H σ (k a b st) Q
theorem c1_ok {K : Ct} {k : Op1} {σ : St} {H : Hp} {Q : VK} (h : tD K W (dOp1 k f) σ H Q) : tCB (rC1 K W k) (tCons (tDB K W f) tNil) σ H Q := by
  obtain ⟨w, env, st, r, p⟩ := t1 (Da := DenB) h
  refine ⟨w, env, st, r, p.mono ?_⟩
  rintro x H1 ⟨w1, env1, st1, d, r1, d1, p1⟩
  exact ⟨w1, env1, st1, σ, x, d, rfl, r1, d1, p1⟩
theorem c2_ok {K : Ct} {k : Op2} {σ : St} {H : Hp} {Q : VK} (h : tD K W (dOp2 k fa fb) σ H Q) : tCB (rC2 K W k) (tCons (tDB K W fa) (tCons (tDB K W fb) tNil)) σ H Q := by
  obtain ⟨w, env, st, rl, p⟩ := t2 (Da := DenB) (Db := DenB) (g := fun env a st => fb env st) (k := fun env a b st => k a b st) lastsDB h
  refine ⟨w, env, st, rl, p.mono ?_⟩
  rintro x H1 ⟨w1, env1, st1, a, r1, d1, p1⟩
  refine ⟨w1, env1, st1, r1, p1.mono ?_⟩
  rintro y H2 ⟨w2, st2, b, r2, d2, d3, p2⟩
  exact ⟨w2, env1, st2, σ, x, y, a, b, rfl, r2, d2, d3, p2⟩
theorem pd_call1 {id : String} {k : Op1} {x : Str} {p : Pos} (hc : CallR X (.builtin id) (rC1 (XC X Γ) W k)) (hm : X.mg x = none) (ha : PE X e (tDB (XC X Γ) W f)) (hv : bootBuiltins x = some (.builtin id) := by decide +kernel) (hg : Gl X x := by rfl) (hn : x ≠ "__name__" := by decide) (hdb : (x == ("__debug__" : Str)) = false := by decide)
    (he : starEach (e :: []) X.env = (false, eval e X.env) :: starEach [] X.env := by rfl) (hpl : (backTo pos (starEach [] X.env)).any (·.1) = false := by rfl) : PE X (.Call (.Name x p) [e] [] pos) (tD (XC X Γ) W (dOp1 k f)) :=
  peImp (pe_callB hc hg hm hv (pa_cons ha pa_nil he) hn hdb he hpl) fun _ _ _ h => c1_ok h
theorem pd_callT1 {T : String} {k : Op1} {x : Str} {p : Pos} (hc : CallR X (.type T) (rC1 (XC X Γ) W k)) (hm : X.mg x = none) (ha : PE X e (tDB (XC X Γ) W f)) (hv : bootBuiltins x = some (.type T) := by decide +kernel) (hg : Gl X x := by rfl) (hn : x ≠ "__name__" := by decide) (hdb : (x == ("__debug__" : Str)) = false := by decide)
    (he : starEach (e :: []) X.env = (false, eval e X.env) :: starEach [] X.env := by rfl) (hpl : (backTo pos (starEach [] X.env)).any (·.1) = false := by rfl) : PE X (.Call (.Name x p) [e] [] pos) (tD (XC X Γ) W (dOp1 k f)) :=
  peImp (pe_callTy hc hg hm hv (pa_cons ha pa_nil he) hn hdb he hpl) fun _ _ _ h => c1_ok h
theorem pd_call2 {id : String} {k : Op2} {x : Str} {p : Pos} (hc : CallR X (.builtin id) (rC2 (XC X Γ) W k)) (hm : X.mg x = none) (ha : PE X a (tDB (XC X Γ) W fa)) (hb : PE X b (tDB (XC X Γ) W fb)) (hv : bootBuiltins x = some (.builtin id) := by decide +kernel) (hg : Gl X x := by rfl) (hn : x ≠ "__name__" := by decide) (hdb : (x == ("__debug__" : Str)) = false := by decide)
    (he : starEach (a :: [b]) X.env = (false, eval a X.env) :: starEach [b] X.env := by rfl) (he2 : starEach (b :: []) X.env = (false, eval b X.env) :: starEach [] X.env := by rfl) (hpl : (backTo pos (starEach [b] X.env)).any (·.1) = false := by rfl) : PE X (.Call (.Name x p) [a, b] [] pos) (tD (XC X Γ) W (dOp2 k fa fb)) :=
  peImp (pe_callB hc hg hm hv (pa_cons ha (pa_cons hb pa_nil he2) he) hn hdb he hpl) fun _ _ _ h => c2_ok h
theorem cr1 {g : Value} {k : Op1} (h : ∀ (w : Wd) (env : AEnv) (st : Sto) (σ : St) (H : Hp) (x : V) (a : D) (Q : VK), Rel (XC X Γ) w env st σ H → DenB (XC X Γ) w.ρ w.S H x a → Post Den (XC X Γ) W w H σ (k a st) Q →
    ∃ r, CallR X g r ∧ r [x] H Q) : CallR X g (rC1 (XC X Γ) W k) := fun pins s σ H xs us Q I rs ⟨w, env, st, σ', x, a, e, r, d1, p⟩ => by
  subst e
  obtain ⟨rr, ho, q⟩ := h w env st σ' H x a Q r d1 p
  exact ho pins s σ H _ us Q I rs q
theorem cr2 {g : Value} {k : Op2} (h : ∀ (w : Wd) (env : AEnv) (st : Sto) (σ : St) (H : Hp) (x y : V) (a b : D) (Q : VK), Rel (XC X Γ) w env st σ H → DenB (XC X Γ) w.ρ w.S H x a → DenB (XC X Γ) w.ρ w.S H y b → Post Den (XC X Γ) W w H σ (k a b st) Q →
    ∃ r, CallR X g r ∧ r [x, y] H Q) : CallR X g (rC2 (XC X Γ) W k) := fun pins s σ H xs us Q I rs ⟨w, env, st, σ', x, y, a, b, e, r, d1, d2, p⟩ => by
  subst e
  obtain ⟨rr, ho, q⟩ := h w env st σ' H x y a b Q r d1 d2 p
  exact ho pins s σ H _ us Q I rs q
def oLen : Op1 := fun a st => match a with
  | .tup ds => .ok (.int ds.length) st
  | .lst ds => .ok (.int ds.length) st
  | .fz ds => .ok (.int ds.length) st
  | .str s => if s.length ≤ sizeLine then .ok (.int s.length) st else .bad
  | _ => .bad
theorem cd_len : CallR X (.builtin "len") (rC1 (XC X Γ) W oLen) := cr1 fun w env st σ H x a Q r d p => by
  cases a with
  | tup ds =>
    obtain ⟨q, vs, e1, hq, t⟩ := d.tup
    exact ⟨_, call_len_seq, q, vs, by rw [e1], .inr hq, by rw [t.length]; exact Post.ok r p (.int _)⟩
  | lst ds =>
    obtain ⟨q, vs, e1, hq, _, t⟩ := d.lst
    exact ⟨_, call_len_seq, q, vs, by rw [e1], .inl (SqL.of hq), by rw [t.length]; exact Post.ok r p (.int _)⟩
  | fz ds =>
    obtain ⟨q, vs, e1, hq, t⟩ := d.fz
    exact ⟨_, call_len_seq, q, vs, by rw [e1], .inl hq.sql, by rw [t.length]; exact Post.ok r p (.int _)⟩
  | str s =>
    have p : Post Den (XC X Γ) W w H σ (if s.length ≤ sizeLine then .ok (.int s.length) st else .bad) Q := p
    split at p
    · rename_i hz
      exact ⟨_, call_len_str, s, by rw [d.str], hz, Post.ok r p (.int _)⟩
    · exact p.elim
  | _ => exact p.elim
def oAbs : Op1 := fun a st => match a with
  | .int i => .ok (.int (if i < 0 then -i else i)) st
  | _ => .bad
theorem cd_abs : CallR X (.builtin "abs") (rC1 (XC X Γ) W oAbs) := cr1 fun w env st σ H x a Q r d p => by
  cases a with
  | int i => exact ⟨_, call_abs, i, by rw [d.int], Post.ok r p (.int _)⟩
  | _ => exact p.elim
def oMax : Op2 := fun a b st => match a, b with
  | .int i, .int j => .ok (.int (if j > i then j else i)) st
  | _, _ => .bad
def oMin : Op2 := fun a b st => match a, b with
  | .int i, .int j => .ok (.int (if j < i then j else i)) st
  | _, _ => .bad
theorem cd_max (hc : X.calm = true) : CallR X (.builtin "max") (rC2 (XC X Γ) W oMax) := cr2 fun w env st σ H x y a b Q r d1 d2 p => by
  cases a with
  | int i =>
    cases b with
    | int j => exact ⟨_, call_max2 hc, i, j, by rw [d1.int, d2.int], Post.ok r p (.int _)⟩
    | _ => exact p.elim
  | _ => exact p.elim
theorem cd_min (hc : X.calm = true) : CallR X (.builtin "min") (rC2 (XC X Γ) W oMin) := cr2 fun w env st σ H x y a b Q r d1 d2 p => by
  cases a with
  | int i =>
    cases b with
    | int j => exact ⟨_, call_min2 hc, i, j, by rw [d1.int, d2.int], Post.ok r p (.int _)⟩
    | _ => exact p.elim
  | _ => exact p.elim
def oDivmod : Op2 := fun a b st => match a, b with
  | .int i, .int j => if 0 < j ∧ j.natAbs.log2 < 9000 then .ok (.tup [.int (i / j), .int (i % j)]) st else .bad
  | _, _ => .bad
theorem cd_divmod : CallR X (.builtin "divmod") (rC2 (XC X Γ) W oDivmod) := cr2 fun w env st σ H x y a b Q r d1 d2 p => by
  cases a with
  | int i =>
    cases b with
    | int j =>
      have p : Post Den (XC X Γ) W w H σ (if 0 < j ∧ j.natAbs.log2 < 9000 then .ok (.tup [.int (i / j), .int (i % j)]) st else .bad) Q := p
      split at p
      · rename_i hz
        exact ⟨_, call_divmodW, i, j, by rw [d1.int, d2.int], ⟨hz.1, PyProof.noPylong_of_log2 hz.2⟩, fun pp hp => p.newTup r (.cons (.int _) (.cons (.int _) .nil)) hp⟩
      · exact p.elim
    | _ => exact p.elim
  | _ => exact p.elim
def oIntT : Op1 := fun a st => match a with
  | .int i => .ok (.int i) st
  | .bl k => .ok (.int (if k then 1 else 0)) st
  | .str s => (match PySem.intText? s with
    | some n => if s.length ≤ 640 then .ok (.int n) st else .bad
    | none => .bad)
  | _ => .bad
theorem cd_int : CallR X (.type "int") (rC1 (XC X Γ) W oIntT) := cr1 fun w env st σ H x a Q r d p => by
  cases a with
  | int i => exact ⟨_, call_int1, .inl ⟨i, by rw [d.int], Post.ok r p (.int _)⟩⟩
  | bl k => exact ⟨_, call_int1, .inr ⟨k, by rw [d.bl], Post.ok r p (.int _)⟩⟩
  | str s =>
    have p : Post Den (XC X Γ) W w H σ (match PySem.intText? s with
    | some n => if s.length ≤ 640 then .ok (.int n) st else .bad
    | none => .bad) Q := p
    cases e : PySem.intText? s with
    | none => rw [e] at p; exact p.elim
    | some n =>
      rw [e] at p
      have p : Post Den (XC X Γ) W w H σ (if s.length ≤ 640 then .ok (.int n) st else .bad) Q := p
      split at p
      · rename_i hz
        exact ⟨_, call_int_str, s, n, by rw [d.str], e, hz, Post.ok r p (.int _)⟩
      · exact p.elim
  | _ => exact p.elim
def oTupT : Op1 := fun a st => match a with
  | .tup ds => .ok (.tup ds) st
  | .lst ds => .ok (.tup ds) st
  | _ => .bad
theorem cd_tuple : CallR X (.type "tuple") (rC1 (XC X Γ) W oTupT) := cr1 fun w env st σ H x a Q r d p => by
  cases a with
  | tup ds =>
    obtain ⟨q, vs, e1, hq, t⟩ := d.tup
    exact ⟨_, call_tuple_of, q, vs, by rw [e1], .inr ⟨hq, Post.ok r p (.tup hq t)⟩⟩
  | lst ds =>
    obtain ⟨q, vs, e1, hq, _, t⟩ := d.lst
    exact ⟨_, call_tuple_of, q, vs, by rw [e1], .inl ⟨SqL.of hq, fun pp hp => p.newTup r t hp⟩⟩
  | _ => exact p.elim
def signs (s : Str) : List D := s.cps.toList.map fun c => .str (mk [c])
def oLstT : Op1 := fun a st => match a with
  | .tup ds => .ok (.lst ds) st
  | .lst ds => .ok (.lst ds) st
  | .str s => if s.length ≤ sizeLine then .ok (.lst (signs s)) st else .bad
  | _ => .bad
theorem vals_sg : ∀ (l : List Nat) (us : List Value), us.length = l.length → (∀ (j : Nat) v, us[j]? = some v → ∃ c u, l[j]? = some c ∧ v = Value.str ⟨#[c]⟩ u) → Vals (l.map fun c => V.str (mk [c])) us
  | [], [], _, _ => .nil
  | c :: l, u :: us, hl, h => by
    obtain ⟨c', t, e1, e2⟩ := h 0 u rfl
    cases e1
    exact .cons ⟨t, e2⟩ (vals_sg l us (by simpa using hl) fun j v hj => h (j + 1) v hj)
  | [], _ :: _, hl, _ => by simp at hl
  | _ :: _, [], hl, _ => by simp at hl
theorem dens_sg {K : Ct} {ρ : List Addr} {S : Addr → Prop} {H : Hp} : ∀ l : List Nat, Dens K ρ S H (l.map fun c => V.str (mk [c])) (l.map fun c => .str (mk [c]))
  | [] => .nil
  | _ :: l => .cons (.str _) (dens_sg l)
theorem call_list_sg (hc : X.calm = true) : CallR X (.type "list") (fun xs H Q => ∃ x : Str, xs = [V.str x] ∧ x.length ≤ sizeLine ∧ ∀ p, H p = none → Q (.ref p) (upd H p (.lst (x.cps.toList.map fun c => V.str (mk [c]))))) := by
  intro pins s σ H xs us Q I r h
  obtain ⟨x, rfl, hz, q⟩ := h
  obtain ⟨u, rfl, rx⟩ := vals1 r
  obtain ⟨t, rfl⟩ := rx
  refine call_list_str (I.ok.hd hc) x t (hn := hz) fun h' tk acc' c' kp e it => ?_
  refine ⟨.ref s.heap.objs.size, _, I.laid kp (Nat.le_refl _) (show ObjOk X.prog X.w _ h' _ (.lst _) from ⟨by rw [List.length_map]; exact hz, acc'.toList, c', vals_sg _ _ (by rw [Array.length_toList, it.1]; rfl) fun j v hj => ?_, by simpa using e⟩), rfl, q _ (I.hok.fresh (Nat.le_refl _))⟩
  obtain ⟨c, u, h1, h2⟩ := it.2 j v (by rw [← Array.getElem?_toList]; exact hj)
  exact ⟨c, u, by rw [Array.getElem?_toList]; exact h1, h2⟩
theorem cd_list (hc : X.calm = true) : CallR X (.type "list") (rC1 (XC X Γ) W oLstT) := cr1 fun w env st σ H x a Q r d p => by
  cases a with
  | tup ds =>
    obtain ⟨q, vs, e1, hq, t⟩ := d.tup
    exact ⟨_, call_list_of, q, vs, by rw [e1], .inr hq, fun pp hp => p.newLst r t hp⟩
  | lst ds =>
    obtain ⟨q, vs, e1, hq, _, t⟩ := d.lst
    exact ⟨_, call_list_of, q, vs, by rw [e1], .inl (SqL.of hq), fun pp hp => p.newLst r t hp⟩
  | str x =>
    have e1 := d.str
    have p2 : Post Den (XC X Γ) W w H σ (if x.length ≤ sizeLine then .ok (.lst (signs x)) st else .bad) Q := p
    split at p2
    · rename_i hz
      refine ⟨_, call_list_sg hc, x, by rw [e1], hz, fun pp hp => p2.newLst r ?_ hp⟩
      unfold signs
      exact dens_sg _
    · exact p2.elim
  | _ => exact p.elim
def blsD : List D → Option (List Bool)
  | [] => some []
  | .bl b :: r => (blsD r).map (b :: ·)
  | _ => none
def intsD : List D → Option (List Int)
  | [] => some []
  | .int b :: r => (intsD r).map (b :: ·)
  | _ => none
def strsD : List D → Option (List Str)
  | [] => some []
  | .str b :: r => (strsD r).map (b :: ·)
  | _ => none
theorem Dens.bls {K : Ct} {ρ : List Addr} {S : Addr → Prop} {H : Hp} : ∀ {ds : List D} {vs : List V} {bs : List Bool}, Dens K ρ S H vs ds → blsD ds = some bs → vs = bs.map V.bl
  | [], _, _, .nil, e => by cases e; rfl
  | d :: ds, _, bs, .cons h t, e => by
    cases h with
    | bl b =>
      cases q : blsD ds with
      | none => unfold blsD at e; rw [q] at e; cases e
      | some cs => unfold blsD at e; rw [q] at e; cases e; rw [Dens.bls t q]; rfl
    | _ => cases e
theorem Dens.ints {K : Ct} {ρ : List Addr} {S : Addr → Prop} {H : Hp} : ∀ {ds : List D} {vs : List V} {bs : List Int}, Dens K ρ S H vs ds → intsD ds = some bs → vs = bs.map V.int
  | [], _, _, .nil, e => by cases e; rfl
  | d :: ds, _, bs, .cons h t, e => by
    cases h with
    | int b =>
      cases q : intsD ds with
      | none => unfold intsD at e; rw [q] at e; cases e
      | some cs => unfold intsD at e; rw [q] at e; cases e; rw [Dens.ints t q]; rfl
    | _ => cases e
theorem Dens.strs {K : Ct} {ρ : List Addr} {S : Addr → Prop} {H : Hp} : ∀ {ds : List D} {vs : List V} {bs : List Str}, Dens K ρ S H vs ds → strsD ds = some bs → vs = bs.map V.str
  | [], _, _, .nil, e => by cases e; rfl
  | d :: ds, _, bs, .cons h t, e => by
    cases h with
    | str b =>
      cases q : strsD ds with
      | none => unfold strsD at e; rw [q] at e; cases e
      | some cs => unfold strsD at e; rw [q] at e; cases e; rw [Dens.strs t q]; rfl
    | _ => cases e
def oAll : Op1 := fun a st => match a with
  | .lst ds => oOf ((blsD ds).map fun bs => bs.all id) st
  | _ => .bad
def oAny : Op1 := fun a st => match a with
  | .lst ds => oOf ((blsD ds).map fun bs => bs.any id) st
  | _ => .bad
def oSum : Op1 := fun a st => match a with
  | .lst ds => (match intsD ds with
    | some ns => .ok (.int ns.sum) st
    | none => .bad)
  | _ => .bad
theorem cd_all (hc : X.calm = true) : CallR X (.builtin "all") (rC1 (XC X Γ) W oAll) := cr1 fun w env st σ H x a Q r d p => by
  cases a with
  | lst ds =>
    obtain ⟨q, vs, e1, hq, _, t⟩ := d.lst
    have p : Post Den (XC X Γ) W w H σ (oOf ((blsD ds).map fun bs => bs.all id) st) Q := p
    cases e : blsD ds with
    | none => rw [e] at p; exact p.elim
    | some bs =>
      rw [e] at p
      exact ⟨_, cr_all hc, q, bs, by rw [e1], by rw [← t.bls e]; exact SqL.of hq, Post.ok r p (.bl _)⟩
  | _ => exact p.elim
theorem cd_any (hc : X.calm = true) : CallR X (.builtin "any") (rC1 (XC X Γ) W oAny) := cr1 fun w env st σ H x a Q r d p => by
  cases a with
  | lst ds =>
    obtain ⟨q, vs, e1, hq, _, t⟩ := d.lst
    have p : Post Den (XC X Γ) W w H σ (oOf ((blsD ds).map fun bs => bs.any id) st) Q := p
    cases e : blsD ds with
    | none => rw [e] at p; exact p.elim
    | some bs =>
      rw [e] at p
      exact ⟨_, cr_any hc, q, bs, by rw [e1], by rw [← t.bls e]; exact SqL.of hq, Post.ok r p (.bl _)⟩
  | _ => exact p.elim
theorem cd_sum (hc : X.calm = true) : CallR X (.builtin "sum") (rC1 (XC X Γ) W oSum) := cr1 fun w env st σ H x a Q r d p => by
  cases a with
  | lst ds =>
    obtain ⟨q, vs, e1, hq, _, t⟩ := d.lst
    have p : Post Den (XC X Γ) W w H σ (match intsD ds with
    | some ns => .ok (.int ns.sum) st
    | none => .bad) Q := p
    cases e : intsD ds with
    | none => rw [e] at p; exact p.elim
    | some bs =>
      rw [e] at p
      exact ⟨_, cr_sum hc, q, bs, by rw [e1], by rw [← t.ints e]; exact SqL.of hq, Post.ok r p (.int _)⟩
  | _ => exact p.elim
end
end AM
namespace AM
open PySem PySem.Spec PyProof.Rows L2
section
variable {X : Cx} {Γ : Nat → Addr} {W : WX} {e a b c o : Expr} {es : List Expr} {f fa fb fc : EF} {fs : EFs} {pos apos : Pos} {name : Str} {id : String}
abbrev SOp1 := Str → D → Sto → Res D
abbrev SOp0 := Str → Sto → Res D
def kM1 (k : SOp1) (fb : EF) (env : AEnv) : D → Sto → Res D := fun a st1 => match a with
  | .str s => (fb env st1).bind fun b st2 => k s b st2
  | _ => .bad
def dM1 (k : SOp1) (fa fb : EF) : EF := fun env st => (fa env st).bind (kM1 k fb env)
def kM0 (k : SOp0) : D → Sto → Res D := fun a st1 => match a with
  | .str s => k s st1
  | _ => .bad
def dM0 (k : SOp0) (fa : EF) : EF := fun env st => (fa env st).bind (kM0 k)
theorem pd_m1 {k : SOp1} {r : V → List V → Hp → VK → Prop} (slot : Slot "str" name id) (ty : typeOf (.builtin id) = pure (.type "method_descriptor")) (rule : MtR X id r)
    (h : ∀ (w : Wd) (env : AEnv) (st : Sto) (σ : St) (H : Hp) (s : Str) (y : V) (b : D) (Q : VK), Rel (XC X Γ) w env st σ H → DenB (XC X Γ) w.ρ w.S H y b → Post Den (XC X Γ) W w H σ (k s b st) Q → r (.str s) [y] H Q)
    (ho : PE X o (tD (XC X Γ) W fa)) (he : PE X e (tDB (XC X Γ) W fb)) (hs : starEach [e] X.env = [(false, eval e X.env)] := by rfl) (hbase : attributeBase o name X.env (eval o X.env) = eval o X.env := by rfl) (hline : (apos.endLine == pos.line) = true := by rfl) :
    PE X (.Call (.Attribute o name apos) [e] [] pos) (tD (XC X Γ) W (dM1 k fa fb)) := peImp (pe_m1 slot ty rule ho he hs hbase hline) fun σ H Q hq => by
  obtain ⟨w, env, st, rl, p⟩ := t1 (Da := Den) hq
  refine ⟨w, env, st, rl, p.mono ?_⟩
  rintro x H1 ⟨w1, env1, st1, a, r1, d1, p1⟩
  cases a with
  | str s =>
    have e1 : x = .str s := DenB.str (w := w1) d1.b
    refine ⟨⟨s, e1⟩, w1, env1, st1, r1, (Post.bind (Da := DenB) r1 p1).mono ?_⟩
    rintro y H2 ⟨w2, st2, b, r2, e2, x2, d3, p2⟩
    rw [e1]
    exact h w2 env1 st2 σ H2 s y b Q r2 d3 p2
  | _ => exact p1.elim
theorem pd_m0 {k : SOp0} {r : V → List V → Hp → VK → Prop} (slot : Slot "str" name id) (ty : typeOf (.builtin id) = pure (.type "method_descriptor")) (rule : MtR X id r)
    (h : ∀ (w : Wd) (env : AEnv) (st : Sto) (σ : St) (H : Hp) (s : Str) (Q : VK), Rel (XC X Γ) w env st σ H → Post Den (XC X Γ) W w H σ (k s st) Q → r (.str s) [] H Q)
    (ho : PE X o (tD (XC X Γ) W fa)) (hbase : attributeBase o name X.env (eval o X.env) = eval o X.env := by rfl) (hline : (apos.endLine == pos.line) = true := by rfl) :
    PE X (.Call (.Attribute o name apos) [] [] pos) (tD (XC X Γ) W (dM0 k fa)) := peImp (pe_m0 slot ty rule ho hbase hline) fun σ H Q hq => by
  obtain ⟨w, env, st, rl, p⟩ := t1 (Da := Den) hq
  refine ⟨w, env, st, rl, p.mono ?_⟩
  rintro x H1 ⟨w1, env1, st1, a, r1, d1, p1⟩
  cases a with
  | str s =>
    have e1 : x = .str s := DenB.str (w := w1) d1.b
    refine ⟨⟨s, e1⟩, ?_⟩
    rw [e1]
    exact h w1 env1 st1 σ H1 s Q r1 p1
  | _ => exact p1.elim
def sLower : SOp0 := fun s st => if s.length ≤ 5592405 then .ok (.str (Txt.lower s)) st else .bad
def sUpper : SOp0 := fun s st => if s.length ≤ 5592405 then .ok (.str (Txt.upper s)) st else .bad
theorem pd_lower (ho : PE X o (tD (XC X Γ) W fa)) (hbase : attributeBase o "lower" X.env (eval o X.env) = eval o X.env := by rfl) (hline : (apos.endLine == pos.line) = true := by rfl) : PE X (.Call (.Attribute o "lower" apos) [] [] pos) (tD (XC X Γ) W (dM0 sLower fa)) :=
  pd_m0 F.slot_str_lower F.type_str_lower mt_lower (fun w env st σ H s Q r p => by
    have p : Post Den (XC X Γ) W w H σ (if s.length ≤ 5592405 then .ok (.str (Txt.lower s)) st else .bad) Q := p
    split at p
    · rename_i hz
      exact ⟨s, rfl, rfl, hz, Post.ok r p (.str _)⟩
    · exact p.elim) ho hbase hline
theorem pd_upper (ho : PE X o (tD (XC X Γ) W fa)) (hbase : attributeBase o "upper" X.env (eval o X.env) = eval o X.env := by rfl) (hline : (apos.endLine == pos.line) = true := by rfl) : PE X (.Call (.Attribute o "upper" apos) [] [] pos) (tD (XC X Γ) W (dM0 sUpper fa)) :=
  pd_m0 F.slot_str_upper F.type_str_upper mt_upper (fun w env st σ H s Q r p => by
    have p : Post Den (XC X Γ) W w H σ (if s.length ≤ 5592405 then .ok (.str (Txt.upper s)) st else .bad) Q := p
    split at p
    · rename_i hz
      exact ⟨s, rfl, rfl, hz, Post.ok r p (.str _)⟩
    · exact p.elim) ho hbase hline
def joinOk (a : Str) (ys : List Str) : Bool := decide ((ys.map (·.length)).sum + ys.length * a.length ≤ 16777216)
def sJoin : SOp1 := fun a b st => match b with
  | .lst ds => go a (strsD ds) st
  | .tup ds => go a (strsD ds) st
  | _ => .bad
where
  go (a : Str) (ys : Option (List Str)) (st : Sto) : Res D := match ys with
    | some ys => if joinOk a ys = true then .ok (.str (Txt.join a ys)) st else .bad
    | none => .bad
theorem pd_join (ho : PE X o (tD (XC X Γ) W fa)) (he : PE X e (tDB (XC X Γ) W fb)) (hs : starEach [e] X.env = [(false, eval e X.env)] := by rfl) (hbase : attributeBase o "join" X.env (eval o X.env) = eval o X.env := by rfl) (hline : (apos.endLine == pos.line) = true := by rfl) :
    PE X (.Call (.Attribute o "join" apos) [e] [] pos) (tD (XC X Γ) W (dM1 sJoin fa fb)) :=
  pd_m1 F.slot_str_join F.type_str_join mt_join (fun w env st σ H s y b Q r d p => by
    have go : ∀ {ds : List D} {vs : List V} {q : Addr}, Dens (XC X Γ) w.ρ w.S H vs ds → y = .ref q → (SqL X.K H q vs ∨ SqT X.K H q vs) → Post Den (XC X Γ) W w H σ (sJoin.go s (strsD ds) st) Q →
        ∃ (a : Str) (p : Addr) (ys : List Str), V.str s = .str a ∧ [y] = [.ref p] ∧ (SqL X.K H p (ys.map V.str) ∨ SqT X.K H p (ys.map V.str)) ∧ (ys.map (·.length)).sum + ys.length * a.length ≤ 16777216 ∧ Q (.str (Txt.join a ys)) H := fun {ds vs q} t e1 hq p => by
      cases e : strsD ds with
      | none => rw [e] at p; exact p.elim
      | some ys =>
        rw [e] at p
        have p : Post Den (XC X Γ) W w H σ (if joinOk s ys = true then .ok (.str (Txt.join s ys)) st else .bad) Q := p
        split at p
        · rename_i hz
          exact ⟨s, q, ys, rfl, by rw [e1], by rw [← t.strs e]; exact hq, of_decide_eq_true hz, Post.ok r p (.str _)⟩
        · exact p.elim
    cases b with
    | lst ds =>
      obtain ⟨q, vs, e1, hq, _, t⟩ := d.lst
      exact go t e1 (.inl (SqL.of hq)) p
    | tup ds =>
      obtain ⟨q, vs, e1, hq, t⟩ := d.tup
      exact go t e1 (.inr hq) p
    | _ => exact p.elim) ho he hs hbase hline
def kJ (acc : Str) (k : Str → AEnv → Sto → Res D) (env : AEnv) : D → Sto → Res D := fun d st => match d with
  | .str y => if (acc ++ y).length ≤ sizeLine then k (acc ++ y) env st else .bad
  | _ => .bad
def dJs : List EF → Str → AEnv → Sto → Res D
  | [], acc => fun _ st => .ok (.str acc) st
  | f :: fs, acc => fun env st => (f env st).bind (kJ acc (dJs fs) env)
inductive PDJ (X : Cx) (Γ : Nat → Addr) (W : WX) : List Expr → List EF → Prop where
  | nil : PDJ X Γ W [] []
  | cons {e : Expr} {f : EF} {es : List Expr} {fs : List EF} (h : PE X e (tD (XC X Γ) W f)) (r : PDJ X Γ W es fs) : PDJ X Γ W (e :: es) (f :: fs)
end
end AM
namespace AM
open PySem PySem.Spec PyProof.Rows L2
structure ExtS (K : Ct) (w : Wd) (H : Hp) (w' : Wd) (H' : Hp) : Prop where
  pre : ∃ l, w'.ρ = w.ρ ++ l
  keep : ∀ a o, H a = some o → a ∉ w.ρ → some a ∉ w.O → H' a = some o ∧ a ∉ w'.ρ ∧ some a ∉ w'.O
  res : ∀ a, w'.R a → w.R a ∨ H a = none
  there : ∀ a o, H a = some o → ∃ o', H' a = some o'
  tups : ∀ a vs, SqT K.K H a vs → SqT K.K H' a vs
  resK : ∀ a, w.R a → w'.R a
section
variable {K : Ct} {w w' w2 : Wd} {env env' : AEnv} {st st' : Sto} {σ σ' : St} {H H' H2 : Hp}
theorem ExtS.refl : ExtS K w H w H := ⟨⟨[], by simp⟩, fun _ _ h n m => ⟨h, n, m⟩, fun _ h => .inl h, fun _ o h => ⟨o, h⟩, fun _ _ h => h, fun _ h => h⟩
theorem ExtS.trans (a : ExtS K w H w' H') (b : ExtS K w' H' w2 H2) : ExtS K w H w2 H2 := by
  obtain ⟨l, e⟩ := a.pre
  obtain ⟨l2, e2⟩ := b.pre
  refine ⟨⟨l ++ l2, by rw [e2, e, List.append_assoc]⟩, fun x o h n m => ?_, fun x h => ?_, fun x o h => ?_, fun x vs h => b.tups x vs (a.tups x vs h), fun x h => b.resK x (a.resK x h)⟩
  · obtain ⟨h1, n1, m1⟩ := a.keep x o h n m
    exact b.keep x o h1 n1 m1
  · rcases b.res x h with q | q
    · exact a.res x q
    · cases z : H x with
      | none => exact .inr rfl
      | some o =>
        obtain ⟨o', e⟩ := a.there x o z
        rw [q] at e; cases e
  · obtain ⟨o', e⟩ := a.there x o h
    exact b.there x o' e
theorem ExtS.hd (a : ExtS K w H w' H') {n : Nat} {x : Addr} (h : w.ρ[n]? = some x) : w'.ρ[n]? = some x := by
  obtain ⟨l, e⟩ := a.pre
  rw [e, List.getElem?_append_left (List.getElem?_eq_some_iff.mp h).1]
  exact h
mutual
theorem Den.monoS (x : ExtS K w H w' H') : ∀ {v : V} {d : D}, Den K w.ρ w.S H v d → Den K w'.ρ w'.S H' v d
  | _, _, .non => .non
  | _, _, .bl b => .bl b
  | _, _, .int i => .int i
  | _, _, .str s => .str s
  | _, _, .ty n => .ty n
  | _, _, .cls a => .cls a
  | _, _, .tup h t => .tup (x.tups _ _ h) (Dens.monoS x t)
  | _, _, .lst h n t => by
    obtain ⟨h1, h2, h3⟩ := x.keep _ _ h (fun z => n (.inl z)) (fun z => n (.inr (.inr z)))
    refine .lst h1 (fun z => ?_) (Dens.monoS x t)
    rcases z with z | z | z
    · exact h2 z
    · rcases x.res _ z with q | q
      · exact n (.inr (.inl q))
      · rw [h] at q; cases q
    · exact h3 z
  | _, _, .fz h t => by
    refine .fz (h.imp fun o e n => ?_) (Dens.monoS x t)
    obtain ⟨h1, h2, h3⟩ := x.keep _ _ e (fun z => n (.inl z)) (fun z => n (.inr (.inr z)))
    refine ⟨h1, fun z => ?_⟩
    rcases z with z | z | z
    · exact h2 z
    · rcases x.res _ z with q | q
      · exact n (.inr (.inl q))
      · rw [e] at q; cases q
    · exact h3 z
  | _, _, .ins h n t => by
    obtain ⟨h1, h2, h3⟩ := x.keep _ _ h (fun z => n (.inl z)) (fun z => n (.inr (.inr z)))
    refine .ins h1 (fun z => ?_) (DenF.monoS x t)
    rcases z with z | z | z
    · exact h2 z
    · rcases x.res _ z with q | q
      · exact n (.inr (.inl q))
      · rw [h] at q; cases q
    · exact h3 z
  | _, _, .hd h => .hd (x.hd h)
  | _, _, .dic h n t => by
    obtain ⟨h1, h2, h3⟩ := x.keep _ _ h (fun z => n (.inl z)) (fun z => n (.inr (.inr z)))
    refine .dic h1 (fun z => ?_) t
    rcases z with z | z | z
    · exact h2 z
    · rcases x.res _ z with q | q
      · exact n (.inr (.inl q))
      · rw [h] at q; cases q
    · exact h3 z
theorem Dens.monoS (x : ExtS K w H w' H') : ∀ {vs : List V} {ds : List D}, Dens K w.ρ w.S H vs ds → Dens K w'.ρ w'.S H' vs ds
  | _, _, .nil => .nil
  | _, _, .cons h t => .cons (Den.monoS x h) (Dens.monoS x t)
theorem DenF.monoS (x : ExtS K w H w' H') : ∀ {vs : List (Str × V)} {ds : List (Str × D)}, DenF K w.ρ w.S H vs ds → DenF K w'.ρ w'.S H' vs ds
  | _, _, .nil => .nil
  | _, _, .cons h t => .cons (Den.monoS x h) (DenF.monoS x t)
end
theorem CellOk.monoS {a : Addr} {c : Cell} (x : ExtS K w H w' H') (h : CellOk K w.ρ w.S H a c) (e : H' a = H a) : CellOk K w'.ρ w'.S H' a c := by
  cases c with
  | lst ds => obtain ⟨vs, q, t⟩ := h; exact ⟨vs, by rw [e]; exact q, t.monoS x⟩
  | obj C fs => obtain ⟨dx, gs, q, t⟩ := h; exact ⟨dx, gs, by rw [e]; exact q, t.monoS x⟩
  | tab i q =>
    refine TabC.gen h e fun b o eb n => ?_
    obtain ⟨h1, h2, h3⟩ := x.keep b o eb (fun z => n (.inl z)) fun z => n (.inr (.inr z))
    refine ⟨h1, fun z => ?_⟩
    rcases z with z | z | z
    · exact h2 z
    · rcases x.res b z with z | z
      · exact n (.inr (.inl z))
      · rw [eb] at z; cases z
    · exact h3 z
theorem Ext.toS {ρ' : List Addr} (r : Rel K w env st σ H) (x : Ext K w.ρ H ρ' H') (s : StOk K ρ' (w.at_ ρ').S H' st') : ExtS K w H (w.at_ ρ') H' := by
  refine ⟨x.pre, fun a o h n m => ?_, fun a h => .inl h, fun a o h => ?_, x.tups, fun _ h => h⟩
  · obtain ⟨h1, h2⟩ := x.keep a o h n
    exact ⟨h1, h2, m⟩
  · by_cases hr : a ∈ w.ρ
    · obtain ⟨l, e⟩ := x.pre
      exact s.there (a := a) (by rw [e]; exact List.mem_append_left _ hr)
    · exact ⟨o, (x.keep a o h hr).1⟩
theorem ExtS.toE (x : ExtS K w H w' H') (h : ∀ a, some a ∉ w.O) : Ext K w.ρ H w'.ρ H' := ⟨x.pre, fun a o e n => let ⟨h1, h2, _⟩ := x.keep a o e n (h a); ⟨h1, h2⟩, x.tups⟩
end
def PostS (K : Ct) (W : WX) (w : Wd) (H : Hp) (σ0 : St) (r : SR) (D : Ends) : Prop := match r with
  | .nx env' st' => ∀ w' σ' H', Rel K w' env' st' σ' H' → ExtS K w H w' H' → D.nx σ' H'
  | .bk env' st' => ∀ w' σ' H', Rel K w' env' st' σ' H' → ExtS K w H w' H' → D.bk σ' H'
  | .ct env' st' => ∀ w' σ' H', Rel K w' env' st' σ' H' → ExtS K w H w' H' → D.ct σ' H'
  | .rt d st' => ∀ w' H' v, StOk K w'.ρ w'.S H' st' → ExtS K w H w' H' → Den K w'.ρ w'.S H' v d → D.rt v H'
  | .exc e st' => ∀ w' σ' H' d gs, StOk K w'.ρ w'.S H' st' → ExtS K w H w' H' → H' d = some (.xd gs) → DenF K w'.ρ w'.S H' gs e.fs → W (.ref (K.Γ e.c)) (some d) σ' H'
  | .bad => False
def tS (K : Ct) (W : WX) (g : SF) : TS := fun D σ H => ∃ w env st, Rel K w env st σ H ∧ PostS K W w H σ (g env st) D
def SR.bind (r : SR) (k : AEnv → Sto → SR) : SR := match r with
  | .nx env st => k env st
  | r => r
def Res.then {α : Type} (r : Res α) (k : α → Sto → SR) : SR := match r with
  | .ok a st => k a st
  | .exc e st => .exc e st
  | .bad => .bad
section
variable {K : Ct} {W : WX} {w w' : Wd} {env : AEnv} {st : Sto} {σ σ' : St} {H H' : Hp} {D D' : Ends}
theorem PostS.back {r : SR} (x : ExtS K w H w' H') (h : PostS K W w H σ r D) : PostS K W w' H' σ' r D := by
  cases r with
  | nx e s => exact fun w' σ' H' h1 h2 => h w' σ' H' h1 (x.trans h2)
  | bk e s => exact fun w' σ' H' h1 h2 => h w' σ' H' h1 (x.trans h2)
  | ct e s => exact fun w' σ' H' h1 h2 => h w' σ' H' h1 (x.trans h2)
  | rt d s => exact fun w' H' v h1 h2 h3 => h w' H' v h1 (x.trans h2) h3
  | exc e s => exact fun w' σ' H' d gs h1 h2 h3 h4 => h w' σ' H' d gs h1 (x.trans h2) h3 h4
  | bad => exact h
theorem PostS.bind {r : SR} {k : AEnv → Sto → SR} (h : PostS K W w H σ (r.bind k) D) : PostS K W w H σ r { D with nx := tS K W k D } := by
  cases r with
  | nx e s => exact fun w' σ' H' h1 h2 => ⟨w', e, s, h1, PostS.back h2 h⟩
  | bk e s => exact h
  | ct e s => exact h
  | rt d s => exact h
  | exc e s => exact h
  | bad => exact h
theorem Post.then {α β : Type} {Da : DnT β α} {f : Res α} {k : α → Sto → SR} (r : Rel K w env st σ H) (h : PostS K W w H σ (f.then k) D) :
    Post Da K W w H σ f fun x H1 => ∃ w1 st1 a, Rel K w1 env st1 σ H1 ∧ ExtS K w H w1 H1 ∧ Da K w1.ρ w1.S H1 x a ∧ PostS K W w1 H1 σ (k a st1) D := by
  cases f with
  | ok a st1 =>
    intro ρ' H' x h1 h2 h3
    have z := h2.toS r h1
    exact ⟨w.at_ ρ', st1, a, r.ext h2 h1, z, h3, PostS.back z h⟩
  | exc e st1 =>
    intro ρ' H' d gs h1 h2 h3 h4
    exact h (w.at_ ρ') σ H' d gs h1 (h2.toS r h1) h3 h4
  | bad => exact h
theorem t1S {α β : Type} {Da : DnT β α} {f : AEnv → Sto → Res α} {k : AEnv → α → Sto → SR} (h : tS K W (fun env st => (f env st).then (k env)) D σ H) :
    tG Da K W f σ H fun x H1 => ∃ w env st a, Rel K w env st σ H1 ∧ Da K w.ρ w.S H1 x a ∧ PostS K W w H1 σ (k env a st) D := by
  obtain ⟨w, env, st, r, p⟩ := h
  refine ⟨w, env, st, r, (Post.then (Da := Da) r p).mono ?_⟩
  rintro x H1 ⟨w1, st1, a, r1, _, d, p1⟩
  exact ⟨w1, env, st1, a, r1, d, p1⟩
theorem PostS.nxt (r : Rel K w env st σ H) (h : PostS K W w H σ' (.nx env st) D) : D.nx σ H := h w σ H r ExtS.refl
end
section
variable {K : Ct} {w w' : Wd} {env : AEnv} {st : Sto} {σ : St} {H : Hp} {v : V} {d : D} {i : Nat}
def Wd.free (w : Wd) (i : Nat) : Wd := ⟨w.ρ, w.R, w.O.set i none⟩
theorem free_S (a : Addr) (h : (w.free i).S a) : w.S a := by
  rcases h with h | h | h
  · exact .inl h
  · exact .inr (.inl h)
  · refine .inr (.inr ?_)
    have h : some a ∈ w.O.set i none := h
    rcases List.mem_or_eq_of_mem_set h with q | q
    · exact q
    · cases q
theorem free_ext (r : Rel K w env st σ H) : ExtS K w H (w.free i) H := ⟨⟨[], by simp [Wd.free]⟩, fun a o h n m => ⟨h, n, fun z => by
  have z : some a ∈ w.O.set i none := z
  rcases List.mem_or_eq_of_mem_set z with q | q
  · exact m q
  · cases q⟩, fun a h => .inl h, fun a o h => ⟨o, h⟩, fun _ _ h => h, fun _ h => h⟩
theorem Den.free (h : Den K w.ρ w.S H v d) : Den K (w.free i).ρ (w.free i).S H v d := h.mono Ext.refl (fun a h => .inl (free_S a h)) fun a h => .inl h
theorem Dens.free {vs : List V} {ds : List D} (h : Dens K w.ρ w.S H vs ds) : Dens K (w.free i).ρ (w.free i).S H vs ds := h.mono Ext.refl (fun a h => .inl (free_S a h)) fun a h => .inl h
theorem Rel.freeSto (r : Rel K w env st σ H) : StOk K (w.free i).ρ (w.free i).S H st := r.sto.ext Ext.refl (fun a h => .inl (free_S a h)) (fun a h => .inl h) fun _ _ => rfl
theorem get_set {α : Type} {l : List α} {i j : Nat} {a b : α} (h : (l.set i a)[j]? = some b) : (j = i ∧ a = b ∧ i < l.length) ∨ (j ≠ i ∧ l[j]? = some b) := by
  by_cases e : i = j
  · subst e
    by_cases hi : i < l.length
    · rw [List.getElem?_set_self hi] at h
      exact .inl ⟨rfl, Option.some.inj h, hi⟩
    · rw [List.getElem?_eq_none (by rw [List.length_set]; omega)] at h; cases h
  · rw [List.getElem?_set_ne e] at h
    exact .inr ⟨fun z => e z.symm, h⟩
theorem Rel.setSh (r : Rel K w env st σ H) (h : Den K w.ρ w.S H v d) : Rel K (w.free i) (env.set i (.sh d)) st (σ.set i (some v)) H where
  sto := r.freeSto
  res := r.res
  len := by rw [List.length_set, List.length_set, r.len]
  lenO := by show (w.O.set i none).length = _; rw [List.length_set, List.length_set, r.lenO]
  slot := fun j v' s o h1 h2 h3 => by
    rcases get_set h1 with ⟨rfl, rfl, hi⟩ | ⟨hj, h1⟩
    · rcases get_set h2 with ⟨_, rfl, _⟩ | ⟨q, _⟩
      · rcases get_set (show (w.O.set j none)[j]? = some o from h3) with ⟨_, rfl, _⟩ | ⟨q, _⟩
        · exact ⟨rfl, v, rfl, h.free⟩
        · exact absurd rfl q
      · exact absurd rfl q
    · rcases get_set h2 with ⟨q, _⟩ | ⟨_, h2⟩
      · exact absurd q hj
      · rcases get_set (show (w.O.set i none)[j]? = some o from h3) with ⟨q, _⟩ | ⟨_, h3⟩
        · exact absurd q hj
        · have q := r.slot j v' s o h1 h2 h3
          cases s with
          | un => exact q
          | sh d' => obtain ⟨e, x, ex, dx⟩ := q; exact ⟨e, x, ex, dx.free⟩
          | own ds => obtain ⟨a, vs, e1, e2, e3, e4⟩ := q; exact ⟨a, vs, e1, e2, e3, e4.free⟩
  ndO := fun j k a h1 h2 => by
    rcases get_set (show (w.O.set i none)[j]? = some (some a) from h1) with ⟨_, q, _⟩ | ⟨_, h1⟩
    · cases q
    · rcases get_set (show (w.O.set i none)[k]? = some (some a) from h2) with ⟨_, q, _⟩ | ⟨_, h2⟩
      · cases q
      · exact r.ndO j k a h1 h2
  disO := fun a h => by
    rcases List.mem_or_eq_of_mem_set (show some a ∈ w.O.set i none from h) with q | q
    · exact r.disO a q
    · cases q
theorem Rel.setOwn {p : Addr} {vs : List V} {ds : List D} (r : Rel K w env st σ H) (hp : H p = none) (h : Dens K w.ρ w.S H vs ds) : Rel K ⟨w.ρ, w.R, w.O.set i (some p)⟩ (env.set i (.own ds)) st (σ.set i (some (V.ref p))) (upd H p (.lst vs)) := by
  have nS : ¬ w.S p := r.fresh hp
  have hS : ∀ a, (⟨w.ρ, w.R, w.O.set i (some p)⟩ : Wd).S a → w.S a ∨ H a = none := fun a q => by
    rcases q with q | q | q
    · exact .inl (.inl q)
    · exact .inl (.inr (.inl q))
    · rcases List.mem_or_eq_of_mem_set (show some a ∈ w.O.set i (some p) from q) with z | z
      · exact .inl (.inr (.inr z))
      · cases z; exact .inr hp
  have m : ∀ {v d}, Den K w.ρ w.S H v d → Den K w.ρ (⟨w.ρ, w.R, w.O.set i (some p)⟩ : Wd).S (upd H p (.lst vs)) v d := fun h => h.mono (Ext.new hp) hS fun a h => .inl h
  have ms : ∀ {v d}, Dens K w.ρ w.S H v d → Dens K w.ρ (⟨w.ρ, w.R, w.O.set i (some p)⟩ : Wd).S (upd H p (.lst vs)) v d := fun h => h.mono (Ext.new hp) hS fun a h => .inl h
  have ne : ∀ a o, H a = some o → upd H p (.lst vs) a = H a := fun a o e => upd_ne (ne_of_none e hp)
  refine ⟨r.sto.ext (Ext.new hp) hS (fun a h => .inl h) fun a h => ?_, fun a h => ?_, by rw [List.length_set, List.length_set, r.len], by show (w.O.set i (some p)).length = _; rw [List.length_set, List.length_set, r.lenO], fun j v' s o h1 h2 h3 => ?_, fun j k a h1 h2 => ?_, fun a h => ?_⟩
  · obtain ⟨o, e⟩ := r.sto.there h
    exact ne a o e
  · obtain ⟨⟨o, e⟩, n⟩ := r.res a h
    exact ⟨⟨o, by rw [ne a o e]; exact e⟩, n⟩
  · rcases get_set h1 with ⟨rfl, rfl, hi⟩ | ⟨hj, h1⟩
    · rcases get_set h2 with ⟨_, rfl, _⟩ | ⟨q, _⟩
      · rcases get_set (show (w.O.set j (some p))[j]? = some o from h3) with ⟨_, rfl, _⟩ | ⟨q, _⟩
        · exact ⟨p, vs, rfl, rfl, upd_same, ms h⟩
        · exact absurd rfl q
      · exact absurd rfl q
    · rcases get_set h2 with ⟨q, _⟩ | ⟨_, h2⟩
      · exact absurd q hj
      · rcases get_set (show (w.O.set i (some p))[j]? = some o from h3) with ⟨q, _⟩ | ⟨_, h3⟩
        · exact absurd q hj
        · have q := r.slot j v' s o h1 h2 h3
          cases s with
          | un => exact q
          | sh d' => obtain ⟨e, x, ex, dx⟩ := q; exact ⟨e, x, ex, m dx⟩
          | own ds => obtain ⟨a, us, e1, e2, e3, e4⟩ := q; exact ⟨a, us, e1, e2, by rw [ne a _ e3]; exact e3, ms e4⟩
  · have np : ∀ k a, w.O[k]? = some (some a) → a ≠ p := fun k a e z => nS (.inr (.inr (by rw [← z]; exact List.mem_of_getElem? e)))
    rcases get_set (show (w.O.set i (some p))[j]? = some (some a) from h1) with ⟨e1, q, _⟩ | ⟨_, h1⟩
    · cases q
      rcases get_set (show (w.O.set i (some p))[k]? = some (some p) from h2) with ⟨e2, _, _⟩ | ⟨_, h2⟩
      · rw [e1, e2]
      · exact absurd rfl (np k p h2)
    · rcases get_set (show (w.O.set i (some p))[k]? = some (some a) from h2) with ⟨_, q, _⟩ | ⟨_, h2⟩
      · cases q; exact absurd rfl (np j p h1)
      · exact r.ndO j k a h1 h2
  · rcases List.mem_or_eq_of_mem_set (show some a ∈ w.O.set i (some p) from h) with q | q
    · exact r.disO a q
    · cases q
      exact ⟨fun z => nS (.inl z), fun z => nS (.inr (.inl z))⟩
theorem own_ext {p : Addr} {vs : List V} (r : Rel K w env st σ H) (hp : H p = none) : ExtS K w H ⟨w.ρ, w.R, w.O.set i (some p)⟩ (upd H p (.lst vs)) :=
  ⟨⟨[], by simp⟩, fun a o h n m => ⟨by rw [upd_ne (ne_of_none h hp)]; exact h, n, fun z => by
    rcases List.mem_or_eq_of_mem_set (show some a ∈ w.O.set i (some p) from z) with q | q
    · exact m q
    · cases q; rw [hp] at h; cases h⟩, fun a h => .inl h, fun a o h => ⟨o, by rw [upd_ne (ne_of_none h hp)]; exact h⟩, fun _ _ h => SqT.upd hp h, fun _ h => h⟩
theorem Rel.putOwn {a : Addr} {vs ws : List V} {ds es : List D} (r : Rel K w env st σ H) (hi : env[i]? = some (.own ds)) (ho : w.O[i]? = some (some a)) (hH : H a = some (.lst vs)) (h : Dens K w.ρ w.S H ws es) :
    Rel K w (env.set i (.own es)) st σ (upd H a (.lst ws)) ∧ ExtS K w H w (upd H a (.lst ws)) := by
  have hm : some a ∈ w.O := List.mem_of_getElem? ho
  obtain ⟨nρ, nR⟩ := r.disO a hm
  have tu : ∀ b us, SqT K.K H b us → SqT K.K (upd H a (.lst ws)) b us := fun b us q => by
    rcases q with (q | ⟨o, q⟩) | q
    · exact .inl (.inl (by rw [upd_ne (ne_of q hH (by intro z; cases z))]; exact q))
    · exact .inl (.inr ⟨o, by rw [upd_ne (ne_of q hH (by intro z; cases z))]; exact q⟩)
    · exact .inr q
  have X : ExtS K w H w (upd H a (.lst ws)) := ⟨⟨[], by simp⟩, fun b o h n m => ⟨by rw [upd_ne (fun z => m (by rw [z]; exact hm))]; exact h, n, m⟩, fun b h => .inl h, fun b o h => by
    by_cases e : b = a
    · exact ⟨_, by rw [e]; exact upd_same⟩
    · exact ⟨o, by rw [upd_ne e]; exact h⟩, tu, fun _ h => h⟩
  refine ⟨⟨⟨r.sto.len, r.sto.nd, fun n b c h1 h2 => (r.sto.cell n b c h1 h2).monoS X (upd_ne fun z => nρ (by rw [← z]; exact List.mem_of_getElem? h1))⟩, fun b q => ?_, by rw [List.length_set]; exact r.len, by rw [List.length_set]; exact r.lenO, fun j v' s o h1 h2 h3 => ?_, r.ndO, r.disO⟩, X⟩
  · obtain ⟨⟨o, e⟩, n⟩ := r.res b q
    exact ⟨X.there b o e, n⟩
  · rcases get_set h2 with ⟨rfl, rfl, _⟩ | ⟨hj, h2⟩
    · have q := r.slot j v' _ o h1 hi h3
      rw [ho] at h3
      cases h3
      obtain ⟨b, us, e1, e2, e3, _⟩ := q
      cases e1
      exact ⟨a, ws, rfl, e2, upd_same, h.monoS X⟩
    · have q := r.slot j v' s o h1 h2 h3
      cases s with
      | un => exact q
      | sh d' => obtain ⟨e, x, ex, dx⟩ := q; exact ⟨e, x, ex, dx.monoS X⟩
      | own ds' =>
        obtain ⟨b, us, e1, e2, e3, e4⟩ := q
        subst e1
        have nb : b ≠ a := fun z => hj (r.ndO j i b h3 (by rw [z]; exact ho))
        exact ⟨b, us, rfl, e2, by rw [upd_ne nb]; exact e3, e4.monoS X⟩
end
end AM
namespace AM
open PySem PySem.Spec PyProof.Rows L2
section
variable {X : Cx} {Γ : Nat → Addr} {W : WX} {e a b c : Expr} {f fa fb : EF} {s : Stmt} {ss rest : List Stmt} {g h : SF} {t : TF} {pos : Pos}
def sSeq (g h : SF) : SF := fun env st => (g env st).bind h
def sPass : SF := fun env st => .nx env st
theorem pssd_cons (h1 : PS X s (tS (XC X Γ) W g)) (h2 : PSs X rest (tS (XC X Γ) W h)) : PSs X (s :: rest) (tS (XC X Γ) W (sSeq g h)) := pssImp (pss_cons h1 h2) fun D σ H ⟨w, env, st, r, p⟩ => ⟨w, env, st, r, p.bind⟩
theorem pssd_one (h1 : PS X s (tS (XC X Γ) W g)) : PSs X [s] (tS (XC X Γ) W g) := pss_one h1
theorem pssd_nil : PSs X [] (tS (XC X Γ) W sPass) := pssImp pss_nil fun D σ H ⟨w, env, st, r, p⟩ => p.nxt r
def sRet (f : EF) : SF := fun env st => (f env st).then fun d st => .rt d st
theorem psd_ret (he : PE X e (tD (XC X Γ) W f)) : PS X (.Return (some e) pos) (tS (XC X Γ) W (sRet f)) := psImp (ps_ret he) fun D σ H h => by
  obtain ⟨w, env, st, r, p⟩ := t1S (Da := Den) (k := fun env d st => .rt d st) h
  refine ⟨w, env, st, r, p.mono ?_⟩
  rintro x H1 ⟨w1, env1, st1, d, r1, d1, p1⟩
  exact p1 w1 H1 x r1.sto ExtS.refl d1
def sExpr (f : EF) : SF := fun env st => (f env st).then fun _ st => .nx env st
def sIf (t : TF) (g h : SF) : SF := fun env st => (t env st).then fun b st => if b = true then g env st else h env st
theorem psd_if {p q : List Stmt} (hc : PT X c (tT (XC X Γ) W t)) (ha : PSs X p (tS (XC X Γ) W g)) (hb : PSs X q (tS (XC X Γ) W h)) : PS X (.If c p q pos) (tS (XC X Γ) W (sIf t g h)) := psImp (ps_if hc ha hb) fun D σ H h' => by
  obtain ⟨w, env, st, r, p⟩ := t1S (Da := dnB) (k := fun env b st => if b = true then g env st else h env st) h'
  refine ⟨w, env, st, r, p.mono ?_⟩
  rintro x H1 ⟨w1, env1, st1, d, r1, d1, p1⟩
  cases (show x = d from d1)
  cases x with
  | true =>
    rw [if_pos rfl] at p1 ⊢
    exact ⟨w1, env1, st1, r1, p1⟩
  | false =>
    rw [if_neg Bool.false_ne_true] at p1 ⊢
    exact ⟨w1, env1, st1, r1, p1⟩
abbrev GF := D → AEnv → Sto → SR
def tgG (K : Ct) (W : WX) (g : GF) : TG := fun v σ H Q => ∃ w env st d, Rel K w env st σ H ∧ Den K w.ρ w.S H v d ∧ PostS K W w H σ (g d env st) { nx := Q, rt := fun _ _ => False }
def gNm (i : Nat) : GF := fun d env st => .nx (env.set i (.sh d)) st
theorem pgd_name {i : Nat} {x : Str} (hN : X.N.Nodup) (hi : X.N[i]? = some x := by rfl) (hx : Loc X.env.scope x := by first | exact Or.inl rfl | exact Or.inr rfl) (hf : X.fn x = true ∨ X.env.scope.names.lookup x = some .local := by first | exact .inl rfl | exact .inr rfl) : PG X (.Name x pos) (tgG (XC X Γ) W (gNm i)) := by
  refine ⟨fun pins s σ H v u Q I rv h => (pg_name hN hi hx hf).run pins s σ H v u Q I rv ?_⟩
  obtain ⟨w, env, st, d, r, hd, p⟩ := h
  exact p (w.free i) _ H (r.setSh hd) (free_ext r)
def sSet (i : Nat) (f : EF) : SF := fun env st => (f env st).then fun d st => .nx (env.set i (.sh d)) st
theorem psd_set {i : Nat} {x : Str} {pos' : Pos} (hN : X.N.Nodup) (he : PE X e (tD (XC X Γ) W f)) (hi : X.N[i]? = some x := by rfl) (hx : Loc X.env.scope x := by first | exact Or.inl rfl | exact Or.inr rfl) (hs : swapsWith e (some (.Name x pos')) pos.line X.env = pure false := by rfl)
    (hf : X.fn x = true ∨ X.env.scope.names.lookup x = some .local := by first | exact .inl rfl | exact .inr rfl) : PS X (.Assign [.Name x pos'] e pos) (tS (XC X Γ) W (sSet i f)) := psImp (ps_set hN hi hx he hs hf) fun D σ H h => by
  obtain ⟨w, env, st, r, p⟩ := t1S (Da := Den) (k := fun env d st => .nx (env.set i (.sh d)) st) h
  refine ⟨w, env, st, r, p.mono ?_⟩
  rintro x H1 ⟨w1, env1, st1, d, r1, d1, p1⟩
  exact p1 (w1.free i) _ H1 (r1.setSh d1) (free_ext r1)
def onlyNx : SR → SR
  | .nx env st => .nx env st
  | .exc e st => .exc e st
  | _ => .bad
theorem PostS.onlyNx {K : Ct} {w : Wd} {H : Hp} {σ : St} {r : SR} {D : Ends} (h : PostS K W w H σ (AM.onlyNx r) D) : PostS K W w H σ r { nx := D.nx, rt := fun _ _ => False } := by
  cases r with
  | nx e s => exact h
  | exc e s => exact h
  | _ => exact h.elim
def sAsg (f : EF) (g : GF) : SF := fun env st => (f env st).then fun d st => onlyNx (g d env st)
theorem psd_asg {tg : Expr} {g : GF} (he : PE X e (tD (XC X Γ) W f)) (hg : PG X tg (tgG (XC X Γ) W g)) (hs : swapsWithSole [tg] e pos.line X.env = pure false := by rfl) (hw : swappedStores [tg] e X.env = pure none := by rfl)
    (h1 : (assignEach [tg] X.env).map (·.2) = [assign tg X.env] := by rfl) : PS X (.Assign [tg] e pos) (tS (XC X Γ) W (sAsg f g)) := psImp (ps_asg he hg hs hw h1) fun D σ H h => by
  obtain ⟨w, env, st, r, p⟩ := t1S (Da := Den) (k := fun env d st => onlyNx (g d env st)) h
  refine ⟨w, env, st, r, p.mono ?_⟩
  rintro x H1 ⟨w1, env1, st1, d, r1, d1, p1⟩
  exact ⟨w1, env1, st1, d, r1, d1, (PostS.onlyNx p1)⟩
abbrev GFs := List D → AEnv → Sto → SR
def tgGs (K : Ct) (W : WX) (g : GFs) : TGs := fun vs σ H Q => ∃ w env st ds, Rel K w env st σ H ∧ Dens K w.ρ w.S H vs ds ∧ PostS K W w H σ (g ds env st) { nx := Q, rt := fun _ _ => False }
def gNilD : GFs := fun ds env st => match ds with
  | [] => .nx env st
  | _ => .bad
def gConsD (g : GF) (gs : GFs) : GFs := fun ds env st => match ds with
  | d :: ds => (onlyNx (g d env st)).bind fun env st => gs ds env st
  | [] => .bad
theorem pgsd_nil : PGs X [] (tgGs (XC X Γ) W gNilD) := by
  refine ⟨fun pins s σ H v u Q I rv h => pgs_nil.run pins s σ H v u Q I rv ?_⟩
  obtain ⟨w, env, st, ds, r, hd, p⟩ := h
  cases hd with
  | nil => exact ⟨rfl, p.nxt r⟩
  | cons _ _ => exact p.elim
theorem pgsd_cons {es : List Expr} {g : GF} {gs : GFs} (h1 : PG X e (tgG (XC X Γ) W g)) (h2 : PGs X es (tgGs (XC X Γ) W gs)) (hs : (assignEach (e :: es) X.env).map (·.2) = assign e X.env :: (assignEach es X.env).map (·.2) := by rfl) : PGs X (e :: es) (tgGs (XC X Γ) W (gConsD g gs)) := by
  refine ⟨fun pins s σ H v u Q I rv h => (pgs_cons h1 h2 hs).run pins s σ H v u Q I rv ?_⟩
  obtain ⟨w, env, st, ds, r, hd, p⟩ := h
  cases hd with
  | nil => exact p.elim
  | @cons v d vs ds hd ht =>
    refine ⟨v, vs, rfl, w, env, st, d, r, hd, ?_⟩
    have p : PostS (XC X Γ) W w H σ ((onlyNx (g d env st)).bind fun env st => gs ds env st) { nx := Q, rt := fun _ _ => False } := p
    cases q : g d env st with
    | nx e1 s1 =>
      rw [q] at p
      intro w' σ' H' r1 x1
      exact ⟨w', e1, s1, ds, r1, ht.monoS x1, PostS.back x1 p⟩
    | exc e1 s1 => rw [q] at p; exact p
    | _ => rw [q] at p; exact p.elim
def gTupD (n : Nat) (gs : GFs) : GF := fun d env st => match d with
  | .tup ds => if ds.length = n then gs ds env st else .bad
  | _ => .bad
theorem pgd_tup {es : List Expr} {k n : Nat} {gs : GFs} (hc : X.calm = true) (h : PGs X es (tgGs (XC X Γ) W gs)) (hn : (assignEach es X.env).length = n := by rfl) (hst : (assignEach es X.env).findIdx? (·.1) = none := by rfl) :
    PG X (.Tuple es k pos) (tgG (XC X Γ) W (gTupD n gs)) := by
  refine ⟨fun pins s σ H v u Q I rv h' => (pg_tup hc h hn hst).run pins s σ H v u Q I rv ?_⟩
  obtain ⟨w, env, st, d, r, hd, p⟩ := h'
  cases d with
  | tup ds =>
    obtain ⟨a, vs, e1, hq, t⟩ := DenB.tup (w := w) hd.b
    have p : PostS (XC X Γ) W w H σ (if ds.length = n then gs ds env st else .bad) { nx := Q, rt := fun _ _ => False } := p
    split at p
    · rename_i q
      exact ⟨a, vs, e1, hq, by rw [t.length, q], w, env, st, ds, r, t, p⟩
    · exact p.elim
  | _ => exact p.elim
def tF (K : Ct) (W : WX) (f : AEnv → Sto → Res (List D)) : TE := fun σ H Q => ∃ w env st, Rel K w env st σ H ∧ (match f env st with
  | .ok ds st' => ∀ ρ' H' p vs, StOk K ρ' (w.at_ ρ').S H' st' → Ext K w.ρ H ρ' H' → H' p = none → Dens K ρ' (w.at_ ρ').S H' vs ds → Q (.ref p) (upd H' p (.lst vs))
  | .exc e st' => ∀ ρ' H' d gs, StOk K ρ' (w.at_ ρ').S H' st' → Ext K w.ρ H ρ' H' → H' d = some (.xd gs) → DenF K ρ' (w.at_ ρ').S H' gs e.fs → W (.ref (K.Γ e.c)) (some d) σ H'
  | .bad => False)
def dF (f : AEnv → Sto → Res (List D)) : EF := fun env st => (f env st).bind fun ds st => .ok (.lst ds) st
theorem pdf {f : AEnv → Sto → Res (List D)} (h : PE X e (tF (XC X Γ) W f)) : PE X e (tD (XC X Γ) W (dF f)) := peImp h fun σ H Q ⟨w, env, st, r, p⟩ => ⟨w, env, st, r, by
  unfold dF at p
  cases q : f env st with
  | ok ds st' =>
    rw [q] at p
    intro ρ' H' pp vs h1 h2 h3 h4
    exact Post.newLst (r.ext h2 h1) (Post.back h2 p) h4 h3
  | exc x st' => rw [q] at p; exact p
  | bad => rw [q] at p; exact p⟩
def dLstF (fs : EFs) : AEnv → Sto → Res (List D) := fun env st => (fs env st).bind fun ds st => if ds.length ≤ sizeLine then .ok ds st else .bad
theorem pf_lst {es : List Expr} {fs : EFs} (h : PA X es (tDs (XC X Γ) W fs)) : PE X (.List es pos) (tF (XC X Γ) W (dLstF fs)) := peImp (pe_lst h) fun σ H Q ⟨w, env, st, r, p⟩ => ⟨w, env, st, r, by
  unfold dLstF at p
  cases q : fs env st with
  | ok ds st' =>
    rw [q] at p
    intro ρ' H' xs h1 h2 h3
    by_cases hz : ds.length ≤ sizeLine
    · have e : (Res.ok ds st').bind (fun ds st => if ds.length ≤ sizeLine then Res.ok ds st else .bad) = .ok ds st' := if_pos hz
      rw [e] at p
      exact ⟨by rw [h3.length]; exact hz, fun pp hp => p ρ' H' pp xs h1 h2 hp h3⟩
    · have e : (Res.ok ds st').bind (fun ds st => if ds.length ≤ sizeLine then Res.ok ds st else .bad) = .bad := if_neg hz
      rw [e] at p
      exact p.elim
  | exc x st' => rw [q] at p; exact p
  | bad => rw [q] at p; exact p⟩
def sOwn (i : Nat) (f : AEnv → Sto → Res (List D)) : SF := fun env st => (f env st).then fun ds st => .nx (env.set i (.own ds)) st
theorem psd_own {i : Nat} {x : Str} {pos' : Pos} {f : AEnv → Sto → Res (List D)} (hN : X.N.Nodup) (he : PE X e (tF (XC X Γ) W f)) (hi : X.N[i]? = some x := by rfl) (hx : Loc X.env.scope x := by first | exact Or.inl rfl | exact Or.inr rfl) (hs : swapsWith e (some (.Name x pos')) pos.line X.env = pure false := by rfl)
    (hf : X.fn x = true ∨ X.env.scope.names.lookup x = some .local := by first | exact .inl rfl | exact .inr rfl) : PS X (.Assign [.Name x pos'] e pos) (tS (XC X Γ) W (sOwn i f)) := psImp (ps_set hN hi hx he hs hf) fun D σ H ⟨w, env, st, r, p⟩ => ⟨w, env, st, r, by
  unfold sOwn at p
  cases q : f env st with
  | ok ds st' =>
    rw [q] at p
    intro ρ' H' pp vs h1 h2 h3 h4
    have r1 := r.ext h2 h1
    exact p _ _ _ (Rel.setOwn (i := i) r1 h3 h4) ((h2.toS r h1).trans (own_ext r1 h3))
  | exc x st' =>
    rw [q] at p
    intro ρ' H' d gs h1 h2 h3 h4
    exact p (w.at_ ρ') σ H' d gs h1 (h2.toS r h1) h3 h4
  | bad => rw [q] at p; exact p⟩
def frz (i : Nat) (g : SF) : SF := fun env st => match env[i]? with
  | some (.own ds) => g (env.set i (.sh (.lst ds))) st
  | _ => g env st
def sApp (i : Nat) (f : EF) : SF := fun env st => match env[i]? with
  | some (.own ds) => (f env st).then fun d st => if ds.length < sizeLine then .nx (env.set i (.own (ds ++ [d]))) st else .bad
  | _ => .bad
theorem psd_app (i : Nat) {x : Str} {xp ap pos2 : Pos} (he : PE X e (tD (XC X Γ) W f)) (hN : X.N[i]? = some x := by rfl) (hv : Vis X.env.scope x := by first | exact Or.inl rfl | exact Or.inr (Or.inl rfl) | exact Or.inr (Or.inr rfl)) (hd : (x == ("__debug__" : Str)) = false := by decide) (hcd : (x == ("__classdict__" : Str)) = false := by decide)
    (hbase : attributeBase (.Name x xp) "append" X.env (eval (.Name x xp) X.env) = eval (.Name x xp) X.env := by rfl)
    (hfew : ((backTo pos (starEach (e :: []) X.env)).all (fun x => !x.1) && (backToKw pos (keywordEach [] X.env)).all (fun x => x.1.isSome)
      && decide ((e :: []).length + ([] : List Keyword).length + (if ([] : List Keyword).isEmpty then 0 else 1) < 30)) = true := by rfl)
    (hline : (ap.endLine == pos.line) = true := by rfl) (hst : starEach (e :: []) X.env = (false, eval e X.env) :: starEach [] X.env := by rfl) (hplain : (backTo pos (starEach [] X.env)).any (·.1) = false := by rfl)
    (hs : swapsWith (.Call (.Attribute (.Name x xp) "append" ap) [e] [] pos) none pos2.line X.env = pure false := by rfl) :
    PS X (.Expr (.Call (.Attribute (.Name x xp) "append" ap) [e] [] pos) pos2) (tS (XC X Γ) W (sApp i f)) := psImp (ps_expr (pe_bm F.plainAttrs_list F.slot_list_append F.type_list_append mt_append (pe_var hN hv hd hcd) (pa_cons he pa_nil hst) hbase hfew hline hst hplain) hs) fun D σ H ⟨w, env, st, r, p⟩ => by
  unfold sApp at p
  split at p
  · rename_i ds0 e0
    obtain ⟨a, vs, h1, h2, h3, h4⟩ := r.ownE e0
    refine ⟨_, h2, .inl ⟨rfl, vs, SqL.of h3⟩, w, env, st, r, (Post.then (Da := Den) r p).mono ?_⟩
    rintro y H1 ⟨w1, st1, d, r1, x1, d1, p1⟩
    obtain ⟨a', vs', g1, g2, g3, g4⟩ := r1.ownE e0
    split at p1
    · rename_i hz
      rw [h2] at g2
      cases g2
      refine ⟨a, vs', y, rfl, rfl, g3, by rw [g4.length]; exact hz, ?_⟩
      obtain ⟨r2, x2⟩ := r1.putOwn e0 g1 g3 (g4.append (.cons d1 .nil))
      exact p1 w1 σ _ r2 x2
    · exact p1.elim
  · exact p.elim
end
end AM
namespace AM
open PySem PySem.Spec PyProof.Rows L2
structure Iter (K : Ct) (w : Wd) (H : Hp) (J : It) (items : List D) : Prop where
  goes : ∀ w' H' i, ExtS K w H w' H' → i < items.length → J.go i H'
  stops : ∀ w' H', ExtS K w H w' H' → J.stop items.length H'
  yields : ∀ w' env st σ H' i x H2, Rel K w' env st σ H' → ExtS K w H w' H' → i < items.length → J.yld i H' x H2 → ∃ d, items[i]? = some d ∧ Den K w'.ρ w'.S H2 x d ∧ Rel K w' env st σ H2 ∧ Ext K w'.ρ H' w'.ρ H2
abbrev IF := AEnv → Sto → Res (List D)
def PostI (K : Ct) (W : WX) (w : Wd) (H : Hp) (σ : St) (r : Res (List D)) (R : It → Hp → Prop) : Prop := match r with
  | .ok items st' => ∀ ρ' H' J, StOk K ρ' (w.at_ ρ').S H' st' → Ext K w.ρ H ρ' H' → Iter K (w.at_ ρ') H' J items → R J H'
  | .exc e st' => ∀ ρ' H' d gs, StOk K ρ' (w.at_ ρ').S H' st' → Ext K w.ρ H ρ' H' → H' d = some (.xd gs) → DenF K ρ' (w.at_ ρ').S H' gs e.fs → W (.ref (K.Γ e.c)) (some d) σ H'
  | .bad => False
def tI (K : Ct) (W : WX) (f : IF) : TI := fun σ H R => ∃ w env st, Rel K w env st σ H ∧ PostI K W w H σ (f env st) R
section
variable {K : Ct} {w : Wd} {H : Hp}
theorem iter_list {a : Addr} {vs : List V} {ds : List D} (h : H a = some (.lst vs)) (n : ¬ w.S a) (t : Dens K w.ρ w.S H vs ds) : Iter K w H (Itl K.K a) ds := by
  have k : ∀ w' H', ExtS K w H w' H' → H' a = some (.lst vs) := fun w' H' x => (x.keep a _ h (fun z => n (.inl z)) fun z => n (.inr (.inr z))).1
  refine ⟨fun w' H' i x hi => ?_, fun w' H' x => ⟨vs, SqL.of (k w' H' x), by rw [t.length]; exact Nat.le_refl _⟩, fun w' env st σ H' i y H2 r x hi q => ?_⟩
  · have hv : i < vs.length := by rw [t.length]; exact hi
    exact ⟨vs, vs[i], SqL.of (k w' H' x), List.getElem?_eq_getElem hv⟩
  · obtain ⟨rfl, q⟩ := q
    obtain ⟨d, e1, e2⟩ := (t.monoS x).getV (q vs (SqL.of (k w' _ x)))
    exact ⟨d, e1, e2, r, Ext.refl⟩
theorem iter_frz {a : Addr} {vs : List V} {ds : List D} (h : SqF K.K H w.S a vs) (t : Dens K w.ρ w.S H vs ds) : Iter K w H (Itl K.K a) ds := by
  have k : ∀ w' H', ExtS K w H w' H' → SqL K.K H' a vs := fun w' H' x => SqF.sql (S := fun _ => False) (h.imp fun o e n => ⟨(x.keep a _ e (fun z => n (.inl z)) fun z => n (.inr (.inr z))).1, fun z => z⟩)
  refine ⟨fun w' H' i x hi => ?_, fun w' H' x => ⟨vs, k w' H' x, by rw [t.length]; exact Nat.le_refl _⟩, fun w' env st σ H' i y H2 r x hi q => ?_⟩
  · have hv : i < vs.length := by rw [t.length]; exact hi
    exact ⟨vs, vs[i], k w' H' x, List.getElem?_eq_getElem hv⟩
  · obtain ⟨rfl, q⟩ := q
    obtain ⟨d, e1, e2⟩ := (t.monoS x).getV (q vs (k w' _ x))
    exact ⟨d, e1, e2, r, Ext.refl⟩
theorem iter_tup {a : Addr} {vs : List V} {ds : List D} (h : SqT K.K H a vs) (t : Dens K w.ρ w.S H vs ds) : Iter K w H (Itt K.K a) ds := by
  refine ⟨fun w' H' i x hi => ?_, fun w' H' x => ⟨vs, x.tups _ _ h, by rw [t.length]; exact Nat.le_refl _⟩, fun w' env st σ H' i y H2 r x hi q => ?_⟩
  · have hv : i < vs.length := by rw [t.length]; exact hi
    exact ⟨vs, vs[i], x.tups _ _ h, List.getElem?_eq_getElem hv⟩
  · obtain ⟨rfl, q⟩ := q
    obtain ⟨d, e1, e2⟩ := (t.monoS x).getV (q vs (x.tups _ _ h))
    exact ⟨d, e1, e2, r, Ext.refl⟩
theorem iter_str (s : Str) : Iter K w H (Its s) (signs s) := by
  have hl : (signs s).length = s.cps.size := by unfold signs; rw [List.length_map, Array.length_toList]
  refine ⟨fun w' H' i x hi => by rw [hl] at hi; exact hi, fun w' H' x => by rw [hl]; exact Nat.le_refl _, fun w' env st σ H' i y H2 r x hi q => ?_⟩
  obtain ⟨rfl, c, e, rfl⟩ := q
  refine ⟨.str (mk [c]), ?_, .str _, r, Ext.refl⟩
  unfold signs
  rw [List.getElem?_map, Array.getElem?_toList, e]
  rfl
def rng (lo : Int) (n : Nat) : List D := (List.range n).map fun i => .int (lo + (i : Nat))
theorem iter_range (lo : Int) (n : Nat) : Iter K w H (Itr lo n) (rng lo n) := by
  have hl : (rng lo n).length = n := by unfold rng; rw [List.length_map, List.length_range]
  refine ⟨fun w' H' i x hi => by rw [hl] at hi; exact hi, fun w' H' x => by rw [hl]; exact Nat.le_refl _, fun w' env st σ H' i y H2 r x hi q => ?_⟩
  obtain ⟨rfl, rfl⟩ := q
  rw [hl] at hi
  refine ⟨.int (lo + (i : Nat)), ?_, .int _, r, Ext.refl⟩
  unfold rng
  rw [List.getElem?_map, List.getElem?_range hi]
  rfl
end
section
variable {X : Cx} {Γ : Nat → Addr} {W : WX} {e a b c tg l : Expr} {f fa fb : EF} {s : Stmt} {ss rest : List Stmt} {g h : SF} {pos : Pos}
def itemsD : D → Sto → Res (List D) := fun d st => match d with
  | .tup ds => .ok ds st
  | .lst ds => .ok ds st
  | .fz ds => .ok ds st
  | .str s => .ok (signs s) st
  | _ => .bad
def iSeq (f : EF) : IF := fun env st => (f env st).bind itemsD
theorem pid_seq (h : PE X l (tD (XC X Γ) W f)) : PI X tg l (tI (XC X Γ) W (iSeq f)) := by
  refine ⟨fun pins s σ H R I hh => ?_⟩
  obtain ⟨w, env, st, r, p⟩ := hh
  have p : PostI (XC X Γ) W w H σ ((f env st).bind itemsD) R := p
  cases q : f env st with
  | ok d st1 =>
    rw [q] at p
    cases d with
    | tup ds =>
      refine (pi_tup h).run pins s σ H R I ⟨w, env, st, r, ?_⟩
      rw [q]
      intro ρ' H' x h1 h2 h3
      obtain ⟨a, vs, e1, hq, t⟩ := DenB.tup (w := w.at_ ρ') h3.b
      exact ⟨a, e1, ⟨vs, hq⟩, p ρ' H' _ h1 h2 (iter_tup hq t)⟩
    | lst ds =>
      refine (pi_list h).run pins s σ H R I ⟨w, env, st, r, ?_⟩
      rw [q]
      intro ρ' H' x h1 h2 h3
      cases h3 with
      | lst hq n t => exact ⟨_, rfl, ⟨_, SqL.of hq⟩, p ρ' H' _ h1 h2 (iter_list hq n t)⟩
    | fz ds =>
      refine (pi_list h).run pins s σ H R I ⟨w, env, st, r, ?_⟩
      rw [q]
      intro ρ' H' x h1 h2 h3
      cases h3 with
      | fz hq t => exact ⟨_, rfl, ⟨_, hq.sql⟩, p ρ' H' _ h1 h2 (iter_frz hq t)⟩
    | str z =>
      refine (pi_str h).run pins s σ H R I ⟨w, env, st, r, ?_⟩
      rw [q]
      intro ρ' H' x h1 h2 h3
      exact ⟨z, DenB.str (w := w.at_ ρ') h3.b, p ρ' H' _ h1 h2 (iter_str z)⟩
    | _ => exact p.elim
  | exc x st1 =>
    rw [q] at p
    refine (pi_tup h).run pins s σ H R I ⟨w, env, st, r, ?_⟩
    rw [q]
    exact p
  | bad => rw [q] at p; exact p.elim
def okR (j : Int) : Bool := decide (-(2 ^ 62) ≤ j) && decide (j < 2 ^ 62)
def iRan (f : EF) : IF := fun env st => (f env st).bind fun d st => match d with
  | .int j => if okR j = true then .ok (rng 0 j.toNat) st else .bad
  | _ => .bad
theorem pid_range1 {p : Pos} (hm : X.mg "range" = none) (ha : PE X a (tD (XC X Γ) W f)) (hg : Gl X "range" := by rfl) (hst : starEach (a :: []) X.env = (false, eval a X.env) :: starEach [] X.env := by rfl) (hs : starEach [a] X.env = [(false, eval a X.env)] := by rfl) :
    PI X tg (.Call (.Name "range" p) [a] [] pos) (tI (XC X Γ) W (iRan f)) := by
  refine ⟨fun pins s σ H R I ⟨w, env, st, r, p⟩ => (pi_range1 hg hm (pa_cons ha pa_nil hst) hs).run pins s σ H R I ⟨w, env, st, r, ?_⟩⟩
  unfold iRan at p
  cases q : f env st with
  | ok d st1 =>
    rw [q] at p
    intro ρ' H' x h1 h2 h3
    cases d with
    | int j =>
      have p : PostI (XC X Γ) W w H σ (if okR j = true then .ok (rng 0 j.toNat) st1 else .bad) R := p
      split at p
      · rename_i hz
        obtain ⟨z1, z2⟩ := Bool.and_eq_true_iff.mp hz
        exact ⟨j, by rw [DenB.int (w := w.at_ ρ') h3.b], of_decide_eq_true z1, of_decide_eq_true z2, p ρ' H' _ h1 h2 (iter_range 0 j.toNat)⟩
      · exact p.elim
    | _ => exact p.elim
  | exc x st1 => rw [q] at p; exact p
  | bad => rw [q] at p; exact p.elim
def kRan2 : D → D → Sto → Res (List D) := fun a b st => match a, b with
  | .int i, .int j => if (okR i && okR j) = true then .ok (rng i (j - i).toNat) st else .bad
  | _, _ => .bad
def iRan2 (fa fb : EF) : IF := fun env st => (fa env st).bind fun a st1 => (fb env st1).bind fun b st => kRan2 a b st
def forL (g : GF) (h : SF) : List D → SF
  | [] => fun env st => .nx env st
  | d :: ds => fun env st => (onlyNx (g d env st)).bind fun env1 st1 => match h env1 st1 with
    | .nx env2 st2 => forL g h ds env2 st2
    | .ct env2 st2 => forL g h ds env2 st2
    | .bk env2 st2 => .nx env2 st2
    | r => r
def sFor (fi : IF) (g : GF) (h : SF) : SF := fun env st => (fi env st).then fun items st => forL g h items env st
theorem psd_for {g : GF} {fi : IF} {iter : Expr} {body : List Stmt} (hp : PassesOwn (model X.prog X.w) X.A X.env X.xe) (hc : X.calm = true) (hi : PI X tg iter (tI (XC X Γ) W fi)) (hg : PG X tg (tgG (XC X Γ) W g)) (hb : PSs X body (tS (XC X Γ) W h))
    (hs : ∀ x, foldedSetIterable iter X.env x = pure x := by intro _; rfl) : PS X (.For tg iter body [] pos) (tS (XC X Γ) W (sFor fi g h)) := psImp (ps_for hp hc hi hg hb hs) fun D σ H ⟨w, env, st, r, p⟩ => by
  refine ⟨w, env, st, r, ?_⟩
  unfold sFor at p
  cases q : fi env st with
  | ok items st1 =>
    rw [q] at p
    have p : PostS (XC X Γ) W w H σ (forL g h items env st1) D := p
    intro ρ' H1 J h1 h2 It
    have r1 := r.ext h2 h1
    have p1 := PostS.back (σ' := σ) (h2.toS r h1) p
    refine ⟨fun i m σ' H' => m = items.length - i ∧ i ≤ items.length ∧ ∃ w' env' st', Rel (XC X Γ) w' env' st' σ' H' ∧ ExtS (XC X Γ) (w.at_ ρ') H1 w' H' ∧ PostS (XC X Γ) W w' H' σ' (forL g h (items.drop i) env' st') D, ⟨items.length, rfl, Nat.zero_le _, _, env, st1, r1, ExtS.refl, p1⟩, ?_⟩
    rintro i m σ' H' ⟨rfl, hi, w', env', st', r', x', p'⟩
    by_cases hlt : i < items.length
    · refine .inr ⟨It.goes w' H' i x' hlt, fun σ2 H2 => ∃ w2 env2 st2, Rel (XC X Γ) w2 env2 st2 σ2 H2 ∧ ExtS (XC X Γ) (w.at_ ρ') H1 w2 H2 ∧ PostS (XC X Γ) W w2 H2 σ2 (forL g h (items.drop (i + 1)) env2 st2) D, fun σ2 H2 ⟨w2, env2, st2, a1, a2, a3⟩ => ⟨items.length - (i + 1), by omega, rfl, hlt, w2, env2, st2, a1, a2, a3⟩, fun x H2 y => ?_⟩
      obtain ⟨d, e1, d1, r2, x2⟩ := It.yields w' env' st' σ' H' i x H2 r' x' hlt y
      have x2s := x2.toS r' r2.sto
      have x3 : ExtS (XC X Γ) (w.at_ ρ') H1 w' H2 := x'.trans x2s
      have ed : items.drop i = d :: items.drop (i + 1) := by
        rw [List.drop_eq_getElem_cons hlt]
        congr 1
        rw [List.getElem?_eq_getElem hlt] at e1
        exact Option.some.inj e1
      rw [ed] at p'
      have p2 : PostS (XC X Γ) W w' H2 σ' ((onlyNx (g d env' st')).bind fun env1 st1 => match h env1 st1 with
        | .nx env2 st2 => forL g h (items.drop (i + 1)) env2 st2
        | .ct env2 st2 => forL g h (items.drop (i + 1)) env2 st2
        | .bk env2 st2 => .nx env2 st2
        | r => r) D := PostS.back x2s p'
      refine ⟨w', env', st', d, r2, d1, ?_⟩
      cases q3 : g d env' st' with
      | nx e3 s3 =>
        rw [q3] at p2
        intro w4 σ4 H4 r4 x4
        refine ⟨w4, e3, s3, r4, ?_⟩
        have p3 := PostS.back (σ' := σ4) x4 p2
        have p3 : PostS (XC X Γ) W w4 H4 σ4 (match h e3 s3 with
          | .nx env2 st2 => forL g h (items.drop (i + 1)) env2 st2
          | .ct env2 st2 => forL g h (items.drop (i + 1)) env2 st2
          | .bk env2 st2 => .nx env2 st2
          | r => r) D := p3
        have x5 := x3.trans x4
        cases q4 : h e3 s3 with
        | nx e5 s5 =>
          rw [q4] at p3
          intro w6 σ6 H6 r6 x6
          exact ⟨w6, e5, s5, r6, x5.trans x6, PostS.back x6 p3⟩
        | ct e5 s5 =>
          rw [q4] at p3
          intro w6 σ6 H6 r6 x6
          exact ⟨w6, e5, s5, r6, x5.trans x6, PostS.back x6 p3⟩
        | bk e5 s5 => rw [q4] at p3; exact p3
        | rt d5 s5 => rw [q4] at p3; exact p3
        | exc d5 s5 => rw [q4] at p3; exact p3
        | bad => rw [q4] at p3; exact p3.elim
      | exc e3 s3 => rw [q3] at p2; exact p2
      | _ => rw [q3] at p2; exact p2.elim
    · have e : i = items.length := by omega
      subst e
      rw [List.drop_length] at p'
      exact .inl ⟨It.stops w' H' x', p'.nxt r'⟩
  | exc x st1 =>
    rw [q] at p
    intro ρ' H' d gs h1 h2 h3 h4
    exact p (w.at_ ρ') σ H' d gs h1 (h2.toS r h1) h3 h4
  | bad => rw [q] at p; exact p.elim
end
end AM
namespace AM
open PySem PySem.Spec PyProof.Rows L2
section
variable {K : Ct} {ρ ρ' : List Addr} {S S' : Addr → Prop} {H H' : Hp}
mutual
theorem Den.gen (hk : ∀ a o, H a = some o → ¬ S a → H' a = some o ∧ ¬ S' a) (ht : ∀ a vs, SqT K.K H a vs → SqT K.K H' a vs) (hh : ∀ (n : Nat) a, ρ[n]? = some a → ρ'[n]? = some a) : ∀ {v : V} {d : D}, Den K ρ S H v d → Den K ρ' S' H' v d
  | _, _, .non => .non
  | _, _, .bl b => .bl b
  | _, _, .int i => .int i
  | _, _, .str s => .str s
  | _, _, .ty n => .ty n
  | _, _, .cls a => .cls a
  | _, _, .tup h t => .tup (ht _ _ h) (Dens.gen hk ht hh t)
  | _, _, .lst h n t => .lst (hk _ _ h n).1 (hk _ _ h n).2 (Dens.gen hk ht hh t)
  | _, _, .fz h t => .fz (h.imp fun o e n => hk _ _ e n) (Dens.gen hk ht hh t)
  | _, _, .ins h n t => .ins (hk _ _ h n).1 (hk _ _ h n).2 (DenF.gen hk ht hh t)
  | _, _, .hd h => .hd (hh _ _ h)
  | _, _, .dic h n t => .dic (hk _ _ h n).1 (hk _ _ h n).2 t
theorem Dens.gen (hk : ∀ a o, H a = some o → ¬ S a → H' a = some o ∧ ¬ S' a) (ht : ∀ a vs, SqT K.K H a vs → SqT K.K H' a vs) (hh : ∀ (n : Nat) a, ρ[n]? = some a → ρ'[n]? = some a) : ∀ {vs : List V} {ds : List D}, Dens K ρ S H vs ds → Dens K ρ' S' H' vs ds
  | _, _, .nil => .nil
  | _, _, .cons h t => .cons (Den.gen hk ht hh h) (Dens.gen hk ht hh t)
theorem DenF.gen (hk : ∀ a o, H a = some o → ¬ S a → H' a = some o ∧ ¬ S' a) (ht : ∀ a vs, SqT K.K H a vs → SqT K.K H' a vs) (hh : ∀ (n : Nat) a, ρ[n]? = some a → ρ'[n]? = some a) : ∀ {vs : List (Str × V)} {ds : List (Str × D)}, DenF K ρ S H vs ds → DenF K ρ' S' H' vs ds
  | _, _, .nil => .nil
  | _, _, .cons h t => .cons (Den.gen hk ht hh h) (DenF.gen hk ht hh t)
end
end
section
variable {K : Ct} {w : Wd} {env : AEnv} {st : Sto} {σ : St} {H H' : Hp} {a : Addr} {vs ws : List V}
def Wd.keep (w : Wd) (a : Addr) : Wd := ⟨w.ρ, fun b => w.R b ∨ b = a, w.O⟩
theorem keep_S {b : Addr} : (w.keep a).S b ↔ w.S b ∨ b = a := by
  constructor
  · rintro (h | (h | h) | h)
    · exact .inl (.inl h)
    · exact .inl (.inr (.inl h))
    · exact .inr h
    · exact .inl (.inr (.inr h))
  · rintro ((h | h | h) | h)
    · exact .inl h
    · exact .inr (.inl (.inl h))
    · exact .inr (.inr h)
    · exact .inr (.inl (.inr h))
theorem SlotOk.map {w' : Wd} {v : Option V} {s : Sl} {o : Option Addr} (h : SlotOk K w H v s o) (m : ∀ {v d}, Den K w.ρ w.S H v d → Den K w'.ρ w'.S H' v d) (ms : ∀ {v d}, Dens K w.ρ w.S H v d → Dens K w'.ρ w'.S H' v d) (ho : ∀ b us, o = some b → H b = some (.lst us) → H' b = some (.lst us)) : SlotOk K w' H' v s o := by
  cases s with
  | un => exact h
  | sh d => obtain ⟨e, x, ex, dx⟩ := h; exact ⟨e, x, ex, m dx⟩
  | own ds => obtain ⟨b, us, e1, e2, e3, e4⟩ := h; exact ⟨b, us, e1, e2, ho b us e1 e3, ms e4⟩
theorem Rel.keepNew (r : Rel K w env st σ H) (ha : H a = none) : Rel K (w.keep a) env st σ (upd H a (.lst vs)) ∧ ExtS K w H (w.keep a) (upd H a (.lst vs)) := by
  have ne : ∀ b o, H b = some o → upd H a (.lst vs) b = H b := fun b o e => upd_ne (ne_of_none e ha)
  have nb : ∀ b o, H b = some o → b ≠ a := fun b o e => ne_of_none e ha
  have hk : ∀ b o, H b = some o → ¬ w.S b → upd H a (.lst vs) b = some o ∧ ¬ (w.keep a).S b := fun b o e n => ⟨by rw [ne b o e]; exact e, fun z => (keep_S.mp z).elim n (nb b o e)⟩
  have m : ∀ {v d}, Den K w.ρ w.S H v d → Den K (w.keep a).ρ (w.keep a).S (upd H a (.lst vs)) v d := fun h => h.gen hk (fun _ _ h => SqT.upd ha h) fun _ _ h => h
  have ms : ∀ {v d}, Dens K w.ρ w.S H v d → Dens K (w.keep a).ρ (w.keep a).S (upd H a (.lst vs)) v d := fun h => h.gen hk (fun _ _ h => SqT.upd ha h) fun _ _ h => h
  have mf : ∀ {v d}, DenF K w.ρ w.S H v d → DenF K (w.keep a).ρ (w.keep a).S (upd H a (.lst vs)) v d := fun h => h.gen hk (fun _ _ h => SqT.upd ha h) fun _ _ h => h
  refine ⟨⟨⟨r.sto.len, r.sto.nd, fun n b c h1 h2 => ?_⟩, fun b h => ?_, r.len, r.lenO, fun i v s o h1 h2 h3 => (r.slot i v s o h1 h2 h3).map m ms fun b us _ e => by rw [ne b _ e]; exact e, r.ndO, fun b h => ⟨(r.disO b h).1, fun z => ?_⟩⟩,
    ⟨⟨[], by simp [Wd.keep]⟩, fun b o h n k => ⟨by rw [ne b o h]; exact h, n, k⟩, fun b h => h.elim .inl fun z => .inr (by rw [z]; exact ha), fun b o h => ⟨o, by rw [ne b o h]; exact h⟩, fun _ _ h => SqT.upd ha h, fun _ h => .inl h⟩⟩
  · have q := r.sto.cell n b c h1 h2
    cases c with
    | lst ds => obtain ⟨us, e, t⟩ := q; exact ⟨us, by rw [ne b _ e]; exact e, ms t⟩
    | obj C fs => obtain ⟨dx, gs, e, t⟩ := q; exact ⟨dx, gs, by rw [ne b _ e]; exact e, mf t⟩
    | tab i q' =>
      obtain ⟨o, eo, _⟩ := CellOk.some q
      exact TabC.gen q (ne b _ eo) hk
  · rcases h with h | h
    · obtain ⟨⟨o, e⟩, n⟩ := r.res b h
      exact ⟨⟨o, by rw [ne b o e]; exact e⟩, n⟩
    · subst h
      exact ⟨⟨_, upd_same⟩, fun z => r.fresh ha (.inl z)⟩
  · rcases z with z | z
    · exact (r.disO b h).2 z
    · subst z
      exact r.fresh ha (.inr (.inr h))
theorem SqT.put {b : Addr} {us : List V} (ha : H a = some (.lst vs)) (h : SqT K.K H b us) : SqT K.K (L2.upd H a (.lst ws)) b us := by
  rcases h with (q | ⟨o, q⟩) | q
  · exact .inl (.inl (by rw [upd_ne (ne_of q ha (by intro z; cases z))]; exact q))
  · exact .inl (.inr ⟨o, by rw [upd_ne (ne_of q ha (by intro z; cases z))]; exact q⟩)
  · exact .inr q
theorem Rel.putKept (r : Rel K w env st σ H) (hR : w.R a) (ha : H a = some (.lst vs)) : Rel K w env st σ (upd H a (.lst ws)) := by
  have nb : ∀ b, ¬ w.S b → b ≠ a := fun b n z => n (by rw [z]; exact .inr (.inl hR))
  have hk : ∀ b o, H b = some o → ¬ w.S b → upd H a (.lst ws) b = some o ∧ ¬ w.S b := fun b o e n => ⟨by rw [upd_ne (nb b n)]; exact e, n⟩
  have m : ∀ {v d}, Den K w.ρ w.S H v d → Den K w.ρ w.S (upd H a (.lst ws)) v d := fun h => h.gen hk (fun _ _ h => SqT.put ha h) fun _ _ h => h
  have ms : ∀ {v d}, Dens K w.ρ w.S H v d → Dens K w.ρ w.S (upd H a (.lst ws)) v d := fun h => h.gen hk (fun _ _ h => SqT.put ha h) fun _ _ h => h
  have mf : ∀ {v d}, DenF K w.ρ w.S H v d → DenF K w.ρ w.S (upd H a (.lst ws)) v d := fun h => h.gen hk (fun _ _ h => SqT.put ha h) fun _ _ h => h
  have nρ : ∀ b, b ∈ w.ρ → b ≠ a := fun b h z => (r.res a hR).2 (by rw [← z]; exact h)
  refine ⟨⟨r.sto.len, r.sto.nd, fun n b c h1 h2 => ?_⟩, fun b h => ?_, r.len, r.lenO, fun i v s o h1 h2 h3 => (r.slot i v s o h1 h2 h3).map m ms fun b us eo e => ?_, r.ndO, r.disO⟩
  · have q := r.sto.cell n b c h1 h2
    have e := upd_ne (H := H) (o := .lst ws) (nρ b (List.mem_of_getElem? h1))
    cases c with
    | lst ds => obtain ⟨us, q, t⟩ := q; exact ⟨us, by rw [e]; exact q, ms t⟩
    | obj C fs => obtain ⟨dx, gs, q, t⟩ := q; exact ⟨dx, gs, by rw [e]; exact q, mf t⟩
    | tab i q' => exact TabC.gen q e hk
  · obtain ⟨⟨o, e⟩, n⟩ := r.res b h
    by_cases z : b = a
    · exact ⟨⟨_, by rw [z]; exact upd_same⟩, n⟩
    · exact ⟨⟨o, by rw [upd_ne z]; exact e⟩, n⟩
  · have z : b ≠ a := fun z => (r.disO b (by rw [eo] at h3; exact List.mem_of_getElem? h3)).2 (by rw [z]; exact hR)
    rw [upd_ne z]
    exact e
def lift (H : Hp) (a : Addr) : Hp := fun b => if b = a then none else H b
theorem lift_upd (ha : H a = some (.lst vs)) : upd (lift H a) a (.lst vs) = H := by
  funext b
  by_cases e : b = a
  · subst e; rw [upd_same, ha]
  · rw [upd_ne e]; exact if_neg e
theorem lift_at : lift H a a = none := if_pos rfl
theorem lift_ne {b : Addr} (h : b ≠ a) : lift H a b = H b := if_neg h
end
def wipeE (env : AEnv) : List Nat → AEnv
  | [] => env
  | v :: vs => (wipeE env vs).set v .un
def noOwn (env : AEnv) (vs : List Nat) : Bool := vs.all fun v => match env[v]? with
  | some (.own _) => false
  | _ => true
section
variable {K : Ct} {w : Wd} {env : AEnv} {st : Sto} {σ : St} {H H' : Hp} {i : Nat}
theorem Rel.wipe1 (r : Rel K w env st σ H) (h : ∀ ds, env[i]? ≠ some (.own ds)) : Rel K w (env.set i .un) st (σ.set i none) H where
  sto := r.sto
  res := r.res
  len := by rw [List.length_set, List.length_set, r.len]
  lenO := by rw [List.length_set, r.lenO]
  slot := fun j v s o h1 h2 h3 => by
    rcases get_set h2 with ⟨rfl, rfl, _⟩ | ⟨hj, h2⟩
    · cases o with
      | none => rfl
      | some a =>
        obtain ⟨ds, _, e, _⟩ := r.own h3
        exact absurd e (h ds)
    · rcases get_set h1 with ⟨q, _⟩ | ⟨_, h1⟩
      · exact absurd q hj
      · exact r.slot j v s o h1 h2 h3
  ndO := r.ndO
  disO := r.disO
theorem wipeE_own {vs : List Nat} {j : Nat} {ds : List D} : (wipeE env vs)[j]? = some (.own ds) → env[j]? = some (.own ds) := by
  induction vs with
  | nil => exact fun h => h
  | cons v vs ih =>
    intro h
    rcases get_set (show ((wipeE env vs).set v .un)[j]? = some (.own ds) from h) with ⟨_, q, _⟩ | ⟨_, h⟩
    · cases q
    · exact ih h
theorem Rel.wipe (r : Rel K w env st σ H) : ∀ vs : List Nat, noOwn env vs = true → Rel K w (wipeE env vs) st (wipe σ vs) H
  | [], _ => r
  | v :: vs, h => by
    obtain ⟨h1, h2⟩ := Bool.and_eq_true_iff.mp (show ((match env[v]? with
      | some (.own _) => false
      | _ => true) && noOwn env vs) = true from h)
    refine (Rel.wipe r vs h2).wipe1 fun ds e => ?_
    rw [wipeE_own e] at h1
    cases h1
theorem wipe_set {α : Type} {σ : St} {vs : List Nat} {x : Option V} (h : i ∈ vs) : wipe (σ.set i x) vs = wipe σ vs := by
  induction vs with
  | nil => cases h
  | cons v vs ih =>
    show (wipe (σ.set i x) vs).set v none = (wipe σ vs).set v none
    by_cases e : i ∈ vs
    · rw [ih e]
    · have e2 : i = v := by
        rcases List.mem_cons.mp h with q | q
        · exact q
        · exact absurd q e
      subst e2
      have go : ∀ (us : List Nat) (τ : St), i ∉ us → wipe (τ.set i x) us = (wipe τ us).set i x := by
        intro us
        induction us with
        | nil => intro τ _; rfl
        | cons u us ihu =>
          intro τ hn
          show (wipe (τ.set i x) us).set u none = ((wipe τ us).set u none).set i x
          rw [ihu τ (fun z => hn (List.mem_cons_of_mem _ z)), List.set_comm]
          exact fun z => hn (by rw [z]; exact List.mem_cons_self)
      rw [go vs σ e, List.set_set]
theorem wipe_wipe (σ : St) (vs : List Nat) : wipe (wipe σ vs) vs = wipe σ vs := by
  have go : ∀ us : List Nat, (∀ u ∈ us, u ∈ vs) → wipe (wipe σ us) vs = wipe σ vs := by
    intro us
    induction us with
    | nil => intro _; rfl
    | cons u us ih =>
      intro h
      show wipe ((wipe σ us).set u none) vs = _
      rw [wipe_set (α := Unit) (h u List.mem_cons_self)]
      exact ih fun z hz => h z (List.mem_cons_of_mem _ hz)
  exact go vs fun _ h => h
def putAll (env : AEnv) : List Nat → List D → AEnv
  | i :: is, d :: ds => putAll (env.set i (.sh d)) is ds
  | _, _ => env
def putAllV (σ : St) : List Nat → List V → St
  | i :: is, d :: ds => putAllV (σ.set i (some d)) is ds
  | _, _ => σ
theorem Rel.putAll : ∀ {is : List Nat} {w : Wd} {env : AEnv} {σ : St} {ds : List D} {vs : List V}, Rel K w env st σ H → Dens K w.ρ w.S H vs ds → (∀ i ∈ is, w.O[i]? = some none ∨ w.O[i]? = none) → Rel K w (AM.putAll env is ds) st (putAllV σ is vs) H
  | [], w, env, σ, ds, vs, r, t, _ => by cases t <;> exact r
  | i :: is, w, env, σ, ds, vs, r, t, hO => by
    cases t with
    | nil => exact r
    | @cons v d vs ds h t =>
      have e : w.O.set i none = w.O := by
        apply List.ext_getElem?
        intro j
        by_cases z : i = j
        · subst z
          rcases hO i List.mem_cons_self with q | q
          · rw [List.getElem?_set_self (List.getElem?_eq_some_iff.mp q).1, q]
          · rw [q, List.getElem?_eq_none (by rw [List.length_set]; exact List.getElem?_eq_none_iff.mp q)]
        · rw [List.getElem?_set_ne z]
      have ew : w.free i = w := by
        unfold Wd.free
        rw [e]
      have r1 := r.setSh (i := i) h
      rw [ew] at r1
      show Rel K w (AM.putAll (env.set i (.sh d)) is ds) st (putAllV (σ.set i (some v)) is vs) H
      exact Rel.putAll r1 t fun j hj => hO j (List.mem_cons_of_mem _ hj)
theorem wipe_putAll {is vs : List Nat} {xs : List V} {σ : St} (h : ∀ i ∈ is, i ∈ vs) : wipe (putAllV σ is xs) vs = wipe σ vs := by
  induction is generalizing σ xs with
  | nil => cases xs <;> rfl
  | cons i is ih =>
    cases xs with
    | nil => rfl
    | cons x xs =>
      show wipe (putAllV (σ.set i (some x)) is xs) vs = _
      rw [ih fun j hj => h j (List.mem_cons_of_mem _ hj), wipe_set (α := Unit) (h i List.mem_cons_self)]
end
def tgC (tup : Bool) (is : List Nat) (d : D) : Option (List D) := match tup with
  | true => (match d with
    | .tup ds => if ds.length = is.length then some ds else none
    | _ => none)
  | false => if is.length = 1 then some [d] else none
def gsN : List Nat → TGs
  | [] => gNil
  | i :: is => gCons (gName i) (gsN is)
def gC (K : PySem.W.Frag) (tup : Bool) (is : List Nat) : TG := match tup with
  | true => gTup K is.length (gsN is)
  | false => gName (is.headD 0)
theorem gsN_ok {Q : St → Hp → Prop} {H : Hp} : ∀ {is : List Nat} {xs : List V} {σ : St}, xs.length = is.length → Q (putAllV σ is xs) H → gsN is xs σ H Q
  | [], [], σ, _, q => ⟨rfl, q⟩
  | i :: is, x :: xs, σ, h, q => ⟨x, xs, rfl, gsN_ok (is := is) (by simpa using h) q⟩
theorem gC_ok {K : Ct} {w : Wd} {H : Hp} {tup : Bool} {is : List Nat} {x : V} {d : D} {ds : List D} {σ : St} {Q : St → Hp → Prop} (e : tgC tup is d = some ds) (h : Den K w.ρ w.S H x d) : ∃ xs, Dens K w.ρ w.S H xs ds ∧ (Q (putAllV σ is xs) H → gC K.K tup is x σ H Q) := by
  cases tup with
  | true =>
    cases d with
    | tup es =>
      have e : (if es.length = is.length then some es else none) = some ds := e
      split at e
      · rename_i hl
        cases e
        obtain ⟨a, vs, e1, hq, t⟩ := DenB.tup (w := w) h.b
        exact ⟨vs, t, fun q => ⟨a, vs, e1, hq, by rw [t.length, hl], gsN_ok (by rw [t.length, hl]) q⟩⟩
      · cases e
    | _ => cases e
  | false =>
    have e : (if is.length = 1 then some [d] else none) = some ds := e
    split at e
    · rename_i hl
      cases e
      match is, hl with
      | [i], _ => exact ⟨[x], .cons h .nil, fun q => q⟩
    · cases e
def Res.bindN {α β : Type} (r : Res α) (k : α → Sto → Res β) : Res β := match r with
  | .ok a st => k a st
  | _ => .bad
def onlyOk {α : Type} (r : Res α) : Res α := match r with
  | .ok a st => .ok a st
  | _ => .bad
def compL (tup : Bool) (is vs : List Nat) (t : TF) (f : EF) (env : AEnv) : List D → List D → Sto → Res (List D)
  | acc, [], st => .ok acc st
  | acc, d :: ds, st => match tgC tup is d with
    | some es => (t (putAll (wipeE env vs) is es) st).bindN fun b st2 => if b = true then (f (putAll (wipeE env vs) is es) st2).bindN fun y st3 => (if acc.length < sizeLine then compL tup is vs t f env (acc ++ [y]) ds st3 else .bad) else compL tup is vs t f env acc ds st2
    | none => .bad
def compF (fi : IF) (tup : Bool) (is vs : List Nat) (t : TF) (f : EF) : IF := fun env st => if noOwn env vs = true ∧ (∀ i ∈ is, i ∈ vs) then (fi env st).bind fun items st => onlyOk (compL tup is vs t f env [] items st) else .bad
abbrev WN : WX := fun _ _ _ _ => False
def tYesD : TF := fun _ st => .ok true st
theorem Post.bindN {α β γ : Type} {Da : DnT β α} {K : Ct} {w : Wd} {env : AEnv} {st : Sto} {σ : St} {H : Hp} {f : Res α} {k : α → Sto → Res γ} {P : Res γ → Prop} (r : Rel K w env st σ H) (h : P (f.bindN k)) (hb : ¬ P .bad) :
    Post Da K WN w H σ f fun x H1 => ∃ ρ1 st1 a, Rel K (w.at_ ρ1) env st1 σ H1 ∧ Ext K w.ρ H ρ1 H1 ∧ Da K ρ1 (w.at_ ρ1).S H1 x a ∧ P (k a st1) := by
  cases f with
  | ok a st1 => exact fun ρ' H' x h1 h2 h3 => ⟨ρ', st1, a, r.ext h2 h1, h2, h3, h⟩
  | exc e st1 => exact (hb h).elim
  | bad => exact (hb h).elim
section
variable {X : Cx} {Γ : Nat → Addr} {W : WX} {elt tg iter : Expr} {ifs : List Expr} {f : EF} {fi : IF} {t : TF} {pos : Pos} {scope : Scope} {own : List (Str × Nat)} {tup : Bool} {is : List Nat}
theorem ptsd_nil : PTs X [] (tT (XC X Γ) W tYesD) := ⟨fun pins s σ H Q I ⟨w, env, st, r, p⟩ => pts_nil.run pins s σ H Q I (Post.ok (Da := dnB) (x := true) r p rfl)⟩
theorem ptsd_one {c : Expr} (h : PT X c (tT (XC X Γ) W t)) : PTs X [c] (tT (XC X Γ) W t) := pts_one h
def CFin (K : Ct) (w : Wd) (H1 : Hp) (ρ1 : List Addr) (D : Addr) (env : AEnv) (σ : St) (Q : VK) : Res (List AM.D) → Prop
  | .ok ds st' => ∀ ρ3 H3 vs3, Rel K ((w.at_ ρ3).keep D) env st' σ H3 → Ext K ρ1 H1 ρ3 H3 → H3 D = some (.lst vs3) → Dens K ρ3 ((w.at_ ρ3).keep D).S H3 vs3 ds → Q (.ref D) H3
  | _ => False
theorem cfin_of {K : Ct} {w : Wd} {env : AEnv} {st : Sto} {σ : St} {H H1 : Hp} {ρ' : List Addr} {D : Addr} {Q : VK} {rr : Res (List AM.D)} (r : Rel K w env st σ H) (h2 : Ext K w.ρ H ρ' H1) (hD : H1 D = none)
    (p : match onlyOk rr with
      | .ok ds st' => ∀ ρ' H' p vs, StOk K ρ' (w.at_ ρ').S H' st' → Ext K w.ρ H ρ' H' → H' p = none → Dens K ρ' (w.at_ ρ').S H' vs ds → Q (.ref p) (upd H' p (.lst vs))
      | .exc e st' => ∀ ρ' H' d gs, StOk K ρ' (w.at_ ρ').S H' st' → Ext K w.ρ H ρ' H' → H' d = some (.xd gs) → DenF K ρ' (w.at_ ρ').S H' gs e.fs → W (.ref (K.Γ e.c)) (some d) σ H'
      | .bad => False) : CFin K w H1 ρ' D env σ Q rr := by
  cases rr with
  | ok ds st' =>
    intro ρ3 H3 vs3 r3 x3 eD t3
    have hS : ∀ a, (w.at_ ρ3).S a → ((w.at_ ρ3).keep D).S a := fun a z => keep_S.mpr (.inl z)
    have SD : ((w.at_ ρ3).keep D).S D := keep_S.mpr (.inr rfl)
    have nD : ∀ a, ¬ ((w.at_ ρ3).keep D).S a → a ≠ D := fun a n z => n (by rw [z]; exact SD)
    have hk : ∀ a o, H3 a = some o → ¬ ((w.at_ ρ3).keep D).S a → lift H3 D a = some o ∧ ¬ (w.at_ ρ3).S a := fun a o e n => ⟨by rw [lift_ne (nD a n)]; exact e, fun z => n (hS a z)⟩
    have ht : ∀ a us, SqT K.K H3 a us → SqT K.K (lift H3 D) a us := fun a us z => by
      rcases z with (z | ⟨o, z⟩) | z
      · exact .inl (.inl (by rw [lift_ne (ne_of z eD (by intro q; cases q))]; exact z))
      · exact .inl (.inr ⟨o, by rw [lift_ne (ne_of z eD (by intro q; cases q))]; exact z⟩)
      · exact .inr z
    have nDρ : ∀ a, a ∈ ρ3 → a ≠ D := fun a h z => (r3.res D (.inr rfl)).2 (by rw [← z]; exact h)
    have sto : StOk K ρ3 (w.at_ ρ3).S (lift H3 D) st' := ⟨r3.sto.len, r3.sto.nd, fun n a c g1 g2 => by
      have z := r3.sto.cell n a c g1 g2
      have ea := lift_ne (H := H3) (nDρ a (List.mem_of_getElem? g1))
      cases c with
      | lst ds => obtain ⟨us, z, tt⟩ := z; exact ⟨us, by rw [ea]; exact z, tt.gen hk ht fun _ _ h => h⟩
      | obj C fs => obtain ⟨dx, gs, z, tt⟩ := z; exact ⟨dx, gs, by rw [ea]; exact z, tt.gen hk ht fun _ _ h => h⟩
      | tab i q' => exact TabC.gen z ea hk⟩
    have ext : Ext K w.ρ H ρ3 (lift H3 D) := by
      refine ⟨(h2.trans x3).pre, fun a o g n => ?_, fun a us g => ht a us (x3.tups a us (h2.tups a us g))⟩
      obtain ⟨g1, n1⟩ := h2.keep a o g n
      obtain ⟨g2, n2⟩ := x3.keep a o g1 n1
      exact ⟨by rw [lift_ne (ne_of_none g1 hD)]; exact g2, n2⟩
    have z := p ρ3 (lift H3 D) D vs3 sto ext lift_at (t3.gen hk ht fun _ _ h => h)
    rw [lift_upd eD] at z
    exact z
  | exc x st' => exact p
  | bad => exact p
theorem ext_keep {K : Ct} {w : Wd} {env : AEnv} {st : Sto} {σ : St} {H1 H3 : Hp} {ρ1 ρ3 : List Addr} {D : Addr} (x : Ext K ρ1 H1 ρ3 H3) (r : Rel K ((w.at_ ρ3).keep D) env st σ H3) (hD : H1 D = none) : ExtS K (w.at_ ρ1) H1 ((w.at_ ρ3).keep D) H3 := by
  refine ⟨x.pre, fun a o h n m => ?_, fun a h => ?_, fun a o h => ?_, x.tups, fun _ h => .inl h⟩
  · obtain ⟨g1, g2⟩ := x.keep a o h n
    exact ⟨g1, g2, m⟩
  · rcases h with h | h
    · exact .inl h
    · exact .inr (by rw [h]; exact hD)
  · by_cases hr : a ∈ ρ1
    · obtain ⟨l, e⟩ := x.pre
      exact r.sto.there (a := a) (by show a ∈ ρ3; rw [e]; exact List.mem_append_left _ hr)
    · exact ⟨o, (x.keep a o h hr).1⟩
theorem noOwn_O {K : Ct} {w : Wd} {env : AEnv} {st : Sto} {σ : St} {H : Hp} {vs : List Nat} (r : Rel K w env st σ H) (h : noOwn env vs = true) : ∀ i ∈ vs, w.O[i]? = some none ∨ w.O[i]? = none := fun i hi => by
  cases q : w.O[i]? with
  | none => exact .inr rfl
  | some o =>
    cases o with
    | none => exact .inl rfl
    | some a =>
      obtain ⟨ds, _, e, _⟩ := r.own q
      have z := List.all_eq_true.mp h i hi
      rw [e] at z
      cases z
theorem comp_ok {K : Ct} {σ : St} {H : Hp} {Q : VK} (h : tF K W (compF fi tup is (own.map (·.2)) t f) σ H Q) : tLc (tI K W fi) (gC K.K tup is) (tT K WN t) (tD K WN f) (own.map (·.2)) σ H Q := by
  obtain ⟨w, env, st, r, p⟩ := h
  generalize hvs : own.map (·.2) = vs at p
  by_cases hc : noOwn env vs = true ∧ (∀ i ∈ is, i ∈ vs)
  · obtain ⟨hc1, hc2⟩ := hc
    refine ⟨w, env, st, r, ?_⟩
    have eF : compF fi tup is vs t f env st = (fi env st).bind fun items st => onlyOk (compL tup is vs t f env [] items st) := if_pos ⟨hc1, hc2⟩
    rw [eF] at p
    cases q : fi env st with
    | exc x st1 => rw [q] at p; exact p
    | bad => rw [q] at p; exact p
    | ok items st1 =>
      rw [q] at p
      intro ρ' H1 J h1 h2 It D hD
      have r1 : Rel K (w.at_ ρ') env st1 σ H1 := r.ext h2 h1
      obtain ⟨r2, _⟩ := r1.keepNew (vs := []) hD
      have fin0 : CFin K w H1 ρ' D env σ Q (compL tup is vs t f env [] items st1) := cfin_of r h2 hD p
      refine ⟨fun i m H' => m = items.length - i ∧ i ≤ items.length ∧ ∃ ρ2 st2 acc us, Rel K ((w.at_ ρ2).keep D) env st2 σ H' ∧ Ext K ρ' H1 ρ2 H' ∧ H' D = some (.lst us) ∧ Dens K ρ2 ((w.at_ ρ2).keep D).S H' us acc ∧ CFin K w H1 ρ' D env σ Q (compL tup is vs t f env acc (items.drop i) st2),
        ⟨items.length, rfl, Nat.zero_le _, ρ', st1, [], [], r2, Ext.new hD, upd_same, .nil, fin0⟩, ?_⟩
      rintro i m H' ⟨rfl, hi, ρ2, st2, acc, us, r', x', eD, tA, fin⟩
      have xS := ext_keep x' r' hD
      by_cases hlt : i < items.length
      · refine .inr ⟨It.goes _ H' i xS hlt, fun H2 => ∃ ρ2 st2 acc us, Rel K ((w.at_ ρ2).keep D) env st2 σ H2 ∧ Ext K ρ' H1 ρ2 H2 ∧ H2 D = some (.lst us) ∧ Dens K ρ2 ((w.at_ ρ2).keep D).S H2 us acc ∧ CFin K w H1 ρ' D env σ Q (compL tup is vs t f env acc (items.drop (i + 1)) st2),
          fun H2 z => ⟨items.length - (i + 1), by omega, rfl, hlt, z⟩, fun x H2 y => ?_⟩
        obtain ⟨d, e1, d1, r3, x3⟩ := It.yields _ env st2 σ H' i x H2 r' xS hlt y
        have x4 : Ext K ρ' H1 ρ2 H2 := x'.trans x3
        have eD2 : H2 D = some (.lst us) := (x3.keep D _ eD (r'.res D (.inr rfl)).2).1
        have tA2 : Dens K ρ2 ((w.at_ ρ2).keep D).S H2 us acc := lastsDs r' ⟨ρ2, rfl⟩ x3 tA
        have ed : items.drop i = d :: items.drop (i + 1) := by
          rw [List.drop_eq_getElem_cons hlt]
          congr 1
          rw [List.getElem?_eq_getElem hlt] at e1
          exact Option.some.inj e1
        rw [ed] at fin
        have nb : ¬ CFin K w H1 ρ' D env σ Q .bad := fun z => z
        cases eg : tgC tup is d with
        | none =>
          have fin : CFin K w H1 ρ' D env σ Q (match tgC tup is d with
            | some es => (t (putAll (wipeE env vs) is es) st2).bindN fun b st2 => if b = true then (f (putAll (wipeE env vs) is es) st2).bindN fun y st3 => (if acc.length < sizeLine then compL tup is vs t f env (acc ++ [y]) (items.drop (i + 1)) st3 else .bad) else compL tup is vs t f env acc (items.drop (i + 1)) st2
            | none => .bad) := fin
          rw [eg] at fin
          exact fin.elim
        | some es =>
          have fin : CFin K w H1 ρ' D env σ Q (match tgC tup is d with
            | some es => (t (putAll (wipeE env vs) is es) st2).bindN fun b st2 => if b = true then (f (putAll (wipeE env vs) is es) st2).bindN fun y st3 => (if acc.length < sizeLine then compL tup is vs t f env (acc ++ [y]) (items.drop (i + 1)) st3 else .bad) else compL tup is vs t f env acc (items.drop (i + 1)) st2
            | none => .bad) := fin
          rw [eg] at fin
          obtain ⟨xs, tx, go⟩ := gC_ok (w := (w.at_ ρ2).keep D) (σ := wipe σ vs) (H := H2) (Q := fun σ2 H2 => wipe σ2 vs = wipe σ vs ∧ tT K WN t σ2 H2 fun b H3 =>
            if b = true then tD K WN f σ2 H3 fun y H4 => ∃ acc, H4 D = some (.lst acc) ∧ acc.length < sizeLine ∧ ∃ ρ2 st2 acc' us, Rel K ((w.at_ ρ2).keep D) env st2 σ (upd H4 D (.lst (acc ++ [y]))) ∧ Ext K ρ' H1 ρ2 (upd H4 D (.lst (acc ++ [y]))) ∧ (upd H4 D (.lst (acc ++ [y]))) D = some (.lst us) ∧ Dens K ρ2 ((w.at_ ρ2).keep D).S (upd H4 D (.lst (acc ++ [y]))) us acc' ∧ CFin K w H1 ρ' D env σ Q (compL tup is vs t f env acc' (items.drop (i + 1)) st2)
            else ∃ ρ2 st2 acc us, Rel K ((w.at_ ρ2).keep D) env st2 σ H3 ∧ Ext K ρ' H1 ρ2 H3 ∧ H3 D = some (.lst us) ∧ Dens K ρ2 ((w.at_ ρ2).keep D).S H3 us acc ∧ CFin K w H1 ρ' D env σ Q (compL tup is vs t f env acc (items.drop (i + 1)) st2)) eg d1
          refine go ⟨by rw [wipe_putAll hc2, wipe_wipe], ?_⟩
          have rw1 := (r3.wipe vs hc1).putAll tx fun i hi => noOwn_O r3 hc1 i (hc2 i hi)
          refine ⟨(w.at_ ρ2).keep D, _, st2, rw1, (Post.bindN (Da := dnB) (P := CFin K w H1 ρ' D env σ Q) rw1 fin nb).mono ?_⟩
          rintro b H3 ⟨ρ3, st3, b', r4, x5, eb, fin2⟩
          cases (show b = b' from eb)
          have r4o : Rel K ((w.at_ ρ3).keep D) env st3 σ H3 := r3.ext (ρ' := ρ3) x5 r4.sto
          have eD3 : H3 D = some (.lst us) := (x5.keep D _ eD2 (r3.res D (.inr rfl)).2).1
          have tA3 : Dens K ρ3 ((w.at_ ρ3).keep D).S H3 us acc := lastsDs r3 ⟨ρ3, rfl⟩ x5 tA2
          cases b with
          | false =>
            rw [if_neg Bool.false_ne_true] at fin2 ⊢
            exact ⟨ρ3, st3, acc, us, r4o, x4.trans x5, eD3, tA3, fin2⟩
          | true =>
            rw [if_pos rfl] at fin2 ⊢
            refine ⟨(w.at_ ρ3).keep D, _, st3, r4, (Post.bindN (Da := Den) (P := CFin K w H1 ρ' D env σ Q) r4 fin2 nb).mono ?_⟩
            rintro y2 H4 ⟨ρ4, st4, d4, r5, x6, dy, fin3⟩
            have r5o : Rel K ((w.at_ ρ4).keep D) env st4 σ H4 := r4o.ext (ρ' := ρ4) x6 r5.sto
            have eD4 : H4 D = some (.lst us) := (x6.keep D _ eD3 (r4o.res D (.inr rfl)).2).1
            have tA4 : Dens K ρ4 ((w.at_ ρ4).keep D).S H4 us acc := lastsDs r4o ⟨ρ4, rfl⟩ x6 tA3
            by_cases hz : acc.length < sizeLine
            · rw [if_pos hz] at fin3
              have SD : ((w.at_ ρ4).keep D).S D := keep_S.mpr (.inr rfl)
              have nb2 : ∀ b, ¬ ((w.at_ ρ4).keep D).S b → b ≠ D := fun b n z => n (by rw [z]; exact SD)
              have hk : ∀ b o, H4 b = some o → ¬ ((w.at_ ρ4).keep D).S b → upd H4 D (.lst (us ++ [y2])) b = some o ∧ ¬ ((w.at_ ρ4).keep D).S b := fun b o e n => ⟨by rw [upd_ne (nb2 b n)]; exact e, n⟩
              refine ⟨us, eD4, by rw [tA4.length]; exact hz, ρ4, st4, acc ++ [d4], us ++ [y2], r5o.putKept (.inr rfl) eD4, ?_, upd_same, (tA4.append (.cons dy .nil)).gen hk (fun _ _ h => SqT.put eD4 h) (fun _ _ h => h), fin3⟩
              have x7 := (x4.trans x5).trans x6
              exact ⟨x7.pre, fun b o g n => by
                obtain ⟨g1, g2⟩ := x7.keep b o g n
                exact ⟨by rw [upd_ne (ne_of_none g hD)]; exact g1, g2⟩, fun b us2 g => SqT.put eD4 (x7.tups b us2 g)⟩
            · rw [if_neg hz] at fin3
              exact fin3.elim
      · have e : i = items.length := by omega
        subst e
        rw [List.drop_length] at fin
        exact .inl ⟨It.stops _ H' xS, fin ρ2 H' us r' x' eD tA⟩
  · have eF : compF fi tup is vs t f env st = .bad := if_neg hc
    rw [eF] at p
    exact p.elim
theorem pf_comp (hc : X.calm = true) (hN : X.N.Nodup) (hi : PI X tg iter (tI (XC X Γ) W fi)) (ok : BlkOk X.N X.env.scope scope own)
    (hg : ∀ (s : Shared) (H : Hp) (C : Addr) (cl : List (Str × Addr)) (fp : List Addr), PG (X.blk s H scope (compEnvC scope cl C X.env) fp) tg (gC X.K tup is)) (ht : ∀ (s : Shared) (H : Hp) (C : Addr) (cl : List (Str × Addr)) (fp : List Addr), PTs (X.blk s H scope (compEnvC scope cl C X.env) fp) ifs (tT (XC X Γ) WN t))
    (he : ∀ (s : Shared) (H : Hp) (C : Addr) (cl : List (Str × Addr)) (fp : List Addr), PE (X.blk s H scope (compEnvC scope cl C X.env) fp) elt (tD (XC X Γ) WN f)) (hs : ∀ x, foldedSetIterable iter X.env x = pure x := by intro _; rfl) :
    PE X (.ListComp elt [⟨tg, iter, ifs, 0⟩] scope pos) (tF (XC X Γ) W (compF fi tup is (own.map (·.2)) t f)) := peImp (pe_lc hc hN hi ok hg ht he hs) fun _ _ _ h => comp_ok h
end
end AM
namespace AM
open PySem PySem.Spec PyProof.Rows L2
def Wd.call (w : Wd) : Wd := ⟨w.ρ, fun a => w.R a ∨ some a ∈ w.O, []⟩
theorem call_S (w : Wd) (ρ : List Addr) : (w.call.at_ ρ).S = (w.at_ ρ).S := by
  funext a
  refine propext ⟨fun h => ?_, fun h => ?_⟩
  · rcases h with h | h | h
    · exact .inl h
    · exact .inr h
    · cases h
  · rcases h with h | h
    · exact .inl h
    · exact .inr (.inl h)
def spD (K : Ct) (F : DF) : Sp := fun vs H Q E => ∃ (w : Wd) (st : Sto) (ds : List D), w.O = [] ∧ StOk K w.ρ w.S H st ∧ (∀ a, w.R a → (∃ o, H a = some o) ∧ a ∉ w.ρ) ∧ Dens K w.ρ w.S H vs ds ∧
  Post Den K (fun c d _ H' => E c d H') w H [] (F ds st) Q
section
variable {K : Ct} {W : WX} {w : Wd} {env : AEnv} {st : Sto} {σ : St} {H : Hp} {Q : VK} {vs : List V} {ds : List D} {F : DF}
theorem Post.call {r : Res D} (h : Post Den K W w H σ r Q) : Post Den K (fun c d _ H' => W c d σ H') w.call H [] r Q := by
  cases r with
  | ok a st' => exact fun ρ' H' x h1 h2 h3 => h ρ' H' x (by rw [← call_S]; exact h1) h2 (by rw [← call_S]; exact h3)
  | exc e st' => exact fun ρ' H' d gs h1 h2 h3 h4 => h ρ' H' d gs (by rw [← call_S]; exact h1) h2 h3 (by rw [← call_S]; exact h4)
  | bad => exact h
theorem sp_of (r : Rel K w env st σ H) (d : Dens K w.ρ w.S H vs ds) (p : Post Den K W w H σ (F ds st) Q) : spD K F vs H Q (fun c d H' => W c d σ H') := by
  have e : w.call.S = w.S := call_S w w.ρ
  refine ⟨w.call, st, ds, rfl, by rw [e]; exact r.sto, fun a h => ?_, by rw [e]; exact d, p.call⟩
  rcases h with h | h
  · exact r.res a h
  · exact ⟨r.thereS (.inr (.inr h)), (r.disO a h).1⟩
end
def runD (n N : Nat) (g : SF) : DF := fun ds st => if ds.length = n then (match g (ds.map Sl.sh ++ List.replicate (N - n) .un) st with
  | .nx _ st' => .ok .non st'
  | .rt d st' => .ok d st'
  | .exc e st' => .exc e st'
  | _ => .bad) else .bad
theorem start_get {N : List Str} {vs : List V} {i : Nat} {v : Option V} (h : (L2.start N vs)[i]? = some v) : (i < vs.length ∧ v = vs[i]?) ∨ (vs.length ≤ i ∧ v = none) := by
  unfold L2.start at h
  by_cases hi : i < vs.length
  · rw [List.getElem?_append_left (by simpa using hi), List.getElem?_map] at h
    refine .inl ⟨hi, ?_⟩
    rw [List.getElem?_eq_getElem hi] at h ⊢
    exact (Option.some.inj h).symm
  · rw [List.getElem?_append_right (by simpa using hi), List.getElem?_replicate] at h
    split at h
    · exact .inr ⟨by omega, (Option.some.inj h).symm⟩
    · cases h
theorem start_rel {K : Ct} {N : List Str} {n : Nat} {w : Wd} {st : Sto} {ds : List D} {vs : List V} {H : Hp} (hn : n ≤ N.length) (hO : w.O = []) (s : StOk K w.ρ w.S H st) (res : ∀ a, w.R a → (∃ o, H a = some o) ∧ a ∉ w.ρ) (d : Dens K w.ρ w.S H vs ds) (hl : ds.length = n) :
    Rel K ⟨w.ρ, w.R, List.replicate N.length none⟩ (ds.map Sl.sh ++ List.replicate (N.length - n) Sl.un) st (L2.start N vs) H := by
  have lv : vs.length = n := by rw [d.length, hl]
  have noO : ∀ (k : Nat) a, some a ∉ List.replicate k (none : Option Addr) := fun k a z => nomatch (List.mem_replicate.mp z).2
  have eS : (⟨w.ρ, w.R, List.replicate N.length none⟩ : Wd).S = w.S := by
    funext a
    refine propext ⟨fun h => ?_, fun h => ?_⟩
    · rcases h with h | h | h
      · exact .inl h
      · exact .inr (.inl h)
      · exact absurd h (noO _ a)
    · rcases h with h | h | h
      · exact .inl h
      · exact .inr (.inl h)
      · rw [hO] at h; cases h
  have lenE : (ds.map Sl.sh ++ List.replicate (N.length - n) Sl.un).length = N.length := by
    rw [List.length_append, List.length_map, List.length_replicate, hl]; omega
  refine ⟨by rw [eS]; exact s, res, ?_, by rw [lenE]; exact List.length_replicate, fun i v sl o h1 h2 h3 => ?_, fun i j a h1 _ => absurd (List.mem_of_getElem? h1) (noO _ a), fun a h => absurd h (noO _ a)⟩
  · rw [lenE]
    unfold L2.start
    rw [List.length_append, List.length_map, List.length_replicate]; omega
  · have eo : o = none := by
      have h3 : (List.replicate N.length (none : Option Addr))[i]? = some o := h3
      rw [List.getElem?_replicate] at h3
      split at h3
      · exact (Option.some.inj h3).symm
      · cases h3
    subst eo
    rcases start_get h1 with ⟨hi, ev⟩ | ⟨hi, ev⟩
    · obtain ⟨dd, e1, e2⟩ := d.getV (List.getElem?_eq_getElem hi)
      rw [List.getElem?_append_left (by rw [List.length_map, hl, ← lv]; exact hi), List.getElem?_map, e1] at h2
      cases (Option.some.inj h2)
      refine ⟨rfl, vs[i], by rw [ev]; exact List.getElem?_eq_getElem hi, ?_⟩
      show Den K w.ρ (⟨w.ρ, w.R, List.replicate N.length none⟩ : Wd).S H _ _
      rw [eS]
      exact e2
    · rw [List.getElem?_append_right (by rw [List.length_map, hl, ← lv]; exact hi), List.getElem?_replicate] at h2
      split at h2
      · cases (Option.some.inj h2)
        exact rfl
      · cases h2
theorem start_back {K : Ct} {n : Nat} {w w' : Wd} {H H' : Hp} (hO : w.O = []) (x : ExtS K ⟨w.ρ, w.R, List.replicate n none⟩ H w' H') : ∀ a, (w.at_ w'.ρ).S a → w'.S a ∨ H' a = none := fun a h => by
  rcases h with h | h | h
  · exact .inl (.inl h)
  · exact .inl (.inr (.inl (x.resK a h)))
  · have h : some a ∈ w.O := h
    rw [hO] at h; cases h
theorem body_ok {K : Ct} {N : List Str} {n : Nat} {g : SF} {vs : List V} {H : Hp} {Q : VK} {E : XK} (hn : n ≤ N.length) (h : spD K (runD n N.length g) vs H Q E) :
    tS K (fun c d _ H' => E c d H') g { nx := fun _ H' => Q .non H', rt := Q } (L2.start N vs) H := by
  obtain ⟨w, st, ds, hO, s, res, d, p⟩ := h
  unfold runD at p
  split at p
  · rename_i hl
    have noO : ∀ (k : Nat) a, some a ∉ List.replicate k (none : Option Addr) := fun k a z => nomatch (List.mem_replicate.mp z).2
    refine ⟨_, _, st, start_rel hn hO s res d hl, ?_⟩
    have ss : ∀ (w' : Wd) (H' : Hp) (st' : Sto), ExtS K ⟨w.ρ, w.R, List.replicate N.length none⟩ H w' H' → StOk K w'.ρ w'.S H' st' → StOk K w'.ρ (w.at_ w'.ρ).S H' st' := fun w' H' st' x q =>
      q.ext Ext.refl (start_back hO x) (fun a h => .inl h) fun _ _ => rfl
    cases q : g (ds.map Sl.sh ++ List.replicate (N.length - n) Sl.un) st with
    | nx e s1 =>
      rw [q] at p
      intro w' σ' H' r' x
      exact p w'.ρ H' .non (ss w' H' s1 x r'.sto) (x.toE (noO _)) .non
    | rt dd s1 =>
      rw [q] at p
      intro w' H' v s' x dv
      exact p w'.ρ H' v (ss w' H' s1 x s') (x.toE (noO _)) (dv.mono Ext.refl (start_back hO x) fun a h => .inl h)
    | exc e s1 =>
      rw [q] at p
      intro w' σ' H' dd gs s' x hx df
      exact p w'.ρ H' dd gs (ss w' H' s1 x s') (x.toE (noO _)) hx (df.mono Ext.refl (start_back hO x) fun a h => .inl h)
    | bk e s1 => rw [q] at p; exact p.elim
    | ct e s1 => rw [q] at p; exact p.elim
    | bad => rw [q] at p; exact p.elim
  · exact p.elim
theorem runD_len {K : Ct} {n N : Nat} {g : SF} {vs : List V} {H : Hp} {Q : VK} {E : XK} (h : spD K (runD n N g) vs H Q E) : vs.length = n := by
  obtain ⟨w, st, ds, _, _, _, d, p⟩ := h
  unfold runD at p
  split at p
  · rename_i hl
    rw [d.length, hl]
  · exact p.elim
structure Go (X : Cx) (W : WX) (k : Nat) : Prop where
  tk : Takes X W
  rm : Room k X.A
  po : PassesOwn (model X.prog X.w) X.A X.env X.xe
  calm : X.calm = true
  gd : X.A.guards = some []
structure FnB (P : Program) (w : World) (K : PySem.W.Frag) (mg : Str → Option Value) (base : Heap) (k : Nat) (f : Addr) (fd : FuncData) (ps : List Str) (sp : Sp) : Prop where
  len : ∀ vs H Q E, sp vs H Q E → vs.length = ps.length
  run : ∀ (A : Around) (outer : List Env) (s : Shared) (H : Hp) (args : Args) (us : List Value) (vs : List V) (Q : VK) (E : XK), Room k A → A.guards = some [] → Env0 P w K mg base A outer s H →
    BindsTo s fd args (ps.zip us) → Vals vs us → sp vs H Q E → codeAny (model P w) A (.call (.ref f) args) (CR (L2.CX P w) outer P w H s Q E) s
def FnV (P : Program) (w : World) (K : PySem.W.Frag) (mg : Str → Option Value) (base : Heap) (k : Nat) (f : Addr) (sp : Sp) : Prop :=
  ∀ (A : Around) (outer : List Env) (s : Shared) (H : Hp) (us : List Value) (vs : List V) (Q : VK) (E : XK), Room k A → A.guards = some [] → Env0 P w K mg base A outer s H →
    Vals vs us → sp vs H Q E → codeAny (model P w) A (.call (.ref f) ⟨us, []⟩) (CR (L2.CX P w) outer P w H s Q E) s
theorem go_of {P : Program} {w : World} {K : PySem.W.Frag} {mg : Str → Option Value} {base : Heap} {k : Nat} {f : Addr} {qual : Str} {scope : Scope} {cdv : Value} {N : List Str} {A : Around} {outer : List Env} {s : Shared} {H : Hp} {E : XK} (hr : Room k (A.deeper (envOfC qual scope s.heap.objs.size f cdv))) (hg : A.guards = some []) :
    Go (cxOf (L2.CX P w) P w K mg base N qual scope f cdv A outer s H E) (fun c d _ H' => E c d H') k :=
  ⟨takes_of rfl rfl rfl rfl, hr, passes_of rfl, rfl, hg⟩
section
variable {P : Program} {w : World} {K : PySem.W.Frag} {mg : Str → Option Value} {base : Heap} {Γ : Nat → Addr} {k : Nat} {f : Addr} {x qual : Str} {params : Arguments} {body : List Stmt} {scope : Scope} {N ps : List Str} {fd : FuncData} {kws : List (Str × V)}
theorem def_ok (F : FunD K x qual params body scope [] kws f fd) (S : FnScope N ps scope) (g : SF)
    (hbody : ∀ (cdv : Value) (A : Around) (outer : List Env) (s : Shared) (H : Hp) (E : XK), Go (cxOf (L2.CX P w) P w K mg base N qual scope f cdv A outer s H E) (fun c d _ H' => E c d H') k →
      PSs (cxOf (L2.CX P w) P w K mg base N qual scope f cdv A outer s H E) body (tS ⟨K, Γ⟩ (fun c d _ H' => E c d H') g)) :
    FnB P w K mg base (k + 1) f fd ps (spD ⟨K, Γ⟩ (runD ps.length N.length g)) := by
  have hpl : ps.length ≤ N.length := by have := congrArg List.length S.pre; rw [List.length_take] at this; omega
  refine ⟨fun vs H Q E h => runD_len h, fun A outer s H args us vs Q E hr hg e0 hb rv hsp => ?_⟩
  obtain ⟨oc, od, dV, kV, doc, pm, an, cdv, ct, osl, rfl, lk, hcd, _, _⟩ := F.ex
  refine StX.run_bnd (G := fun xs H2 => xs = vs ∧ H2 = H) lk hcd S hr e0 (fun A' Ex Q' h => ?_) fun s2 H2 xs hx hr' => ?_
  · exact hb _ _ _ _ (h s H vs us e0 Un.refl rfl (fun _ _ z => z) rv (runD_len hsp) ⟨rfl, rfl⟩)
  · obtain ⟨rfl, rfl⟩ := hx
    exact ⟨_, hbody cdv A outer s2 H2 E (go_of hr' hg), body_ok hpl hsp⟩
end
def Cal (P : Program) (w : World) (K : PySem.W.Frag) (mg : Str → Option Value) (base : Heap) (Γ : Nat → Addr) (k : Nat) (v : Value) (ks : List Str) (F : DF) : Prop :=
  ∀ (X : Cx) (W : WX), X.prog = P → X.w = w → X.K = K → X.mg = mg → X.base = base → Room k X.A → X.A.guards = some [] → Takes X W → ∀ (pins : List (Addr × Obj)) (s : Shared) (σ : St) (H : Hp) (wd : Wd) (env : AEnv) (st : Sto) (us ws : List Value) (vs : List V) (ds : List D) (Q : VK),
    Inv X pins σ H s → Vals vs (us ++ ws) → ws.length = ks.length → Rel (XC X Γ) wd env st σ H → Dens (XC X Γ) wd.ρ wd.S H vs ds → Post Den (XC X Γ) W wd H σ (F ds st) Q →
    wpAny (model X.prog X.w) X.A (call v us (ks.zip ws)) (EP X pins σ Q) X.xe s
section
variable {P : Program} {w : World} {K : PySem.W.Frag} {mg : Str → Option Value} {base : Heap} {Γ : Nat → Addr} {j k : Nat} {f : Addr} {v : Value} {x qual : Str} {params : Arguments} {body : List Stmt} {scope : Scope} {N ps ks : List Str} {fd : FuncData} {kws : List (Str × V)} {F : DF}
theorem Cal.mono (c : Cal P w K mg base Γ j v ks F) (h : j ≤ k) : Cal P w K mg base Γ k v ks F := fun X W h1 h2 h3 h4 h5 hr => c X W h1 h2 h3 h4 h5 (hr.mono h)
theorem Cal.fn0 (g : FnV P w K mg base k f (spD ⟨K, Γ⟩ F)) : Cal P w K mg base Γ k (.ref f) [] F := by
  intro X W h1 h2 h3 h4 h5 hr hg tk pins s σ H wd env st us ws vs ds Q I rv hw rl d p
  subst h1 h2 h3 h4 h5
  have e : ws = [] := List.length_eq_zero_iff.mp hw
  subst e
  rw [List.append_nil] at rv
  refine wpAny_call (codeAny_mono (g X.A X.stack s H us vs Q (fun c d H' => W c d σ H') hr hg I.env0 rv (sp_of rl d p)) fun r s' hq => ?_)
  cases r with
  | error e => exact passAt tk σ pins H s e s' I hq
  | ok fl =>
    cases fl with
    | ret u => exact I.after hq
    | next => exact False.elim hq
    | brk => exact False.elim hq
    | cont => exact False.elim hq
theorem Cal.fnK (g : FnB P w K mg base k f fd ps (spD ⟨K, Γ⟩ F)) (π : {α : Type} → List α → List α) (hV : ∀ {vs us}, Vals vs us → Vals (π vs) (π us)) (hD : ∀ {K ρ S H vs ds}, Dens K ρ S H vs ds → Dens K ρ S H (π vs) (π ds))
    (hb : ∀ (s : Shared) (us ws : List Value), K.In s.heap → ws.length = ks.length → (π (us ++ ws)).length = ps.length → BindsTo s fd ⟨us, ks.zip ws⟩ (ps.zip (π (us ++ ws)))) : Cal P w K mg base Γ k (.ref f) ks (fun ds st => F (π ds) st) := by
  intro X W h1 h2 h3 h4 h5 hr hg tk pins s σ H wd env st us ws vs ds Q I rv hw rl d p
  subst h1 h2 h3 h4 h5
  have hsp := sp_of (F := F) rl (hD d) p
  have hl : (π (us ++ ws)).length = ps.length := by rw [← (hV rv).length]; exact g.len _ _ _ _ hsp
  refine wpAny_call (codeAny_mono (g.run X.A X.stack s H ⟨us, ks.zip ws⟩ (π (us ++ ws)) (π vs) Q (fun c d H' => W c d σ H') hr hg I.env0 (hb s us ws I.kIn hw hl) (hV rv) hsp) fun r s' hq => ?_)
  cases r with
  | error e => exact passAt tk σ pins H s e s' I hq
  | ok fl =>
    cases fl with
    | ret u => exact I.after hq
    | next => exact False.elim hq
    | brk => exact False.elim hq
    | cont => exact False.elim hq
theorem Cal.fn (D : FunD K x qual params body scope [] kws f fd) (g : FnB P w K mg base k f fd ps (spD ⟨K, Γ⟩ F))
    (h : ∀ (kV doc pm : Value) (an : Option Addr) (cdv ct : Value) (us : List Value), us.length = ps.length → bindArgs (PySem.W.fnOf x qual params body scope .none kV doc pm an cdv ct) ⟨us, []⟩ = pure (ps.zip us)) : Cal P w K mg base Γ k (.ref f) [] F :=
  Cal.fnK (ks := []) g (fun l => l) (fun h => h) (fun h => h) fun s us ws X hw hl => by
    have e : ws = [] := List.length_eq_zero_iff.mp hw
    subst e
    rw [List.append_nil] at hl ⊢
    exact FunD.bindsA D h s us hl
structure Kn (P : Program) (w : World) (K : PySem.W.Frag) (mg : Str → Option Value) (base : Heap) (Γ : Nat → Addr) (k : Nat) (x : Str) (ks : List Str) (F : DF) : Prop where
  ex : ∃ v, mg x = some v ∧ PySem.W.keepIn K v = true ∧ Cal P w K mg base Γ k v ks F
theorem Kn.mono (c : Kn P w K mg base Γ j x ks F) (h : j ≤ k) : Kn P w K mg base Γ k x ks F := let ⟨v, a, b, d⟩ := c.ex; ⟨v, a, b, d.mono h⟩
end
def dCall (F : DF) (fs : EFs) : EF := fun env st => (fs env st).bind F
section
variable {X : Cx} {Γ : Nat → Addr} {W : WX} {e o : Expr} {es : List Expr} {f fo : EF} {fs : EFs} {F : DF} {pos p apos : Pos} {j k : Nat} {x m : Str} {ks : List Str}
theorem pd_call (G : Go X W k) (c : Kn X.prog X.w X.K X.mg X.base Γ j x [] F) (ha : PA X (e :: es) (tDs (XC X Γ) W fs)) (hj : j ≤ k := by decide) (hg : Gl X x := by rfl) (hdb : (x == ("__debug__" : Str)) = false := by decide)
    (he : starEach (e :: es) X.env = (false, eval e X.env) :: starEach es X.env := by rfl) (hpl : (backTo pos (starEach es X.env)).any (·.1) = false := by rfl) :
    PE X (.Call (.Name x p) (e :: es) [] pos) (tD (XC X Γ) W (dCall F fs)) := by
  obtain ⟨v, hm, hk, c⟩ := c.ex
  refine ⟨fun pins s σ H Q I h => ?_⟩
  refine wpAny_Call_Name_kw (ld_glob I hg hm ?_ hdb)
  refine PySem.W.callWith_K (h₀ := X.base) I.ok.mod.kin hk (thn (ha.run pos pins s σ H _ I (t1 (Da := Dens) h)) fun us s1 ⟨vs, H1, I1, r, w, env, st, a, rl, d, p1⟩ => ⟨I1.kIn, ?_⟩) he hpl
  exact c X W rfl rfl rfl rfl rfl (G.rm.mono hj) G.gd G.tk pins s1 σ H1 w env st us [] vs a Q I1 (by rw [List.append_nil]; exact r) rfl rl d p1
theorem pd_call0 (G : Go X W k) (c : Kn X.prog X.w X.K X.mg X.base Γ j x [] F) (hj : j ≤ k := by decide) (hg : Gl X x := by rfl) (hdb : (x == ("__debug__" : Str)) = false := by decide) :
    PE X (.Call (.Name x p) [] [] pos) (tD (XC X Γ) W (dCall F dNil)) := by
  obtain ⟨v, hm, hk, c⟩ := c.ex
  refine ⟨fun pins s σ H Q I h => ?_⟩
  obtain ⟨w, env, st, rl, p1⟩ := h
  refine wpAny_Call_Name_kw (ld_glob I hg hm ?_ hdb)
  refine PySem.W.callWith_K0 I.kIn hk ?_
  exact c X W rfl rfl rfl rfl rfl (G.rm.mono hj) G.gd G.tk pins s σ H w env st [] [] [] [] Q I .nil rfl rl .nil p1
end
end AM
namespace AM
open PySem PySem.Spec PyProof.Rows L2
mutual
def D.hb (n : Nat) : D → Bool
  | .tup ds => hbs n ds
  | .lst ds => hbs n ds
  | .fz ds => hbs n ds
  | .ins _ fs => hbF n fs
  | .hd m => decide (m < n)
  | .dic _ => true
  | .non => true
  | .bl _ => true
  | .int _ => true
  | .str _ => true
  | .ty _ => true
  | .cls _ => true
def hbs (n : Nat) : List D → Bool
  | [] => true
  | d :: ds => D.hb n d && hbs n ds
def hbF (n : Nat) : List (Str × D) → Bool
  | [] => true
  | (_, d) :: ds => D.hb n d && hbF n ds
end
section
variable {K : Ct} {ρ l : List Addr} {S S' : Addr → Prop} {H : Hp}
end
theorem StOk.more {K : Ct} {ρ : List Addr} {S S' : Addr → Prop} {H H' : Hp} {st : Sto} {p : Addr} {c : Cell} (s : StOk K ρ S H st) (k : ∀ a o, H a = some o → H' a = some o) (hp : H p = none) (hS : ∀ a, S' a → S a ∨ H a = none) (hr : ∀ a, a ∈ ρ → S a)
    (hc : CellOk K (ρ ++ [p]) S' H' p c) (ht : ∀ a vs, SqT K.K H a vs → SqT K.K H' a vs) : StOk K (ρ ++ [p]) S' H' (st ++ [c]) ∧ Ext K ρ H (ρ ++ [p]) H' := by
  have np : p ∉ ρ := fun z => by
    obtain ⟨o, e⟩ := s.there z
    rw [hp] at e; cases e
  have x : Ext K ρ H (ρ ++ [p]) H' := ⟨⟨[p], rfl⟩, fun a o e n => ⟨k a o e, fun z => by
    rcases List.mem_append.mp z with z | z
    · exact n z
    · rw [List.mem_singleton.mp z, hp] at e; cases e⟩, ht⟩
  refine ⟨⟨by rw [List.length_append, List.length_append, s.len]; rfl, List.nodup_append.mpr ⟨s.nd, by simp, fun a h b h2 z => np (by rw [List.mem_singleton.mp h2] at z; rw [← z]; exact h)⟩, fun n a d h1 h2 => ?_⟩, x⟩
  by_cases hn : n < ρ.length
  · rw [List.getElem?_append_left hn] at h1
    rw [List.getElem?_append_left (by rw [← s.len]; exact hn)] at h2
    have q := s.cell n a d h1 h2
    cases d with
    | lst ds => obtain ⟨vs, z, t⟩ := q; exact ⟨vs, k _ _ z, t.mono x hS hr⟩
    | obj C fs => obtain ⟨dx, gs, z, t⟩ := q; exact ⟨dx, gs, k _ _ z, t.mono x hS hr⟩
    | tab i q' =>
      obtain ⟨o, eo, _⟩ := CellOk.some q
      exact TabC.mono q ((k _ _ eo).trans eo.symm) x hS hr
  · rw [List.getElem?_append_right (by omega)] at h1
    rw [List.getElem?_append_right (by rw [← s.len]; omega), ← s.len] at h2
    cases q : n - ρ.length with
    | zero =>
      rw [q] at h1 h2
      cases h1; cases h2
      exact hc
    | succ m => rw [q] at h1; cases h1
section
variable {X : Cx} {Γ : Nat → Addr} {W : WX} {e o a b : Expr} {es : List Expr} {f fo fa fb : EF} {fs : EFs} {F : DF} {pos p apos : Pos} {j k : Nat} {x m : Str} {ks : List Str}
def dNew (f : AEnv → Sto → Res (List D)) : EF := fun env st => (f env st).bind fun ds st => .ok (.hd st.length) (st ++ [.lst ds])
theorem pd_new {f : AEnv → Sto → Res (List D)} (h : PE X e (tF (XC X Γ) W f)) : PE X e (tD (XC X Γ) W (dNew f)) := peImp h fun σ H Q ⟨w, env, st, r, p⟩ => ⟨w, env, st, r, by
  unfold dNew at p
  cases q : f env st with
  | ok ds st' =>
    rw [q] at p
    intro ρ' H' pp vs h1 h2 h3 h4
    have r1 := r.ext h2 h1
    have nS := r1.fresh h3
    have hS : ∀ a, (w.at_ (ρ' ++ [pp])).S a → (w.at_ ρ').S a ∨ H' a = none := fun a h => by
      rcases h with h | h
      · rcases List.mem_append.mp h with h | h
        · exact .inl (.inl h)
        · exact .inr (by rw [List.mem_singleton.mp h]; exact h3)
      · exact .inl (.inr h)
    have k1 : ∀ a o, H' a = some o → upd H' pp (.lst vs) a = some o := fun a o e => by rw [upd_ne (ne_of_none e h3)]; exact e
    have x1 : Ext (XC X Γ) ρ' H' (ρ' ++ [pp]) (upd H' pp (.lst vs)) := ⟨⟨[pp], rfl⟩, fun a o e n => ⟨k1 a o e, fun z => by
      rcases List.mem_append.mp z with z | z
      · exact n z
      · rw [List.mem_singleton.mp z, h3] at e; cases e⟩, fun _ _ h => SqT.upd h3 h⟩
    obtain ⟨s2, x2⟩ := r1.sto.more (c := .lst ds) (S' := (w.at_ (ρ' ++ [pp])).S) k1 h3 hS (fun a h => .inl h) ⟨vs, upd_same, h4.mono x1 hS fun a h => .inl h⟩ (fun _ _ h => SqT.upd h3 h)
    have p2 : Post Den (XC X Γ) W w H σ (.ok (.hd st'.length) (st' ++ [.lst ds])) Q := p
    exact p2 (ρ' ++ [pp]) _ (.ref pp) s2 (h2.trans x2) (.hd (by rw [List.getElem?_append_right (by rw [h1.len]; exact Nat.le_refl _), ← h1.len, Nat.sub_self]; rfl))
  | exc x st' => rw [q] at p; exact p
  | bad => rw [q] at p; exact p⟩
def fldOf (cs : List Nat) (f : Str) (d : D) (st : Sto) : Option D := match d with
  | .ins c fs => if cs.contains c = true then fs.lookup f else none
  | .hd n => match st[n]? with
    | some (.obj c fs) => if cs.contains c = true then fs.lookup f else none
    | _ => none
  | _ => none
def optR (o : Option D) (st : Sto) : Res D := match o with
  | some d => .ok d st
  | none => .bad
def dFld (cs : List Nat) (x : Str) (fo : EF) : EF := fun env st => (fo env st).bind fun d st => optR (fldOf cs x d st) st
def isC (c : Nat) (m : Str) (d : D) (st : Sto) : Bool := match d with
  | .ins c' fs => c' == c && (fs.lookup m).isNone
  | .hd n => match st[n]? with
    | some (.obj c' fs) => c' == c && (fs.lookup m).isNone
    | _ => false
  | _ => false
structure KnM (P : Program) (w : World) (K : PySem.W.Frag) (mg : Str → Option Value) (base : Heap) (Γ : Nat → Addr) (k : Nat) (c : Nat) (m : Str) (ks : List Str) (F : DF) : Prop where
  cl : Cls K (Γ c)
  ex : ∃ g, Meth K (Γ c) m g ∧ Cal P w K mg base Γ k (.ref g) ks F
def dMeth (c : Nat) (m : Str) (F : DF) (fo : EF) (fs : EFs) : EF := fun env st => (fo env st).bind fun d st1 => (if isC c m d st1 = true then fs env st1 else .bad).bind fun ds st2 => F (d :: ds) st2
structure KnP (P : Program) (w : World) (K : PySem.W.Frag) (mg : Str → Option Value) (base : Heap) (Γ : Nat → Addr) (k : Nat) (c : Nat) (f : Str) (F : DF) : Prop where
  cl : Cls K (Γ c)
  ex : ∃ p g, PropOf K (Γ c) f p g ∧ FnV P w K mg base k g (spD ⟨K, Γ⟩ F)
def isI (c : Nat) (d : D) (st : Sto) : Bool := match d with
  | .ins c' fs => c' == c
  | .hd n => match st[n]? with
    | some (.obj c' fs) => c' == c
    | _ => false
  | _ => false
def noX {α : Type} (r : Res α) : Res α := match r with
  | .exc _ _ => .bad
  | r => r
theorem Post.noX {α β : Type} {Da : DnT β α} {K : Ct} {W W' : WX} {w : Wd} {H : Hp} {σ : St} {Q : β → Hp → Prop} {r : Res α} (h : Post Da K W w H σ (AM.noX r) Q) : Post Da K W' w H σ r Q := by
  cases r with
  | ok a st => exact h
  | exc e st => exact h.elim
  | bad => exact h
def dProp (c : Nat) (F : DF) (fo : EF) : EF := fun env st => (fo env st).bind fun d st => if isI c d st = true then AM.noX (F [d] st) else .bad
end
end AM
namespace AM
open PySem PySem.Spec PyProof.Rows L2
theorem nodup_at {α : Type} : ∀ {l : List α} {i j : Nat} {a : α}, l.Nodup → l[i]? = some a → l[j]? = some a → i = j
  | [], _, _, _, _, h, _ => by simp at h
  | _ :: _, 0, 0, _, _, _, _ => rfl
  | b :: l, 0, j + 1, a, n, h1, h2 => by
    have h1 : b = a := by simpa using h1
    have h2 : l[j]? = some a := by simpa using h2
    exact absurd (List.mem_of_getElem? h2) (by rw [← h1]; exact (List.nodup_cons.mp n).1)
  | b :: l, i + 1, 0, a, n, h1, h2 => by
    have h2 : b = a := by simpa using h2
    have h1 : l[i]? = some a := by simpa using h1
    exact absurd (List.mem_of_getElem? h1) (by rw [← h2]; exact (List.nodup_cons.mp n).1)
  | b :: l, i + 1, j + 1, a, n, h1, h2 => by
    exact congrArg Nat.succ (nodup_at (a := a) (List.nodup_cons.mp n).2 (by simpa using h1) (by simpa using h2))
section
variable {K : Ct} {w : Wd} {env : AEnv} {st : Sto} {σ : St} {H : Hp}
theorem Rel.putCell {a : Addr} {n : Nat} {c : Cell} {o o' : HO} (r : Rel K w env st σ H) (hn : w.ρ[n]? = some a) (hs : n < st.length) (hH : H a = some o) (ho : ∀ u, o ≠ .tup u) (hf : ∀ q u, o ≠ .frz q u) (hc : ∀ H', ExtS K w H w H' → H' a = some o' → CellOk K w.ρ w.S H' a c) :
    Rel K w env (st.set n c) σ (upd H a o') ∧ ExtS K w H w (upd H a o') := by
  have hm : a ∈ w.ρ := List.mem_of_getElem? hn
  have tu : ∀ b us, SqT K.K H b us → SqT K.K (upd H a o') b us := fun b us q => by
    rcases q with (q | ⟨z, q⟩) | q
    · exact .inl (.inl (by rw [upd_ne (ne_of q hH (fun z => ho _ z.symm))]; exact q))
    · exact .inl (.inr ⟨z, by rw [upd_ne (ne_of q hH (fun z => hf _ _ z.symm))]; exact q⟩)
    · exact .inr q
  have X : ExtS K w H w (upd H a o') := ⟨⟨[], by simp⟩, fun b u h n1 m => ⟨by rw [upd_ne (fun z => n1 (by rw [z]; exact hm))]; exact h, n1, m⟩, fun b h => .inl h, fun b u h => by
    by_cases e : b = a
    · exact ⟨_, by rw [e]; exact upd_same⟩
    · exact ⟨u, by rw [upd_ne e]; exact h⟩, tu, fun _ h => h⟩
  have m : ∀ {v d}, Den K w.ρ w.S H v d → Den K w.ρ w.S (upd H a o') v d := fun h => h.monoS X
  refine ⟨⟨⟨by rw [List.length_set]; exact r.sto.len, r.sto.nd, fun k b e h1 h2 => ?_⟩, fun b q => ?_, r.len, r.lenO, fun j v' s o h1 h2 h3 => ?_, r.ndO, r.disO⟩, X⟩
  · rcases get_set h2 with ⟨rfl, rfl, _⟩ | ⟨hk, h2⟩
    · rw [hn] at h1; cases h1
      exact hc _ X upd_same
    · have nb : b ≠ a := fun z => hk (by
        subst z
        exact nodup_at r.sto.nd h1 hn)
      exact (r.sto.cell k b e h1 h2).monoS X (upd_ne nb)
  · obtain ⟨⟨u, e⟩, n1⟩ := r.res b q
    exact ⟨X.there b u e, n1⟩
  · have q := r.slot j v' s o h1 h2 h3
    cases s with
    | un => exact q
    | sh d' => obtain ⟨e, x, ex, dx⟩ := q; exact ⟨e, x, ex, m dx⟩
    | own ds' =>
      obtain ⟨b, us, e1, e2, e3, e4⟩ := q
      have nb : b ≠ a := fun z => (r.disO b (by rw [e1] at h3; exact List.mem_of_getElem? h3)).1 (by rw [z]; exact hm)
      exact ⟨b, us, e1, e2, by rw [upd_ne nb]; exact e3, e4.monoS X⟩
def putD (f : Str) (d : D) : List (Str × D) → List (Str × D)
  | [] => [(f, d)]
  | (g, e) :: r => if g = f then (g, d) :: r else (g, e) :: putD f d r
theorem DenF.put {ρ : List Addr} {S : Addr → Prop} {f : Str} {v : V} {d : D} (h : Den K ρ S H v d) : ∀ {gs : List (Str × V)} {fs : List (Str × D)}, DenF K ρ S H gs fs → DenF K ρ S H (putF f v gs) (putD f d fs)
  | _, _, .nil => .cons h .nil
  | _, _, .cons (f := g) (vs := gs) (ds := fs) q t => by
    unfold putF putD
    split
    · exact .cons h t
    · exact .cons q (DenF.put h t)
theorem DenF.len {ρ : List Addr} {S : Addr → Prop} : ∀ {gs : List (Str × V)} {fs : List (Str × D)}, DenF K ρ S H gs fs → gs.length = fs.length
  | _, _, .nil => rfl
  | _, _, .cons _ t => by rw [List.length_cons, List.length_cons, DenF.len t]
end
def putIx (o i d : D) (env : AEnv) (st : Sto) : SR := match o, i with
  | .hd n, .int k => (match st[n]? with
    | some (.lst ds) => (match ixN ds.length k with
      | some j => .nx env (st.set n (.lst (ds.set j d)))
      | none => .bad)
    | _ => .bad)
  | _, _ => .bad
def gIx (fo fi : EF) : GF := fun d env st => (fo env st).then fun o st1 => (fi env st1).then fun i st2 => putIx o i d env st2
def putFd (cs : List Nat) (f : Str) (o d : D) (env : AEnv) (st : Sto) : SR := match o with
  | .hd n => (match st[n]? with
    | some (.obj c fs) => if (cs.contains c && decide (fs.length < 1000)) = true then .nx env (st.set n (.obj c (putD f d fs))) else .bad
    | _ => .bad)
  | _ => .bad
def sFldD (cs : List Nat) (f : Str) (fo fv : EF) : SF := fun env st => (fv env st).then fun d st1 => (fo env st1).then fun o st2 => putFd cs f o d env st2
section
variable {X : Cx} {Γ : Nat → Addr} {W : WX} {e o i a b : Expr} {es : List Expr} {f fo fi fv fa fb : EF} {fs : EFs} {F : DF} {pos p apos : Pos} {j k : Nat} {x m : Str} {ks : List Str}
theorem pgd_ix (ho : PE X o (tD (XC X Γ) W fo)) (hi : PE X i (tD (XC X Γ) W fi))
    (ha : ∀ v, assign (.Subscript o i pos) X.env v = (holding [v] (eval o X.env) >>= fun ov => holding [v, ov] (eval i X.env) >>= fun iv => standAt pos >>= fun _ => holding [v, ov, iv] (setItem ov iv v) >>= fun _ => release [v, ov, iv] []) := by intro _; rfl) :
    PG X (.Subscript o i pos) (tgG (XC X Γ) W (gIx fo fi)) := by
  refine ⟨fun pins s σ H v u Q I rv h => (pg_sub ho hi set_list ha).run pins s σ H v u Q I rv ?_⟩
  obtain ⟨w, env, st, d, r, hd, p⟩ := h
  refine ⟨w, env, st, r, (Post.then (Da := Den) r p).mono ?_⟩
  rintro y H1 ⟨w1, st1, c, r1, x1, d1, p1⟩
  refine ⟨w1, env, st1, r1, (Post.then (Da := Den) r1 p1).mono ?_⟩
  rintro z H2 ⟨w2, st2, c2, r2, x2, d2, p2⟩
  have p2 : PostS (XC X Γ) W w2 H2 σ (putIx c c2 d env st2) { nx := Q, rt := fun _ _ => False } := p2
  have dc := d1.monoS x2
  have dd := (hd.monoS x1).monoS x2
  unfold putIx at p2
  split at p2
  · rename_i n kk _
    obtain ⟨q, eq, hn⟩ := DenB.hd (w := w2) dc.b
    have ei := DenB.int (w := w2) d2.b
    split at p2
    · rename_i ds es
      obtain ⟨vs, hq, t⟩ := r2.cellL hn es
      split at p2
      · rename_i jj hj
        have hj' : ixN vs.length kk = some jj := by rw [t.length]; exact hj
        refine ⟨q, vs, kk, jj, eq, ei, hq, hj', ?_⟩
        obtain ⟨r3, x3⟩ := r2.putCell (c := .lst (ds.set jj d)) (o' := .lst (vs.set jj v)) hn (List.getElem?_eq_some_iff.mp es).1 hq (fun u z => nomatch z) (fun a u z => nomatch z) fun H' X' e' => ⟨_, e', (t.monoS X').set jj (dd.monoS X')⟩
        exact p2 _ _ _ r3 x3
      · exact p2.elim
    · exact p2.elim
  · exact p2.elim
end
end AM
namespace AM
open PySem PySem.Spec PyProof.Rows L2
section
variable {P : Program} {w : World} {K : PySem.W.Frag} {mg : Str → Option Value} {base : Heap} {Γ : Nat → Addr} {j k c : Nat} {f : Addr} {F : DF}
end
end AM
namespace PySem.W
open PySem PySem.Calls PyProof.Rows Builtin
section
variable {prog : Program} {w : World} {A : Around} {E : Value → Shared → Prop} {s : Shared} {K : Frag} {x C f : Addr} {ox : Obj} {od : Option Obj} {b tb : Value}
end
end PySem.W
namespace AM
open PySem PySem.Spec PyProof.Rows L2
structure KnS (P : Program) (w : World) (K : PySem.W.Frag) (mg : Str → Option Value) (base : Heap) (Γ : Nat → Addr) (k : Nat) (c : Nat) (m : Str) (F : DF) : Prop where
  ex : ∃ g, PySem.W.findIn K (.ref (Γ c)) m = some (some (.ref g)) ∧ PySem.W.isFn K (.ref g) = true ∧ FnV P w K mg base k g (spD ⟨K, Γ⟩ F)
section
variable {X : Cx} {Γ : Nat → Addr} {W : WX} {e o a b : Expr} {es : List Expr} {f fo fa fb : EF} {fs : EFs} {F : DF} {pos p apos : Pos} {j k c : Nat} {x m : Str} {ks : List Str}
def dOwn2 (c : Nat) (F : DF) (fa fb : EF) : EF := fun env st => (fa env st).bind fun a st1 => (fb env st1).bind fun b st2 => if (isI c a st2 && isI c b st2) = true then F [a, b] st2 else .bad
def gTruC (c : Nat) (F : DF) (f : EF) : TF := fun env st => (f env st).bind fun d st => if isI c d st = true then (match F [d] st with
  | .ok (.bl b) st' => .ok b st'
  | _ => .bad) else .bad
structure ClsI (K : PySem.W.Frag) (C : Addr) : Prop where
  cl : Cls K C
  ha : PySem.W.findIn K (.ref C) "__class__" = some (some (.builtin "object.__class__"))
  hn : PySem.W.specialIn K (.builtin "object.__class__") "__get__" = some (some (.builtin "getset_descriptor.__get__"))
  htk : PySem.W.takesIn K (.builtin "object.__class__") = some true
  hm : PySem.W.mroIn K C (.type "object") = some true
def tyK (d : D) (st : Sto) : Option (String ⊕ Nat) := match d with
  | .non => some (.inl "NoneType")
  | .bl _ => some (.inl "bool")
  | .int _ => some (.inl "int")
  | .str _ => some (.inl "str")
  | .tup _ => some (.inl "tuple")
  | .lst _ => some (.inl "list")
  | .fz _ => some (.inl "list")
  | .dic _ => some (.inl "dict")
  | .ins c _ => some (.inr c)
  | .hd n => (match st[n]? with
    | some (.lst _) => some (.inl "list")
    | some (.obj c _) => some (.inr c)
    | some (.tab _ _) => none
    | none => none)
  | _ => none
def IsT (K : PySem.W.Frag) (Γ : Nat → Addr) (u : Value) (tb : List ((String ⊕ Nat) × Bool)) : Prop := ∀ p ∈ tb, match p.1 with
  | .inl n => PySem.W.kitOne K (.type n) u = some p.2
  | .inr c => ClsI K (Γ c) ∧ PySem.W.kitOne K (.ref (Γ c)) u = some p.2
def tyLk (tb : List ((String ⊕ Nat) × Bool)) (t : String ⊕ Nat) : Option Bool := (tb.find? fun p => decide (p.1 = t)).map (·.2)
def oIsi (tb : List ((String ⊕ Nat) × Bool)) : Op1 := fun a st => match (tyK a st).bind (tyLk tb) with
  | some b => .ok (.bl b) st
  | none => .bad
theorem ty_of {K : Ct} {w : Wd} {env : AEnv} {st : Sto} {σ : St} {H : Hp} {v : V} {d : D} {u : Value} {b : Bool} {tb : List ((String ⊕ Nat) × Bool)} (rl : Rel K w env st σ H) (h : DenB K w.ρ w.S H v d) (T : IsT K.K K.Γ u tb) (e : ((tyK d st).bind (tyLk tb)) = some b) :
    ∃ t, TyX K.K H v t ∧ PySem.W.kitOne K.K t u = some b := by
  cases q : tyK d st with
  | none => rw [q] at e; cases e
  | some t =>
    rw [q] at e
    have hm : (match t with
      | .inl n => PySem.W.kitOne K.K (.type n) u = some b
      | .inr c => ClsI K.K (K.Γ c) ∧ PySem.W.kitOne K.K (.ref (K.Γ c)) u = some b) := by
      have e : tyLk tb t = some b := e
      unfold tyLk at e
      cases z : tb.find? fun p => decide (p.1 = t) with
      | none => rw [z] at e; cases e
      | some p =>
        rw [z] at e
        have h1 := T p (List.mem_of_find?_eq_some z)
        have h2 : p.1 = t := of_decide_eq_true (by simpa using List.find?_some z)
        obtain ⟨p1, p2⟩ := p
        have h2 : p1 = t := h2
        have h3 : p2 = b := Option.some.inj e
        subst h2 h3
        cases p1 <;> exact h1
    have cls : ∀ {c : Nat} {a dx : Addr} {gs : List (Str × V)}, t = .inr c → v = .ref a → H a = some (.ins (K.Γ c) dx gs) → ∃ t, TyX K.K H v t ∧ PySem.W.kitOne K.K t u = some b := fun {c a dx gs} et ev ha => by
      subst et ev
      exact ⟨_, .base (.ins ha hm.1.cl hm.1.ha hm.1.hn hm.1.htk hm.1.hm), hm.2⟩
    have bas : ∀ {n : String} {t' : Value}, t = .inl n → t' = .type n → TyX K.K H v t' → ∃ t, TyX K.K H v t ∧ PySem.W.kitOne K.K t u = some b := fun {n t'} et e2 ty => by
      subst et e2
      exact ⟨_, ty, hm⟩
    cases d with
    | non => rw [h.non]; exact bas (Option.some.inj q).symm rfl (by rw [h.non]; exact .base .non) |> fun z => by rw [h.non] at z; exact z
    | bl i => exact bas (Option.some.inj q).symm rfl (by rw [h.bl]; exact .base (.bl i))
    | int i => exact bas (Option.some.inj q).symm rfl (by rw [h.int]; exact .base (.int i))
    | str i => exact bas (Option.some.inj q).symm rfl (by rw [h.str]; exact .base (.str i))
    | tup ds =>
      obtain ⟨a, vs, ev, hq, _⟩ := h.tup
      refine bas (Option.some.inj q).symm rfl ?_
      rw [ev]
      rcases hq with (hq | ⟨o, hq⟩) | hq
      · exact .base (.tup hq)
      · exact .fTuple hq
      · obtain ⟨o, _, _, e1, e2, _⟩ := hq
        exact .kTuple e1 e2
    | lst ds =>
      obtain ⟨a, vs, ev, hq, _, _⟩ := h.lst
      exact bas (Option.some.inj q).symm rfl (by rw [ev]; exact .base (.lst hq))
    | fz ds =>
      obtain ⟨a, vs, ev, hq, _⟩ := h.fz
      refine bas (Option.some.inj q).symm rfl ?_
      rw [ev]
      rcases hq with ⟨o, e, _⟩ | (e | ⟨o, e⟩) | ⟨o, _, _, e1, e2, _⟩
      · exact .base (.frz e)
      · cases e
      · cases e
      · exact .kList e1 e2
    | dic rr =>
      obtain ⟨a, kvs, ev, hq, _, _⟩ := h.dic
      exact bas (Option.some.inj q).symm rfl (by rw [ev]; exact .base (.dK hq))
    | ins c fs =>
      obtain ⟨a, dx, gs, ev, ha, _, _⟩ := h.ins
      exact cls (Option.some.inj q).symm ev ha
    | hd n =>
      obtain ⟨a, ev, hn⟩ := h.hd
      have q : (match st[n]? with
        | some (.lst _) => some (.inl "list")
        | some (.obj c _) => some (.inr c)
        | some (.tab _ _) => none
        | none => none) = some t := q
      split at q
      · rename_i ds es
        obtain ⟨vs, hq, _⟩ := rl.cellL hn es
        exact bas (Option.some.inj q).symm rfl (by rw [ev]; exact .base (.lst hq))
      · rename_i c fs es
        obtain ⟨dx, gs, hq, _⟩ := rl.cellO hn es
        exact cls (Option.some.inj q).symm ev hq
      · cases q
      · cases q
    | _ => cases q
theorem pd_isi {tb : List ((String ⊕ Nat) × Bool)} {v : V} {u : Value} (T : IsT X.K Γ u tb) (hc : ClsV v u) (he : PE X e (tDB (XC X Γ) W f)) (hb : PE X b (tC v)) (hm : X.mg "isinstance" = none) (hg : Gl X "isinstance" := by rfl)
    (hs : starEach (e :: [b]) X.env = (false, eval e X.env) :: starEach [b] X.env := by rfl) (hs2 : starEach (b :: []) X.env = (false, eval b X.env) :: starEach [] X.env := by rfl) (hpl : (backTo pos (starEach [b] X.env)).any (·.1) = false := by rfl) :
    PE X (.Call (.Name "isinstance" p) [e, b] [] pos) (tD (XC X Γ) W (dOp1 (oIsi tb) f)) := peImp (pe_callB call_isi hg hm (by decide +kernel) (pa_cons he (pa_cons hb pa_nil hs2) hs) (by decide) (by decide) hs hpl) fun σ H Q h => by
  obtain ⟨w, env, st, r, p⟩ := t1 (Da := DenB) (g := fun env d st => oIsi tb d st) h
  refine ⟨w, env, st, r, p.mono ?_⟩
  rintro x H1 ⟨w1, env1, st1, d, r1, d1, p1⟩
  unfold oIsi at p1
  split at p1
  · rename_i bb eb
    obtain ⟨t, ty, kk⟩ := ty_of r1 d1 T eb
    exact ⟨x, v, t, u, bb, rfl, hc, ty, kk, Post.ok r1 p1 (.bl bb)⟩
  · exact p1.elim
end
end AM
namespace PySem
open Builtin
theorem am_enum_new {v : Value} {o : Obj} {H : Heap → Prop} (B : Begins v o H) :
    Meets (Builtin.«enumerate.__new__» ⟨[.type "enumerate", v], []⟩) (fun _ R s => H s.heap ∧
      R (.ok (.ret (.ref (s.heap.push o).objs.size))) { s with heap := (s.heap.push o).push { cls := .type "enumerate", data := .fields #[.none, .bool false, .ref s.heap.objs.size, rawInt 0, .none, .none] } }) := by
  refine Meets.of_wp fun prog w A R s hh => ?_
  obtain ⟨h1, h⟩ := hh
  obtain ⟨hp, g, d, tk, os⟩ := s
  have ty1 := sub_enumerate
  have begin_ : ∀ {A' : Around} {E : Value → Shared → Prop} {Q : Value → Shared → Prop}, Q (.ref hp.objs.size) ⟨hp.push o, g, d, tk, os⟩ → wpAny (model prog w) A' (pyIter v) Q E ⟨hp, g, d, tk, os⟩ := fun q => B.iter prog w _ _ _ _ h1 q
  wp_walk using begin_
  refine wpAny_stack_any fun stk => wpAny_pure ?_
  split
  · rename_i c _ _ _ _ _
    cases hc : (c == Value.type "enumerate") with
    | true =>
      wp_walk using begin_
      exact ⟨_, rfl, h⟩
    | false =>
      wp_walk using begin_
      exact ⟨_, rfl, h⟩
  · wp_walk using begin_
    exact ⟨_, rfl, h⟩
theorem am_enum {prog : Program} {w : World} {A : Around} {E : Value → Shared → Prop} {s : Shared} {v : Value} {o : Obj} {H : Heap → Prop} {Q : Value → Shared → Prop} (B : Begins v o H) (h1 : H s.heap)
    (h : ∀ h', IsEnum h' (s.heap.objs.size + 1) s.heap.objs.size 0 .none → h'.get? s.heap.objs.size = some o → (∀ b u, s.heap.get? b = some u → h'.get? b = some u) → Q (.ref (s.heap.objs.size + 1)) { s with heap := h' }) :
    wpAny (model prog w) A (call (.type "enumerate") [v]) Q E s := by
  refine callType_new F.called_enumerate (by decide) (F.typeCall_enumerate_1 _) (F.newCall_enumerate_1 _) (fun obj => F.args_object_init_2 obj _) F.entry_enumerate_new (am_enum_new B) ⟨h1, ?_⟩
  have z1 : (s.heap.push o).objs.size = s.heap.objs.size + 1 := Heap.size_push ..
  have at1 : ((s.heap.push o).push { cls := .type "enumerate", data := .fields #[.none, .bool false, .ref s.heap.objs.size, rawInt 0, .none, .none] }).get? (s.heap.push o).objs.size = some { cls := .type "enumerate", data := .fields #[.none, .bool false, .ref s.heap.objs.size, rawInt 0, .none, .none] } := Heap.get?_push_size _ rfl
  show _ ∧ _
  rw [z1] at at1 ⊢
  exact ⟨⟨_, at1, rfl⟩, h _ at1 (Heap.get?_push_of_some _ (Heap.get?_push_size _ B.free)) fun b u x => Heap.get?_push_of_some _ (Heap.get?_push_of_some _ x)⟩
end PySem
namespace AM
open PySem PySem.Spec PyProof.Rows L2
def IteT (K : PySem.W.Frag) (a : Addr) : It :=
  ⟨fun i H => ∃ us u, SqT K H a us ∧ us[i]? = some u, fun i H v H' => ∃ q u, v = .ref q ∧ H q = none ∧ H' = upd H q (.tup [.int (i : Nat), u]) ∧ ∀ us, SqT K H a us → us[i]? = some u, fun i H => ∃ us, SqT K H a us ∧ us.length ≤ i⟩
theorem turn_enumT {P : Program} {w : World} {K : PySem.W.Frag} {elts : List Expr} {kk : Nat} {tpos : Pos} (a e it : Addr) :
    Turn P w K (.Tuple elts kk tpos) (IteT K a) [e, it] e (fun i h => (∃ o, IsEnum h e it ((i : Nat) : Int) o) ∧ h.IsTupleIter it a i ∧ e ≠ it) where
  mem := List.mem_cons_self
  obj := fun i h st b hb => by
    obtain ⟨⟨o1, he⟩, ⟨o2, h2, _, d2⟩, _⟩ := st
    rcases List.mem_cons.mp hb with z | z
    · exact ⟨_, by rw [z]; exact he, fun v q => by cases q⟩
    · exact ⟨o2, by rw [List.mem_singleton.mp z]; exact h2, fun v q => by rw [d2] at q; cases q⟩
  keep := fun i h h' st k => by
    obtain ⟨⟨o1, he⟩, hi, ne⟩ := st
    exact ⟨⟨o1, k e List.mem_cons_self _ he⟩, hi.at fun o q => k it (List.mem_cons_of_mem _ List.mem_cons_self) o q, ne⟩
  item := by
    rintro X rfl rfl rfl hcalm i pins s σ H E I hf ⟨⟨o1, he⟩, hit, ne⟩ ⟨us, u, hq, hu⟩
    obtain ⟨its, rv, tp, _⟩ := I.tuple hq
    have ez : e < s.heap.objs.size := Heap.lt_size he
    have iz : it < s.heap.objs.size := let ⟨_, q, _⟩ := hit; Heap.lt_size q
    have nai : a ≠ it := fun z => by
      obtain ⟨o, ho, hcl, _⟩ := tp
      obtain ⟨o', ho', hcl', _⟩ := hit
      rw [z, ho'] at ho
      cases ho
      exact absurd (Value.type.inj (hcl.symm.trans hcl')) (by decide)
    have nae : a ≠ e := fun z => by
      obtain ⟨o, ho, hcl, _⟩ := tp
      rw [z, he] at ho
      cases ho
      exact absurd (Value.type.inj hcl) (by decide)
    have ilt : i < its.toArray.size := by
      rw [List.size_toArray, ← rv.length]
      exact (List.getElem?_eq_some_iff.mp hu).1
    refine wpAny_pyNext_enum_itemD (Draws.tuple (A := X.A.in1) (I.ok.hd hcalm) it a nai its.toArray) he ⟨hit, tp⟩ ilt ne (by simp [ne, Ne.symm nae]) fun y h' tk hy ho st' hT hz hk => ?_
    obtain ⟨y', hy', ry⟩ := rv.get hu
    have ey : y = y' := by
      have h1 : its.toArray[i]? = some y := hy
      rw [List.getElem?_toArray, hy'] at h1
      exact (Option.some.inj h1).symm
    subst ey
    refine ⟨_, rfl, wpAny_letOwnedTupleGo_enum (s := { s with heap := h', toks := tk + 1 }) ho fun h2 he2 sb => ?_⟩
    have keep2 : ∀ b, b ≠ e → h2.get? b = h'.get? b := fun b hb => sb.2 b hb
    have obj : ObjOk X.prog X.w (upd H s.heap.objs.size (.tup [.int (i : Nat), u])) h2 s.heap.objs.size (.tup [.int (i : Nat), u]) :=
      ⟨by show 2 ≤ sizeLine; decide, [.int i tk, y], .cons ⟨_, rfl⟩ (.cons ry .nil), ⟨_, (keep2 _ (Nat.ne_of_gt ez)).trans hT, rfl, _, rfl⟩⟩
    have J := I.turnedNew (t' := tk + 1) (ch := [e, it]) (h' := h2) (T := s.heap.objs.size) (ob := .tup [.int (i : Nat), u]) (fun b o hb q => by
      have n1 : b ≠ e := fun z => hb (by rw [z]; exact List.mem_cons_self)
      have n2 : b ≠ it := fun z => hb (by rw [z]; exact List.mem_cons_of_mem _ List.mem_cons_self)
      exact (keep2 b n1).trans (hk b o n1 n2 q)) hf (Nat.le_refl _) obj
    refine ⟨.ref s.heap.objs.size, _, J, rfl, ⟨_, u, rfl, I.hok.fresh (Nat.le_refl _), rfl, fun ws hw => by rw [I.tuple_inj hw hq]; exact hu⟩, ⟨⟨y, ?_⟩, st'.1.at fun o q => (keep2 it (Ne.symm ne)).trans q, ne⟩, fun b hb => ?_⟩
    · rw [show ((i + 1 : Nat) : Int) = (i : Int) + 1 by omega]
      exact he2
    · have bz : b < s.heap.objs.size := by
        rcases List.mem_cons.mp hb with z | z
        · rw [z]; exact ez
        · rw [List.mem_singleton.mp z]; exact iz
      rw [upd_ne (Nat.ne_of_lt bz)]
      exact (hf b hb).1
  done := by
    rintro X rfl rfl rfl hcalm i pins s σ H E I hf ⟨⟨o1, he⟩, hit, ne⟩ ⟨us, hq, hle⟩
    obtain ⟨its, rv, tp, _⟩ := I.tuple hq
    obtain ⟨f0, f1, f2, f3, f4, f5⟩ := hf it (List.mem_cons_of_mem _ List.mem_cons_self)
    have nai : a ≠ it := fun z => by
      obtain ⟨o, ho, hcl, _⟩ := tp
      obtain ⟨o', ho', hcl', _⟩ := hit
      rw [z, ho'] at ho
      cases ho
      exact absurd (Value.type.inj (hcl.symm.trans hcl')) (by decide)
    have hT : s.TypeIs (.ref e) "enumerate" := ⟨_, he, rfl⟩
    have hx : its.toArray[i]? = none := by
      rw [List.getElem?_toArray]
      exact List.getElem?_eq_none (by rw [← rv.length]; exact hle)
    have D : Draws X.prog X.w X.A.in1 it [it, a] i (fun _ _ => False) (fun j h => j = i ∧ h.IsTupleIter it a i ∧ h.IsTuple a its.toArray) := {
      live := fun _ _ st => let ⟨o, ho, _⟩ := st.2.1; ⟨o, ho⟩
      frame := fun _ _ _ st k => ⟨st.1, st.2.1.at fun o z => k it (by simp) o z, st.2.2.at fun o z => k a (by simp) o z⟩
      item := fun j s Q E hj st _ => absurd st.1 (Nat.ne_of_lt hj)
      done := fun s Q E st hE => wpAny_nextOf_tuple_end (I.ok.hd hcalm) st.2.1 st.2.2 hx hE }
    exact wpAny_pyNext_enum_endD D he ⟨rfl, hit, tp⟩ fun h' eb => ⟨rfl, I.turned (t' := s.toks) (fun b o hb q => eb b o hb q) f0 f1 f3 f4 f5⟩
  self := fun A i s Q E st h => let ⟨⟨_, he⟩, _⟩ := st; wpAny_pyIter_enum he h
def iEnumT (K : PySem.W.Frag) (t : TA) : TI := fun σ H R => t σ H fun vs H1 => ∃ a us, vs = [.ref a] ∧ SqT K H1 a us ∧ R (IteT K a) H1
section
variable {X : Cx} {Γ : Nat → Addr} {W : WX} {e tg : Expr} {t : TA} {f : EF} {pos p tpos : Pos} {elts : List Expr} {kk : Nat}
theorem pi_enumT (hm : X.mg "enumerate" = none) (ha : PA X [e] t) (hg : Gl X "enumerate" := by rfl) (hs : starEach [e] X.env = [(false, eval e X.env)] := by rfl) :
    PI X (.Tuple elts kk tpos) (.Call (.Name "enumerate" p) [e] [] pos) (iEnumT X.K t) := by
  refine ⟨fun pins s σ H R I h => ?_⟩
  refine Call_ (ld_blt I hg hm boot_enumerate (PyProof.Rows.callWith_type1 (thn (ha.run pos pins s σ H _ I h) fun ws s1 ⟨vs, H1, I1, r1, a, us, ev, hq, q⟩ => ?_) hs rfl))
  · subst ev
    cases r1 with
    | cons r rr =>
      cases rr
      cases r
      obtain ⟨its, rv, tp, _⟩ := I1.tuple hq
      refine am_enum (begins_tuple a its.toArray) tp fun h' he hit hk => wpAny_pyIter_enum he ?_
      have J : Inv X pins σ H1 { s1 with heap := h' } := I1.kept (t' := s1.toks) hk
      refine ⟨s1.heap.objs.size + 1, [s1.heap.objs.size + 1, s1.heap.objs.size], _, _, H1, rfl, J, turn_enumT a (s1.heap.objs.size + 1) s1.heap.objs.size, ⟨⟨.none, he⟩, ⟨_, hit, rfl, rfl⟩, Nat.succ_ne_self _⟩, fun b hb => ?_, q⟩
      have hle : s1.heap.objs.size ≤ b := by
        rcases List.mem_cons.mp hb with z | z
        · rw [z]; exact Nat.le_succ _
        · rw [List.mem_singleton.mp z]; exact Nat.le_refl _
      exact I1.fpOk hle (I1.hok.fresh hle)
end
def enm (ds : List D) : List D := ds.zipIdx.map fun p => .tup [.int (p.2 : Nat), p.1]
theorem enm_len (ds : List D) : (enm ds).length = ds.length := by unfold enm; rw [List.length_map, List.length_zipIdx]
theorem enm_get {ds : List D} {i : Nat} {d : D} (h : ds[i]? = some d) : (enm ds)[i]? = some (.tup [.int (i : Nat), d]) := by
  unfold enm
  rw [List.getElem?_map, List.getElem?_zipIdx, h]
  simp
section
variable {K : Ct} {w : Wd} {H : Hp} {a : Addr} {vs : List V} {ds : List D}
theorem new_pair {w' : Wd} {env : AEnv} {st : Sto} {σ : St} {H' : Hp} {i : Nat} {q : Addr} {u : V} {d : D} (r : Rel K w' env st σ H') (hq : H' q = none) (h : Den K w'.ρ w'.S H' u d) :
    Den K w'.ρ w'.S (upd H' q (.tup [.int (i : Nat), u])) (.ref q) (.tup [.int (i : Nat), d]) ∧ Rel K w' env st σ (upd H' q (.tup [.int (i : Nat), u])) ∧ Ext K w'.ρ H' w'.ρ (upd H' q (.tup [.int (i : Nat), u])) :=
  ⟨.tup (.inl (.inl upd_same)) (.cons (.int _) (.cons (h.new r hq) .nil)), r.new hq, Ext.new hq⟩
theorem iter_enumT (h : SqT K.K H a vs) (t : Dens K w.ρ w.S H vs ds) : Iter K w H (IteT K.K a) (enm ds) := by
  refine ⟨fun w' H' i x hi => ?_, fun w' H' x => ⟨vs, x.tups _ _ h, by rw [enm_len, t.length]; exact Nat.le_refl _⟩, fun w' env st σ H' i y H2 r x hi q => ?_⟩
  · have hv : i < vs.length := by rw [t.length, ← enm_len]; exact hi
    exact ⟨vs, vs[i], x.tups _ _ h, List.getElem?_eq_getElem hv⟩
  · obtain ⟨q, u, rfl, hq, rfl, hu⟩ := q
    obtain ⟨d, e1, e2⟩ := (t.monoS x).getV (hu vs (x.tups _ _ h))
    obtain ⟨a1, a2, a3⟩ := new_pair (i := i) r hq e2
    exact ⟨_, enm_get e1, a1, a2, a3⟩
theorem iter_enumL (k : ∀ w' H', ExtS K w H w' H' → SqL K.K H' a vs) (t : Dens K w.ρ w.S H vs ds) : Iter K w H (Ite K.K a) (enm ds) := by
  refine ⟨fun w' H' i x hi => ?_, fun w' H' x => ⟨vs, k w' H' x, by rw [enm_len, t.length]; exact Nat.le_refl _⟩, fun w' env st σ H' i y H2 r x hi q => ?_⟩
  · have hv : i < vs.length := by rw [t.length, ← enm_len]; exact hi
    exact ⟨vs, vs[i], k w' H' x, List.getElem?_eq_getElem hv⟩
  · obtain ⟨q, u, rfl, hq, rfl, hu⟩ := q
    obtain ⟨d, e1, e2⟩ := (t.monoS x).getV (hu vs (k w' H' x))
    obtain ⟨a1, a2, a3⟩ := new_pair (i := i) r hq e2
    exact ⟨_, enm_get e1, a1, a2, a3⟩
end
section
variable {X : Cx} {Γ : Nat → Addr} {W : WX} {e tg : Expr} {t : TA} {f : EF} {pos p tpos : Pos} {elts : List Expr} {kk : Nat}
def iEnm (f : EF) : IF := fun env st => (f env st).bind fun d st => match d with
  | .tup ds => .ok (enm ds) st
  | .lst ds => .ok (enm ds) st
  | _ => .bad
theorem pid_enum (hm : X.mg "enumerate" = none) (he : PE X e (tD (XC X Γ) W f)) (hg : Gl X "enumerate" := by rfl) (hst : starEach (e :: []) X.env = (false, eval e X.env) :: starEach [] X.env := by rfl) (hs : starEach [e] X.env = [(false, eval e X.env)] := by rfl) :
    PI X (.Tuple elts kk tpos) (.Call (.Name "enumerate" p) [e] [] pos) (tI (XC X Γ) W (iEnm f)) := by
  refine ⟨fun pins s σ H R I hh => ?_⟩
  obtain ⟨w, env, st, r, p⟩ := hh
  unfold iEnm at p
  have ha := pa_cons he pa_nil hst
  cases q : f env st with
  | ok d st1 =>
    rw [q] at p
    cases d with
    | tup ds =>
      refine (pi_enumT hm ha hg hs).run pins s σ H R I ⟨w, env, st, r, ?_⟩
      rw [q]
      intro ρ' H' x h1 h2 h3
      obtain ⟨a, vs, e1, hq, t⟩ := DenB.tup (w := w.at_ ρ') h3.b
      exact ⟨a, vs, by rw [e1], hq, p ρ' H' _ h1 h2 (iter_enumT hq t)⟩
    | lst ds =>
      refine (pi_enum hg hm ha hs).run pins s σ H R I ⟨w, env, st, r, ?_⟩
      rw [q]
      intro ρ' H' x h1 h2 h3
      cases h3 with
      | @lst a vs _ hq n t =>
        exact ⟨a, vs, rfl, SqL.of hq, p ρ' H' _ h1 h2 (iter_enumL (fun w' H2 x => SqL.of (x.keep a _ hq (fun z => n (.inl z)) fun z => n (.inr (.inr z))).1) t)⟩
    | _ => exact p.elim
  | exc x st1 =>
    rw [q] at p
    refine (pi_enumT hm ha hg hs).run pins s σ H R I ⟨w, env, st, r, ?_⟩
    rw [q]
    exact p
  | bad => rw [q] at p; exact p.elim
end
end AM
namespace AM
open PySem PySem.Spec PyProof.Rows L2
section
variable {X : Cx} {Γ : Nat → Addr} {W : WX} {e o a b : Expr} {es : List Expr} {f fo fa fb fe ff : EF} {fs : EFs} {F : DF} {pos p apos cpos : Pos} {j k : Nat} {x m : Str} {ks : List Str}
def keyD : D → Option Key
  | .int i => some (.inl i)
  | .str s => some (.inr s)
  | _ => none
inductive PDC (X : Cx) (pos : Pos) : List (Option Expr) → List Expr → List (Key × D) → List (TE × TE) → List (Key × V) → Prop where
  | nil : PDC X pos [] [] [] [] []
  | cons {k v : Expr} {ks : List (Option Expr)} {vs : List Expr} {r : List (Key × D)} {trs : List (TE × TE)} {kvs : List (Key × V)} {kk : Key} {d : D} {u : V} (hk : PE X k (tC (kV kk))) (hv : PE X v (tC u)) (hd : imV d = some u) (hr : PDC X pos ks vs r trs kvs) :
      PDC X pos (some k :: ks) (v :: vs) ((kk, d) :: r) ((tC (kV kk), tC u) :: trs) ((kk, u) :: kvs)
theorem PDC.pps {pos : Pos} {ks : List (Option Expr)} {vs : List Expr} {r : List (Key × D)} {trs : List (TE × TE)} {kvs : List (Key × V)} (h : PDC X pos ks vs r trs kvs) : PPs X pos ks vs trs := by
  induction h with
  | nil => exact pps_nil
  | cons hk hv hd hr ih => exact pps_cons hk hv ih
theorem PDC.pairs {pos : Pos} {ks : List (Option Expr)} {vs : List Expr} {r : List (Key × D)} {trs : List (TE × TE)} {kvs : List (Key × V)} (h : PDC X pos ks vs r trs kvs) : ∀ (σ : St) (H : Hp) (Q : List (V × V) → Hp → Prop), Q (kvs.map fun kv => (kV kv.1, kv.2)) H → tPairs trs σ H Q := by
  induction h with
  | nil => exact fun σ H Q q => q
  | cons hk hv hd hr ih => exact fun σ H Q q => ih σ H _ q
def valD (r : List (Key × D)) (k : Key) : Option D := (r.find? fun kv => decide (kv.1 = k)).map (·.2)
theorem PDC.val {pos : Pos} {ks : List (Option Expr)} {vs : List Expr} {r : List (Key × D)} {trs : List (TE × TE)} {kvs : List (Key × V)} (h : PDC X pos ks vs r trs kvs) (key : Key) :
    (valV kvs key = none ∧ valD r key = none) ∨ ∃ u d, valV kvs key = some u ∧ valD r key = some d ∧ imV d = some u := by
  induction h with
  | nil => exact .inl ⟨rfl, rfl⟩
  | @cons k v ks vs r trs kvs kk d u hk hv hd hr ih =>
    by_cases e : kk = key
    · exact .inr ⟨u, d, valV_pos (p := (kk, u)) e, by simp [valD, List.find?_cons, e], hd⟩
    · have e1 : valV ((kk, u) :: kvs) key = valV kvs key := valV_neg (p := (kk, u)) e
      have e2 : valD ((kk, d) :: r) key = valD r key := by simp [valD, List.find?_cons, e]
      rw [e1, e2]
      exact ih
def dDget (r : List (Key × D)) (fe ff : EF) : EF := fun env st => (fe env st).bind fun d st1 => (ff env st1).bind fun z st2 => match keyD d with
  | some k => .ok ((valD r k).getD z) st2
  | none => .bad
structure PKD (X : Cx) (Γ : Nat → Addr) (W : WX) (kws : List Keyword) (fs : EFs) : Prop where
  run : ∀ (pos : Pos) (pins : List (Addr × Obj)) (s : Shared) (σ : St) (H : Hp) (Q : List V → Hp → Prop), Inv X pins σ H s → tDs (XC X Γ) W fs σ H Q → wpAny (model X.prog X.w) X.A (evalAll ((backToKw pos (keywordEach kws X.env)).map (·.2))) (AP X pins σ Q) X.xe s
theorem pkd_nil : PKD X Γ W [] dNil := ⟨fun pos pins s σ H Q I ⟨w, env, st, r, p⟩ => pk_nil.run pos pins s σ H Q I (Post.ok (Da := Dens) r p .nil)⟩
theorem pkd_cons {nm : Option Str} {kpos : Pos} {kws : List Keyword} (ha : PE X e (tD (XC X Γ) W f)) (hr : PKD X Γ W kws fs) : PKD X Γ W (⟨nm, e, kpos⟩ :: kws) (dCons f fs) := by
  refine ⟨fun pos pins s σ H Q I h => ?_⟩
  obtain ⟨w, env, st, rl, p⟩ := t2 (Da := Den) (Db := Dens) (g := fun env a st => fs env st) (k := fun env a b st => .ok (a :: b) st) lastsD h
  have hr' : PK X kws (tDs (XC X Γ) W fs) := ⟨hr.run⟩
  refine (pk_cons (nm := nm) (kpos := kpos) ha hr').run pos pins s σ H Q I ⟨w, env, st, rl, p.mono ?_⟩
  rintro x H1 ⟨w1, env1, st1, a, r1, d1, p1⟩
  refine ⟨w1, env1, st1, r1, p1.mono ?_⟩
  rintro y H2 ⟨w2, st2, b, r2, d2, d3, p2⟩
  exact Post.ok (Da := Dens) r2 p2 (.cons d2 d3)
theorem pd_callK0 {kws : List Keyword} (G : Go X W k) (c : Kn X.prog X.w X.K X.mg X.base Γ j x ks F) (hkw : PKD X Γ W kws fs) (hlen : ∀ env st ds st', fs env st = .ok ds st' → ds.length = ks.length) (hj : j ≤ k := by decide) (hg : Gl X x := by rfl) (hdb : (x == ("__debug__" : Str)) = false := by decide)
    (hall : (backToKw pos (keywordEach kws X.env)).all (·.1.isSome) = true := by rfl) (hks : (backToKw pos (keywordEach kws X.env)).filterMap (·.1) = ks := by rfl)
    (hpl : ((backTo pos (starEach [] X.env)).any (·.1) || (backToKw pos (keywordEach kws X.env)).any (·.1.isNone)) = false := by rfl) :
    PE X (.Call (.Name x p) [] kws pos) (tD (XC X Γ) W (dCall F fs)) := by
  obtain ⟨v, hm, hk, c⟩ := c.ex
  refine ⟨fun pins s σ H Q I h => ?_⟩
  obtain ⟨w, env, st, rl, p0⟩ := h
  refine wpAny_Call_Name_kw (ld_glob I hg hm ?_ hdb)
  have h2 : tDs (XC X Γ) W fs σ H fun vs H1 => ∃ w st ds, Rel (XC X Γ) w env st σ H1 ∧ Dens (XC X Γ) w.ρ w.S H1 vs ds ∧ ds.length = ks.length ∧ Post Den (XC X Γ) W w H1 σ (F ds st) Q := by
    refine ⟨w, env, st, rl, ?_⟩
    have q := Post.bind (Da := Dens) rl p0
    cases z : fs env st with
    | ok ds st' =>
      rw [z] at q
      exact fun ρ' H' x h1 h2 h3 => by
        obtain ⟨w1, st1, a, r1, _, _, d1, p1⟩ := q ρ' H' x h1 h2 h3
        have p2 : Post Den (XC X Γ) W w H σ ((fs env st).bind F) Q := p0
        rw [z] at p2
        exact ⟨w.at_ ρ', st', ds, rl.ext h2 h1, h3, hlen _ _ _ _ z, Post.back (Dg := Den) h2 p2⟩
    | exc e st' => rw [z] at q; exact q
    | bad => rw [z] at q; exact q
  refine PySem.W.callWith_KW0 (h₀ := X.base) I.ok.mod.kin hk hall (thn (hkw.run pos pins s σ H _ I h2) fun ws s1 ⟨vs, H1, I1, rv, w1, st1, ds, r1, d1, l1, p1⟩ => ⟨I1.kIn, ?_⟩) hpl
  rw [hks]
  exact c X W rfl rfl rfl rfl rfl (G.rm.mono hj) G.gd G.tk pins s1 σ H1 w1 env st1 [] ws vs ds Q I1 rv (by rw [← rv.length, d1.length, l1]) r1 d1 p1
end
end AM
namespace AM
open PySem PySem.Spec PyProof.Rows L2
structure KnT (P : Program) (w : World) (K : PySem.W.Frag) (mg : Str → Option Value) (base : Heap) (Γ : Nat → Addr) (k : Nat) (c : Nat) (m : Str) (ks : List Str) (F : DF) : Prop where
  gat : PySem.W.specialIn K (.ref (Γ c)) "__getattribute__" = some (some (.builtin "type.__getattribute__"))
  ty : PySem.W.typeIn K (.ref (Γ c)) = some (.type "type")
  rd : PySem.W.readsIn K (Γ c) (.type "type") = true
  ex : ∃ p g rest, PySem.W.findCls K (.ref (Γ c)) (.type "type") m = some (.get (.builtin "staticmethod.__get__") (.ref p) .none (.ref (Γ c))) ∧ PySem.W.recIn K p "staticmethod" = some (.ref g :: rest) ∧ PySem.W.keepIn K (.ref g) = true ∧ Cal P w K mg base Γ k (.ref g) ks F
section
variable {X : Cx} {Γ : Nat → Addr} {W : WX} {e o a b : Expr} {es : List Expr} {f fo fa fb fe ff : EF} {fs : EFs} {F : DF} {pos p apos cpos : Pos} {j k c : Nat} {x m : Str} {ks : List Str}
end
end AM
namespace AM
open PySem PySem.Spec PyProof.Rows L2
theorem no_takes {X : Cx} : Takes X WN := fun u s' x => by
  obtain ⟨_, _, _, _, _, _, _, _, _, _, _, _, _, _, _, _, z⟩ := x
  exact z.elim
section
variable {X : Cx} {Γ : Nat → Addr} {W : WX} {pos : Pos} {k : Nat} {x : Str}
theorem Go.blk (G : Go X W k) (s : Shared) (H : Hp) (scope : Scope) (cenv : Env) (fp : List Addr) : Go (X.blk s H scope cenv fp) WN k := ⟨no_takes, G.rm, PassesOwn.never, G.calm, G.gd⟩
theorem pd_gint {i : Int} (h : ∃ t, X.mg x = some (.int i t)) (hg : Gl X x := by rfl) (hd : (x == ("__debug__" : Str)) = false := by decide) : PE X (.Name x pos) (tD (XC X Γ) W (dC (.int i))) := by
  obtain ⟨t, h⟩ := h
  exact pd_glob (v := .int i) h ⟨t, rfl⟩ (fun _ _ _ => .int i) hg hd
theorem pd_gstr {i : Str} (h : ∃ t, X.mg x = some (.str i t)) (hg : Gl X x := by rfl) (hd : (x == ("__debug__" : Str)) = false := by decide) : PE X (.Name x pos) (tD (XC X Γ) W (dC (.str i))) := by
  obtain ⟨t, h⟩ := h
  exact pd_glob (v := .str i) h ⟨t, rfl⟩ (fun _ _ _ => .str i) hg hd
end
end AM
namespace AM
open PySem PySem.Spec PyProof.Rows L2
structure At0 (K : PySem.W.Frag) (mg mb : Str → Option Value) (s : Shared) : Prop where
  kin : K.In s.heap
  glo : s.heap.Ns mainGlobals mg
  blt : s.heap.Ns builtinsNs mb
  mbs : ∀ x : Str, x ≠ "__name__" → mb x = bootBuiltins x
  lim : s.heap.NoLimit
  gen : s.gens = #[]
abbrev Says1 (s : Shared) (r : Result) (s' : Shared) : Prop := r = .ok (.ret (.bool true)) ∧ OldK s.heap s'.heap ∧ s'.os = s.os ∧ AllBare s'.gens
section
variable {P : Program} {w : World} {K : PySem.W.Frag} {mg mb : Str → Option Value} {Γ : Nat → Addr} {k : Nat} {fa a : Addr} {fd : FuncData} {x : Str} {F : DF} {s : Shared} {vs : List Value} {ns : List Int}
end
end AM
namespace AM
open PySem PySem.Spec PyProof.Rows L2 He
theorem strsAre_ok : ∀ {vs : List Value} {zs : List Str}, strsAre vs zs = true → Vals (zs.map V.str) vs
  | [], [], _ => .nil
  | .str y t :: vs, z :: zs, h => by
    unfold strsAre at h
    obtain ⟨h1, h2⟩ := ba h
    have h1 := of_decide_eq_true h1
    subst h1
    exact .cons ⟨t, rfl⟩ (strsAre_ok h2)
  | [], _ :: _, h => by cases h
  | .none :: _, _, h => by simp [strsAre] at h
  | .bool _ :: _, _, h => by simp [strsAre] at h
  | .int _ _ :: _, _, h => by simp [strsAre] at h
  | .ref _ :: _, _, h => by simp [strsAre] at h
  | .str _ _ :: _, [], h => by simp [strsAre] at h
  | .bytes _ _ :: _, _, h => by simp [strsAre] at h
  | .float _ _ :: _, _, h => by simp [strsAre] at h
  | .type _ :: _, _, h => by simp [strsAre] at h
  | .builtin _ :: _, _, h => by simp [strsAre] at h
  | _ :: _, [], h => by
    unfold strsAre at h
    split at h <;> simp_all
section
variable {P : Program} {w : World} {K : PySem.W.Frag} {mg : Str → Option Value} {base : Heap} {Γ : Nat → Addr} {k c : Nat} {x m f : Str} {F : DF} {ks : List Str}
theorem kit_ok {t u : Ty1} {b : Bool} (h : (Fx.kit t u b).ok K = true) : PySem.W.kitOne K (t.v K) (u.v K) = some b := of_decide_eq_true h
theorem prop_ok (h : (Fx.prop x f).ok K = true) : Cls K (ga K x) ∧ PropOf K (ga K x) f (ma K (ga K x) f) (pfA K (ga K x) f) := by
  obtain ⟨c1, h⟩ := ba h
  obtain ⟨c2, h⟩ := ba h
  obtain ⟨c3, h⟩ := ba h
  obtain ⟨c4, c5⟩ := ba h
  refine ⟨cls_ok c1, eqO_ok c2, eqO_ok c3, of_decide_eq_true c4, ?_⟩
  unfold pfA
  split at c5
  · rename_i g r e
    exact ⟨r, by rw [e]⟩
  · cases c5
theorem tupS_ok {h : Heap} (Y : K.In h) (N : h.Ns mainGlobals mg) {zs : List Str} (c : (Fx.tupS x zs).ok K = true) : ∃ a, mg x = some (.ref a) ∧ ∀ H, SqT K H a (zs.map V.str) := by
  obtain ⟨c1, c2⟩ := ba c
  refine ⟨_, PySem.W.mg_of Y N (eqO_ok c1), fun H => .inr ?_⟩
  split at c2
  · rename_i o ho
    obtain ⟨c3, c4⟩ := ba c2
    split at c4
    · rename_i its n hd
      obtain ⟨c5, c6⟩ := ba c4
      exact ⟨o, its, n, ho, of_decide_eq_true c3, hd, by have := of_decide_eq_true c5; rw [sizeLine_eq]; omega, strsAre_ok c6⟩
    · cases c4
  · cases c2
theorem KnP.of (e : Γ c = ga K x) (h : (Fx.prop x f).ok K = true) (g : FnV P w K mg base k (pfA K (ga K x) f) (spD ⟨K, Γ⟩ F)) : KnP P w K mg base Γ k c f F := by
  obtain ⟨h1, h2⟩ := prop_ok h
  rw [← e] at h1 h2 g
  exact ⟨h1, _, _, h2, g⟩
theorem KnT.of (e : Γ c = ga K x) (h : (Fx.stat x m).ok K = true) (g : Cal P w K mg base Γ k (.ref (sfA K (ga K x) m)) ks F) : KnT P w K mg base Γ k c m ks F := by
  obtain ⟨c1, h⟩ := ba h
  obtain ⟨c2, h⟩ := ba h
  obtain ⟨c3, h⟩ := ba h
  obtain ⟨c4, c5⟩ := ba h
  obtain ⟨h1, rest, h2⟩ := He5.wrapB_ok c4
  have e1 := eqO_ok c1
  have e2 : PySem.W.typeIn K (.ref (ga K x)) = some (.type "type") := of_decide_eq_true c2
  refine ⟨by rw [e]; exact e1, by rw [e]; exact e2, by rw [e]; exact c3, ma K (ga K x) m, sfA K (ga K x) m, rest, by rw [e]; exact h1, h2, c5, g⟩
theorem KnM.of (e : Γ c = ga K x) (h1 : (Fa.cls x).ok K = true) (h : (Fa.meth x m).ok K = true) (g : Cal P w K mg base Γ k (.ref (ma K (ga K x) m)) ks F) : KnM P w K mg base Γ k c m ks F :=
  ⟨by rw [e]; exact cls_ok h1, _, by rw [e]; exact meth_ok h, g⟩
theorem KnS.of (e : Γ c = ga K x) (h : (Fa.meth x m).ok K = true) (g : FnV P w K mg base k (ma K (ga K x) m) (spD ⟨K, Γ⟩ F)) : KnS P w K mg base Γ k c m F := by
  have q := meth_ok h
  exact ⟨_, by rw [e]; exact q.at_, q.fn, g⟩
theorem FnB.v {fd : FuncData} {fa : Addr} {y qual : Str} {params : Arguments} {body : List Stmt} {scope : Scope} {kws : List (Str × V)} {ps : List Str} (D : FunD K y qual params body scope [] kws fa fd) (g : FnB P w K mg base k fa fd ps (spD ⟨K, Γ⟩ F))
    (h : ∀ (kV doc pm : Value) (an : Option Addr) (cdv ct : Value) (us : List Value), us.length = ps.length → bindArgs (PySem.W.fnOf y qual params body scope .none kV doc pm an cdv ct) ⟨us, []⟩ = pure (ps.zip us)) : FnV P w K mg base k fa (spD ⟨K, Γ⟩ F) :=
  fun A outer s H us vs Q E hr hg e0 rv hsp => g.run A outer s H ⟨us, []⟩ us vs Q E hr hg e0 (FunD.bindsA D h s us (by rw [← rv.length]; exact g.len _ _ _ _ hsp)) rv hsp
theorem FnV.mono {j : Nat} {fa : Addr} {sp : Sp} (g : FnV P w K mg base j fa sp) (h : j ≤ k) : FnV P w K mg base k fa sp := fun A outer s H us vs Q E hr => g A outer s H us vs Q E (hr.mono h)
end
section
variable {fa : List Fa} {fn : List He5.DefA} {ex : List Fx} {K : PySem.W.Frag}
theorem SaysM.alls (c : SaysM fa fn ex K) : (∀ f ∈ fa, f.ok K = true) ∧ (∀ d ∈ fn, d.ok K = true) ∧ ∀ f ∈ ex, f.ok K = true := by
  have c1 : ((fa.all fun f => f.ok K) && ((fn.all fun d => d.ok K) && ex.all fun f => f.ok K)) = true := congrArg (fun z : He.AlD => z.1) c
  obtain ⟨h1, h2⟩ := ba c1
  obtain ⟨h2, h3⟩ := ba h2
  exact ⟨List.all_eq_true.mp h1, List.all_eq_true.mp h2, List.all_eq_true.mp h3⟩
theorem SaysM.fact (c : SaysM fa fn ex K) (i : Nat) {f : Fa} (h : fa[i]? = some f := by rfl) : f.ok K = true := c.alls.1 f (List.mem_of_getElem? h)
theorem SaysM.more (c : SaysM fa fn ex K) (i : Nat) {f : Fx} (h : ex[i]? = some f := by rfl) : f.ok K = true := c.alls.2.2 f (List.mem_of_getElem? h)
theorem SaysM.def_ (c : SaysM fa fn ex K) (i : Nat) {d : He5.DefA} (h : fn[i]? = some d := by rfl) : ∃ fd, FunD K d.name d.qual d.params d.body d.scope (d.dvs K) (d.kws K) (d.at_ K) fd := by
  have e2 : (fn.map fun d => He5.fnA K (d.at_ K)) = fn.map He5.DefA.val := congrArg (fun z : He.AlD => z.2) c
  have e3 : (fn.map fun d => He5.fnA K (d.at_ K))[i]? = (fn.map He5.DefA.val)[i]? := congrArg (fun l => l[i]?) e2
  rw [List.getElem?_map, List.getElem?_map, h] at e3
  exact He5.DefA.funD (Option.some.inj e3) (c.alls.2.1 d (List.mem_of_getElem? h))
end
end AM
namespace AM
open PySem PySem.Spec PyProof.Rows L2 He
section
variable {X : Cx} {Γ : Nat → Addr} {W : WX} {e o a b c tg : Expr} {es : List Expr} {f fo fa fb fc fe ff fv : EF} {fs : EFs} {F : DF} {pos p apos cpos tpos : Pos} {j k : Nat} {x m : Str} {ks : List Str}
theorem PDC.im {pos : Pos} {ks : List (Option Expr)} {vs : List Expr} {r : List (Key × D)} {trs : List (TE × TE)} {kvs : List (Key × V)} (h : PDC X pos ks vs r trs kvs) : imR r = some kvs := by
  induction h with
  | nil => rfl
  | cons hk hv hd hr ih => unfold imR; rw [hd, ih]
theorem pd_dic {keys : List (Option Expr)} {vals : List Expr} {r : List (Key × D)} {trs : List (TE × TE)} {kvs : List (Key × V)} (h : PDC X p keys vals r trs kvs) (hm : mergeK [] kvs = kvs := by rfl) (hz : kvs.length ≤ 15 := by decide)
    (hall : keys.all (·.isSome) = true := by rfl) (hl : keys.length = vals.length := by rfl) (h0 : keys ≠ [] := by intro z; cases z) (h15 : keys.length ≤ 15 := by decide) :
    PE X (.Dict keys vals p) (tD (XC X Γ) W (dC (.dic r))) := by
  refine peImp (pe_disp h.pps hall hl h0 h15) fun σ H Q hq => ?_
  intro q hn
  refine h.pairs σ _ _ ⟨upd_same, kvs, rfl, hz, ?_⟩
  rw [upd_upd, hm]
  obtain ⟨w, env, st, rl, pp⟩ := hq
  have r1 := rl.new (o := .dK kvs) hn
  exact pp w.ρ _ _ r1.sto (Ext.new hn) (.dic upd_same (rl.fresh hn) h.im)
def dDicGet (fo fe ff : EF) : EF := fun env st => (fo env st).bind fun d st1 => match d with
  | .dic r => (fe env st1).bind fun e st2 => (ff env st2).bind fun z st3 => (match keyD e with
    | some k => .ok ((valD r k).getD z) st3
    | none => .bad)
  | _ => .bad
def Tv.d : Tv → D
  | .int i => .int i
  | .pair i c => .tup [.int i, .cls c]
structure Dt (K : PySem.W.Frag) (w : World) (mg : Str → Option Value) (Γ : Nat → Addr) (x : Str) (r : List (Str × D)) : Prop where
  ex : ∃ (a : Addr) (es : Array DictEntry) (n : Nat), mg x = some (.ref a) ∧ KDict K w a es n ∧ (∀ z d, r.lookup z = some d → ∃ u v, PySem.W.nsIn K a z = some (some u) ∧ RelV v u ∧ ∀ ρ S H, Den ⟨K, Γ⟩ ρ S H v d) ∧ ∀ z, r.lookup z = none → PySem.W.nsIn K a z = some none
def dInG (r : List (Str × D)) (neg : Bool) (fa : EF) : EF := fun env st => (fa env st).bind fun d st1 => match d with
  | .str s => .ok (.bl (neg != (r.lookup s).isSome)) st1
  | _ => .bad
def dIxG (r : List (Str × D)) (fb : EF) : EF := fun env st => (fb env st).bind fun d st1 => match d with
  | .str s => (match r.lookup s with
    | some v => .ok v st1
    | none => .bad)
  | _ => .bad
variable {r : List (Str × D)}
theorem Dt.is (T : Dt X.K X.w X.mg Γ x r) (s : Str) : ∃ a es n u, X.mg x = some (.ref a) ∧ KDict X.K X.w a es n ∧ PySem.W.nsIn X.K a s = some u ∧ u.isSome = (r.lookup s).isSome := by
  obtain ⟨q, es, n, hm, D, h1, h2⟩ := T.ex
  cases ez : r.lookup s with
  | none => exact ⟨q, es, n, none, hm, D, h2 s ez, rfl⟩
  | some d =>
    obtain ⟨u, v, e1, _, _⟩ := h1 s d ez
    exact ⟨q, es, n, some u, hm, D, e1, rfl⟩
theorem tInG {K : Ct} {q : Addr} {neg : Bool} {rr : R2} {σ : St} {H : Hp} {Q : VK} (h : tD K W (dInG r neg fa) σ H Q) (i : ∀ s H Q, Q (.bl (neg != (r.lookup s).isSome)) H → rr (.str s) (.ref q) H Q) : tOp rr (tD K W fa) (tC (.ref q)) σ H Q := by
  obtain ⟨w, env, st, rl, pp⟩ := h
  refine ⟨w, env, st, rl, (Post.bind (Da := Den) rl pp).mono ?_⟩
  rintro y H1 ⟨w1, st1, d, r1, _, _, dx, p1⟩
  cases d with
  | str s =>
    obtain rfl := DenB.str (w := w1) dx.b
    exact i s H1 Q (Post.ok r1 p1 (.bl _))
  | _ => exact p1.elim
theorem pt_notInG {np : Pos} (T : Dt X.K X.w X.mg Γ x r) (ha : PE X a (tD (XC X Γ) W fa)) (hg : Gl X x := by rfl) (hd : (x == ("__debug__" : Str)) = false := by decide) (hm : behindInMarks .NotIn (.Name x np) = false := by first | exact nomark _ | rfl | with_unfolding_all rfl) :
    PT X (.Compare a [.NotIn] [.Name x np] pos) (tT (XC X Γ) W (gBl (dInG r true fa))) := by
  obtain ⟨q, es, n, hq, D, h1, h2⟩ := T.ex
  refine ptImp (pt_cmpR (op_notIn_kd D) ha (pe_glob (v := .ref q) hg hq rfl hd) hm) fun σ H Q h => tInG (gBl_ok (t := tD (XC X Γ) W (dInG r true fa)) h) fun s H Q hq2 => ?_
  obtain ⟨q', es', n', u, hm', D', e1, e2⟩ := T.is s
  rw [hq] at hm'
  cases hm'
  refine ⟨s, u, rfl, rfl, e1, ?_⟩
  rw [e2]
  rw [Bool.true_bne] at hq2
  exact hq2
theorem pd_ixG {np : Pos} (T : Dt X.K X.w X.mg Γ x r) (hb : PE X b (tD (XC X Γ) W fb)) (hg : Gl X x := by rfl) (hd : (x == ("__debug__" : Str)) = false := by decide) (hs : PlainIx b := by intro _ _; rfl) :
    PE X (.Subscript (.Name x np) b pos) (tD (XC X Γ) W (dIxG r fb)) := by
  obtain ⟨q, es, n, hq, D, h1, h2⟩ := T.ex
  refine peImp (pe_ix ix_kdict (pe_glob (v := .ref q) hg hq rfl hd) hb hs) fun σ H Q h => ?_
  obtain ⟨w, env, st, rl, pp⟩ := h
  refine ⟨w, env, st, rl, (Post.bind (Da := Den) rl pp).mono ?_⟩
  rintro y H1 ⟨w1, st1, d, r1, _, _, dx, p1⟩
  cases d with
  | str s =>
    obtain rfl := DenB.str (w := w1) dx.b
    cases ez : r.lookup s with
    | none =>
      have p2 : Post Den (XC X Γ) W w1 H1 σ (match r.lookup s with
        | some v => .ok v st1
        | none => .bad) Q := p1
      rw [ez] at p2
      exact p2.elim
    | some d =>
      have p2 : Post Den (XC X Γ) W w1 H1 σ (match r.lookup s with
        | some v => .ok v st1
        | none => .bad) Q := p1
      rw [ez] at p2
      obtain ⟨u, v, e1, rv, dv⟩ := h1 s d ez
      exact ⟨q, s, v, rfl, rfl, ⟨es, n, u, D.at_, D.lit, e1, rv⟩, Post.ok r1 p2 (dv _ _ _)⟩
  | _ => exact p1.elim
def dLcall (t : List (Nat × DF)) (i : Nat) (fs : EFs) : EF := fun env st => match env[i]? with
  | some (.sh (.cls c)) => (match t.lookup c with
    | some F => (fs env st).bind F
    | none => .bad)
  | _ => .bad
def LcOk (P : Program) (w : World) (K : PySem.W.Frag) (mg : Str → Option Value) (base : Heap) (Γ : Nat → Addr) (k : Nat) (t : List (Nat × DF)) : Prop := ∀ c F, t.lookup c = some F → PySem.W.keepIn K (.ref (Γ c)) = true ∧ Cal P w K mg base Γ k (.ref (Γ c)) [] F
theorem pd_lcall {t : List (Nat × DF)} (i : Nat) (G : Go X W k) (T : LcOk X.prog X.w X.K X.mg X.base Γ j t) (ha : PA X (e :: es) (tDs (XC X Γ) W fs)) (hj : j ≤ k := by decide) (hN : X.N[i]? = some x := by rfl) (hv : Vis X.env.scope x := by first | exact Or.inl rfl | exact Or.inr (Or.inl rfl) | exact Or.inr (Or.inr rfl)) (hd : (x == ("__debug__" : Str)) = false := by decide)
    (hcd : (x == ("__classdict__" : Str)) = false := by decide) (he : starEach (e :: es) X.env = (false, eval e X.env) :: starEach es X.env := by rfl) (hpl : (backTo pos (starEach es X.env)).any (·.1) = false := by rfl) :
    PE X (.Call (.Name x p) (e :: es) [] pos) (tD (XC X Γ) W (dLcall t i fs)) := by
  refine ⟨fun pins s σ H Q I h => ?_⟩
  obtain ⟨w, env, st, rl, pp⟩ := h
  unfold dLcall at pp
  split at pp
  · rename_i c ec
    cases et : t.lookup c with
    | none => rw [et] at pp; exact pp.elim
    | some F =>
      rw [et] at pp
      obtain ⟨hk, hc⟩ := T c F et
      obtain ⟨v, e1, dv⟩ := rl.sh ec
      obtain rfl := DenB.cls (w := w) dv.b
      refine wpAny_Call_Name_kw (thn ((pe_var (pos := p) hN hv hd hcd).run pins s σ H (fun v H1 => v = .ref (Γ c) ∧ H1 = H) I ⟨.ref (Γ c), e1, rfl, rfl⟩) fun u s1 ⟨v, H1, I1, r1, q1⟩ => ?_)
      obtain ⟨rfl, rfl⟩ := q1
      cases r1
      refine PySem.W.callWith_K (h₀ := X.base) I.ok.mod.kin hk (thn (ha.run pos pins s1 σ _ _ I1 (t1 (Da := Dens) (Dg := Den) (f := fs) (g := fun _ ds st => F ds st) ⟨w, env, st, rl, pp⟩)) fun us s2 ⟨vs, H2, I2, rr, w2, env2, st2, a, rl2, d, p1⟩ => ⟨I2.kIn, ?_⟩) he hpl
      exact hc X W rfl rfl rfl rfl rfl (G.rm.mono hj) G.gd G.tk pins s2 σ H2 w2 env2 st2 us [] vs a Q I2 (by rw [List.append_nil]; exact rr) rfl rl2 d p1
  · exact pp.elim
theorem LcOk.nil0 {P : Program} {w : World} {K : PySem.W.Frag} {mg : Str → Option Value} {base : Heap} : LcOk P w K mg base Γ k [] := fun c F h => by cases h
theorem LcOk.cons {P : Program} {w : World} {K : PySem.W.Frag} {mg : Str → Option Value} {base : Heap} {t : List (Nat × DF)} {c : Nat} (h : PySem.W.keepIn K (.ref (Γ c)) = true ∧ Cal P w K mg base Γ k (.ref (Γ c)) [] F) (r : LcOk P w K mg base Γ k t) : LcOk P w K mg base Γ k ((c, F) :: t) := fun c' F' e => by
  rw [List.lookup_cons] at e
  split at e
  · rename_i z
    cases e
    rw [show c' = c from by simpa using z]
    exact h
  · exact r c' F' e
theorem Cal.never {P : Program} {w : World} {K : PySem.W.Frag} {mg : Str → Option Value} {base : Heap} {v : Value} : Cal P w K mg base Γ k v ks (fun _ _ => .bad) := fun X W _ _ _ _ _ _ _ _ pins s σ H wd env st us ws vs ds Q I rv hw rl d p => p.elim
end
section
variable {X : Cx} {Γ : Nat → Addr} {W : WX} {a b : Expr} {fa fb : EF} {pos : Pos}
theorem tF_tDs {K : Ct} {f : AEnv → Sto → Res (List D)} {σ : St} {H : Hp} {Q : VK} (h : tF K W f σ H Q) : tDs K W f σ H fun vs H' => ∀ p, H' p = none → Q (.ref p) (upd H' p (.lst vs)) := by
  obtain ⟨w, env, st, r, p⟩ := h
  refine ⟨w, env, st, r, ?_⟩
  cases e : f env st with
  | ok ds st' =>
    rw [e] at p
    exact fun ρ' H' vs h1 h2 h3 q hq => p ρ' H' q vs h1 h2 hq h3
  | exc x st' => rw [e] at p; exact p
  | bad => rw [e] at p; exact p.elim
def kCat : D → D → Sto → Res (List D) := fun a b st => match a, b with
  | .lst i, .lst j => if i.length + j.length ≤ sizeLine then .ok (i ++ j) st else .bad
  | _, _ => .bad
def dCat (fa fb : EF) : AEnv → Sto → Res (List D) := fun env st => (fa env st).bind fun a st1 => (fb env st1).bind fun b st2 => kCat a b st2
theorem pf_cat (ha : PE X a (tDB (XC X Γ) W fa)) (hb : PE X b (tDB (XC X Γ) W fb)) : PE X (.BinOp a .Add b pos) (tF (XC X Γ) W (dCat fa fb)) := peImp (pe_op op_cat ha hb) fun σ H Q h => by
  obtain ⟨w, env, st, rl, p⟩ := t2 (Da := DenB) (Db := DenB) (Dg := Dens) (g := fun env a st => fb env st) (k := fun env a b st => kCat a b st) lastsDB (tF_tDs h)
  refine ⟨w, env, st, rl, p.mono ?_⟩
  rintro x H1 ⟨w1, env1, st1, a, r1, d1, p1⟩
  refine ⟨w1, env1, st1, r1, p1.mono ?_⟩
  rintro y H2 ⟨w2, st2, b, r2, d2, d3, p2⟩
  cases a with
  | lst i =>
    cases b with
    | lst j =>
      have p2 : Post Dens (XC X Γ) W w2 H2 σ (if i.length + j.length ≤ sizeLine then .ok (i ++ j) st2 else .bad) _ := p2
      split at p2
      · rename_i hz
        obtain ⟨a1, v1, e1, q1, n1, t1⟩ := d2.lst
        obtain ⟨a2, v2, e2, q2, n2, t2⟩ := d3.lst
        exact ⟨a1, a2, v1, v2, e1, e2, q1, q2, by rw [t1.length, t2.length]; exact hz, fun pp hp => Post.ok (Da := Dens) r2 p2 (t1.append t2) pp hp⟩
      · exact p2.elim
    | _ => exact p2.elim
  | _ => exact p2.elim
end
def Tv.v : Tv → Value → V
  | .int i, _ => .int i
  | .pair _ _, .ref t => .ref t
  | _, _ => .non
theorem Tv.ok {K : PySem.W.Frag} {Γ : Nat → Addr} : ∀ {t : Tv} {u : Value}, t.b K Γ u = true → RelV (t.v u) u ∧ ∀ ρ S H, Den ⟨K, Γ⟩ ρ S H (t.v u) t.d := by
  intro t u h
  cases t with
  | int i =>
    unfold Tv.b at h
    cases u <;> try cases h
    rename_i j n
    obtain rfl := of_decide_eq_true h
    exact ⟨⟨_, rfl⟩, fun ρ S H => .int _⟩
  | pair i c =>
    unfold Tv.b at h
    cases u <;> try cases h
    rename_i a
    dsimp only at h
    split at h
    · rename_i o ho
      obtain ⟨c3, c4⟩ := ba h
      split at c4
      · rename_i its n hd
        split at c4
        · rename_i j tk g e
          obtain ⟨c5, c6⟩ := ba c4
          obtain rfl := of_decide_eq_true c5
          obtain rfl := of_decide_eq_true c6
          refine ⟨rfl, fun ρ S H => .tup (vs := [.int j, .ref (Γ c)]) (.inr ⟨o, its, n, ho, of_decide_eq_true c3, hd, ?_, ?_⟩) (.cons (.int _) (.cons (.cls _) .nil))⟩
          · have : its.size = 2 := by rw [← Array.length_toList, e]; rfl
            rw [sizeLine_eq]; omega
          · rw [e]; exact .cons ⟨_, rfl⟩ (.cons rfl .nil)
        · cases c4
      · cases c4
    · cases h
def rowsD (r : List (Str × Tv)) : List (Str × D) := r.map fun q => (q.1, q.2.d)
theorem nsIn_none {K : PySem.W.Frag} {w : World} {a : Addr} {ks : List Str} (h : dicW K a = some (keysIn w.params ks)) {z : Str} (hz : z ∉ ks) : PySem.W.nsIn K a z = some none := by
  unfold dicW at h
  split at h
  · rename_i c es n sl e
    unfold PySem.W.nsIn
    rw [e]
    split at h
    · have h := Option.some.inj h
      have g : ∀ (l : List DictEntry) (ks : List Str), l.map keyOf = keysIn w.params ks → z ∉ ks → l.find? (·.key.isStr z) = none ∧ l.any (·.refKey) = false := by
        intro l
        induction l with
        | nil => exact fun ks _ _ => ⟨rfl, rfl⟩
        | cons q l ih =>
          intro ks hk hn
          cases ks with
          | nil => cases hk
          | cons y ks =>
            rw [List.map_cons] at hk
            unfold keysIn at hk
            rw [List.map_cons] at hk
            injection hk with h1 h2
            obtain ⟨i1, i2⟩ := ih ks h2 fun m => hn (List.mem_cons_of_mem _ m)
            unfold keyOf at h1
            split at h1
            · rename_i x t ek
              have h3 := (Prod.mk.inj (Option.some.inj h1)).1
              subst h3
              have n1 : q.key.isStr z = false := by
                rw [ek]
                cases h : (Value.str x t).isStr z with
                | false => rfl
                | true => exact absurd (List.mem_cons.mpr (.inl (eq_of_beq (show (x == z) = true from h)).symm)) hn
              refine ⟨by rw [List.find?_cons, n1]; exact i1, ?_⟩
              rw [List.any_cons, i2, Bool.or_false]
              unfold DictEntry.refKey
              rw [ek]
            · cases h1
      obtain ⟨g1, g2⟩ := g _ _ h hz
      dsimp only
      rw [g1, g2]
      rfl
    · cases h
  · cases h
theorem dt_of {K : PySem.W.Frag} {h : Heap} {w : World} {mg : Str → Option Value} {Γ : Nat → Addr} {x : Str} {r : List (Str × Tv)} (Y : K.In h) (N : h.Ns mainGlobals mg) (h1 : tabB K Γ x r = true) (h2 : dicW K (ga K x) = some (keysIn w.params (r.map (·.1)))) : Dt K w mg Γ x (rowsD r) := by
  obtain ⟨c1, c2⟩ := ba h1
  obtain ⟨es, n, D⟩ := dicW_ok h2
  refine ⟨_, es, n, PySem.W.mg_of Y N (eqO_ok c1), D, fun z d e => ?_, fun z e => nsIn_none h2 fun m => ?_⟩
  · have g : ∀ r : List (Str × Tv), (rowsD r).lookup z = some d → ∃ t, (z, t) ∈ r ∧ d = t.d := by
      intro r
      induction r with
      | nil => exact fun h => by cases h
      | cons q r ih =>
        intro h
        unfold rowsD at h
        rw [List.map_cons, List.lookup_cons] at h
        split at h
        · rename_i hz
          cases h
          have : z = q.1 := by simpa using hz
          exact ⟨q.2, by rw [this]; exact List.mem_cons_self .., rfl⟩
        · obtain ⟨t, m, e⟩ := ih h
          exact ⟨t, List.mem_cons_of_mem _ m, e⟩
    obtain ⟨t, m, rfl⟩ := g r e
    have q := List.all_eq_true.mp c2 _ m
    dsimp only at q
    split at q
    · rename_i u eu
      obtain ⟨g1, g2⟩ := Tv.ok q
      exact ⟨u, t.v u, eu, g1, g2⟩
    · cases q
  · obtain ⟨q, m, e2⟩ := List.mem_map.mp m
    have g : ∀ r : List (Str × Tv), q ∈ r → (rowsD r).lookup z ≠ none := by
      intro r
      induction r with
      | nil => exact fun h => by cases h
      | cons y r ih =>
        intro h
        unfold rowsD
        rw [List.map_cons, List.lookup_cons]
        split
        · exact fun z => by cases z
        · rename_i hz
          rcases List.mem_cons.mp h with e3 | h
          · subst e3
            have : (z == q.1) = true := by rw [e2]; simp
            rw [this] at hz
            cases hz
          · exact ih h
    exact g r m e
section
variable {fa : List Fa} {fn : List He5.DefA} {ex : List Fx} {Γ : PySem.W.Frag → Nat → Addr} {ts : List TabM} {w : World} {K : PySem.W.Frag}
theorem SaysX.m (c : SaysX fa fn ex Γ ts w K) : SaysM fa fn ex K := congrArg (fun z : AlM => z.1) c
theorem SaysX.tab (c : SaysX fa fn ex Γ ts w K) (i : Nat) {t : TabM} {h : Heap} {mg : Str → Option Value} (Y : K.In h) (N : h.Ns mainGlobals mg) (e : ts[i]? = some t := by rfl) : Dt K w mg (Γ K) t.1 (rowsD t.2) := by
  have c1 : (ts.all fun t => tabB K (Γ K) t.1 t.2) = true := congrArg (fun z : AlM => z.2.1) c
  have c2 : ts.map (fun t => dicW K (ga K t.1)) = ts.map fun t => some (keysIn w.params (t.2.map (·.1))) := congrArg (fun z : AlM => z.2.2) c
  have c3 := congrArg (fun l => l[i]?) c2
  rw [List.getElem?_map, List.getElem?_map, e] at c3
  exact dt_of Y N (List.all_eq_true.mp c1 _ (List.mem_of_getElem? e)) (Option.some.inj c3)
end
end AM
namespace AM
open PySem PySem.Spec PyProof.Rows L2
def insB {α : Type} (le : α → α → Bool) (a : α) : List α → List α
  | [] => [a]
  | b :: r => bif le a b then a :: b :: r else b :: insB le a r
def isB {α : Type} (le : α → α → Bool) : List α → List α
  | [] => []
  | a :: r => insB le a (isB le r)
section
variable {α : Type} {le : α → α → Bool}
theorem insB_perm (a : α) : ∀ l : List α, (insB le a l).Perm (a :: l)
  | [] => List.Perm.refl _
  | b :: r => by
    unfold insB
    cases le a b with
    | true => exact List.Perm.refl _
    | false => exact ((insB_perm a r).cons b).trans (List.Perm.swap a b r)
theorem isB_perm : ∀ l : List α, (isB le l).Perm l
  | [] => List.Perm.refl _
  | a :: r => (insB_perm a _).trans ((isB_perm r).cons a)
theorem isB_len (l : List α) : (isB le l).length = l.length := (isB_perm l).length_eq
theorem insB_pw (t : PySem.W.TotalLe le) (a : α) : ∀ l : List α, l.Pairwise (fun x y => le x y = true) → (insB le a l).Pairwise fun x y => le x y = true
  | [], _ => List.pairwise_singleton _ _
  | b :: r, h => by
    obtain ⟨h1, h2⟩ := List.pairwise_cons.mp h
    unfold insB
    cases e : le a b with
    | true => exact List.pairwise_cons.mpr ⟨fun y hy => by
        rcases List.mem_cons.mp hy with rfl | hy
        · exact e
        · exact t.trans _ _ _ e (h1 y hy), h⟩
    | false =>
      refine List.pairwise_cons.mpr ⟨fun y hy => ?_, insB_pw t a r h2⟩
      rcases List.mem_cons.mp ((insB_perm a r).subset hy) with rfl | hy
      · rcases t.total y b with z | z
        · rw [e] at z; cases z
        · exact z
      · exact h1 y hy
theorem isB_pw (t : PySem.W.TotalLe le) : ∀ l : List α, (isB le l).Pairwise fun x y => le x y = true
  | [] => List.Pairwise.nil
  | a :: r => insB_pw t a _ (isB_pw t r)
theorem isB_eq (t : PySem.W.TotalLe le) (anti : ∀ a b, le a b = true → le b a = true → a = b) (l : List α) : l.mergeSort le = isB le l :=
  List.Perm.eq_of_pairwise (le := fun x y => le x y = true) (fun a b _ _ => anti a b) (List.pairwise_mergeSort (fun a b c => t.trans a b c) (fun a b => by rcases t.total a b with z | z <;> simp [z]) l) (isB_pw t l) ((List.mergeSort_perm l le).trans (isB_perm l).symm)
end
theorem dataLe_anti {β : Type} {k : β → PyData} (inj : ∀ a b, PySem.W.keyToks (k a) = PySem.W.keyToks (k b) → a = b) (a b : β) (h1 : PySem.W.dataLe false k a b = true) (h2 : PySem.W.dataLe false k b a = true) : a = b := by
  refine inj a b ((listOrd itemOrd).total _ _ ?_ ?_)
  · have z : (!(listOrd itemOrd).blt (PySem.W.keyToks (k a)) (PySem.W.keyToks (k b))) = true := h2
    cases q : (listOrd itemOrd).blt (PySem.W.keyToks (k a)) (PySem.W.keyToks (k b)) with
    | false => rfl
    | true => rw [q] at z; cases z
  · have z : (!(listOrd itemOrd).blt (PySem.W.keyToks (k b)) (PySem.W.keyToks (k a))) = true := h1
    cases q : (listOrd itemOrd).blt (PySem.W.keyToks (k b)) (PySem.W.keyToks (k a)) with
    | false => rfl
    | true => rw [q] at z; cases z
def keyOf (y : Str) : PyData := .tuple [.int y.length, .str y]
def sortK (ss : List Str) : List Str := isB (PySem.W.dataLe false keyOf) ss
def sortS (ss : List Str) : List Str := isB (PySem.W.dataLe false PyData.str) ss
theorem str_cps {a b : Str} (h : a.cps.toList = b.cps.toList) : a = b := by
  cases a with
  | mk x =>
    cases b with
    | mk y =>
      have e : x = y := Array.toList_inj.mp h
      rw [e]
theorem sortK_eq (ss : List Str) : ss.mergeSort (PySem.W.dataLe false keyOf) = sortK ss := isB_eq (PySem.W.sortLe_total _ _ _) (dataLe_anti fun a b e => by
  simp only [keyOf, PySem.W.keyToks, PySem.W.keyToksAll, List.cons_append, List.nil_append, List.cons.injEq, Sum.inr.injEq] at e
  exact str_cps (by simp_all)) ss
theorem sortS_eq (ss : List Str) : ss.mergeSort (PySem.W.dataLe false PyData.str) = sortS ss := isB_eq (PySem.W.sortLe_total _ _ _) (dataLe_anti fun a b e => by
  simp only [PySem.W.keyToks, List.cons.injEq, Sum.inr.injEq, and_true] at e
  exact str_cps e) ss
def sortC (cs : List Nat) : List Nat := isB (fun a b => decide (a ≤ b)) cs
theorem sortC_pw (cs : List Nat) : (sortC cs).Pairwise (· ≤ ·) := (isB_pw (le := fun a b : Nat => decide (a ≤ b)) ⟨fun a b c h1 h2 => by simp at *; omega, fun a b => by simp; omega⟩ cs).imp fun h => of_decide_eq_true h
theorem sortC_perm (cs : List Nat) : (sortC cs).Perm cs := isB_perm cs
end AM
namespace AM
open PySem PySem.Spec PyProof.Rows L2
abbrev keyBody (x : Str) (k : Nat) (p1 p2 p3 p4 p5 : Pos) : Expr := .Tuple [.Call (.Name "len" p1) [.Name x p2] [] p3, .Name x p4] k p5
structure KeyS (x : Str) (params : Arguments) (scope : Scope) : Prop where
  kind : scope.kind = .function
  co : scope.isCoroutine = false
  gen : scope.isGenerator = false
  own : scope.names.lookup x = some .local
  len : scope.names.lookup ("len" : Str) = some .globalImplicit
  nocell : ∀ y ∈ scope.names, y.2 ≠ .cell
  nofree : ∀ y ∈ scope.names, y.2 ≠ .free
  bind : ∀ (q : Str) (body : Expr) (cl : List (Str × Addr)) (pm cv ctv v : Value), bindArgs (PySem.W.kla_fn "<lambda>" q params body scope cl pm cv ctv) ⟨[v], []⟩ = pure [(x, v)]
  xd : (x == ("__debug__" : Str)) = false
theorem key_call {prog : Program} {w : World} {A : Around} {F : Value → Shared → Prop} {s : Shared} {f c' : Addr} {q x : Str} {params : Arguments} {scope : Scope} {pm ctv : Value} {k : Nat} {p1 p2 p3 p4 p5 : Pos} {mg mb : Str → Option Value} {y : Str} {t : Tok}
    (L : KeyS x params scope) (ho : s.heap.get? f = some (PySem.W.kla_obj "<lambda>" q params (keyBody x k p1 p2 p3 p4 p5) scope [] pm c' ctv)) (hc : ∃ (oc : Obj) (vs : Array Value) (tq : Tok), s.heap.get? c' = some oc ∧ oc.data = .fields vs ∧ vs[1]? = some (.str q tq))
    (hg : s.heap.Ns mainGlobals mg) (hb : s.heap.Ns builtinsNs mb) (hbb : ∀ x : Str, x ≠ "__name__" → mb x = bootBuiltins x) (hm : mg "len" = none) (hl : s.heap.NoLimit) (hd : A.depth < recursionLimit) (hy : (y.length : Int) < 2 ^ 63) :
    wpAny (model prog w) A (call (.ref f) [.str y t]) (PySem.W.KeyPure (.tuple [.int y.length, .str y]) s) F s := by
  obtain ⟨oc, vs, tq, c1, c2, c3⟩ := hc
  refine wpAny_call (PySem.W.kla_callFunE hd ho rfl L.co L.gen rfl ⟨c', oc, vs, tq, rfl, c1, c2, c3⟩ ?_)
  rw [L.bind]
  refine wpAny_pure (wpAny_newFunctionEnv L.nocell (fun z hz => by rw [List.mem_singleton.mp hz]; exact L.own) (fun h₁ hns hsb => ?_) L.kind)
  have kp : ∀ b o, s.heap.get? b = some o → h₁.get? b = some o := fun b o e => hsb.extBut b o (Nat.ne_of_lt (Heap.lt_size e)) (Heap.get?_push_of_some _ e)
  refine ⟨?_, PySem.W.kla_codeExpr ?_⟩
  · obtain ⟨mc, h1, h2⟩ := hl
    exact ⟨mc, h1.keeps kp, h2⟩
  refine wpAny_Tuple ?_
  refine Calls.spliced_cons ?_
  refine wpAny_Call_Name_kw ?_
  refine Calls.Name_function_global L.kind L.len (Calls.loadGlobal_builtin (hg.keeps kp) hm (hb.keeps kp) ((hbb "len" (by decide)).trans rfl) ?_) (by decide)
  refine callWith_builtin1 (Calls.spliced_cons ?_)
  have ld : ∀ {Q : Value → Shared → Prop} {E : Value → Shared → Prop} {B : Around} {p : Pos} {h2 : Heap} {tk : Nat}, h2.Ns s.heap.objs.size (fun z => [(x, Value.str y t)].reverse.lookup z) → Q (.str y t) { s with heap := h2, toks := tk } → wpAny (model prog w) B (eval (.Name x p) (newEnv scope s.heap.objs.size mainGlobals [] (q ++ ".<locals>.") (some f) (.ref c') none builtinsNs)) Q E { s with heap := h2, toks := tk } := fun {Q E B p h2 tk} hn hq =>
    wpAny_Name (wpAny_loadName_local L.kind L.own hn (by rw [List.reverse_singleton, List.lookup_cons]; simp) hq) L.xd
  refine ld hns (Calls.spliced_nil ?_)
  refine P.len_str (by omega) ?_
  refine Calls.spliced_cons (ld hns (Calls.spliced_nil ?_))
  refine ⟨by show 2 ≤ sizeLine; decide, _, _, rfl, fun b o e => Heap.get?_push_of_some _ (kp b o e), ?_⟩
  exact .tuple (Heap.get?_push_size _ rfl) rfl rfl (.cons (as := []) (bs := []) (.int _ _) (.cons (as := []) (bs := []) (.str _ _) .nil))
def LamO (f c' : Addr) (q : Str) (params : Arguments) (body : Expr) (scope : Scope) : HO := .ext fun h => ∃ pm ctv, h.get? f = some (PySem.W.kla_obj "<lambda>" q params body scope [] pm c' ctv)
def rSK (X : Cx) : List V → List V → Hp → VK → Prop := fun xs zs H Q => ∃ (a f c' : Addr) (ss : List Str) (q x : Str) (params : Arguments) (scope : Scope) (k : Nat) (p1 p2 p3 p4 p5 : Pos), xs = [.ref a] ∧ zs = [.ref f] ∧ SqL X.K H a (ss.map V.str) ∧
  H f = some (LamO f c' q params (keyBody x k p1 p2 p3 p4 p5) scope) ∧ H c' = some (LamX.CodeO c' q) ∧ KeyS x params scope ∧ (∀ y ∈ ss, y.length ≤ sizeLine) ∧ ∀ p, H p = none → Q (.ref p) (upd H p (.lst ((sortK ss).map V.str)))
theorem vals_strs : ∀ {vs : List Value} {ss : List Str}, Vals (ss.map V.str) vs → PySem.W.EachIs (fun v y => ∃ t, v = .str y t) vs ss
  | [], [], _ => .nil
  | _ :: _, [], h => by cases h
  | [], _ :: _, h => by cases h
  | v :: vs, y :: ss, h => by
    cases h with
    | cons a b => exact .cons a (vals_strs b)
theorem strs_vals : ∀ {vs : List Value} {ss : List Str}, PySem.W.EachIs (fun v y => ∃ t, v = .str y t) vs ss → Vals (ss.map V.str) vs
  | _, _, .nil => .nil
  | _, _, .cons a b => .cons a (strs_vals b)
theorem cr_sortK {X : Cx} {k : Nat} (hr : Room k X.A) (hm : X.mg "len" = none) : CallRK X (.builtin "sorted") ["key"] (rSK X) := by
  intro pins s σ H xs zs us ws Q I r1 r2 h
  obtain ⟨a, f, c', ss, q, x, params, scope, kk, p1, p2, p3, p4, p5, rfl, rfl, hs, hf, hc, L, hy, hq⟩ := h
  obtain ⟨its, rv, hl, hz⟩ := I.list hs
  have e2 : ws = [.ref f] := by
    cases r2 with
    | cons a b =>
      cases b
      rw [show _ = Value.ref f from a]
  rw [Vals.ref1 r1, e2]
  have e := vals_strs rv
  obtain ⟨⟨pm, ctv, o1⟩, _, _⟩ := I.hok f _ hf
  obtain ⟨⟨oc, vs, tq, o2, o3, o4⟩, _, _⟩ := I.hok c' _ hc
  obtain ⟨mb, b1, b2⟩ := I.mod.blt
  have u := hr.un
  have hL : ss.length ≤ sizeLine := by rw [List.length_map] at hz; exact hz
  show wpAny _ _ (call (.builtin "sorted") [.ref a] [(Str.ofString "key", .ref f)]) _ _ s
  refine PySem.W.sorted_key_data (b := false) (bs := ss) keyOf hl.isList e (PySem.W.AllAlike.of fun _ _ => by simp [PySem.W.alike, PySem.W.alikeAll, keyOf]) (PySem.W.Sortable.tuples fun _ => ⟨_, _, rfl⟩) hL (fun y _ => ?_) (PyProof.Rows.ksk_s1 _ _) (fun _ => PyProof.Rows.ksk_l1 _ _) (fun _ => PyProof.Rows.ksk_t1 _ _) (fun v y hv hm2 h tk kp => ?_) fun out c h' tk kp fr hD hlo eo => ?_
  · have hd : (keyOf y).depth = 1 := by simp [keyOf, PyData.depth, PyData.depthAll]
    omega
  · obtain ⟨t, rfl⟩ := hv
    refine key_call L (kp _ _ o1) ⟨oc, vs, tq, kp _ _ o2, o3, o4⟩ ((I.mod.glob.keeps I.bk).keeps kp) ((b1.keeps I.bk).keeps kp) b2 hm ?_ ?_ ?_
    · obtain ⟨mc, h1, h2⟩ := I.nolimit
      exact ⟨mc, h1.keeps kp, h2⟩
    · have := hr.dp
      show X.A.depth < _
      omega
    · have h1 := hy y hm2
      have h2 : sizeLine = 16777216 := sizeLine_eq
      omega
  · have hlen : ((sortK ss).map V.str).length ≤ sizeLine := by
      unfold sortK
      rw [List.length_map, isB_len]
      exact hL
    rw [sortK_eq] at eo
    exact ⟨.ref _, upd H (s.heap.objs.size + 1) (.lst ((sortK ss).map V.str)), I.laid kp (Nat.le_succ _) ⟨hlen, out, c, strs_vals eo, hD⟩, rfl, hq _ (I.hok.fresh (Nat.le_succ _))⟩
end AM
namespace AM
open PySem PySem.Spec PyProof.Rows L2
def TabP (Z : Addr → Prop) (H : Hp) (P : Addr) (q : Str) : Prop := ∃ ps : Array Value, H P = some (.tbl ps) ∧ TriplesOk ps.toList ∧ ∀ (pos : Pos) (cv : Value), codeAmong pos ps.toList = some cv → ∃ c, cv = .ref c ∧ H c = some (LamX.CodeO c q) ∧ Z c
theorem clo_none (cells : List (Str × Addr)) : ∀ (names : List (Str × NameKind)) (acc : List (Str × Addr)), (∀ y ∈ names, y.2 ≠ .free) → cloFrom cells names acc = acc
  | [], _, _ => rfl
  | (n, k) :: r, acc, h => by
    have hk : (k == NameKind.free) = false := by
      have := h (n, k) List.mem_cons_self
      cases k <;> first | rfl | exact absurd rfl this
    unfold cloFrom
    rw [hk]
    exact clo_none cells r acc fun y hy => h y (List.mem_cons_of_mem _ hy)
theorem codeO_tbl {c : Addr} {q : Str} (ps : Array Value) : LamX.CodeO c q ≠ .tbl ps := fun z => by
  unfold LamX.CodeO at z
  cases z
structure Made1 (Z : Addr → Prop) (H H1 : Hp) (P f c' : Addr) (q : Str) (params : Arguments) (body : Expr) (scope : Scope) : Prop where
  keep : ∀ b o, H b = some o → b ≠ P → H1 b = some o
  tab : TabP Z H1 P q
  new : H f = none
  fn : H1 f = some (LamO f c' q params body scope)
  code : H1 c' = some (LamX.CodeO c' q)
theorem lam_made {X : Cx} {pins : List (Addr × Obj)} {σ : L2.St} {H : Hp} {s : Shared} {Z : Addr → Prop} {c P : Addr} {params : Arguments} {body : Expr} {scope : Scope} {pos : Pos} {F : Value → Shared → Prop} {Q : Value → Shared → Prop} (I : Inv X pins σ H s) (B : LamX.TabB X.base X.mg c P) (hc : X.env.code = .ref c)
    (hZ : ∀ c, H c = none → Z c) (hT : TabP Z H P (X.env.qual ++ "<lambda>")) (hd : defaultsOf params X.env = ([], [])) (nf : ∀ y ∈ scope.names, y.2 ≠ .free)
    (go : ∀ (f c' : Addr) (H1 : Hp) (s1 : Shared), Inv X pins σ H1 s1 → Made1 Z H H1 P f c' (X.env.qual ++ "<lambda>") params body scope → Q (.ref f) s1) :
    wpAny (model X.prog X.w) X.A (eval (.Lambda params body scope pos) X.env) Q F s := by
  obtain ⟨ps, eP, tr, am⟩ := hT
  have cl : closureFor scope X.env = pure [] := (closure_ok fun y hy e => absurd e (nf y hy)).trans (by rw [clo_none _ _ _ nf])
  have bP : s.heap.BuiltinsAt X.mg P := B.bm.keeps I.bk
  have oP : s.heap.get? P = some (PySem.W.tabObj ps) := I.hok P _ eP
  refine PySem.W.kla_eval hd ?_
  -- the lambda laid at the heap's end
  have lay : ∀ (H1 : Hp) (h1 : Heap) (t1 t2 : Nat) (c' : Addr) (pm ctv : Value), Inv X pins σ H1 { s with heap := h1, toks := t1 } → s.heap.objs.size ≤ h1.objs.size → (∀ b o, H b = some o → b ≠ P → H1 b = some o) → TabP Z H1 P (X.env.qual ++ "<lambda>") → H1 c' = some (LamX.CodeO c' (X.env.qual ++ "<lambda>")) →
      Q (.ref h1.objs.size) { s with heap := h1.push (PySem.W.kla_obj "<lambda>" (X.env.qual ++ "<lambda>") params body scope [] pm c' ctv), toks := t2 } := fun H1 h1 t1 t2 c' pm ctv I1 hs k1 T1 hc1 => by
    have n1 : H1 h1.objs.size = none := I1.hok.fresh (Nat.le_refl _)
    have I2 : Inv X pins σ (upd H1 h1.objs.size (LamO h1.objs.size c' (X.env.qual ++ "<lambda>") params body scope)) { s with heap := h1.push (PySem.W.kla_obj "<lambda>" (X.env.qual ++ "<lambda>") params body scope [] pm c' ctv), toks := t2 } :=
      Inv.laid (s := { s with heap := h1, toks := t1 }) (t' := t2) I1 (fun b u e => Heap.get?_push_of_some _ e) (Nat.le_refl _) ⟨⟨pm, ctv, Heap.get?_push_size _ rfl⟩, ⟨_, Heap.get?_push_size _ rfl⟩, fun g1 g2 ⟨a, b, e⟩ st => ⟨a, b, st _ e⟩⟩
    have ne : ∀ b o, H1 b = some o → upd H1 h1.objs.size (LamO h1.objs.size c' (X.env.qual ++ "<lambda>") params body scope) b = some o := fun b o e => by rw [upd_ne (ne_of_none e n1)]; exact e
    refine go _ c' _ _ I2 ⟨fun b o e n => ne b o (k1 b o e n), ?_, I.hok.fresh hs, upd_same, ne _ _ hc1⟩
    obtain ⟨p2, a1, a2, a3⟩ := T1
    refine ⟨p2, ne _ _ a1, a2, fun pos2 cv hcv => ?_⟩
    obtain ⟨c2, b1, b2, b3⟩ := a3 pos2 cv hcv
    exact ⟨c2, b1, ne _ _ b2, b3⟩
  cases hcm : codeAmong pos ps.toList with
  | some cv =>
    obtain ⟨c', rfl, ec, _⟩ := am pos cv hcm
    refine PySem.W.kla_makeFunctionHit (mg := X.mg) (ps := ps) (P := P) (c := c) cl I.ok.glob (I.mod.glob.keeps I.bk) hc (B.code.keeps I.bk) oP tr hcm bP fun ctv h1 t1 kk sz => ?_
    exact lay H h1 t1 t1 c' _ ctv (I.kept kk) sz (fun b o e _ => e) ⟨ps, eP, tr, am⟩ ec
  | none =>
    refine PySem.W.kla_makeFunction (mg := X.mg) (ps := ps) (P := P) (c := c) cl I.ok.glob (I.mod.glob.keeps I.bk) hc (B.code.keeps I.bk) oP tr hcm B.gP bP fun c' ctv h1 t1 xb ge lt rec tb => ?_
    obtain ⟨c2, oc, vs, tq, e2, g1, g2, g3⟩ := rec
    cases e2
    have nC : H c' = none := I.hok.fresh ge
    have I1 := LamX.inv_table (t' := t1) (more := #[rawInt pos.line, rawInt pos.col, .ref c']) (h' := h1) I eP (fun b o hb e => xb b o hb e) tb ge ⟨oc, vs, tq, g1, g2, g3⟩
    have old : ∀ b o, H b = some o → b ≠ P → upd (upd H P (.tbl (ps ++ #[rawInt pos.line, rawInt pos.col, .ref c']))) c' (LamX.CodeO c' (X.env.qual ++ "<lambda>")) b = some o := fun b o e n => by
      rw [upd_ne (ne_of_none e nC), upd_ne n]
      exact e
    refine lay _ h1 t1 t1 c' _ ctv I1 (Nat.le_trans ge (Nat.le_of_lt lt)) old ⟨_, by rw [upd_ne (ne_of_none eP nC), upd_same], ?_, fun p2 cv hcv => ?_⟩ upd_same
    · rw [show (ps ++ #[rawInt pos.line, rawInt pos.col, .ref c']).toList = ps.toList ++ [rawInt pos.line, rawInt pos.col, .ref c'] by simp]
      exact PySem.TriplesOk_snoc _ _ _ _ tr
    · rw [show (ps ++ #[rawInt pos.line, rawInt pos.col, .ref c']).toList = ps.toList ++ [rawInt pos.line, rawInt pos.col, .ref c'] by simp] at hcv
      rcases LamX.among_app _ tr hcv with z | z
      · obtain ⟨c0, b1, b2, b3⟩ := am p2 cv z
        exact ⟨c0, b1, old _ _ b2 fun z => codeO_tbl ps (Option.some.inj (b2.symm.trans (by rw [z]; exact eP))), b3⟩
      · exact ⟨c', z, upd_same, hZ c' nC⟩
def tabCell (i : Nat) (q : Str) : Cell → Bool
  | .tab j q' => decide (j = i) && decide (q' = q)
  | _ => false
def hasTab (st : Sto) (i : Nat) (q : Str) : Bool := st.any (tabCell i q)
section
variable {K : Ct} {w : Wd} {env : AEnv} {st : Sto} {σ : AM.St} {H H1 : Hp} {i : Nat} {q : Str}
theorem tab_at (r : Rel K w env st σ H) (h : hasTab st i q = true) : (∃ n : Nat, w.ρ[n]? = some (K.Γ i) ∧ st[n]? = some (.tab i q)) ∧ K.Γ i ∈ w.ρ ∧ TabP (fun c => ¬ w.S c) H (K.Γ i) q := by
  obtain ⟨cl, hm, ht⟩ := List.any_eq_true.mp h
  obtain ⟨n, hn, e⟩ := List.mem_iff_getElem.mp hm
  cases cl with
  | lst ds => cases ht
  | obj c fs => cases ht
  | tab j q' =>
    obtain ⟨h1, h2⟩ := Bool.and_eq_true_iff.mp ht
    obtain rfl := of_decide_eq_true h1
    obtain rfl := of_decide_eq_true h2
    have hρ : n < w.ρ.length := by rw [r.sto.len]; exact hn
    obtain ⟨e1, e2⟩ := r.sto.cell n w.ρ[n] _ (List.getElem?_eq_getElem hρ) (by rw [List.getElem?_eq_getElem hn, e])
    have hP : w.ρ[n] = K.Γ j := e1
    exact ⟨⟨n, by rw [List.getElem?_eq_getElem hρ, hP], by rw [List.getElem?_eq_getElem hn, e]⟩, by rw [← hP]; exact List.getElem_mem hρ, by rw [← hP]; exact e2⟩
theorem made_ext {f c' : Addr} {params : Arguments} {body : Expr} {scope : Scope} (r : Rel K w env st σ H) (h : hasTab st i q = true) (m : Made1 (fun c => ¬ w.S c) H H1 (K.Γ i) f c' q params body scope) : StOk K w.ρ (w.at_ w.ρ).S H1 st ∧ Ext K w.ρ H w.ρ H1 := by
  obtain ⟨⟨n0, r0, s0⟩, hm, ps0, t0, _, _⟩ := tab_at r h
  have nP : ∀ b o, H b = some o → b ∉ w.ρ → H1 b = some o := fun b o e n => m.keep b o e fun z => n (by rw [z]; exact hm)
  have tt : ∀ a vs, SqT K.K H a vs → SqT K.K H1 a vs := fun a vs z => by
    rcases z with (z | ⟨o, z⟩) | z
    · exact .inl (.inl (m.keep a _ z (ne_of z t0 (by intro q; cases q))))
    · exact .inl (.inr ⟨o, m.keep a _ z (ne_of z t0 (by intro q; cases q))⟩)
    · exact .inr z
  have x : Ext K w.ρ H w.ρ H1 := ⟨⟨[], by simp⟩, fun a o e n => ⟨nP a o e n, n⟩, tt⟩
  have hk : ∀ b o, H b = some o → ¬ w.S b → H1 b = some o ∧ ¬ w.S b := fun b o e n => ⟨nP b o e fun z => n (.inl z), n⟩
  refine ⟨⟨r.sto.len, r.sto.nd, fun n a c h1 h2 => ?_⟩, x⟩
  have z := r.sto.cell n a c h1 h2
  have S0 : (w.at_ w.ρ).S = w.S := rfl
  by_cases ea : a = K.Γ i
  · subst ea
    cases c with
    | lst ds => obtain ⟨vs, z, _⟩ := z; exact absurd z (by rw [t0]; intro q; cases q)
    | obj C fs => obtain ⟨dx, gs, z, _⟩ := z; exact absurd z (by rw [t0]; intro q; cases q)
    | tab j q' =>
      have en : n = n0 := nodup_at r.sto.nd h1 r0
      subst en
      rw [s0] at h2
      cases h2
      exact ⟨rfl, m.tab⟩
  · obtain ⟨o, eo, _⟩ := CellOk.some z
    have e1 : H1 a = H a := (m.keep a o eo ea).trans eo.symm
    cases c with
    | lst ds => obtain ⟨vs, z, t⟩ := z; exact ⟨vs, by rw [e1]; exact z, t.gen hk (fun a vs h => tt a vs h) fun _ _ h => h⟩
    | obj C fs => obtain ⟨dx, gs, z, t⟩ := z; exact ⟨dx, gs, by rw [e1]; exact z, t.gen hk (fun a vs h => tt a vs h) fun _ _ h => h⟩
    | tab j q' => exact TabC.gen z e1 hk
end
def oSortK (i : Nat) (q : Str) : Op1 := fun a st => match a with
  | .lst ds => (match strsD ds with
    | some ss => if (hasTab st i q && ss.all fun y => decide (y.length ≤ sizeLine)) = true then .ok (.lst ((sortK ss).map D.str)) st else .bad
    | none => .bad)
  | _ => .bad
theorem strs_dens {K : Ct} {ρ : List Addr} {S : Addr → Prop} {H : Hp} : ∀ ss : List Str, Dens K ρ S H (ss.map V.str) (ss.map D.str)
  | [] => .nil
  | y :: ss => .cons (.str y) (strs_dens ss)
section
variable {X : Cx} {Γ : Nat → Addr} {W : WX} {e : Expr} {f : EF} {i k kk : Nat} {c : Addr} {x : Str} {params : Arguments} {scope : Scope} {p pos kpos lpos p1 p2 p3 p4 p5 : Pos}
theorem pe_lamV {body : Expr} {P : Addr} (B : LamX.TabB X.base X.mg c P) (hc : X.env.code = .ref c) (hd : defaultsOf params X.env = ([], [])) (nf : ∀ y ∈ scope.names, y.2 ≠ .free) :
    PE X (.Lambda params body scope lpos) (fun σ H Q => ∃ Z : Addr → Prop, (∀ c, H c = none → Z c) ∧ TabP Z H P (X.env.qual ++ "<lambda>") ∧ ∀ f c' H1, Made1 Z H H1 P f c' (X.env.qual ++ "<lambda>") params body scope → Q (.ref f) H1) :=
  ⟨fun pins s σ H Q I h => by
    obtain ⟨Z, h1, h2, h3⟩ := h
    exact lam_made I B hc h1 h2 hd nf fun f c' H1 s1 I1 m => ⟨.ref f, H1, I1, rfl, h3 f c' H1 m⟩⟩
theorem pd_sortK (hr : Room k X.A) (B : LamX.TabB X.base X.mg c (Γ i)) (hc : X.env.code = .ref c) (L : KeyS x params scope) (hd : defaultsOf params X.env = ([], [])) (he : PE X e (tDB (XC X Γ) W f)) (hm : X.mg "sorted" = none) (hl : X.mg "len" = none) (hg : Gl X "sorted")
    (hs : starEach [e] X.env = (false, eval e X.env) :: starEach [] X.env := by rfl) (hb1 : backTo pos (starEach [e] X.env) = (false, eval e X.env) :: backTo pos (starEach [] X.env) := by rfl) (hb2 : (backTo pos (starEach [e] X.env)).any (·.1) = false := by rfl) :
    PE X (.Call (.Name "sorted" p) [e] [⟨some "key", .Lambda params (keyBody x kk p1 p2 p3 p4 p5) scope lpos, kpos⟩] pos) (tD (XC X Γ) W (dOp1 (oSortK i (X.env.qual ++ "<lambda>")) f)) :=
  peImp (pe_callBK (cr_sortK hr hl) hg hm rfl (pa_cons he pa_nil hs) (pk_cons (pe_lamV B hc hd L.nofree) pk_nil) (he := hb1) (hpl := hb2)) fun σ H Q h => by
  obtain ⟨w, env, st, r, p⟩ := t1 (Da := DenB) (g := fun env d st => oSortK i (X.env.qual ++ "<lambda>") d st) h
  refine ⟨w, env, st, r, p.mono ?_⟩
  rintro v H1 ⟨w1, env1, st1, d, r1, d1, hp⟩
  -- what is asked, whatever the items stand in
  have go : ∀ (a : Addr) (vs : List V) (ds : List D) (ss : List Str), strsD ds = some ss → Dens (XC X Γ) w1.ρ w1.S H1 vs ds → v = .ref a → (∀ H2 : Hp, (∀ b o, H1 b = some o → (∀ ps, o ≠ .tbl ps) → H2 b = some o) → SqL X.K H2 a vs) →
      Post Den (XC X Γ) W w1 H1 σ (if (hasTab st1 i (X.env.qual ++ "<lambda>") && ss.all fun y => decide (y.length ≤ sizeLine)) = true then .ok (.lst ((sortK ss).map D.str)) st1 else .bad) Q →
      ∃ Z : Addr → Prop, (∀ c, H1 c = none → Z c) ∧ TabP Z H1 (Γ i) (X.env.qual ++ "<lambda>") ∧ ∀ f c' H2, Made1 Z H1 H2 (Γ i) f c' (X.env.qual ++ "<lambda>") params (keyBody x kk p1 p2 p3 p4 p5) scope → rSK X [v] [.ref f] H2 Q := by
    intro a vs ds ss es t ev sq hq
    split at hq
    · rename_i hz
      obtain ⟨z1, z2⟩ := Bool.and_eq_true_iff.mp hz
      obtain ⟨_, _, T⟩ := tab_at r1 z1
      refine ⟨fun c => ¬ w1.S c, fun c hc => r1.fresh hc, T, fun f c' H2 m => ?_⟩
      obtain ⟨so, x2⟩ := made_ext r1 z1 m
      have r2 := r1.ext x2 so
      obtain ⟨ps, t0, _, _⟩ := T
      have sq2 := sq H2 fun b o e n => m.keep b o e fun z => n ps (Option.some.inj (e.symm.trans (by rw [z]; exact t0)))
      rw [t.strs es] at sq2
      refine ⟨a, f, c', ss, _, x, params, scope, kk, _, _, _, _, _, by rw [ev], rfl, sq2, m.fn, m.code, L, fun y hy => of_decide_eq_true (List.all_eq_true.mp z2 y hy), fun pp hpp => ?_⟩
      exact hq w1.ρ (upd H2 pp (.lst ((sortK ss).map V.str))) (.ref pp) (r2.newSto hpp) (x2.trans (Ext.new hpp)) (.lst upd_same (fun z => r2.fresh hpp z) (strs_dens _))
    · exact hq.elim
  have split2 : ∀ (ds : List D), Post Den (XC X Γ) W w1 H1 σ (match strsD ds with
      | some ss => if (hasTab st1 i (X.env.qual ++ "<lambda>") && ss.all fun y => decide (y.length ≤ sizeLine)) = true then .ok (.lst ((sortK ss).map D.str)) st1 else .bad
      | none => .bad) Q → ∃ ss, strsD ds = some ss ∧ Post Den (XC X Γ) W w1 H1 σ (if (hasTab st1 i (X.env.qual ++ "<lambda>") && ss.all fun y => decide (y.length ≤ sizeLine)) = true then .ok (.lst ((sortK ss).map D.str)) st1 else .bad) Q := fun ds hq => by
    cases es : strsD ds with
    | none => rw [es] at hq; exact hq.elim
    | some ss => rw [es] at hq; exact ⟨ss, rfl, hq⟩
  cases d with
  | lst ds =>
    obtain ⟨a, vs, e1, ha, _, t⟩ := d1.lst
    obtain ⟨ss, es, hq⟩ := split2 ds hp
    exact go a vs ds ss es t e1 (fun H2 k2 => SqL.of (k2 a _ ha fun ps z => by cases z)) hq
  | _ => exact hp.elim
end
end AM
namespace AM
open PySem PySem.Spec PyProof.Rows L2
def tabsSt (K : Ct) (cs : List (Addr × Addr)) (st : Sto) : Prop := cs.length = st.length ∧ ∀ (n : Nat) p c, cs[n]? = some p → st[n]? = some c → ∃ i q, c = .tab i q ∧ p.2 = K.Γ i
section
variable {P : Program} {w : World} {K : PySem.W.Frag} {mg mb : Str → Option Value} {Γ : Nat → Addr} {k : Nat} {fa a : Addr} {fd : FuncData} {x : Str} {F : DF} {s : Shared} {vs : List Value} {ns : List Int} {cs : List (Addr × Addr)} {st0 : Sto}
structure TabsS (K : PySem.W.Frag) (h : Heap) (cs : List (Addr × Addr)) : Prop where
  hd : ∀ p ∈ cs, PySem.W.CodeHd h p.1 p.2
  out : ∀ p ∈ cs, K.lookup p.2 = none
  empty : ∀ p ∈ cs, h.get? p.2 = some { cls := .none, data := .fields #[] }
  nd : (cs.map (·.2)).Nodup
def BltM (mg : Str → Option Value) (h : Heap) : Prop := ∃ (bm : Addr) (ob : Obj), mg "__builtins__" = some (.ref bm) ∧ bm ≠ builtinsNs ∧ h.get? bm = some ob ∧ ob.cls = .type "module" ∧ ob.dict = some builtinsNs ∧ ob.data = .plain
structure Trk (K : PySem.W.Frag) (cs : List (Addr × Addr)) (a : Addr) (vs : List Value) (H : Hp) : Prop where
  tab : ∀ p ∈ cs, H p.2 = some (.tbl #[])
  one : ∀ b o, H b = some o → (b = a ∧ K.lookup a = none ∧ ∃ u, o = .frz { cls := .type "list", data := .seq vs.toArray } u) ∨ ((∃ p ∈ cs, b = p.2) ∧ o = .tbl #[])
theorem end_atT (z : At0 K mg mb s) (T : TabsS K s.heap cs) (B : BltM mg s.heap) (ha : s.heap.get? a = some { cls := .type "list", data := .seq vs.toArray }) (hr : Room k callerA)
    (hF : ∀ base : Heap, K.In base → base.Ns mainGlobals mg → (∀ p ∈ cs, LamX.TabB base mg p.1 p.2) → FnB P w K mg base k fa fd [x] (spD ⟨K, Γ⟩ F))
    (hb : ∀ (s : Shared) (u : Value), BindsTo s fd ⟨[u], []⟩ [(x, u)]) (ts : tabsSt ⟨K, Γ⟩ cs st0) (ans : ∃ st, F [.fz (ns.map D.int)] st0 = .ok (.bl true) st)
    (H : Hp) (tr : Trk K cs a vs H) (hok : HOk P w H s.heap) (sc : SqF K H (fun b => ∃ p ∈ cs, b = p.2) a (ns.map V.int)) :
    codeAny (model P w) callerA (.call (.ref fa) ⟨[.ref a], []⟩) (Says1 s) s := by
  have low : ∀ b o, s.heap.get? b = some o → H b = none → (hidT s.heap H).get? b = some o := fun b o e n => hidT_get e n
  -- what is neither a row nor empty fields is not tracked
  have untr : ∀ {b : Addr} {o : Obj}, s.heap.get? b = some o → (∀ us n, o.data ≠ .seq us n) → o.data ≠ .fields #[] → H b = none := fun {b o} e q1 q2 => by
    cases h : H b with
    | none => rfl
    | some u =>
      rcases tr.one b u h with ⟨eb, _⟩ | ⟨⟨p, hp, eb⟩, _⟩
      · rw [eb, ha] at e
        obtain rfl := Option.some.inj e
        exact absurd rfl (q1 _ _)
      · rw [eb, T.empty p hp] at e
        obtain rfl := Option.some.inj e
        exact absurd rfl q2
  have ns1 : ∀ {b : Addr} {m : Str → Option Value}, s.heap.Ns b m → (hidT s.heap H).Ns b m := fun {b m} h => by
    obtain ⟨o, es, ep, e, q, rest⟩ := h
    exact ⟨o, es, ep, low b o e (untr e (fun us n z => by rw [q] at z; cases z) fun z => by rw [q] at z; cases z), q, rest⟩
  have kin : K.In (hidT s.heap H) := fun b o e => low b o (z.kin b o e) (by
    cases h : H b with
    | none => rfl
    | some u =>
      rcases tr.one b u h with ⟨eb, hk, _⟩ | ⟨⟨p, hp, eb⟩, _⟩
      · rw [eb, hk] at e
        cases e
      · rw [eb, T.out p hp] at e
        cases e)
  have tb : ∀ p ∈ cs, LamX.TabB (hidT s.heap H) mg p.1 p.2 := fun p hp => by
    have hP := T.empty p hp
    refine ⟨?_, ?_, fun q => ?_⟩
    · obtain ⟨o, us, file, tf, flags, tg, inF, text, tt, e, r1, r2, r3, rest⟩ := T.hd p hp
      exact ⟨o, us, file, tf, flags, tg, inF, text, tt, low _ _ e (untr e (fun us n z => by rw [r2] at z; cases z) fun z => by rw [r2] at z; cases z; cases r3), r1, r2, r3, rest⟩
    · obtain ⟨bm, ob, b1, b2, b3, b4, b5, b6⟩ := B
      refine ⟨bm, ob, b1, b2, fun q => ?_, fun q => ?_, low _ _ b3 (untr b3 (fun us n z => by rw [b6] at z; cases z) fun z => by rw [b6] at z; cases z), b4, b5, b6⟩
      · obtain ⟨o, es, ep, e, hd, _⟩ := z.glo
        rw [← q, b3] at e
        obtain rfl := Option.some.inj e
        rw [b6] at hd
        cases hd
      · rw [q, hP] at b3
        obtain rfl := Option.some.inj b3
        cases b6
    · obtain ⟨o, es, ep, e, hd, _⟩ := z.glo
      rw [q, hP] at e
      obtain rfl := Option.some.inj e
      cases hd
  obtain ⟨mc, c1, c2⟩ := z.lim
  have e0 : Env0 P w K mg (hidT s.heap H) callerA [] s H := {
    frames := rfl
    mod := ⟨kin, ns1 z.glo, ⟨mb, ns1 z.blt, z.mbs⟩, mc, ns1 c1, c2⟩
    bs := fun b o e => of_hidT e
    bsz := Nat.le_of_eq (hidT_size _ _)
    funs := trivial
    frf := fun b hb => by cases hb
    hok := hok
    bare := .of_eq z.gen }
  obtain ⟨st, ea⟩ := ans
  have sp : spD ⟨K, Γ⟩ F [.ref a] H (fun v _ => v = .bl true) (fun _ _ _ => False) := by
    have wS : ∀ b, (⟨cs.map (·.2), fun _ => False, []⟩ : Wd).S b → ∃ p ∈ cs, b = p.2 := fun b h => by
      rcases h with h | h | h
      · obtain ⟨p, hp, e⟩ := List.mem_map.mp h
        exact ⟨p, hp, e.symm⟩
      · exact h.elim
      · cases h
    have numL : ∀ is : List Int, Dens ⟨K, Γ⟩ (cs.map (·.2)) (⟨cs.map (·.2), fun _ => False, []⟩ : Wd).S H (is.map V.int) (is.map D.int) := fun is => by
      induction is with
      | nil => exact .nil
      | cons i is ih => exact .cons (.int i) ih
    refine ⟨⟨cs.map (·.2), fun _ => False, []⟩, st0, [.fz (ns.map D.int)], rfl, ⟨by rw [List.length_map]; exact ts.1, T.nd, fun n b c h1 h2 => ?_⟩, fun b h => h.elim, .cons (.fz (sc.imp fun o e n => ⟨e, fun q => n (wS a q)⟩) (numL ns)) .nil, ?_⟩
    · rw [List.getElem?_map] at h1
      obtain ⟨p, hp, rfl⟩ := Option.map_eq_some_iff.mp h1
      obtain ⟨i, q, rfl, ei⟩ := ts.2 n p c hp h2
      exact ⟨ei, #[], tr.tab p (List.mem_of_getElem? hp), trivial, fun pos cv hc => by cases hc⟩
    · rw [ea]
      intro ρ' H' v h1 h2 h3
      cases h3
      rfl
  refine codeAny_mono ((hF _ kin (ns1 z.glo) tb).run callerA [] s H ⟨[.ref a], []⟩ [.ref a] [.ref a] _ _ hr rfl e0 (hb s (.ref a)) (.cons rfl .nil) sp) fun r s' h => ?_
  cases r with
  | error er =>
    obtain ⟨_, _, _, _, _, _, _, _, _, _, _, _, h⟩ := h
    exact h.elim
  | ok fl =>
    cases fl with
    | next => exact h.elim
    | brk => exact h.elim
    | cont => exact h.elim
    | ret u =>
      obtain ⟨v, H', os, bare, un, hok', rv, q⟩ := h
      subst q
      cases rv
      have nof : ∀ b : Addr, b ∉ frs ([] : List Env) := fun b hb => by cases hb
      have same : ∀ b o, (∀ p ∈ cs, b ≠ p.2) → s.heap.get? b = some o → s'.heap.get? b = some o := fun b o n e => by
        cases h : H b with
        | none => exact un.keep b o e h (nof b) (by simp)
        | some u =>
          rcases tr.one b u h with ⟨eb, _, y, eo⟩ | ⟨⟨p, hp, eb⟩, _⟩
          · rw [eo] at h
            obtain ⟨g1, _⟩ := hok' b _ (un.frzs b _ y h)
            rw [eb, ha] at e
            rw [g1, ← Option.some.inj e]
          · exact absurd eb (n p hp)
      have more : ∀ p ∈ cs, ∃ ps : Array Value, s'.heap.get? p.2 = some { cls := .none, data := .fields ps } := fun p hp => by
        obtain ⟨ps, e⟩ := un.tbls p.2 #[] (tr.tab p hp)
        exact ⟨_, hok' p.2 _ e⟩
      refine ⟨rfl, ⟨fun b o e => ?_, fun b o e => ?_⟩, os, bare⟩
      · by_cases hb2 : ∃ p ∈ cs, b = p.2
        · obtain ⟨p, hp, eb⟩ := hb2
          subst eb
          rw [T.empty p hp] at e
          obtain rfl := Option.some.inj e
          obtain ⟨ps, e3⟩ := more p hp
          exact .inr (.inl ⟨PySem.Heap.TableAt.isCodeTable ((T.hd p hp).tab (T.empty p hp)), rfl, #[], ps, rfl, by rw [e3, Array.empty_append]⟩)
        · exact .inl (same b o (fun p hp q => hb2 ⟨p, hp, q⟩) e)
      · by_cases hb2 : ∃ p ∈ cs, b = p.2
        · obtain ⟨p, hp, eb⟩ := hb2
          obtain ⟨ps, e3⟩ := more p hp
          exact ⟨_, by rw [eb]; exact e3⟩
        · exact ⟨o, same b o (fun p hp q => hb2 ⟨p, hp, q⟩) e⟩
theorem end_callT (z : At0 K mg mb s) (T : TabsS K s.heap cs) (B : BltM mg s.heap) (ha : s.heap.get? a = some { cls := .type "list", data := .seq vs.toArray }) (hi : IntsAre vs ns) (hl : ns.length ≤ sizeLine) (hr : Room k callerA)
    (hF : ∀ base : Heap, K.In base → base.Ns mainGlobals mg → (∀ p ∈ cs, LamX.TabB base mg p.1 p.2) → FnB P w K mg base k fa fd [x] (spD ⟨K, Γ⟩ F))
    (hb : ∀ (s : Shared) (u : Value), BindsTo s fd ⟨[u], []⟩ [(x, u)]) (ts : tabsSt ⟨K, Γ⟩ cs st0) (ans : ∃ st, F [.fz (ns.map D.int)] st0 = .ok (.bl true) st) : codeAny (model P w) callerA (.call (.ref fa) ⟨[.ref a], []⟩) (Says1 s) s := by
  have vv : Vals (ns.map V.int) vs := vals_ints hi
  have na : ∀ p ∈ cs, a ≠ p.2 := fun p hp q => by
    have e := T.empty p hp
    rw [← q, ha] at e
    cases e
  have naT : ¬ ∃ p ∈ cs, a = p.2 := fun ⟨p, hp, q⟩ => na p hp q
  -- the tables alone
  have key : ∀ (H0 : Hp), (∀ b, H0 b = if ∃ p ∈ cs, b = p.2 then some (.tbl #[]) else none) → (∀ p ∈ cs, H0 p.2 = some (.tbl #[])) ∧ (∀ b o, H0 b = some o → (∃ p ∈ cs, b = p.2) ∧ o = .tbl #[]) := fun H0 h0 =>
    ⟨fun p hp => by rw [h0, if_pos ⟨p, hp, rfl⟩], fun b o e => by
      rw [h0] at e
      split at e
      · rename_i q
        exact ⟨q, (Option.some.inj e).symm⟩
      · cases e⟩
  have okT : ∀ p ∈ cs, ∀ b, b = p.2 → s.heap.get? b = some { cls := .none, data := .fields #[] } := fun p hp b e => by rw [e]; exact T.empty p hp
  classical
  obtain ⟨k1, k2⟩ := key (fun b => if ∃ p ∈ cs, b = p.2 then some (.tbl #[]) else none) (fun _ => rfl)
  cases hk : K.lookup a with
  | some o =>
    have e := z.kin a o hk
    rw [ha] at e
    have eo := Option.some.inj e
    refine end_atT z T B ha hr hF hb ts ans (fun b => if ∃ p ∈ cs, b = p.2 then some (.tbl #[]) else none) ⟨k1, fun b o h => .inr (k2 b o h)⟩ (fun b o h => ?_) (.inr (.inr ⟨o, vs.toArray, 0, hk, ?_, ?_, ?_, ?_, by simpa using vv⟩))
    · obtain ⟨⟨p, hp, eb⟩, rfl⟩ := k2 b o h
      exact okT p hp b eb
    · rw [← eo]
    · rw [← eo]
    · rw [← eo]
    · rw [List.size_toArray, hi.length]; exact hl
  | none =>
    have at1 : ∀ {b : Addr} {u : HO}, upd (fun b => if ∃ p ∈ cs, b = p.2 then some (.tbl #[]) else none) a (.frz { cls := .type "list", data := .seq vs.toArray } (.lst (ns.map V.int))) b = some u → (b = a ∧ u = .frz { cls := .type "list", data := .seq vs.toArray } (.lst (ns.map V.int))) ∨ ((∃ p ∈ cs, b = p.2) ∧ u = .tbl #[]) := fun {b u} h => by
      by_cases eb : b = a
      · rw [eb, upd_same] at h
        exact .inl ⟨eb, (Option.some.inj h).symm⟩
      · rw [upd_ne eb] at h
        exact .inr (k2 b u h)
    refine end_atT z T B ha hr hF hb ts ans (upd (fun b => if ∃ p ∈ cs, b = p.2 then some (.tbl #[]) else none) a (.frz { cls := .type "list", data := .seq vs.toArray } (.lst (ns.map V.int)))) ⟨fun p hp => by rw [upd_ne (Ne.symm (na p hp))]; exact k1 p hp, fun b o h => ?_⟩ (fun b o h => ?_) (.inl ⟨_, upd_same, naT⟩)
    · rcases at1 h with ⟨e1, e2⟩ | q
      · exact .inl ⟨e1, hk, _, e2⟩
      · exact .inr q
    · rcases at1 h with ⟨rfl, rfl⟩ | ⟨⟨p, hp, eb⟩, rfl⟩
      · exact ⟨ha, by rw [List.length_map]; exact hl, vs, _, vv, ha⟩
      · exact okT p hp b eb
end
def FinHypT (P : Program) (n k : Nat) (x : Str) (Y : World → Heap → Prop) : Prop := ∀ (w : World) (mg : Str → Option Value) (fa : Addr) (h : Heap), Y w h → h.Ns mainGlobals mg → mg ("law" : Str) = some (.ref fa) →
  ∃ (K : PySem.W.Frag) (Γ : Nat → Addr) (fd : FuncData) (G : DF) (cs : List (Addr × Addr)) (st0 : Sto), K.In h ∧ TabsS K h cs ∧ tabsSt ⟨K, Γ⟩ cs st0 ∧ (∀ (s : Shared) (u : Value), BindsTo s fd ⟨[u], []⟩ [(x, u)]) ∧ (∀ ns : List Int, ns.length ≤ n → ∃ st, G [.fz (ns.map D.int)] st0 = .ok (.bl true) st) ∧
    ∀ base : Heap, K.In base → base.Ns mainGlobals mg → (∀ p ∈ cs, LamX.TabB base mg p.1 p.2) → FnB P w K mg base k fa fd [x] (spD ⟨K, Γ⟩ G)
theorem law_endT {l : PySem.W.OpenLaw} {n k : Nat} {q : Program} {loose : List Str} {XP : (Str → Option Value) → Heap → Prop} {YP : World → Heap → Prop} {d : DefRec} {x : Str}
    (hn : l.most = some n) (hz : n ≤ sizeLine) (hdf : d.params.defaults = []) (hr : Room k callerA) (hd : d.name = ("law" : Str)) (F : FinHypT l.prog n k x YP) :
    PySem.W.WalkO q loose XP YP l.row.toRowW d [] (fun f vs => PySem.call f vs) := by
  refine Att.attach_call hn hdf fun w s₀ s₁ mg mb fa o pm cd doc a vs ns G Y ho hd2 hcd hmg hobj hints hlen hg => ?_
  obtain ⟨K, Γ, fd, DG, cs, st0, kin, T, ts, hb, ans, hF⟩ := F w mg fa _ Y G.T.g (by rw [← hd]; exact hmg)
  exact end_callT ⟨kin, G.T.g, G.T.b, G.T.builtins, G.T.nolimit, hg⟩ T G.T.bmain hobj hints (Nat.le_trans hlen hz) hr hF hb ts (ans ns hlen)
theorem TabsH.s {tf : List He.Defn} {h : Heap} {K : PySem.W.Frag} (t : TabsH tf h K) (kin : K.In h) : TabsS K h (tabsOf tf K) :=
  ⟨fun p hp => PySem.W.codeHd_of_K kin (t.hd p hp), t.out, t.empty, t.nd⟩
end AM
section
open PySem PySem.W PySem.Calls PyProof.Rows
theorem K74.fin (F : AM.FinHypT PySem.Challenge.rw_knotspools_k74_values_of_any_kind_judged.prog 63 10 "_law_script" (fun w h => ∃ K : PySem.W.Frag, K.In h ∧ AM.SaysY K74.fa K74.fn K74.ex K74.Γ K74.ts K74.tf w h K)) : PySem.Challenge.rw_knotspools_k74_values_of_any_kind_judged.Holds := by
  w_on; o_law
  refine HandSHeadRun.head_any (r := OpenLaw.row PySem.Challenge.rw_knotspools_k74_values_of_any_kind_judged) (q := view (OpenLaw.row PySem.Challenge.rw_knotspools_k74_values_of_any_kind_judged).prog [73]) (H := K74.hk) (ob := K74.ob) (M := 9000) (loose := K74.loose) (d := HandSHeadRun.topDef (OpenLaw.row PySem.Challenge.rw_knotspools_k74_values_of_any_kind_judged).prog 73) (kwd := []) K74.ob_eq
    (by kernel_rfl) (fun s => by kernel_rfl) K74.run (by kernel_rfl) (by kernel_rfl) (by kernel_rfl) (by rfl) (by first | assumption | decide +kernel) (by decide +kernel) ⟨rfl, rfl, rfl, rfl, rfl, by decide +kernel⟩ ?hw ?hc
  case hw => w_witness2
  case hc => exact AM.law_endT (l := PySem.Challenge.rw_knotspools_k74_values_of_any_kind_judged) (n := 63) (k := 10) (x := "_law_script") rfl (by decide) (by kernel_rfl) ⟨rfl, by decide, by decide⟩ (by kernel_rfl) F
end
namespace AM
open PySem PySem.Spec PyProof.Rows L2
section
variable {X : Cx} {Γ : Nat → Addr} {W : WX} {pos : Pos} {k i n : Nat} {x : Str} {K : PySem.W.Frag} {is : List Nat} {es : List Expr} {e : Expr}
theorem pgc_name (hN : X.N.Nodup) (hi : X.N[i]? = some x := by rfl) (hx : Loc X.env.scope x := by first | exact Or.inl rfl | exact Or.inr rfl) (hf : X.fn x = true ∨ X.env.scope.names.lookup x = some .local := by first | exact .inl rfl | exact .inr rfl) : PG X (.Name x pos) (gC X.K false [i]) := pg_name hN hi hx hf
theorem pgsc_nil : PGs X [] (gsN []) := pgs_nil
theorem pgsc_cons (hN : X.N.Nodup) (hr : PGs X es (gsN is)) (hi : X.N[i]? = some x := by rfl) (hx : Loc X.env.scope x := by first | exact Or.inl rfl | exact Or.inr rfl) (hf : X.fn x = true ∨ X.env.scope.names.lookup x = some .local := by first | exact .inl rfl | exact .inr rfl)
    (hs : (assignEach (.Name x pos :: es) X.env).map (·.2) = assign (.Name x pos) X.env :: (assignEach es X.env).map (·.2) := by rfl) : PGs X (.Name x pos :: es) (gsN (i :: is)) := pgs_cons (pg_name hN hi hx hf) hr hs
theorem pgc_tup {kk : Nat} (hc : X.calm = true) (h : PGs X es (gsN is)) (hn : (assignEach es X.env).length = is.length := by rfl) (hst : (assignEach es X.env).findIdx? (·.1) = none := by rfl) : PG X (.Tuple es kk pos) (gC X.K true is) := pg_tup hc h hn hst
end
end AM
namespace AM
open PySem PySem.Spec PyProof.Rows L2
def FnNi (P : Program) (w : World) (K : PySem.W.Frag) (mg : Str → Option Value) (base : Heap) (Γ : Nat → Addr) (k : Nat) (g : Addr) (T : List D → Sto → Prop) : Prop :=
  ∀ (A : Around) (outer : List Env) (s : Shared) (H : Hp) (us : List Value) (vs : List V) (wd : Wd) (st : Sto) (ds : List D), Room k A → A.guards = some [] → Env0 P w K mg base A outer s H → Vals vs us →
    wd.O = [] → StOk ⟨K, Γ⟩ wd.ρ wd.S H st → (∀ a, wd.R a → (∃ o, H a = some o) ∧ a ∉ wd.ρ) → Dens ⟨K, Γ⟩ wd.ρ wd.S H vs ds → T ds st →
    codeAny (model P w) A (.call (.ref g) ⟨us, []⟩) (fun r s' => r = .ok (.ret .notImplemented) ∧ s'.os = s.os ∧ AllBare s'.gens ∧ ∃ ρ' H', StOk ⟨K, Γ⟩ ρ' (wd.at_ ρ').S H' st ∧ Ext ⟨K, Γ⟩ wd.ρ H ρ' H' ∧ Un (frs outer) [] H H' s.heap s'.heap ∧ HOk P w H' s'.heap) s
section
variable {P : Program} {w : World} {K : PySem.W.Frag} {mg : Str → Option Value} {base : Heap} {Γ : Nat → Addr} {k : Nat} {f : Addr} {x qual : Str} {params : Arguments} {scope : Scope} {N ps : List Str} {fd : FuncData} {kws : List (Str × V)} {c : Expr} {rest : List Stmt} {p1 p2 p3 : Pos}
end
structure KnNi (P : Program) (w : World) (K : PySem.W.Frag) (mg : Str → Option Value) (base : Heap) (Γ : Nat → Addr) (k : Nat) (c : Nat) (T : List D → Sto → Prop) : Prop where
  sub : PySem.W.subIn K (.type "str") (.ref (Γ c)) = some false
  ex : ∃ g, PySem.W.findIn K (.ref (Γ c)) "__eq__" = some (some (.ref g)) ∧ PySem.W.isFn K (.ref g) = true ∧ FnNi P w K mg base Γ k g T
theorem dCons_len0 {env : AEnv} {st st' : Sto} {ds : List D} (e : dNil env st = .ok ds st') : ds.length = 0 := by cases e; rfl
theorem dCons_len {f : EF} {fs : EFs} {n : Nat} {env : AEnv} {st st' : Sto} {ds : List D} (h : ∀ env st ds st', fs env st = .ok ds st' → ds.length = n) (e : dCons f fs env st = .ok ds st') : ds.length = n + 1 := by
  unfold dCons at e
  cases q : f env st with
  | ok d s1 =>
    rw [q] at e
    cases q2 : fs env s1 with
    | ok es s2 =>
      have e : (fs env s1).bind (fun ds st2 => Res.ok (d :: ds) st2) = .ok ds st' := e
      rw [q2] at e
      cases e
      rw [List.length_cons, h _ _ _ _ q2]
    | exc x s2 =>
      have e : (fs env s1).bind (fun ds st2 => Res.ok (d :: ds) st2) = .ok ds st' := e
      rw [q2] at e
      cases e
    | bad =>
      have e : (fs env s1).bind (fun ds st2 => Res.ok (d :: ds) st2) = .ok ds st' := e
      rw [q2] at e
      cases e
  | exc x s1 => rw [q] at e; cases e
  | bad => rw [q] at e; cases e
theorem dCons_len1 {f : EF} {env : AEnv} {st st' : Sto} {ds : List D} (e : dCons f dNil env st = .ok ds st') : ds.length = 1 := dCons_len (fun _ _ _ _ h => dCons_len0 h) e
theorem dCons_len2 {f g : EF} {env : AEnv} {st st' : Sto} {ds : List D} (e : dCons f (dCons g dNil) env st = .ok ds st') : ds.length = 2 := dCons_len (fun _ _ _ _ h => dCons_len1 h) e
end AM
namespace AM
open PySem PySem.Spec PyProof.Rows L2
def sPar (i j : Nat) (fs : EFs) : SF := fun env st => (fs env st).then fun ds st1 => match ds with
  | [d, e] => .nx ((env.set i (.sh d)).set j (.sh e)) st1
  | _ => .bad
end AM
namespace AM
open PySem PySem.Spec PyProof.Rows L2
theorem opd_inO {X : Cx} {Γ : Nat → Addr} {W : WX} {k : Nat} (G : Go X W k) : OpR X (compareOp .In) (rD2 (XC X Γ) W oIn) := opd_in (by have := G.rm.un; omega)
theorem opd_notInO {X : Cx} {Γ : Nat → Addr} {W : WX} {k : Nat} (G : Go X W k) : OpR X (compareOp .NotIn) (rD2 (XC X Γ) W oNotIn) := opd_notIn (by have := G.rm.un; omega)
end AM
namespace AM
open PySem PySem.Spec PyProof.Rows L2
section
variable {tup : Bool} {is vs : List Nat} {t : TF} {f : EF} {env : AEnv} {fi : IF} {st st' : Sto}
theorem compL_yes {acc ds : List D} {d y : D} {es : List D} {s1 s2 s3 : Sto} (e1 : tgC tup is d = some es) (e2 : t (putAll (wipeE env vs) is es) s1 = .ok true s2) (e3 : f (putAll (wipeE env vs) is es) s2 = .ok y s3) (hz : acc.length < sizeLine) :
    compL tup is vs t f env acc (d :: ds) s1 = compL tup is vs t f env (acc ++ [y]) ds s3 := by
  rw [compL, e1]
  simp only [e2, e3, Res.bindN, if_true, if_pos hz]
theorem compL_any (I : Sto → Prop) (P : D → Prop) : ∀ (ds acc : List D) (st : Sto), I st → (∀ d ∈ ds, ∀ st, I st → ∃ es y st', tgC tup is d = some es ∧ t (putAll (wipeE env vs) is es) st = .ok true st ∧ f (putAll (wipeE env vs) is es) st = .ok y st' ∧ P y ∧ I st') → acc.length + ds.length ≤ sizeLine →
    ∃ ys st', compL tup is vs t f env acc ds st = .ok (acc ++ ys) st' ∧ ys.length = ds.length ∧ (∀ y ∈ ys, P y) ∧ I st'
  | [], acc, st, hI, _, _ => ⟨[], st, by unfold compL; simp, rfl, (fun y hy => by simp at hy), hI⟩
  | d :: ds, acc, st, hI, h, hz => by
    obtain ⟨es, y, s1, e1, e2, e3, hy, h1⟩ := h d List.mem_cons_self st hI
    have hz' : acc.length + (ds.length + 1) ≤ sizeLine := hz
    obtain ⟨ys, s2, g1, g2, g3, g4⟩ := compL_any I P ds (acc ++ [y]) s1 h1 (fun d hd => h d (List.mem_cons_of_mem _ hd)) (by rw [List.length_append, List.length_singleton]; omega)
    refine ⟨y :: ys, s2, ?_, by rw [List.length_cons, List.length_cons, g2], fun z hz => ?_, g4⟩
    · rw [compL_yes e1 e2 e3 (by omega), g1, List.append_assoc]
      rfl
    · rcases List.mem_cons.mp hz with rfl | hz
      · exact hy
      · exact g3 z hz
theorem compF_any {items : List D} (I : Sto → Prop) (P : D → Prop) (ho : noOwn env vs = true) (hi : ∀ i ∈ is, i ∈ vs) (e : fi env st = .ok items st') (hI : I st') (h : ∀ d ∈ items, ∀ st, I st → ∃ es y st2, tgC tup is d = some es ∧ t (putAll (wipeE env vs) is es) st = .ok true st ∧ f (putAll (wipeE env vs) is es) st = .ok y st2 ∧ P y ∧ I st2)
    (hz : items.length ≤ sizeLine) : ∃ ys st2, compF fi tup is vs t f env st = .ok ys st2 ∧ ys.length = items.length ∧ (∀ y ∈ ys, P y) ∧ I st2 := by
  obtain ⟨ys, s2, g1, g2, g3, g4⟩ := compL_any (tup := tup) (is := is) (vs := vs) (t := t) (f := f) (env := env) I P items [] st' hI h (by simpa using hz)
  refine ⟨ys, s2, ?_, g2, g3, g4⟩
  unfold compF
  rw [if_pos ⟨ho, hi⟩, e]
  show onlyOk (compL tup is vs t f env [] items st') = _
  rw [g1]
  rfl
end
theorem blsD_map (ys : List Bool) : blsD (ys.map D.bl) = some ys := by
  induction ys with
  | nil => rfl
  | cons y ys ih => rw [List.map_cons]; unfold blsD; rw [ih]; rfl
theorem sizeLine_val : sizeLine = 16777216 := sizeLine_eq
end AM
namespace AM
open PySem PySem.Spec PyProof.Rows L2
section
variable {α β : Type}
@[simp] theorem ev_bind_ok (a : α) (st : Sto) (k : α → Sto → Res β) : (Res.ok a st).bind k = k a st := rfl
@[simp] theorem ev_bind_exc (e : Exn) (st : Sto) (k : α → Sto → Res β) : (Res.exc e st : Res α).bind k = .exc e st := rfl
@[simp] theorem ev_bind_bad (k : α → Sto → Res β) : (Res.bad : Res α).bind k = .bad := rfl
@[simp] theorem ev_then_ok (a : α) (st : Sto) (k : α → Sto → SR) : (Res.ok a st).then k = k a st := rfl
@[simp] theorem ev_then_exc (e : Exn) (st : Sto) (k : α → Sto → SR) : (Res.exc e st : Res α).then k = .exc e st := rfl
@[simp] theorem ev_then_bad (k : α → Sto → SR) : (Res.bad : Res α).then k = .bad := rfl
@[simp] theorem ev_sb_nx (env : AEnv) (st : Sto) (k : AEnv → Sto → SR) : (SR.nx env st).bind k = k env st := rfl
@[simp] theorem ev_sb_rt (d : D) (st : Sto) (k : AEnv → Sto → SR) : (SR.rt d st).bind k = .rt d st := rfl
@[simp] theorem ev_sb_bk (env : AEnv) (st : Sto) (k : AEnv → Sto → SR) : (SR.bk env st).bind k = .bk env st := rfl
@[simp] theorem ev_sb_ct (env : AEnv) (st : Sto) (k : AEnv → Sto → SR) : (SR.ct env st).bind k = .ct env st := rfl
@[simp] theorem ev_sb_exc (e : Exn) (st : Sto) (k : AEnv → Sto → SR) : (SR.exc e st).bind k = .exc e st := rfl
@[simp] theorem ev_on_nx (env : AEnv) (st : Sto) : onlyNx (SR.nx env st) = .nx env st := rfl
@[simp] theorem ev_gNm (i : Nat) (d : D) (env : AEnv) (st : Sto) : gNm i d env st = .nx (env.set i (.sh d)) st := rfl
@[simp] theorem ev_gNilD (env : AEnv) (st : Sto) : gNilD [] env st = .nx env st := rfl
@[simp] theorem ev_gConsD (g : GF) (gs : GFs) (d : D) (ds : List D) (env : AEnv) (st : Sto) : gConsD g gs (d :: ds) env st = (onlyNx (g d env st)).bind fun env st => gs ds env st := rfl
@[simp] theorem ev_gTupD (n : Nat) (gs : GFs) (ds : List D) (env : AEnv) (st : Sto) : gTupD n gs (.tup ds) env st = if ds.length = n then gs ds env st else .bad := rfl
end
section
variable (env : AEnv) (st : Sto)
theorem ev_dVar (i : Nat) : dVar i env st = (match env[i]? with
  | some (.sh d) => .ok d st
  | _ => .bad) := rfl
@[simp] theorem ev_dVar0 (d : D) (r : AEnv) : dVar 0 (.sh d :: r) st = .ok d st := rfl
@[simp] theorem ev_dVarS (i : Nat) (s : Sl) (r : AEnv) : dVar (i + 1) (s :: r) st = dVar i r st := by
  rw [ev_dVar, ev_dVar, List.getElem?_cons_succ]
@[simp] theorem ev_dOwn0 (d : List D) (r : AEnv) : dOwn 0 (.own d :: r) st = .ok (.lst d) st := rfl
@[simp] theorem ev_dOwn0' (d : D) (r : AEnv) : dOwn 0 (.sh d :: r) st = .ok d st := rfl
@[simp] theorem ev_dOwnS (i : Nat) (s : Sl) (r : AEnv) : dOwn (i + 1) (s :: r) st = dOwn i r st := by
  unfold dOwn
  rw [List.getElem?_cons_succ]
@[simp] theorem ev_dC (d : D) : dC d env st = .ok d st := rfl
@[simp] theorem ev_dOp2 (k : Op2) (f g : EF) : dOp2 k f g env st = (f env st).bind fun a st1 => (g env st1).bind fun b st2 => k a b st2 := rfl
@[simp] theorem ev_dOp1 (k : Op1) (f : EF) : dOp1 k f env st = (f env st).bind fun d st => k d st := rfl
@[simp] theorem ev_gTru (f : EF) : gTru f env st = (f env st).bind fun d st => bOf (truD d) st := rfl
@[simp] theorem ev_gBl (f : EF) : gBl f env st = (f env st).bind fun d st => match d with
  | .bl b => .ok b st
  | _ => .bad := rfl
@[simp] theorem ev_dChain (k k' : Op2) (fa fb fc : EF) : dChain k k' fa fb fc env st = (fa env st).bind fun a st1 => (fb env st1).bind fun b st2 => (k a b st2).bind fun r st3 => match r with
  | .bl true => (fc env st3).bind fun c st4 => k' b c st4
  | .bl false => .ok (.bl false) st3
  | _ => .bad := rfl
@[simp] theorem ev_gAnd (g h : TF) : gAnd g h env st = (g env st).bind fun b st => if b = true then h env st else .ok false st := rfl
@[simp] theorem ev_gOr (g h : TF) : gOr g h env st = (g env st).bind fun b st => if b = true then .ok true st else h env st := rfl
@[simp] theorem ev_gNot (g : TF) : gNot g env st = (g env st).bind fun b st => .ok (!b) st := rfl
@[simp] theorem ev_dAnd (f g : EF) : dAnd f g env st = (f env st).bind fun d st => match d with
  | .bl true => g env st
  | .bl false => .ok (.bl false) st
  | _ => .bad := rfl
@[simp] theorem ev_dOr (f g : EF) : dOr f g env st = (f env st).bind fun d st => match d with
  | .bl true => .ok (.bl true) st
  | .bl false => g env st
  | _ => .bad := rfl
@[simp] theorem ev_dNot (f : EF) : dNot f env st = (f env st).bind fun d st => match d with
  | .bl b => .ok (.bl (!b)) st
  | _ => .bad := rfl
@[simp] theorem ev_dIf (g : TF) (f h : EF) : dIf g f h env st = (g env st).bind fun b st => if b = true then f env st else h env st := rfl
@[simp] theorem ev_dNeg (f : EF) : dNeg f env st = (f env st).bind fun d st => match d with
  | .int i => .ok (.int (-i)) st
  | _ => .bad := rfl
@[simp] theorem ev_dNil : dNil env st = .ok [] st := rfl
@[simp] theorem ev_dCons (f : EF) (fs : EFs) : dCons f fs env st = (f env st).bind fun d st1 => (fs env st1).bind fun ds st2 => .ok (d :: ds) st2 := rfl
@[simp] theorem ev_dTup (fs : EFs) : dTup fs env st = (fs env st).bind fun ds st => if ds.length ≤ sizeLine then .ok (.tup ds) st else .bad := rfl
@[simp] theorem ev_dLst (fs : EFs) : dLst fs env st = (fs env st).bind fun ds st => if ds.length ≤ sizeLine then .ok (.lst ds) st else .bad := rfl
@[simp] theorem ev_dLstF (fs : EFs) : dLstF fs env st = (fs env st).bind fun ds st => if ds.length ≤ sizeLine then .ok ds st else .bad := rfl
@[simp] theorem ev_oNo : oNo env st = .ok none st := rfl
@[simp] theorem ev_oSo (f : EF) : oSo f env st = (f env st).bind fun d st => match d with
  | .int i => .ok (some i) st
  | _ => .bad := rfl
@[simp] theorem ev_dSl (f : EF) (lo hi : OF) : dSl f lo hi env st = (f env st).bind fun d st1 => (lo env st1).bind fun l st2 => (hi env st2).bind fun h st3 => oSl d l h st3 := rfl
@[simp] theorem ev_dM1 (k : SOp1) (fa fb : EF) : dM1 k fa fb env st = (fa env st).bind (kM1 k fb env) := rfl
@[simp] theorem ev_kM1 (k : SOp1) (fb : EF) (s : Str) : kM1 k fb env (.str s) st = (fb env st).bind fun b st2 => k s b st2 := rfl
@[simp] theorem ev_dM0 (k : SOp0) (fa : EF) : dM0 k fa env st = (fa env st).bind (kM0 k) := rfl
@[simp] theorem ev_kM0 (k : SOp0) (s : Str) : kM0 k (.str s) st = k s st := rfl
@[simp] theorem ev_dJs0 (acc : Str) : dJs [] acc env st = .ok (.str acc) st := rfl
@[simp] theorem ev_dJs (f : EF) (fs : List EF) (acc : Str) : dJs (f :: fs) acc env st = (f env st).bind (kJ acc (dJs fs) env) := rfl
@[simp] theorem ev_kJ (acc : Str) (k : Str → AEnv → Sto → Res D) (y : Str) : kJ acc k env (.str y) st = if (acc ++ y).length ≤ sizeLine then k (acc ++ y) env st else .bad := rfl
@[simp] theorem ev_sSeq (g h : SF) : sSeq g h env st = (g env st).bind h := rfl
@[simp] theorem ev_sPass : sPass env st = .nx env st := rfl
@[simp] theorem ev_sRet (f : EF) : sRet f env st = (f env st).then fun d st => .rt d st := rfl
@[simp] theorem ev_sExpr (f : EF) : sExpr f env st = (f env st).then fun _ st => .nx env st := rfl
@[simp] theorem ev_sIf (t : TF) (g h : SF) : sIf t g h env st = (t env st).then fun b st => if b = true then g env st else h env st := rfl
@[simp] theorem ev_sSet (i : Nat) (f : EF) : sSet i f env st = (f env st).then fun d st => .nx (env.set i (.sh d)) st := rfl
@[simp] theorem ev_sAsg (f : EF) (g : GF) : sAsg f g env st = (f env st).then fun d st => onlyNx (g d env st) := rfl
@[simp] theorem ev_dF (f : AEnv → Sto → Res (List D)) : dF f env st = (f env st).bind fun ds st => .ok (.lst ds) st := rfl
@[simp] theorem ev_sOwn (i : Nat) (f : AEnv → Sto → Res (List D)) : sOwn i f env st = (f env st).then fun ds st => .nx (env.set i (.own ds)) st := rfl
@[simp] theorem ev_iSeq (f : EF) : iSeq f env st = (f env st).bind itemsD := rfl
theorem iRan_ok {f : EF} {env : AEnv} {st st' : Sto} {j : Int} (e : f env st = .ok (.int j) st') (h : okR j = true) : iRan f env st = .ok (rng 0 j.toNat) st' := by
  unfold iRan
  rw [e]
  exact if_pos h
theorem okR_of {j : Int} (h1 : -100000000 ≤ j) (h2 : j ≤ 100000000) : okR j = true := by
  unfold okR
  rw [Bool.and_eq_true, decide_eq_true_eq, decide_eq_true_eq]
  exact ⟨by omega, by omega⟩
@[simp] theorem ev_iEnm (f : EF) : iEnm f env st = (f env st).bind fun d st => match d with
  | .tup ds => .ok (enm ds) st
  | .lst ds => .ok (enm ds) st
  | _ => .bad := rfl
@[simp] theorem ev_dCall (F : DF) (fs : EFs) : dCall F fs env st = (fs env st).bind F := rfl
@[simp] theorem ev_dNew (f : AEnv → Sto → Res (List D)) : dNew f env st = (f env st).bind fun ds st => .ok (.hd st.length) (st ++ [.lst ds]) := rfl
@[simp] theorem ev_dFld (cs : List Nat) (x : Str) (fo : EF) : dFld cs x fo env st = (fo env st).bind fun d st => optR (fldOf cs x d st) st := rfl
@[simp] theorem ev_dProp (c : Nat) (F : DF) (fo : EF) : dProp c F fo env st = (fo env st).bind fun d st => if isI c d st = true then AM.noX (F [d] st) else .bad := rfl
@[simp] theorem ev_dOwn2 (c : Nat) (F : DF) (fa fb : EF) : dOwn2 c F fa fb env st = (fa env st).bind fun a st1 => (fb env st1).bind fun b st2 => if (isI c a st2 && isI c b st2) = true then F [a, b] st2 else .bad := rfl
@[simp] theorem ev_gTruC (c : Nat) (F : DF) (f : EF) : gTruC c F f env st = (f env st).bind fun d st => if isI c d st = true then (match F [d] st with
  | .ok (.bl b) st' => .ok b st'
  | _ => .bad) else .bad := rfl
@[simp] theorem ev_dDget (r : List (Key × D)) (fe ff : EF) : dDget r fe ff env st = (fe env st).bind fun d st1 => (ff env st1).bind fun z st2 => match keyD d with
  | some k => .ok ((valD r k).getD z) st2
  | none => .bad := rfl
@[simp] theorem ev_sPar (i j : Nat) (fs : EFs) : sPar i j fs env st = (fs env st).then fun ds st1 => match ds with
  | [d, e] => .nx ((env.set i (.sh d)).set j (.sh e)) st1
  | _ => .bad := rfl
@[simp] theorem ev_sFldD (cs : List Nat) (f : Str) (fo fv : EF) : sFldD cs f fo fv env st = (fv env st).then fun d st1 => (fo env st1).then fun o st2 => putFd cs f o d env st2 := rfl
@[simp] theorem ev_gIx (fo fi : EF) (d : D) : gIx fo fi d env st = (fo env st).then fun o st1 => (fi env st1).then fun i st2 => putIx o i d env st2 := rfl
@[simp] theorem ev_tYesD : tYesD env st = .ok true st := rfl
@[simp] theorem ev_tyL (b : Bool) : bOf (some b) st = .ok b st := rfl
@[simp] theorem ev_oOf (b : Bool) : oOf (some b) st = .ok (.bl b) st := rfl
@[simp] theorem ev_truBl (b : Bool) : truD (.bl b) = some b := rfl
@[simp] theorem ev_optR (d : D) : optR (some d) st = .ok d st := rfl
@[simp] theorem ev_int_tup (ds : List D) : itemsD (.tup ds) st = .ok ds st := rfl
@[simp] theorem ev_int_lst (ds : List D) : itemsD (.lst ds) st = .ok ds st := rfl
@[simp] theorem ev_int_fz (ds : List D) : itemsD (.fz ds) st = .ok ds st := rfl
@[simp] theorem ev_int_str (s : Str) : itemsD (.str s) st = .ok (signs s) st := rfl
@[simp] theorem ev_len_tup (ds : List D) : oLen (.tup ds) st = .ok (.int ds.length) st := rfl
@[simp] theorem ev_len_lst (ds : List D) : oLen (.lst ds) st = .ok (.int ds.length) st := rfl
@[simp] theorem ev_len_fz (ds : List D) : oLen (.fz ds) st = .ok (.int ds.length) st := rfl
@[simp] theorem ev_add (i j : Int) : oAdd (.int i) (.int j) st = .ok (.int (i + j)) st := rfl
@[simp] theorem ev_sub (i j : Int) : oSub (.int i) (.int j) st = .ok (.int (i - j)) st := rfl
@[simp] theorem ev_lt (i j : Int) : oLt (.int i) (.int j) st = .ok (.bl (decide (i < j))) st := rfl
@[simp] theorem ev_le (i j : Int) : oLe (.int i) (.int j) st = .ok (.bl (decide (i ≤ j))) st := rfl
@[simp] theorem ev_gt (i j : Int) : oGt (.int i) (.int j) st = .ok (.bl (decide (j < i))) st := rfl
@[simp] theorem ev_ge (i j : Int) : oGe (.int i) (.int j) st = .ok (.bl (decide (j ≤ i))) st := rfl
@[simp] theorem ev_abs (i : Int) : oAbs (.int i) st = .ok (.int (if i < 0 then -i else i)) st := rfl
@[simp] theorem ev_max (i j : Int) : oMax (.int i) (.int j) st = .ok (.int (if j > i then j else i)) st := rfl
@[simp] theorem ev_min (i j : Int) : oMin (.int i) (.int j) st = .ok (.int (if j < i then j else i)) st := rfl
@[simp] theorem ev_tupT1 (ds : List D) : oTupT (.tup ds) st = .ok (.tup ds) st := rfl
@[simp] theorem ev_tupT2 (ds : List D) : oTupT (.lst ds) st = .ok (.tup ds) st := rfl
@[simp] theorem ev_isNon (d : D) : oIs d .non st = .ok (.bl d.isNon) st := rfl
@[simp] theorem ev_isNotNon (d : D) : oIsNot d .non st = .ok (.bl (!d.isNon)) st := rfl
end
@[simp] theorem truD_int (i : Int) : truD (.int i) = some (i != 0) := rfl
@[simp] theorem ev_eqI (i j : Int) (st : Sto) : oEq (.int i) (.int j) st = .ok (.bl (i == j)) st := rfl
@[simp] theorem ev_neI (i j : Int) (st : Sto) : oNe (.int i) (.int j) st = .ok (.bl (!(i == j))) st := rfl
end AM
namespace AM
open PySem PySem.Spec PyProof.Rows L2 TL
def asc (l : List Nat) : Bool := l.all fun c => decide (c < 0x110000)
theorem strOk_mk {a : List Nat} (h : asc a = true) : PyData.strOk (mk a) = true := by
  unfold PyData.strOk mk
  rw [List.all_toArray]
  exact h
theorem ev_lenS {a : List Nat} (h : a.length ≤ 16777216) (st : Sto) : oLen (.str (mk a)) st = .ok (.int a.length) st := by
  unfold oLen
  show (if (mk a).length ≤ sizeLine then _ else _) = _
  rw [mk_len, if_pos (by rw [sizeLine_val]; exact h)]
def numI (i : Int) : List Nat := tl (Str.ofString (toString i))
mutual
def shL : PyData → Nat
  | .none => 4
  | .bool _ => 5
  | .int i => i.natAbs.log2 + 2
  | .str x => 10 * x.length + 2
  | .list xs => shLs xs + 3
  | .tuple xs => shLs xs + 3
  | .dict _ => 0
def shLs : List PyData → Nat
  | [] => 0
  | x :: xs => shL x + 2 + shLs xs
end
def shD (d : D) : Bool := match d.py with
  | some x => SeqAt.shaped x
  | none => false
end AM
namespace AM
open PySem PySem.Spec PyProof.Rows L2 TL
theorem ev_mod {i j : Int} (h : 0 < j) (st : Sto) : oMod (.int i) (.int j) st = .ok (.int (i % j)) st := by
  show (if 0 < j then _ else _) = _
  rw [if_pos h]
theorem ev_div {i j : Int} (h : 0 < j) (h2 : j < 1073741824) (st : Sto) : oDiv (.int i) (.int j) st = .ok (.int (i / j)) st := by
  show (if 0 < j ∧ j < 1073741824 then _ else _) = _
  rw [if_pos ⟨h, h2⟩]
theorem ev_divmodW {i j : Int} (h : 0 < j) (h2 : j.natAbs.log2 < 9000) (st : Sto) : oDivmod (.int i) (.int j) st = .ok (.tup [.int (i / j), .int (i % j)]) st := by
  show (if 0 < j ∧ j.natAbs.log2 < 9000 then _ else _) = _
  rw [if_pos ⟨h, h2⟩]
theorem ev_divmod {i j : Int} (h : 0 < j) (h2 : j < 1073741824) (st : Sto) : oDivmod (.int i) (.int j) st = .ok (.tup [.int (i / j), .int (i % j)]) st := by
  have z : j.natAbs.log2 < 30 := (Nat.log2_lt (by omega)).mpr (by have e : (2 : Nat) ^ 30 = 1073741824 := by decide
                                                                  rw [e]; omega)
  exact ev_divmodW h (by omega) st
@[simp] theorem ev_intI (i : Int) (st : Sto) : oIntT (.int i) st = .ok (.int i) st := rfl
theorem ev_ixHd {n : Nat} {st : Sto} {ds : List D} {i : Int} {d : D} (h : st[n]? = some (.lst ds)) (e : atI ds i = some d) : oIx (.hd n) (.int i) st = .ok d st := by
  unfold oIx
  simp only [h]
  rw [e]; rfl
theorem ev_ixL {ds : List D} {i : Int} {d : D} (e : atI ds i = some d) (st : Sto) : oIx (.lst ds) (.int i) st = .ok d st := by
  unfold oIx
  simp only
  rw [e]; rfl
theorem ev_ixT {ds : List D} {i : Int} {d : D} (e : atI ds i = some d) (st : Sto) : oIx (.tup ds) (.int i) st = .ok d st := by
  unfold oIx
  simp only
  rw [e]; rfl
theorem ev_ixF {ds : List D} {i : Int} {d : D} (e : atI ds i = some d) (st : Sto) : oIx (.fz ds) (.int i) st = .ok d st := by
  unfold oIx
  simp only
  rw [e]; rfl
theorem atI_pos {ds : List D} {i : Int} (h0 : 0 ≤ i) (h1 : i < ds.length) : atI ds i = ds[i.toNat]? := by
  unfold atI ixN
  rw [if_pos h0, if_pos h1]
  rfl
theorem atI_nat {ds : List D} {i : Int} (h0 : 0 ≤ i) (h1 : i < ds.length) : ∃ d, atI ds i = some d ∧ d ∈ ds := by
  have hi : i.toNat < ds.length := by omega
  refine ⟨ds[i.toNat], ?_, List.getElem_mem hi⟩
  rw [atI_pos h0 h1]
  exact List.getElem?_eq_getElem hi
theorem all_ok {f : IF} {env : AEnv} {st st' : Sto} {bs : List Bool} (e : f env st = .ok (bs.map D.bl) st') : dOp1 oAll (dF f) env st = .ok (.bl (bs.all id)) st' := by
  show ((f env st).bind fun ds st => Res.ok (D.lst ds) st).bind oAll = _
  rw [e]
  show oOf ((blsD (bs.map D.bl)).map fun bs => bs.all id) st' = _
  rw [blsD_map]
  rfl
theorem any_ok {f : IF} {env : AEnv} {st st' : Sto} {bs : List Bool} (e : f env st = .ok (bs.map D.bl) st') : dOp1 oAny (dF f) env st = .ok (.bl (bs.any id)) st' := by
  show ((f env st).bind fun ds st => Res.ok (D.lst ds) st).bind oAny = _
  rw [e]
  show oOf ((blsD (bs.map D.bl)).map fun bs => bs.any id) st' = _
  rw [blsD_map]
  rfl
inductive JsOk (env : AEnv) (st : Sto) : List EF → List (List Nat) → Prop where
  | nil : JsOk env st [] []
  | cons {f : EF} {y : List Nat} {fs : List EF} {ys : List (List Nat)} (h : f env st = .ok (.str (mk y)) st) (r : JsOk env st fs ys) : JsOk env st (f :: fs) (y :: ys)
def Cup (h : Nat) (st : Sto) : Prop := ∃ a b : Int, st[h]? = some (.lst [.int a, .int b])
def Mv (h : Nat) (st st' : Sto) : Prop := Cup h st' ∧ ∃ a b : Int, st' = st.set h (.lst [.int a, .int b])
theorem Cup.lt {h : Nat} {st : Sto} (c : Cup h st) : h < st.length := by
  obtain ⟨a, b, e⟩ := c
  exact (List.getElem?_eq_some_iff.mp e).1
theorem Mv.len {h : Nat} {st st' : Sto} (m : Mv h st st') : st'.length = st.length := by
  obtain ⟨_, a, b, rfl⟩ := m
  exact List.length_set
theorem Mv.of {h : Nat} {st : Sto} (c : h < st.length) (a b : Int) : Mv h st (st.set h (.lst [.int a, .int b])) :=
  ⟨⟨a, b, by rw [List.getElem?_set_self c]⟩, a, b, rfl⟩
theorem Mv.refl {h : Nat} {st : Sto} (c : Cup h st) : Mv h st st := by
  obtain ⟨a, b, e⟩ := c
  refine ⟨⟨a, b, e⟩, a, b, ?_⟩
  obtain ⟨h1, h2⟩ := List.getElem?_eq_some_iff.mp e
  rw [← h2, List.set_getElem_self]
theorem Mv.trans {h : Nat} {s1 s2 s3 : Sto} (a : Mv h s1 s2) (b : Mv h s2 s3) : Mv h s1 s3 := by
  obtain ⟨c, x, y, rfl⟩ := b
  obtain ⟨_, x', y', rfl⟩ := a
  exact ⟨c, x, y, List.set_set ..⟩
end AM
namespace AM
open PySem PySem.Spec PyProof.Rows L2 TL
def ShN : Nat → D → Prop
  | n, d => (match d with
    | .non => True
    | .bl _ => True
    | .int _ => True
    | .str s => PyData.strOk s = true
    | .tup ds => (match n with
      | 0 => False
      | m + 1 => ∀ e ∈ ds, ShN m e)
    | .lst ds => (match n with
      | 0 => False
      | m + 1 => ∀ e ∈ ds, ShN m e)
    | _ => False)
theorem ShN.tup {n : Nat} {ds : List D} (h : ∀ e ∈ ds, ShN n e) : ShN (n + 1) (.tup ds) := by unfold ShN; exact h
theorem ShN.lst {n : Nat} {ds : List D} (h : ∀ e ∈ ds, ShN n e) : ShN (n + 1) (.lst ds) := by unfold ShN; exact h
theorem ShN.int (n : Nat) (i : Int) : ShN n (.int i) := by unfold ShN; trivial
theorem ShN.str {n : Nat} {a : List Nat} (h : asc a = true) : ShN n (.str (mk a)) := by unfold ShN; exact strOk_mk h
end AM
namespace AM
open PySem PySem.Spec PyProof.Rows L2 TL
inductive Wx {α : Type} : Res α → (α → Sto → Prop) → Prop where
  | mk {a : α} {st : Sto} {P : α → Sto → Prop} (h : P a st) : Wx (.ok a st) P
inductive Ws : SR → (AEnv → Sto → Prop) → (D → Sto → Prop) → Prop where
  | nx {e : AEnv} {s : Sto} {N : AEnv → Sto → Prop} {T : D → Sto → Prop} (h : N e s) : Ws (.nx e s) N T
  | rt {d : D} {s : Sto} {N : AEnv → Sto → Prop} {T : D → Sto → Prop} (h : T d s) : Ws (.rt d s) N T
def En (N : AEnv → Sto → Prop) (E : AEnv) (s : Sto) : Prop := N E s
section
variable {α β : Type} {P : α → Sto → Prop} {Q : β → Sto → Prop} {V : D → Sto → Prop} {B : Bool → Sto → Prop} {Ls : List D → Sto → Prop} {N : AEnv → Sto → Prop} {T : D → Sto → Prop} {env : AEnv} {st st' : Sto} {f g fa fb fc : EF} {t t2 : TF} {fs : EFs} {F : DF} {k k' : Op2} {k1 : Op1} {d : D} {ds : List D} {i j : Nat} {u v : SF}
theorem en_of {E E0 : AEnv} (e : E = E0) (h : N E0 st) : En N E st := by
  subst e
  exact h
theorem wx_eq {r : Res α} {a : α} (e : r = .ok a st) (h : P a st) : Wx r P := by rw [e]; exact .mk h
theorem wx_ex {r : Res α} (h : Wx r P) : ∃ a st, r = .ok a st ∧ P a st := by
  cases h with
  | mk h => exact ⟨_, _, rfl, h⟩
theorem wx_mono {r : Res α} {P' : α → Sto → Prop} (h : Wx r P) (i : ∀ a s, P a s → P' a s) : Wx r P' := by
  cases h with
  | mk h => exact .mk (i _ _ h)
theorem ws_mono {r : SR} {N' : AEnv → Sto → Prop} {T' : D → Sto → Prop} (h : Ws r N T) (i : ∀ e s, N e s → N' e s) (i2 : ∀ d s, T d s → T' d s) : Ws r N' T' := by
  cases h with
  | nx h => exact .nx (i _ _ h)
  | rt h => exact .rt (i2 _ _ h)
theorem wx_bind {r : Res α} {h : α → Sto → Res β} (e : Wx r fun a s => Wx (h a s) Q) : Wx (r.bind h) Q := by
  cases e with
  | mk e => exact e
theorem ws_then {r : Res α} {h : α → Sto → SR} (e : Wx r fun a s => Ws (h a s) N T) : Ws (r.then h) N T := by
  cases e with
  | mk e => exact e
theorem ws_bind {r : SR} {h : AEnv → Sto → SR} (e : Ws r (fun a s => Ws (h a s) N T) T) : Ws (r.bind h) N T := by
  cases e with
  | nx e => exact e
  | rt e => exact .rt e
theorem ws_onx {r : SR} (e : Ws r N fun _ _ => False) : Ws (onlyNx r) N T := by
  cases e with
  | nx e => exact .nx e
  | rt e => exact e.elim
theorem wx_run {n M : Nat} (hl : ds.length = n) (h : En (fun E s => Ws (u E s) (fun _ s => V .non s) V) (ds.map Sl.sh ++ List.replicate (M - n) .un) st) : Wx (runD n M u ds st) V := by
  unfold runD
  rw [if_pos hl]
  have h : Ws (u (ds.map Sl.sh ++ List.replicate (M - n) .un) st) (fun _ s => V .non s) V := h
  generalize u (ds.map Sl.sh ++ List.replicate (M - n) .un) st = q at h
  cases h with
  | nx h => exact .mk h
  | rt h => exact .mk h
theorem wx_dVar (e : env[i]? = some (.sh d)) (h : V d st) : Wx (dVar i env st) V := by
  have q : dVar i env st = .ok d st := by unfold dVar; rw [e]
  rw [q]; exact .mk h
theorem wx_dOwn (e : env[i]? = some (.own ds)) (h : V (.lst ds) st) : Wx (dOwn i env st) V := by
  have q : dOwn i env st = .ok (.lst ds) st := by unfold dOwn; rw [e]
  rw [q]; exact .mk h
theorem wx_dOwn' (e : env[i]? = some (.sh d)) (h : V d st) : Wx (dOwn i env st) V := by
  have q : dOwn i env st = .ok d st := by unfold dOwn; rw [e]
  rw [q]; exact .mk h
theorem wx_dC (h : V d st) : Wx (dC d env st) V := .mk h
theorem wx_dOp2 (h : Wx (fa env st) fun a s => Wx (fb env s) fun b s => Wx (k a b s) V) : Wx (dOp2 k fa fb env st) V := wx_bind (wx_mono h fun a s h => wx_bind h)
theorem wx_dOp1 (h : Wx (fa env st) fun a s => Wx (k1 a s) V) : Wx (dOp1 k1 fa env st) V := wx_bind h
theorem wx_gTru (h : Wx (fa env st) fun a s => ∃ b, truD a = some b ∧ B b s) : Wx (gTru fa env st) B := wx_bind (wx_mono h fun a s ⟨b, e, h⟩ => by rw [e]; exact .mk h)
theorem wx_gBl (h : Wx (fa env st) fun a s => ∃ b, a = .bl b ∧ B b s) : Wx (gBl fa env st) B := wx_bind (wx_mono h fun a s ⟨b, e, h⟩ => by subst e; exact .mk h)
theorem wx_dChain (h : Wx (fa env st) fun a s => Wx (fb env s) fun b s => Wx (k a b s) fun r s => ∃ c, r = .bl c ∧ (c = true → Wx (fc env s) fun c s => Wx (k' b c s) V) ∧ (c = false → V (.bl false) s)) : Wx (dChain k k' fa fb fc env st) V :=
  wx_bind (wx_mono h fun a s h => wx_bind (wx_mono h fun b s h => wx_bind (wx_mono h fun r s ⟨c, e, h1, h2⟩ => by
    subst e
    cases c with
    | true => exact wx_bind (h1 rfl)
    | false => exact .mk (h2 rfl))))
theorem wx_gAnd (h : Wx (t env st) fun b s => (b = true → Wx (t2 env s) B) ∧ (b = false → B false s)) : Wx (gAnd t t2 env st) B := wx_bind (wx_mono h fun b s ⟨h1, h2⟩ => by
  cases b with
  | true => exact h1 rfl
  | false => exact .mk (h2 rfl))
theorem wx_gOr (h : Wx (t env st) fun b s => (b = true → B true s) ∧ (b = false → Wx (t2 env s) B)) : Wx (gOr t t2 env st) B := wx_bind (wx_mono h fun b s ⟨h1, h2⟩ => by
  cases b with
  | true => exact .mk (h1 rfl)
  | false => exact h2 rfl)
theorem wx_gNot (h : Wx (t env st) fun b s => B (!b) s) : Wx (gNot t env st) B := wx_bind (wx_mono h fun _ _ h => .mk h)
theorem wx_dAnd (h : Wx (f env st) fun d s => ∃ b, d = .bl b ∧ (b = true → Wx (g env s) V) ∧ (b = false → V (.bl false) s)) : Wx (dAnd f g env st) V := wx_bind (wx_mono h fun d s ⟨b, e, h1, h2⟩ => by
  subst e
  cases b with
  | true => exact h1 rfl
  | false => exact .mk (h2 rfl))
theorem wx_dOr (h : Wx (f env st) fun d s => ∃ b, d = .bl b ∧ (b = true → V (.bl true) s) ∧ (b = false → Wx (g env s) V)) : Wx (dOr f g env st) V := wx_bind (wx_mono h fun d s ⟨b, e, h1, h2⟩ => by
  subst e
  cases b with
  | true => exact .mk (h1 rfl)
  | false => exact h2 rfl)
theorem wx_dNot (h : Wx (f env st) fun d s => ∃ b, d = .bl b ∧ V (.bl (!b)) s) : Wx (dNot f env st) V := wx_bind (wx_mono h fun d s ⟨b, e, h⟩ => by subst e; exact .mk h)
theorem wx_dIf (h : Wx (t env st) fun b s => (b = true → Wx (f env s) V) ∧ (b = false → Wx (g env s) V)) : Wx (dIf t f g env st) V := wx_bind (wx_mono h fun b s ⟨h1, h2⟩ => by
  cases b with
  | true => exact h1 rfl
  | false => exact h2 rfl)
theorem wx_dNeg (h : Wx (f env st) fun d s => ∃ n, d = .int n ∧ V (.int (-n)) s) : Wx (dNeg f env st) V := wx_bind (wx_mono h fun d s ⟨b, e, h⟩ => by subst e; exact .mk h)
theorem wx_dNil (h : Ls [] st) : Wx (dNil env st) Ls := .mk h
theorem wx_dCons (h : Wx (f env st) fun d s => Wx (fs env s) fun ds s => Ls (d :: ds) s) : Wx (dCons f fs env st) Ls := wx_bind (wx_mono h fun d s h => wx_bind (wx_mono h fun _ _ h => .mk h))
theorem wx_dTup (h : Wx (fs env st) fun ds s => ds.length ≤ 16777216 ∧ V (.tup ds) s) : Wx (dTup fs env st) V := wx_bind (wx_mono h fun ds s ⟨h1, h2⟩ => by rw [← sizeLine_val] at h1; rw [if_pos h1]; exact .mk h2)
theorem wx_dLst (h : Wx (fs env st) fun ds s => ds.length ≤ 16777216 ∧ V (.lst ds) s) : Wx (dLst fs env st) V := wx_bind (wx_mono h fun ds s ⟨h1, h2⟩ => by rw [← sizeLine_val] at h1; rw [if_pos h1]; exact .mk h2)
theorem wx_dLstF (h : Wx (fs env st) fun ds s => ds.length ≤ 16777216 ∧ Ls ds s) : Wx (dLstF fs env st) Ls := wx_bind (wx_mono h fun ds s ⟨h1, h2⟩ => by rw [← sizeLine_val] at h1; rw [if_pos h1]; exact .mk h2)
theorem wx_dF {fi : IF} (h : Wx (fi env st) fun ds s => V (.lst ds) s) : Wx (dF fi env st) V := wx_bind (wx_mono h fun _ _ h => .mk h)
theorem wx_dCall (h : Wx (fs env st) fun ds s => Wx (F ds s) V) : Wx (dCall F fs env st) V := wx_bind h
theorem wx_oNo {O : Option Int → Sto → Prop} (h : O none st) : Wx (oNo env st) O := .mk h
theorem wx_oSo {O : Option Int → Sto → Prop} (h : Wx (f env st) fun d s => ∃ n, d = .int n ∧ O (some n) s) : Wx (oSo f env st) O := wx_bind (wx_mono h fun d s ⟨b, e, h⟩ => by subst e; exact .mk h)
theorem wx_dSl {lo hi : OF} (h : Wx (f env st) fun d s => Wx (lo env s) fun l s => Wx (hi env s) fun h s => Wx (oSl d l h s) V) : Wx (dSl f lo hi env st) V := wx_bind (wx_mono h fun d s h => wx_bind (wx_mono h fun d s h => wx_bind h))
theorem wx_dM1 {q : SOp1} (h : Wx (fa env st) fun a s => ∃ z, a = .str z ∧ Wx (fb env s) fun b s => Wx (q z b s) V) : Wx (dM1 q fa fb env st) V := wx_bind (wx_mono h fun a s ⟨z, e, h⟩ => by subst e; exact wx_bind h)
theorem wx_dM0 {q : SOp0} (h : Wx (fa env st) fun a s => ∃ z, a = .str z ∧ Wx (q z s) V) : Wx (dM0 q fa env st) V := wx_bind (wx_mono h fun a s ⟨z, e, h⟩ => by subst e; exact h)
theorem wx_dFld {cs : List Nat} {x : Str} (h : Wx (f env st) fun d s => ∃ e, fldOf cs x d s = some e ∧ V e s) : Wx (dFld cs x f env st) V := wx_bind (wx_mono h fun d s ⟨b, e, h⟩ => by rw [e]; exact .mk h)
theorem wx_dProp {c : Nat} (h : Wx (f env st) fun d s => isI c d s = true ∧ Wx (F [d] s) V) : Wx (dProp c F f env st) V := wx_bind (wx_mono h fun d s ⟨e, h⟩ => by
  rw [if_pos e]
  obtain ⟨a, s2, q, h⟩ := wx_ex h
  rw [q]; exact .mk h)
theorem wx_dOwn2 {c : Nat} (h : Wx (fa env st) fun a s => Wx (fb env s) fun b s => (isI c a s && isI c b s) = true ∧ Wx (F [a, b] s) V) : Wx (dOwn2 c F fa fb env st) V := wx_bind (wx_mono h fun a s h => wx_bind (wx_mono h fun b s ⟨e, h⟩ => by rw [if_pos e]; exact h))
theorem wx_gTruC {c : Nat} (h : Wx (f env st) fun d s => isI c d s = true ∧ Wx (F [d] s) fun r s => ∃ b, r = .bl b ∧ B b s) : Wx (gTruC c F f env st) B := wx_bind (wx_mono h fun d s ⟨e, h⟩ => by
  rw [if_pos e]
  obtain ⟨a, s2, e1, b, rfl, hb⟩ := wx_ex h
  rw [e1]; exact .mk hb)
theorem wx_iSeq (h : Wx (f env st) fun d s => Wx (itemsD d s) Ls) : Wx (iSeq f env st) Ls := wx_bind h
def okRb (n : Int) : Bool := decide (-100000000 ≤ n) && decide (n ≤ 100000000)
theorem okRb_iff {n : Int} : okRb n = true ↔ -100000000 ≤ n ∧ n ≤ 100000000 := by simp [okRb]
theorem okRb_of {n : Int} (h1 : -100000000 ≤ n) (h2 : n ≤ 100000000) : okRb n = true := okRb_iff.mpr ⟨h1, h2⟩
theorem wx_iRan (h : Wx (f env st) fun d s => ∃ n, d = .int n ∧ okRb n = true ∧ Ls (rng 0 n.toNat) s) : Wx (iRan f env st) Ls := by
  obtain ⟨d, s, e, n, rfl, h1, h⟩ := wx_ex h
  have ⟨h1, h2⟩ := okRb_iff.mp h1
  rw [iRan_ok e (okR_of h1 h2)]
  exact .mk h
theorem ws_sSeq (h : Ws (u env st) (fun e s => Ws (v e s) N T) T) : Ws (sSeq u v env st) N T := ws_bind h
theorem ws_sPass (h : N env st) : Ws (sPass env st) N T := .nx h
theorem ws_sRet (h : Wx (f env st) T) : Ws (sRet f env st) N T := ws_then (wx_mono h fun _ _ h => .rt h)
theorem ws_sExpr (h : Wx (f env st) fun _ s => N env s) : Ws (sExpr f env st) N T := ws_then (wx_mono h fun _ _ h => .nx h)
theorem ws_sSet (h : Wx (f env st) fun d s => En N (env.set i (.sh d)) s) : Ws (sSet i f env st) N T := ws_then (wx_mono h fun _ _ h => .nx h)
theorem ws_sOwn {fi : IF} (h : Wx (fi env st) fun ds s => En N (env.set i (.own ds)) s) : Ws (sOwn i fi env st) N T := ws_then (wx_mono h fun _ _ h => .nx h)
theorem ws_sIf (h : Wx (t env st) fun b s => (b = true → Ws (u env s) N T) ∧ (b = false → Ws (v env s) N T)) : Ws (sIf t u v env st) N T := ws_then (wx_mono h fun b s ⟨h1, h2⟩ => by
  cases b with
  | true => exact h1 rfl
  | false => exact h2 rfl)
theorem ws_sAsg {g : GF} (h : Wx (f env st) fun d s => Ws (g d env s) N fun _ _ => False) : Ws (sAsg f g env st) N T := ws_then (wx_mono h fun d s h => ws_onx h)
theorem ws_sPar (h : Wx (fs env st) fun ds s => ∃ d e, ds = [d, e] ∧ En N ((env.set i (.sh d)).set j (.sh e)) s) : Ws (sPar i j fs env st) N T := ws_then (wx_mono h fun ds s ⟨d, e, q, h⟩ => by subst q; exact .nx h)
theorem ws_gNm (h : En N (env.set i (.sh d)) st) : Ws (gNm i d env st) N T := .nx h
theorem ws_gTup {n : Nat} {gs : GFs} (hn : ds.length = n) (h : Ws (gs ds env st) N T) : Ws (gTupD n gs (.tup ds) env st) N T := by
  rw [ev_gTupD, if_pos hn]; exact h
theorem ws_gNil (h : N env st) : Ws (gNilD [] env st) N T := .nx h
theorem ws_gCons {g : GF} {gs : GFs} (h : Ws (g d env st) (fun e s => Ws (gs ds e s) N T) fun _ _ => False) : Ws (gConsD g gs (d :: ds) env st) N T := ws_bind (ws_onx h)
theorem ws_sApp (e : env[i]? = some (.own ds)) (h : Wx (f env st) fun d s => ds.length < 16777216 ∧ En N (env.set i (.own (ds ++ [d]))) s) : Ws (sApp i f env st) N T := by
  unfold sApp
  rw [e]
  exact ws_then (wx_mono h fun d s ⟨h1, h2⟩ => by rw [← sizeLine_val] at h1; rw [if_pos h1]; exact .nx h2)
theorem ws_frz (e : env[i]? = some (.own ds)) (h : En (fun E s => Ws (u E s) N T) (env.set i (.sh (.lst ds))) st) : Ws (frz i u env st) N T := by
  unfold frz
  rw [e]; exact h
theorem ws_frz' (e : env[i]? = some (.sh d)) (h : Ws (u env st) N T) : Ws (frz i u env st) N T := by
  unfold frz
  rw [e]; exact h
theorem ws_forL {g : GF} {h : SF} (I : List D → List D → AEnv → Sto → Prop) : ∀ (items done : List D) (env : AEnv) (st : Sto), I done items env st →
    (∀ done d rest env st, I done (d :: rest) env st → Ws (g d env st) (fun e s => Ws (h e s) (fun e s => I (done ++ [d]) rest e s) T) fun _ _ => False) → (∀ done env st, I done [] env st → N env st) → Ws (forL g h items env st) N T
  | [], done, env, st, hI, _, hN => .nx (hN done env st hI)
  | d :: ds, done, env, st, hI, hs, hN => by
    have q := hs done d ds env st hI
    unfold forL
    refine ws_bind (ws_onx ?_)
    refine ws_mono q (fun e s q => ?_) fun _ _ h => h.elim
    generalize h e s = z at q
    cases q with
    | nx q => exact ws_forL I ds (done ++ [d]) _ _ q hs hN
    | rt q => exact .rt q
theorem ws_sFor {fi : IF} {g : GF} {h : SF} (e : Wx (fi env st) fun items s => Ws (forL g h items env s) N T) : Ws (sFor fi g h env st) N T := by
  unfold sFor
  exact ws_then e
end
end AM
namespace AM
open PySem PySem.Spec PyProof.Rows L2 TL
section
variable {V : D → Sto → Prop} {B : Bool → Sto → Prop} {Ls : List D → Sto → Prop} {st : Sto} {X Y : Prop}
theorem and_t (h : X) : ((true = true) → X) ∧ ((true = false) → Y) := ⟨fun _ => h, fun e => by cases e⟩
theorem and_f (h : Y) : ((false = true) → X) ∧ ((false = false) → Y) := ⟨fun e => (by cases e), fun _ => h⟩
theorem and_nT (h : Y) : (((!true) = true) → X) ∧ (((!true) = false) → Y) := and_f h
theorem and_nF (h : X) : (((!false) = true) → X) ∧ (((!false) = false) → Y) := and_t h
theorem and_dt {c : Prop} [Decidable c] (hc : c) (h : X) : ((decide c = true) → X) ∧ ((decide c = false) → Y) := by rw [decide_eq_true hc]; exact and_t h
theorem and_df {c : Prop} [Decidable c] (hc : ¬ c) (h : Y) : ((decide c = true) → X) ∧ ((decide c = false) → Y) := by rw [decide_eq_false hc]; exact and_f h
theorem and_nt {c : Prop} [Decidable c] (hc : c) (h : Y) : (((!decide c) = true) → X) ∧ (((!decide c) = false) → Y) := by rw [decide_eq_true hc]; exact and_f h
theorem and_nf {c : Prop} [Decidable c] (hc : ¬ c) (h : X) : (((!decide c) = true) → X) ∧ (((!decide c) = false) → Y) := by rw [decide_eq_false hc]; exact and_t h
theorem and_by {c : Prop} [Decidable c] (h : c → X) (h2 : ¬ c → Y) : ((decide c = true) → X) ∧ ((decide c = false) → Y) := ⟨fun e => h (of_decide_eq_true e), fun e => h2 (of_decide_eq_false e)⟩
theorem wi_add {i j : Int} (h : V (.int (i + j)) st) : Wx (oAdd (.int i) (.int j) st) V := .mk h
theorem wi_sub {i j : Int} (h : V (.int (i - j)) st) : Wx (oSub (.int i) (.int j) st) V := .mk h
theorem wi_lt {i j : Int} (h : V (.bl (decide (i < j))) st) : Wx (oLt (.int i) (.int j) st) V := .mk h
theorem wi_le {i j : Int} (h : V (.bl (decide (i ≤ j))) st) : Wx (oLe (.int i) (.int j) st) V := .mk h
theorem wi_gt {i j : Int} (h : V (.bl (decide (j < i))) st) : Wx (oGt (.int i) (.int j) st) V := .mk h
theorem wi_ge {i j : Int} (h : V (.bl (decide (j ≤ i))) st) : Wx (oGe (.int i) (.int j) st) V := .mk h
theorem wi_eq {i j : Int} (h : V (.bl (decide (i = j))) st) : Wx (oEq (.int i) (.int j) st) V := .mk h
theorem wi_ne {i j : Int} (h : V (.bl (!decide (i = j))) st) : Wx (oNe (.int i) (.int j) st) V := .mk h
theorem wi_max {i j : Int} (h : V (.int (if j > i then j else i)) st) : Wx (oMax (.int i) (.int j) st) V := .mk h
theorem wi_min {i j : Int} (h : V (.int (if j < i then j else i)) st) : Wx (oMin (.int i) (.int j) st) V := .mk h
theorem wi_lenT {ds : List D} (h : V (.int ds.length) st) : Wx (oLen (.tup ds) st) V := .mk h
theorem wi_lenL {ds : List D} (h : V (.int ds.length) st) : Wx (oLen (.lst ds) st) V := .mk h
theorem wi_lenF {ds : List D} (h : V (.int ds.length) st) : Wx (oLen (.fz ds) st) V := .mk h
theorem wi_itT {ds : List D} (h : Ls ds st) : Wx (itemsD (.tup ds) st) Ls := .mk h
theorem wi_itL {ds : List D} (h : Ls ds st) : Wx (itemsD (.lst ds) st) Ls := .mk h
theorem wi_itF {ds : List D} (h : Ls ds st) : Wx (itemsD (.fz ds) st) Ls := .mk h
theorem wi_itS {a : List Nat} (h : Ls (a.map fun c => .str (mk [c])) st) : Wx (itemsD (.str (mk a)) st) Ls := .mk h
theorem wi_tupL {ds : List D} (h : V (.tup ds) st) : Wx (oTupT (.lst ds) st) V := .mk h
theorem wi_tupT {ds : List D} (h : V (.tup ds) st) : Wx (oTupT (.tup ds) st) V := .mk h
theorem wi_isN {d : D} (h : V (.bl d.isNon) st) : Wx (oIs d .non st) V := .mk h
theorem wi_isNN {d : D} (h : V (.bl (!d.isNon)) st) : Wx (oIsNot d .non st) V := .mk h
theorem wi_ixT {ds : List D} {i : Int} {d : D} (e : atI ds i = some d) (h : V d st) : Wx (oIx (.tup ds) (.int i) st) V := wx_eq (ev_ixT e st) h
theorem wi_ixL {ds : List D} {i : Int} {d : D} (e : atI ds i = some d) (h : V d st) : Wx (oIx (.lst ds) (.int i) st) V := wx_eq (ev_ixL e st) h
theorem wi_ixF {ds : List D} {i : Int} {d : D} (e : atI ds i = some d) (h : V d st) : Wx (oIx (.fz ds) (.int i) st) V := wx_eq (ev_ixF e st) h
theorem wi_len {a : List Nat} (hz : a.length ≤ 16777216) (h : V (.int a.length) st) : Wx (oLen (.str (mk a)) st) V := wx_eq (ev_lenS hz st) h
theorem wi_addT {a b : List D} (hz : a.length + b.length ≤ 16777216) (h : V (.tup (a ++ b)) st) : Wx (oAdd (.tup a) (.tup b) st) V := by
  have e : oAdd (.tup a) (.tup b) st = .ok (.tup (a ++ b)) st := by
    show (if a.length + b.length ≤ sizeLine then _ else _) = _
    rw [if_pos (by rw [sizeLine_val]; exact hz)]
  exact wx_eq e h
theorem wi_mul {i j : Int} (hz : (small64 i || small64 j) = true) (h : V (.int (i * j)) st) : Wx (oMul (.int i) (.int j) st) V := by
  have e : oMul (.int i) (.int j) st = .ok (.int (i * j)) st := by
    show (if (small64 i || small64 j) = true then _ else _) = _
    rw [hz]; rfl
  exact wx_eq e h
theorem wi_mod {i j : Int} (hz : 0 < j) (h : V (.int (i % j)) st) : Wx (oMod (.int i) (.int j) st) V := wx_eq (ev_mod hz st) h
theorem wi_intT {i : Int} (h : V (.int i) st) : Wx (oIntT (.int i) st) V := .mk h
theorem wi_inM {c : Nat} {z : List Nat} (h : V (.bl (decide (c ∈ z))) st) : Wx (oIn (.str (mk [c])) (.str (mk z)) st) V := .mk h
theorem wi_notInM {c : Nat} {z : List Nat} (h : V (.bl (!decide (c ∈ z))) st) : Wx (oNotIn (.str (mk [c])) (.str (mk z)) st) V := .mk h
theorem wx_all {fi : IF} {env : AEnv} (h : Wx (fi env st) fun ds s => ∃ bs : List Bool, ds = bs.map D.bl ∧ V (.bl (bs.all id)) s) : Wx (dOp1 oAll (dF fi) env st) V := by
  obtain ⟨ds, s, e, bs, rfl, h⟩ := wx_ex h
  exact wx_eq (all_ok e) h
theorem wx_any {fi : IF} {env : AEnv} (h : Wx (fi env st) fun ds s => ∃ bs : List Bool, ds = bs.map D.bl ∧ V (.bl (bs.any id)) s) : Wx (dOp1 oAny (dF fi) env st) V := by
  obtain ⟨ds, s, e, bs, rfl, h⟩ := wx_ex h
  exact wx_eq (any_ok e) h
theorem wx_compS {tup : Bool} {is vs : List Nat} {fi : IF} {f : EF} {env : AEnv} (I : Sto → Prop) (P : D → Prop) (ho : noOwn env vs = true) (hi : ∀ i ∈ is, i ∈ vs)
    (h : Wx (fi env st) fun ds s => ds.length ≤ 16777216 ∧ I s ∧ (∀ d ∈ ds, ∀ s, I s → ∃ es, tgC tup is d = some es ∧ En (fun E s => Wx (f E s) fun y s2 => P y ∧ I s2) (putAll (wipeE env vs) is es) s) ∧ (∀ ys s2, ys.length = ds.length → (∀ y ∈ ys, P y) → I s2 → Ls ys s2)) :
    Wx (compF fi tup is vs tYesD f env st) Ls := by
  obtain ⟨ds, s, e, hz, h0, h1, h2⟩ := wx_ex h
  obtain ⟨ys, s2, g1, g2, g3, g4⟩ := compF_any (tup := tup) (is := is) (vs := vs) (t := tYesD) I P ho hi e h0 (fun d hd s hs => by
    obtain ⟨es, e1, hw⟩ := h1 d hd s hs
    obtain ⟨y, s2, e2, hy, hs2⟩ := wx_ex hw
    exact ⟨es, y, s2, e1, rfl, e2, hy, hs2⟩) (by rw [sizeLine_val]; exact hz)
  exact wx_eq g1 (h2 ys s2 g2 g3 g4)
end
end AM
namespace AM
open PySem PySem.Spec PyProof.Rows L2 TL
def Rp (n k : Nat) (d : D) : Prop := ∃ x, d.py = some x ∧ x.canLay0 = true ∧ x.depth ≤ n ∧ PyData.showable x = true ∧ shL x ≤ k
theorem Rp.mono {n k n' k' : Nat} {d : D} (h : Rp n k d) (hn : n ≤ n') (hk : k ≤ k') : Rp n' k' d := by
  obtain ⟨x, h1, h2, h3, h4, h5⟩ := h
  exact ⟨x, h1, h2, Nat.le_trans h3 hn, h4, Nat.le_trans h5 hk⟩
theorem Rp.non : Rp 0 4 .non := ⟨.none, by unfold D.py; rfl, by simp [PyData.canLay0], by simp [PyData.depth], by simp [PyData.showable], by simp [shL]⟩
theorem Rp.bl (b : Bool) : Rp 0 5 (.bl b) := ⟨.bool b, by unfold D.py; rfl, by simp [PyData.canLay0], by simp [PyData.depth], by simp [PyData.showable], by simp [shL]⟩
theorem Rp.int {i : Int} {k : Nat} (h : i.natAbs < 2 ^ k) (hk : k < 1920) : Rp 0 (k + 2) (.int i) := by
  have hl : i.natAbs.log2 ≤ k := by
    by_cases h0 : i.natAbs = 0
    · rw [h0]; exact Nat.zero_le _
    · exact Nat.le_of_lt ((Nat.log2_lt h0).mpr h)
  exact ⟨.int i, by unfold D.py; rfl, by simp [PyData.canLay0], by simp [PyData.depth], by simp [PyData.showable]; omega, by simp [shL]; omega⟩
theorem Rp.str {a : List Nat} (h : asc a = true) : Rp 0 (10 * a.length + 2) (.str (mk a)) := ⟨.str (mk a), by unfold D.py; rfl, by simpa [PyData.canLay0] using strOk_mk h, by simp [PyData.depth], by simp [PyData.showable], by simp [shL, mk_len]⟩
theorem Rp.all {n k : Nat} : ∀ ds : List D, (∀ d ∈ ds, Rp n k d) → ∃ xs, pyL ds = some xs ∧ PyData.canLayAll0 xs = true ∧ PyData.depthAll xs ≤ n ∧ PyData.showableAll xs = true ∧ shLs xs ≤ ds.length * (k + 2)
  | [], _ => ⟨[], by unfold pyL; rfl, by simp [PyData.canLayAll0], by simp [PyData.depthAll], by simp [PyData.showableAll], by simp [shLs]⟩
  | d :: ds, h => by
    obtain ⟨x, e1, e2, e3, e4, e5⟩ := h d List.mem_cons_self
    obtain ⟨xs, f1, f2, f3, f4, f5⟩ := Rp.all ds fun d hd => h d (List.mem_cons_of_mem _ hd)
    refine ⟨x :: xs, by unfold pyL; rw [e1, f1], by simp [PyData.canLayAll0, e2, f2], ?_, by simp [PyData.showableAll, e4, f4], ?_⟩
    · simp only [PyData.depthAll]; omega
    · simp only [shLs, List.length_cons, Nat.succ_mul]; omega
theorem Rp.tup {n k m : Nat} {ds : List D} (h : ∀ d ∈ ds, Rp n k d) (hm : ds.length ≤ m) : Rp (n + 1) (m * (k + 2) + 3) (.tup ds) := by
  obtain ⟨xs, f1, f2, f3, f4, f5⟩ := Rp.all ds h
  have : ds.length * (k + 2) ≤ m * (k + 2) := Nat.mul_le_mul_right _ hm
  exact ⟨.tuple xs, by unfold D.py; rw [f1]; rfl, by simpa [PyData.canLay0] using f2, by simp only [PyData.depth]; omega, by simpa [PyData.showable] using f4, by simp only [shL]; omega⟩
theorem Rp.lst {n k m : Nat} {ds : List D} (h : ∀ d ∈ ds, Rp n k d) (hm : ds.length ≤ m) : Rp (n + 1) (m * (k + 2) + 3) (.lst ds) := by
  obtain ⟨xs, f1, f2, f3, f4, f5⟩ := Rp.all ds h
  have : ds.length * (k + 2) ≤ m * (k + 2) := Nat.mul_le_mul_right _ hm
  exact ⟨.list xs, by unfold D.py; rw [f1]; rfl, by simpa [PyData.canLay0] using f2, by simp only [PyData.depth]; omega, by simpa [PyData.showable] using f4, by simp only [shL]; omega⟩
theorem Rp.sh {n k : Nat} {d : D} (h : Rp n k d) (hn : n ≤ 64) : shD d = true := by
  obtain ⟨x, e1, e2, e3, _⟩ := h
  unfold shD
  rw [e1]
  show SeqAt.shaped x = true
  unfold SeqAt.shaped
  rw [e2]
  exact decide_eq_true (Nat.le_trans e3 hn)
end AM
namespace AM
open PySem PySem.Spec PyProof.Rows L2 TL
local macro_rules | `(tactic| walk_at "en") => `(tactic| ((try simp only [List.map_cons, List.map_nil, List.replicate, List.replicate_zero, List.replicate_succ, List.cons_append, List.nil_append, List.set_cons_zero, List.set_cons_succ, Nat.reduceSub, Nat.reduceAdd, List.reduceReplicate, AM.putAll, AM.wipeE, List.foldl_cons, List.foldl_nil, List.zip_cons_cons, List.zip_nil_left, List.zip_nil_right]); with_unfolding_all rfl))
local macro_rules | `(tactic| walk_at "wp") => `(tactic| repeat' (with_reducible first
  | refine wx_dVar (by with_unfolding_all rfl) ?_ | refine wx_dC ?_ | refine wx_dOp2 ?_ | refine wx_all ?_ | refine wx_any ?_ | refine wx_dOp1 ?_ | refine wx_gBl ?_ | refine wx_gTru ?_ | refine wx_dCall ?_ | refine wx_dCons ?_ | refine wx_dNil ?_
  | refine en_of (by walk_at "en") ?_ | refine ws_sSeq ?_ | refine ws_sIf ?_ | refine ws_sRet ?_ | refine ws_sSet ?_ | refine ws_sAsg ?_ | refine ws_sPass ?_ | refine ws_sExpr ?_ | refine ws_sOwn ?_ | refine ws_sFor ?_ | refine ws_sPar ?_
  | refine ws_gNm ?_ | refine ws_gTup (by with_unfolding_all rfl) ?_ | refine ws_gNil ?_ | refine ws_gCons ?_
  | refine wx_dOwn (by with_unfolding_all rfl) ?_ | refine wx_dOwn' (by with_unfolding_all rfl) ?_ | refine ws_frz (by with_unfolding_all rfl) ?_ | refine ws_frz' (by with_unfolding_all rfl) ?_ | refine ws_sApp (by with_unfolding_all rfl) ?_
  | refine wx_dChain ?_ | refine wx_gAnd ?_ | refine wx_gOr ?_ | refine wx_gNot ?_ | refine wx_dAnd ?_ | refine wx_dOr ?_ | refine wx_dNot ?_ | refine wx_dIf ?_ | refine wx_dNeg ?_
  | refine wx_dTup ?_ | refine wx_dLst ?_ | refine wx_dLstF ?_ | refine wx_dF ?_ | refine wx_oNo ?_ | refine wx_oSo ?_ | refine wx_dSl ?_ | refine wx_dM1 ?_ | refine wx_dM0 ?_ | refine wx_dFld ?_ | refine wx_dProp ?_ | refine wx_dOwn2 ?_ | refine wx_gTruC ?_ | refine wx_iSeq ?_ | refine wx_iRan ?_
  | refine wi_add ?_ | refine wi_sub ?_ | refine wi_lt ?_ | refine wi_le ?_ | refine wi_gt ?_ | refine wi_ge ?_ | refine wi_eq ?_ | refine wi_ne ?_ | refine wi_max ?_ | refine wi_min ?_ | refine wi_lenT ?_ | refine wi_lenL ?_ | refine wi_lenF ?_
  | refine wi_itT ?_ | refine wi_itL ?_ | refine wi_itF ?_ | refine wi_itS ?_ | refine wi_tupL ?_ | refine wi_tupT ?_ | refine wi_isN ?_ | refine wi_isNN ?_ | refine wi_intT ?_ | refine wi_inM ?_ | refine wi_notInM ?_
  | refine and_t ?_ | refine and_f ?_ | refine and_nT ?_ | refine and_nF ?_
  | refine Exists.intro _ (And.intro rfl ?_)
  | refine And.intro (Nat.le_of_ble_eq_true (by with_unfolding_all rfl)) ?_ | refine And.intro (show okRb _ = true by with_unfolding_all rfl) ?_))
section
theorem all_true {ys : List D} (h : ∀ y ∈ ys, y = .bl true) : ∃ bs : List Bool, ys = bs.map D.bl ∧ bs.all id = true := by
  refine ⟨List.replicate ys.length true, ?_, by simp⟩
  rw [List.map_replicate]
  exact List.eq_replicate_iff.mpr ⟨rfl, h⟩
theorem rng_mem {a : Int} {n : Nat} {d : D} (h : d ∈ rng a n) : ∃ i : Nat, i < n ∧ d = .int (a + i) := by
  unfold rng at h
  obtain ⟨i, hi, rfl⟩ := List.mem_map.mp h
  exact ⟨i, List.mem_range.mp hi, rfl⟩
theorem rng_length (a : Int) (n : Nat) : (rng a n).length = n := by unfold rng; simp
end
end AM
namespace HT
open PySem PyProof.Rows
section
open PySem.SeqAt
open PySem.AutoSeq1 (wpAny_loadPart')
open PySem.MeetsSeq PySem.MeetsSeq2 PySem.MeetsSeq3
variable {prog : Program} {w : World} {A : Around} {E : Value → Shared → Prop} {s : Shared}
theorem places_rev (n : Nat) : Builtin.Slice.slicePlaces ((n : Int) - 1) (-1) (-1) = n := by
  unfold Builtin.Slice.slicePlaces
  have h1 : ¬ ((-1 : Int) > 0) := by omega
  rw [if_neg h1]
  have e : -(-1 : Int) = 1 := rfl
  rw [e, Int.ediv_one]
  split <;> omega
theorem sliceApplied_rev {sl : Addr} {vs : Value} {n : Nat} {Q : Int × Int × Nat → Shared → Prop} (hs : s.heap.IsSliceOf sl .none .none vs) (ps : IsPart vs (some (-1)))
    (h : Q ((n : Int) - 1, -1, n) s) : wpAny (model prog w) A (Builtin.Slice.sliceApplied (.ref sl) (pure (n : Int))) Q E s := by
  obtain ⟨os, hos, hcs, hds⟩ := id hs
  unfold Builtin.Slice.sliceApplied Builtin.Slice.sliceFields
  refine wpAny_bind (wpAny_bind (wpAny_field hos hds (x := .none) rfl (wpAny_bind (wpAny_field hos hds (x := .none) rfl (wpAny_bind (wpAny_field hos hds (x := vs) rfl (wpAny_pure ?_)))))))
  refine wpAny_bind (slicePart_ ps ?_)
  show wpAny _ _ (if ((-1 : Int) == 0) = true then _ else _) _ _ s
  rw [if_neg (by decide)]
  refine wpAny_bind (slicePart_ .none (wpAny_bind (slicePart_ .none (wpAny_bind (wpAny_pure ?_)))))
  show wpAny _ _ (pure ((n : Int) - 1, (-1 : Int), Builtin.Slice.slicePlaces ((n : Int) - 1) (-1) (-1))) _ _ s
  rw [places_rev]
  exact wpAny_pure h
theorem pick_rev (xs : Array Value) : ((List.range xs.size).filterMap fun (m : Nat) => xs[(((xs.size : Nat) : Int) - 1 + (m : Int) * (-1)).toNat]?) = xs.toList.reverse := by
  have e : ∀ l : List Nat, (∀ m ∈ l, m < xs.size) → (l.filterMap fun (m : Nat) => xs[(((xs.size : Nat) : Int) - 1 + (m : Int) * (-1)).toNat]?) = (l.map fun m => xs.size - 1 - m).filterMap (xs[·]?) := by
    intro l hl
    rw [List.filterMap_map]
    induction l with
    | nil => rfl
    | cons m l ih =>
      have hm := hl m List.mem_cons_self
      have : (((xs.size : Nat) : Int) - 1 + (m : Int) * (-1)).toNat = xs.size - 1 - m := by omega
      rw [List.filterMap_cons, List.filterMap_cons, this, ih fun m hm => hl m (List.mem_cons_of_mem _ hm)]
      rfl
  rw [e _ fun m hm => List.mem_range.mp hm, PySem.W.krv_range, List.filterMap_reverse, PySem.W.krv_all]
theorem getItem_tuple_rev {t sl : Addr} {items : Array Value} {vs : Value} {Q : Value → Shared → Prop} (ht : IsTup s.heap t items) (hs : s.heap.IsSliceOf sl .none .none vs) (ps : IsPart vs (some (-1)))
    (h : Q (.ref s.heap.objs.size) { s with heap := s.heap.push { cls := .type "tuple", data := .seq items.toList.reverse.toArray } })
    (hsz : items.size ≤ sizeLine) : wpAny (model prog w) A (getItem (.ref t) (.ref sl)) Q E s := by
  have htake : sizeOk (.seq items.toList.reverse.toArray) := by
    show items.toList.reverse.toArray.size ≤ sizeLine
    rw [List.size_toArray, List.length_reverse, Array.length_toList]
    exact hsz
  obtain ⟨os, hos, hcs, hds⟩ := id hs
  have hTs : s.TypeIs (.ref sl) "slice" := ⟨os, hos, hcs⟩
  unfold getItem
  try with_reducible refine wpAny_holding ?_
  first | refine wpAny_bind (wpAny_pure ?_) | skip
  refine wpAny_bind (wpAny_sequenceKey ht.typeIs (by decide) ?_)
  refine wpAny_bind (wpAny_callSpecial?_slot (name := Str.ofString "__getitem__") ht.typeIs PyProof.Rows.slot_tuple_getitem
    (wpAny_call_entry PyProof.Rows.slot_tuple_getitem ht.typeIs entry_tuple_getitem ?_ (args_tuple_getitem _ _)))
  show wpAny _ _ (Builtin.Tuple.tupleItemsOf (.ref t) >>= _) _ _ s
  refine wpAny_bind (tupleItemsOf_ ht ?_)
  refine wpAny_bind (wpAny_typeOf hTs ?_)
  rw [if_pos (by decide)]
  refine wpAny_bind (sliceApplied_rev (n := items.size) hs ps ?_)
  have hno : ¬ ((((items.size : Int) - 1) == 0 && (-1 : Int) == 1 && items.size == items.size) = true) := by
    rw [show ((-1 : Int) == 1) = false from rfl, Bool.and_false, Bool.false_and]
    exact Bool.false_ne_true
  show wpAny _ _ (if (((items.size : Int) - 1) == 0 && (-1 : Int) == 1 && items.size == items.size) = true then _ else _) _ _ s
  rw [if_neg hno, pick_rev]
  first
    | exact wpAny_bind (m := Builtin.Tuple.tupleExact _) (wpAny_newObj_type (wpAny_pure ⟨_, rfl, wpAny_pure h⟩) htake)
    | exact wpAny_bind (m := Builtin.Tuple.tupleExact _) (wpAny_newObj_type (wpAny_bind (wpAny_pure (wpAny_pure ⟨_, rfl, wpAny_pure h⟩))) htake)
    | exact wpAny_bind (wpAny_bind (m := Builtin.Tuple.tupleExact _) (wpAny_newObj_type (wpAny_pure (wpAny_pure ⟨_, rfl, wpAny_pure h⟩)) htake))
    | exact wpAny_bind (wpAny_bind (m := Builtin.Tuple.tupleExact _) (wpAny_newObj_type (wpAny_pure ⟨_, rfl, wpAny_pure h⟩) htake))
end
end HT
namespace AM
open PySem PySem.Spec PyProof.Rows L2 TL
def oRev : Op1 := fun a st => match a with
  | .tup ds => .ok (.tup ds.reverse) st
  | .lst ds => .ok (.lst ds.reverse) st
  | .str s => if s.length ≤ sizeLine then .ok (.str (mk s.cps.toList.reverse)) st else .bad
  | _ => .bad
theorem str_rev (x : Str) : ((Builtin.Str.strSliceIndices none none (-1) x.length).filterMap (x.cps[·]?)) = x.cps.toList.reverse := by
  unfold Builtin.Str.strSliceIndices
  have e : ¬ ((-1 : Int) > 0) := by omega
  simp only [e, if_false]
  show (sliceRange ((x.cps.size : Int) - 1) (-1) (-1)).filterMap _ = _
  rw [PySem.W.krv_sliceRange, PySem.W.krv_range, List.filterMap_reverse, PySem.W.krv_all]
section
variable {X : Cx} {Γ : Nat → Addr} {W : WX} {e : Expr} {f : EF} {pos : Pos}
theorem pd_rev {k : Nat} {p1 p2 p3 : Pos} (he : PE X e (tDB (XC X Γ) W f)) : PE X (.Subscript e (.Slice none none (some (.UnaryOp .USub (.Constant (.int 1) k p1) p2)) p3) pos) (tD (XC X Γ) W (dOp1 oRev f)) := by
  refine ⟨fun pins s σ H Q I h => ?_⟩
  refine Subscript_ (thn (he.run pins s σ H _ I (t1 (Da := DenB) h)) fun v s1 ⟨x, H1, I1, r1, w, env, st, a, rl, d, p⟩ => ?_)
  have hst : PO X (some (.UnaryOp .USub (.Constant (.int 1) k p1) p2)) (tPart (tUn (rU fun i => .int (-i)) (tC (.int 1)))) := po_some (pe_un un_neg pe_int)
  refine wpAny_Slice (thn (po_none.run pins s1 σ H1 (fun o H2 => o = none ∧ H2 = H1) I1 ⟨rfl, rfl⟩) fun vl s2 ⟨l, H2, I2, pl, el, e2⟩ => ?_)
  subst el e2
  refine thn (po_none.run pins s2 σ H2 (fun o H3 => o = none ∧ H3 = H2) I2 ⟨rfl, rfl⟩) fun vu s3 ⟨u, H3, I3, pu, eu, e3⟩ => ?_
  subst eu e3
  refine thn (hst.run pins s3 σ H3 (fun o H4 => o = some (-1) ∧ H4 = H3) I3 ⟨1, rfl, -1, rfl, rfl, rfl⟩) fun vs s4 ⟨o, H4, I4, ps, eo, e4⟩ => ?_
  subst eo e4
  have I5 : Inv X pins σ H4 { s4 with heap := s4.heap.push { cls := .type "slice", data := .fields #[vl, vu, vs] } } := I4.kept (t' := s4.toks) fun b ob q => Heap.get?_push_of_some _ q
  show wpAny (model X.prog X.w) X.A (subscriptTail e (.Slice none none (some (.UnaryOp .USub (.Constant (.int 1) k p1) p2)) p3) v (.ref s4.heap.objs.size)) (EP X pins σ Q) X.xe { s4 with heap := s4.heap.push { cls := .type "slice", data := .fields #[vl, vu, vs] } }
  cases a with
  | tup ds =>
    obtain ⟨q, xs, e1, hq, t⟩ := DenB.tup d
    subst e1
    cases r1
    obtain ⟨its, r, ht, hz⟩ := I5.tuple hq
    have hlen := r.length
    have hvl : vl = .none := by cases pl; rfl
    have hvu : vu = .none := by cases pu; rfl
    subst hvl hvu
    refine tail_any (ops := [.ref q, .ref s4.heap.objs.size]) ht.typeIs (PyProof.Rows.slot_tuple_getitem.lookup) ?_ (by with_unfolding_all rfl)
    refine HT.getItem_tuple_rev ht (Heap.IsSliceOf.new _ .none .none vs) ps ?_ (by rw [List.size_toArray, ← hlen]; exact hz)
    refine ⟨.ref _, _, I5.laid (t' := s4.toks) (o := .tup xs.reverse) (fun b ob q => Heap.get?_push_of_some _ q) (Nat.le_refl _) ?_, rfl, p.newTup rl t.reverse (I5.hok.fresh (Nat.le_refl _))⟩
    exact ⟨by rw [List.length_reverse]; exact hz, _, r.reverse, IsTup.new _ _⟩
  | lst ds =>
    obtain ⟨q, xs, e1, hq, _, t⟩ := DenB.lst d
    subst e1
    cases r1
    obtain ⟨its, r, ht, hz⟩ := I5.list (SqL.of hq)
    have hlen := r.length
    refine tail_any (ops := [.ref q, .ref s4.heap.objs.size]) ht.isList.typeIs (PySem.slot_list_getitem.lookup) ?_ (by with_unfolding_all rfl)
    refine wpAny_getItem_list_slice ht.isList (Heap.IsSliceOf.new _ vl vu vs) pl pu ps (by decide) ?_ (by rw [List.size_toArray]; omega)
    rw [PySem.W.krv_pick]
    refine ⟨.ref _, _, I5.laid (t' := s4.toks) (o := .lst xs.reverse) (fun b ob q => Heap.get?_push_of_some _ q) (Nat.le_refl _) ?_, rfl, p.newLst rl t.reverse (I5.hok.fresh (Nat.le_refl _))⟩
    exact ⟨by rw [List.length_reverse]; exact hz, _, 0, r.reverse, Heap.get?_push_size _ rfl⟩
  | str z =>
    have p : Post Den (XC X Γ) W w H4 σ (if z.length ≤ sizeLine then .ok (.str (mk z.cps.toList.reverse)) st else .bad) Q := p
    split at p
    · rename_i hz
      have ex := DenB.str (w := w) d
      subst ex
      obtain ⟨tk, rfl⟩ := r1
      obtain ⟨tkl, rfl, _⟩ : ∃ t : Tok, vs = .int (-1) t ∧ True := by
        cases ps with
        | int i t => exact ⟨t, rfl, trivial⟩
      have hvl : vl = .none := by cases pl; rfl
      have hvu : vu = .none := by cases pu; rfl
      subst hvl hvu
      refine tail_any (ops := [.str z tk, .ref s4.heap.objs.size]) (typeIs_str _ _ _) (F.slot_str_getitem.lookup) ?_ (by with_unfolding_all rfl)
      refine wpAny_getItem_str_slice (l := none) (u := none) (st := some (-1, tkl)) ⟨_, Heap.get?_push_size _ rfl, rfl, rfl⟩ rfl ?_
      show Made.post (if ((-1 : Int) == 1 && (Builtin.Str.strSliceIndices none none (-1) z.length).length == z.length) = true then Made.val (.str z tk)
        else Made.str ⟨((Builtin.Str.strSliceIndices none none (-1) z.length).filterMap (z.cps[·]?)).toArray⟩) (EP X pins σ Q) _
      rw [if_neg (by rw [show ((-1 : Int) == 1) = false from rfl, Bool.false_and]; exact Bool.false_ne_true), str_rev]
      refine ⟨?_, .str _, H4, I5.tok _, ⟨_, rfl⟩, Post.ok rl p (.str _)⟩
      show (mk z.cps.toList.reverse).length ≤ sizeLine
      rw [mk_len, List.length_reverse, Array.length_toList]
      exact hz
    · exact p.elim
  | _ => exact p.elim
end
end AM
namespace AM
open PySem PySem.Spec PyProof.Rows L2 TL
section
variable {X : Cx} {Γ : Nat → Addr} {W : WX} {e o : Expr} {es : List Expr} {f fo : EF} {fs : EFs} {F : DF} {pos p apos : Pos} {j k c : Nat} {x m : Str} {ks : List Str}
end
def permL (is : List Nat) {α : Type} (l : List α) : List α := if l.length = is.length then is.filterMap (l[·]?) else l
theorem permL_len {is : List Nat} (h : is.all (fun i => decide (i < is.length)) = true) {α : Type} (l : List α) : (permL is l).length = l.length := by
  unfold permL
  split
  · rename_i e
    rw [List.all_eq_true] at h
    have key : ∀ js : List Nat, (∀ j ∈ js, j < l.length) → (js.filterMap (l[·]?)).length = js.length := by
      intro js
      induction js with
      | nil => intro _; rfl
      | cons j js ih =>
        intro hj
        rw [List.filterMap_cons, List.getElem?_eq_getElem (hj j List.mem_cons_self)]
        simp only [List.length_cons]
        rw [ih fun k hk => hj k (List.mem_cons_of_mem _ hk)]
    rw [key is fun j hj => by rw [e]; exact of_decide_eq_true (h j hj), e]
  · rfl
theorem Vals.at {vs : List V} {us : List Value} (h : Vals vs us) (i : Nat) : (vs[i]? = none ∧ us[i]? = none) ∨ ∃ v u, vs[i]? = some v ∧ us[i]? = some u ∧ RelV v u := by
  induction h generalizing i with
  | nil => exact .inl ⟨rfl, rfl⟩
  | @cons v u vs us h t ih =>
    cases i with
    | zero => exact .inr ⟨v, u, rfl, rfl, h⟩
    | succ i => exact ih i
theorem Dens.at {K : Ct} {ρ : List Addr} {S : Addr → Prop} {H : Hp} {vs : List V} {ds : List D} (h : Dens K ρ S H vs ds) (i : Nat) : (vs[i]? = none ∧ ds[i]? = none) ∨ ∃ v d, vs[i]? = some v ∧ ds[i]? = some d ∧ Den K ρ S H v d := by
  cases e : ds[i]? with
  | none =>
    refine .inl ⟨?_, rfl⟩
    rw [List.getElem?_eq_none_iff] at e ⊢
    rw [h.length]
    exact e
  | some d =>
    obtain ⟨v, e1, e2⟩ := h.get e
    exact .inr ⟨v, d, e1, rfl, e2⟩
theorem permL_vals (is : List Nat) {vs : List V} {us : List Value} (h : Vals vs us) : Vals (permL is vs) (permL is us) := by
  unfold permL
  rw [h.length]
  split
  · induction is with
    | nil => exact .nil
    | cons i is ih =>
      rw [List.filterMap_cons, List.filterMap_cons]
      have key : ∀ js : List Nat, Vals (js.filterMap (vs[·]?)) (js.filterMap (us[·]?)) := by
        intro js
        induction js with
        | nil => exact .nil
        | cons j js ih =>
          rw [List.filterMap_cons, List.filterMap_cons]
          rcases Vals.at h j with ⟨e1, e2⟩ | ⟨v, u, e1, e2, r⟩
          · rw [e1, e2]; exact ih
          · rw [e1, e2]; exact .cons r ih
      have := key (i :: is)
      rw [List.filterMap_cons, List.filterMap_cons] at this
      exact this
  · exact h
theorem permL_dens (is : List Nat) {K : Ct} {ρ : List Addr} {S : Addr → Prop} {H : Hp} {vs : List V} {ds : List D} (h : Dens K ρ S H vs ds) : Dens K ρ S H (permL is vs) (permL is ds) := by
  have key : ∀ js : List Nat, Dens K ρ S H (js.filterMap (vs[·]?)) (js.filterMap (ds[·]?)) := by
    intro js
    induction js with
    | nil => exact .nil
    | cons j js ih =>
      rw [List.filterMap_cons, List.filterMap_cons]
      rcases Dens.at h j with ⟨e1, e2⟩ | ⟨v, u, e1, e2, r⟩
      · rw [e1, e2]; exact ih
      · rw [e1, e2]; exact .cons r ih
  unfold permL
  rw [h.length]
  split
  · exact key is
  · exact h
def kwD (is : List Nat) (F : DF) : DF := fun ds st => F (permL is ds) st
theorem kwb {K : PySem.W.Frag} {y qual : Str} {params : Arguments} {body : List Stmt} {scope : Scope} {kws : List (Str × V)} {f : Addr} {fd : FuncData} {ps ks : List Str} {s : Shared} {us ws : List Value} {is : List Nat} (D : FunD K y qual params body scope [] kws f fd)
    (hi : is.all (fun i => decide (i < is.length)) = true) (hw : ws.length = ks.length) (hl : (permL is (us ++ ws)).length = ps.length)
    (h : ∀ (kV doc pm : Value) (an : Option Addr) (cdv ct : Value) (vs : List Value), vs.length = ps.length → bindArgs (PySem.W.fnOf y qual params body scope .none kV doc pm an cdv ct) ⟨vs.take (ps.length - ks.length), ks.zip (vs.drop (ps.length - ks.length))⟩ = pure (ps.zip (permL is vs))) :
    BindsTo s fd ⟨us, ks.zip ws⟩ (ps.zip (permL is (us ++ ws))) := by
  rw [permL_len hi] at hl
  have hl2 := hl
  rw [List.length_append] at hl2
  have e : ps.length - ks.length = us.length := by omega
  obtain ⟨oc, od, dV, kV, doc, pm, an, cdv, ct, osl, rfl, lk, hcd, hD, hK⟩ := D.ex
  rcases hD with ⟨_, rfl⟩ | ⟨e, _⟩
  · have q := h kV doc pm an cdv ct (us ++ ws) hl
    rw [e, List.take_left' rfl, List.drop_left' rfl] at q
    exact .of_eq q
  · exact absurd rfl e
theorem Cal.fnP {P : Program} {w : World} {K : PySem.W.Frag} {mg : Str → Option Value} {base : Heap} {Γ : Nat → Addr} {k : Nat} {f : Addr} {y qual : Str} {params : Arguments} {body : List Stmt} {scope : Scope} {kws : List (Str × V)} {fd : FuncData} {ps ks : List Str} {F : DF} (is : List Nat) (D : FunD K y qual params body scope [] kws f fd)
    (g : FnB P w K mg base k f fd ps (spD ⟨K, Γ⟩ F)) (hi : is.all (fun i => decide (i < is.length)) = true)
    (h : ∀ (kV doc pm : Value) (an : Option Addr) (cdv ct : Value) (vs : List Value), vs.length = ps.length → bindArgs (PySem.W.fnOf y qual params body scope .none kV doc pm an cdv ct) ⟨vs.take (ps.length - ks.length), ks.zip (vs.drop (ps.length - ks.length))⟩ = pure (ps.zip (permL is vs))) :
    Cal P w K mg base Γ k (.ref f) ks (kwD is F) :=
  Cal.fnK g (permL is) (permL_vals is) (permL_dens is) fun s us ws _ hw hl => kwb D hi hw hl h
end AM
namespace AM
open PySem PySem.Spec PyProof.Rows L2 TL
section
variable {V : D → Sto → Prop} {Ls : List D → Sto → Prop} {st : Sto} {env : AEnv}
theorem wi_revL {ds : List D} (h : V (.lst ds.reverse) st) : Wx (oRev (.lst ds) st) V := .mk h
theorem wi_revT {ds : List D} (h : V (.tup ds.reverse) st) : Wx (oRev (.tup ds) st) V := .mk h
theorem wi_slT {ds : List D} {lo hi : Option Int} (h : V (.tup (cutL ds lo hi)) st) : Wx (oSl (.tup ds) lo hi st) V := .mk h
theorem wi_slL {ds : List D} {lo hi : Option Int} (h : V (.lst (cutL ds lo hi)) st) : Wx (oSl (.lst ds) lo hi st) V := .mk h
theorem wi_abs {i : Int} (h : V (.int (if i < 0 then -i else i)) st) : Wx (oAbs (.int i) st) V := .mk h
def rowOf (d : D) : Option (List D) := match d with
  | .lst ds => some ds
  | .tup ds => some ds
  | _ => none
theorem wx_iEnmL {f : EF} (h : Wx (f env st) fun d s => ∃ ds, rowOf d = some ds ∧ Ls (enm ds) s) : Wx (iEnm f env st) Ls := wx_bind (wx_mono h fun d s ⟨ds, e, h⟩ => by
  cases d with
  | lst es => cases e; exact .mk h
  | tup es => cases e; exact .mk h
  | _ => cases e)
theorem wx_dMeth {c : Nat} {m : Str} {F : DF} {fo : EF} {fs : EFs} (h : Wx (fo env st) fun d s => isC c m d s = true ∧ Wx (fs env s) fun ds s => Wx (F (d :: ds) s) V) : Wx (dMeth c m F fo fs env st) V :=
  wx_bind (wx_mono h fun d s ⟨e, h⟩ => by rw [if_pos e]; exact wx_bind h)
theorem wx_kwD {is : List Nat} {F : DF} {ds es : List D} (e : permL is ds = es) (h : Wx (F es st) V) : Wx (kwD is F ds st) V := by
  unfold kwD
  rw [e]
  exact h
end
end AM
namespace AM
open PySem PySem.Spec PyProof.Rows L2 TL
section
variable {X : Cx} {Γ : Nat → Addr} {W : WX} {tg iter elt : Expr} {ifs : List Expr} {scope : Scope} {own : List (Str × Nat)} {pos spos py : Pos} {fi : IF} {tup : Bool} {is : List Nat} {t : TF} {f : EF} {i : Nat} {y : Str}
theorem psd_setLc (hc : X.calm = true) (hN : X.N.Nodup) (hi : PI X tg iter (tI (XC X Γ) W fi)) (ok : BlkOk X.N X.env.scope scope own)
    (hg : ∀ (s : Shared) (H : Hp) (C : Addr) (cl : List (Str × Addr)) (fp : List Addr), PG (X.blk s H scope (compEnvC scope cl C X.env) fp) tg (gC X.K tup is)) (ht : ∀ (s : Shared) (H : Hp) (C : Addr) (cl : List (Str × Addr)) (fp : List Addr), PTs (X.blk s H scope (compEnvC scope cl C X.env) fp) ifs (tT (XC X Γ) WN t))
    (he : ∀ (s : Shared) (H : Hp) (C : Addr) (cl : List (Str × Addr)) (fp : List Addr), PE (X.blk s H scope (compEnvC scope cl C X.env) fp) elt (tD (XC X Γ) WN f)) (hs : ∀ x, foldedSetIterable iter X.env x = pure x := by intro _; rfl)
    (hy : X.N[i]? = some y := by rfl) (hyl : X.env.scope.names.lookup y = some .local := by rfl) (hsw : swapsWith (.ListComp elt [⟨tg, iter, ifs, 0⟩] scope pos) (some (.Name y py)) spos.line X.env = pure true := by rfl) :
    PS X (.Assign [.Name y py] (.ListComp elt [⟨tg, iter, ifs, 0⟩] scope pos) spos) (tS (XC X Γ) W (sSet i (dF (compF fi tup is (own.map (·.2)) t f)))) := psImp (ps_setLc hc hN hy hyl hsw hi ok hg ht he hs) fun D σ H ⟨w, env, st, r, p⟩ => comp_ok ⟨w, env, st, r, by
  unfold sSet dF at p
  cases q : compF fi tup is (own.map (·.2)) t f env st with
  | ok ds st' =>
    rw [q] at p
    intro ρ' H' pp vs h1 h2 h3 h4
    have r1 := r.ext h2 h1
    have r2 := r1.new (o := .lst vs) h3
    have x2 : Ext (XC X Γ) (w.at_ ρ').ρ H' (w.at_ ρ').ρ (upd H' pp (.lst vs)) := Ext.new h3
    exact p _ _ _ (r2.setSh (i := i) (.lst upd_same (r1.fresh h3) (h4.new r1 h3))) (((h2.toS r h1).trans (x2.toS r1 (r1.newSto h3))).trans (free_ext r2))
  | exc x st' =>
    rw [q] at p
    intro ρ' H' d gs h1 h2 h3 h4
    exact p (w.at_ ρ') σ H' d gs h1 (h2.toS r h1) h3 h4
  | bad => rw [q] at p; exact p⟩
end
end AM
namespace AM
open PySem PySem.Spec PyProof.Rows L2 TL
section
variable {α : Type} {N : AEnv → Sto → Prop} {T : D → Sto → Prop} {V : D → Sto → Prop} {env : AEnv} {st : Sto}
theorem ws_forT {g : GF} {h : SF} {it : α → D} (xs : List α) (I : List α → List α → AEnv → Sto → Prop) {items : List D} (e : items = xs.map it) (hI : I [] xs env st)
    (hs : ∀ done x rest env st, done ++ x :: rest = xs → I done (x :: rest) env st → Ws (g (it x) env st) (fun e s => Ws (h e s) (fun e s => I (done ++ [x]) rest e s) T) fun _ _ => False) (hN : ∀ env st, I xs [] env st → N env st) : Ws (forL g h items env st) N T := by
  subst e
  have key : ∀ (rest done : List α) (env : AEnv) (st : Sto), done ++ rest = xs → I done rest env st → Ws (forL g h (rest.map it) env st) N T := by
    intro rest
    induction rest with
    | nil =>
      intro done env1 st1 e1 hI1
      rw [List.append_nil] at e1
      rw [e1] at hI1
      exact .nx (hN env1 st1 hI1)
    | cons x rest ih =>
      intro done env1 st1 e1 hI1
      have q := hs done x rest env1 st1 e1 hI1
      rw [List.map_cons]
      unfold forL
      refine ws_bind (ws_onx ?_)
      refine ws_mono q (fun e s q => ?_) fun _ _ h => h.elim
      generalize h e s = z at q
      cases q with
      | nx q => exact ih (done ++ [x]) _ _ (by rw [List.append_assoc]; exact e1) q
      | rt q => exact .rt q
  exact key xs [] env st rfl hI
theorem wi_pow {i j : Int} (h0 : 0 ≤ j) (h1 : j ≤ 1000000) (h2 : i.natAbs < 2 ^ 64) (h : V (.int (i ^ j.toNat)) st) : Wx (oPow (.int i) (.int j) st) V := by
  have e : oPow (.int i) (.int j) st = .ok (.int (i ^ j.toNat)) st := by
    show (if 0 ≤ j ∧ j ≤ 1000000 ∧ i.natAbs < 2 ^ 64 then _ else _) = _
    rw [if_pos ⟨h0, h1, h2⟩]
  exact wx_eq e h
end
end AM
namespace AM
open PySem PySem.Spec PyProof.Rows L2 He
section
variable {X : Cx} {Γ : Nat → Addr} {W : WX} {e o a b c : Expr} {es : List Expr} {f fo fa fb fc fe ff fv : EF} {fs : EFs} {F : DF} {pos p apos cpos tpos : Pos} {j k : Nat} {x m : Str} {ks : List Str}
def sRet0 : SF := fun env st => .rt .non st
def isL (o : D) (st : Sto) : Bool := match o with
  | .hd n => (match st[n]? with
    | some (.lst _) => true
    | _ => false)
  | _ => false
def putApp (o d : D) (env : AEnv) (st : Sto) : SR := match o with
  | .hd n => (match st[n]? with
    | some (.lst ds) => if ds.length < sizeLine then .nx env (st.set n (.lst (ds ++ [d]))) else .bad
    | _ => .bad)
  | _ => .bad
def sAppH (fo fe : EF) : SF := fun env st => (fo env st).then fun o st1 => if isL o st1 = true then (fe env st1).then fun d st2 => putApp o d env st2 else .bad
end
end AM
namespace AM
open PySem PySem.Spec PyProof.Rows L2 He
section
variable {X : Cx} {Γ : Nat → Addr} {W : WX} {e o a b c : Expr} {es : List Expr} {f fo fa fb fc fe ff fv : EF} {fs : EFs} {F : DF} {pos p apos cpos tpos : Pos} {j k : Nat} {x m : Str} {ks : List Str}
def putAug (cs : List Nat) (fl : Str) (op : Int → Int → Int) (fv : EF) (o : D) (env : AEnv) (st : Sto) : SR := match o with
  | .hd n => (match st[n]? with
    | some (.obj c fs) => (if cs.contains c = true then (match fs.lookup fl with
      | some (.int i) => (fv env st).then fun d st2 => (match d, st2[n]? with
        | .int j, some (.obj c2 fs2) => if (decide (c2 = c) && decide (fs2.length < 1000)) = true then .nx env (st2.set n (.obj c2 (putD fl (.int (op i j)) fs2))) else .bad
        | _, _ => .bad)
      | _ => .bad) else .bad)
    | _ => .bad)
  | _ => .bad
def sAugD (cs : List Nat) (fl : Str) (op : Int → Int → Int) (fo fv : EF) : SF := fun env st => (fo env st).then fun o st1 => putAug cs fl op fv o env st1
end
end AM
namespace AM
open PySem PySem.Spec PyProof.Rows L2 He
section
variable {X : Cx} {Γ : Nat → Addr} {W : WX} {e o a b c tg : Expr} {es : List Expr} {f fo fa fb fc fe ff fv : EF} {fs : EFs} {F : DF} {pos p apos cpos tpos : Pos} {j k : Nat} {x m : Str} {ks : List Str}
theorem dens_strs {K : Ct} {ρ : List Addr} {S : Addr → Prop} {H : Hp} : ∀ zs : List Str, Dens K ρ S H (zs.map V.str) (zs.map D.str)
  | [] => .nil
  | z :: zs => .cons (.str z) (dens_strs zs)
theorem pd_gtup {zs : List Str} (h : ∃ a, X.mg x = some (.ref a) ∧ ∀ H, SqT X.K H a (zs.map V.str)) (hg : Gl X x := by rfl) (hd : (x == ("__debug__" : Str)) = false := by decide) : PE X (.Name x pos) (tD (XC X Γ) W (dC (.tup (zs.map D.str)))) := by
  obtain ⟨a, hm, hs⟩ := h
  exact pd_glob (v := .ref a) hm rfl (fun ρ S H => .tup (hs H) (dens_strs zs)) hg hd
inductive PDf (X : Cx) (Γ : Nat → Addr) (j : Nat) (pos : Pos) : List (Option Expr) → List Expr → List (Key × DF) → List (TE × TE) → List (Key × V) → Prop where
  | nil : PDf X Γ j pos [] [] [] [] []
  | cons {k v : Expr} {ks : List (Option Expr)} {vs : List Expr} {r : List (Key × DF)} {trs : List (TE × TE)} {kvs : List (Key × V)} {kk : Key} {F : DF} {g : Addr} (hk : PE X k (tC (kV kk))) (hv : PE X v (tC (.ref g))) (hd : PySem.W.keepIn X.K (.ref g) = true) (hc : Cal X.prog X.w X.K X.mg X.base Γ j (.ref g) [] F) (hr : PDf X Γ j pos ks vs r trs kvs) :
      PDf X Γ j pos (some k :: ks) (v :: vs) ((kk, F) :: r) ((tC (kV kk), tC (.ref g)) :: trs) ((kk, .ref g) :: kvs)
theorem PDf.pps {pos : Pos} {ks : List (Option Expr)} {vs : List Expr} {r : List (Key × DF)} {trs : List (TE × TE)} {kvs : List (Key × V)} (h : PDf X Γ j pos ks vs r trs kvs) : PPs X pos ks vs trs := by
  induction h with
  | nil => exact pps_nil
  | cons hk hv hd hc hr ih => exact pps_cons hk hv ih
theorem PDf.pairs {pos : Pos} {ks : List (Option Expr)} {vs : List Expr} {r : List (Key × DF)} {trs : List (TE × TE)} {kvs : List (Key × V)} (h : PDf X Γ j pos ks vs r trs kvs) : ∀ (σ : St) (H : Hp) (Q : List (V × V) → Hp → Prop), Q (kvs.map fun kv => (kV kv.1, kv.2)) H → tPairs trs σ H Q := by
  induction h with
  | nil => exact fun σ H Q q => q
  | cons hk hv hd hc hr ih => exact fun σ H Q q => ih σ H _ q
def valF (r : List (Key × DF)) (k : Key) : Option DF := (r.find? fun kv => decide (kv.1 = k)).map (·.2)
theorem PDf.val {pos : Pos} {ks : List (Option Expr)} {vs : List Expr} {r : List (Key × DF)} {trs : List (TE × TE)} {kvs : List (Key × V)} (h : PDf X Γ j pos ks vs r trs kvs) {key : Key} {F : DF} (e : valF r key = some F) :
    ∃ g, valV kvs key = some (.ref g) ∧ PySem.W.keepIn X.K (.ref g) = true ∧ Cal X.prog X.w X.K X.mg X.base Γ j (.ref g) [] F := by
  induction h with
  | nil => cases e
  | @cons k v ks vs r trs kvs kk F' g hk hv hd hc hr ih =>
    by_cases q : kk = key
    · have e2 : valF ((kk, F') :: r) key = some F' := by simp [valF, List.find?_cons, q]
      rw [e2] at e
      cases e
      exact ⟨g, valV_pos (p := (kk, V.ref g)) q, hd, hc⟩
    · have e1 : valV ((kk, V.ref g) :: kvs) key = valV kvs key := valV_neg (p := (kk, V.ref g)) q
      have e2 : valF ((kk, F') :: r) key = valF r key := by simp [valF, List.find?_cons, q]
      rw [e1]
      rw [e2] at e
      exact ih e
def dDcall (r : List (Key × DF)) (fe : EF) (fs : EFs) : EF := fun env st => (fe env st).bind fun d st1 => match (keyD d).bind (valF r) with
  | some F => (fs env st1).bind F
  | none => .bad
theorem pd_dcall {keys : List (Option Expr)} {vals : List Expr} {r : List (Key × DF)} {trs : List (TE × TE)} {kvs : List (Key × V)} (G : Go X W k) (h : PDf X Γ j p keys vals r trs kvs) (he : PE X a (tD (XC X Γ) W fe)) (ha : PA X (e :: es) (tDs (XC X Γ) W fs)) (hj : j ≤ k := by decide) (hm : mergeK [] kvs = kvs := by rfl) (hz : kvs.length ≤ 15 := by exact Nat.le_of_ble_eq_true rfl)
    (hall : keys.all (·.isSome) = true := by rfl) (hl : keys.length = vals.length := by rfl) (h0 : keys ≠ [] := by intro z; cases z) (h15 : keys.length ≤ 15 := by decide) (hns : NoSl a := by intro _ _; rfl)
    (hst : starEach (e :: es) X.env = (false, eval e X.env) :: starEach es X.env := by rfl) (hpl : (backTo pos (starEach es X.env)).any (·.1) = false := by rfl)
    (ht : eval (.Call (.Subscript (.Dict keys vals p) a apos) (e :: es) [] pos) X.env = (eval (.Subscript (.Dict keys vals p) a apos) X.env >>= fun f => callWith pos f [] (backTo pos (starEach (e :: es) X.env)) (backToKw pos (keywordEach [] X.env))) := by rfl) :
    PE X (.Call (.Subscript (.Dict keys vals p) a apos) (e :: es) [] pos) (tD (XC X Γ) W (dDcall r fe fs)) := by
  have hu : X.A.units + 1 < cLine := by have := G.rm.units; omega
  refine ⟨fun pins s σ H Q I hq => ?_⟩
  rw [ht]
  let R : VK := fun v H2 => ∃ w env st F g, Rel (XC X Γ) w env st σ H2 ∧ v = .ref g ∧ PySem.W.keepIn X.K (.ref g) = true ∧ Cal X.prog X.w X.K X.mg X.base Γ j (.ref g) [] F ∧ Post Den (XC X Γ) W w H2 σ ((fs env st).bind F) Q
  refine wpAny_bind (thn ((pe_dget (pos := apos) hu (pe_disp h.pps hall hl h0 h15) he hns).run pins s σ H R I ?_) fun u s1 ⟨v, H1, I1, rv, w, env, st, F, g, r1, ev, hk, hc, p1⟩ => ?_)
  · intro q hn
    refine h.pairs σ _ _ ⟨upd_same, kvs, rfl, hz, ?_⟩
    rw [upd_upd, hm]
    obtain ⟨w, env, st, rl, pp⟩ := hq
    have r1 := rl.new (o := .dK kvs) hn
    have p1 : Post Den (XC X Γ) W w (upd H q (.dK kvs)) σ (dDcall r fe fs env st) Q := Post.back (Dg := Den) (Ext.new hn) pp
    have nq : q ∉ w.ρ := fun z => rl.fresh hn (.inl z)
    refine ⟨w, env, st, r1, (Post.bind (Da := Den) r1 p1).mono ?_⟩
    rintro y H2 ⟨w2, st2, d, r2, ⟨ρ2, e2⟩, x2, dy, p2⟩
    have hq2 := x2.keep q _ upd_same nq
    have p2 : Post Den (XC X Γ) W w2 H2 σ (match (keyD d).bind (valF r) with
      | some F => (fs env st2).bind F
      | none => .bad) Q := p2
    have fin : ∀ {key : Key}, keyD d = some key → y = kV key → ∃ a v, V.ref q = .ref a ∧ DGet H2 a y (some v) ∧ R v H2 := fun {key} ek ey => by
      rw [ek] at p2
      cases ef : valF r key with
      | none => rw [Option.bind_some, ef] at p2; exact p2.elim
      | some F =>
        rw [Option.bind_some, ef] at p2
        obtain ⟨g, v1, v2, v3⟩ := h.val ef
        refine ⟨q, .ref g, rfl, ?_, w2, env, st2, F, g, r2, rfl, v2, v3, p2⟩
        rw [← v1, ey]
        exact .k hq2.1
    cases d with
    | int i => exact fin rfl (DenB.int (w := w2) dy.b)
    | str i => exact fin rfl (DenB.str (w := w2) dy.b)
    | _ => exact p2.elim
  · subst ev
    obtain rfl : u = Value.ref g := rv
    refine PySem.W.callWith_K (h₀ := X.base) I1.ok.mod.kin hk (thn (ha.run pos pins s1 σ H1 _ I1 (t1 (W := W) (Q := Q) (Dg := Den) (Da := Dens) (f := fs) (g := fun _ ds st => F ds st) ⟨w, env, st, r1, p1⟩)) fun us s2 ⟨vs, H2, I2, rr, w2, env2, st2, ds, rl2, d2, p2⟩ => ⟨I2.kIn, ?_⟩) hst hpl
    exact hc X W rfl rfl rfl rfl rfl (G.rm.mono hj) G.gd G.tk pins s2 σ H2 w2 env2 st2 us [] vs ds Q I2 (by rw [List.append_nil]; exact rr) rfl rl2 d2 p2
theorem Kn.refd {P : Program} {w : World} {K : PySem.W.Frag} {mg : Str → Option Value} {base : Heap} {g : Addr} (c : Kn P w K mg base Γ j x [] F) (hm : mg x = some (.ref g)) : PySem.W.keepIn K (.ref g) = true ∧ Cal P w K mg base Γ j (.ref g) [] F := by
  obtain ⟨v, e, h1, h2⟩ := c.ex
  rw [hm] at e
  cases e
  exact ⟨h1, h2⟩
theorem pdf_cons {i : Nat} {kx : Expr} {ks : List (Option Expr)} {vs : List Expr} {r : List (Key × DF)} {trs : List (TE × TE)} {kvs : List (Key × V)} {kk : Key} {g : Addr} {np : Pos} (c : Kn X.prog X.w X.K X.mg X.base Γ i x [] F) (hm : X.mg x = some (.ref g)) (hk : PE X kx (tC (kV kk))) (hr : PDf X Γ j pos ks vs r trs kvs) (hij : i ≤ j := by decide) (hg : Gl X x := by rfl) (hd : (x == ("__debug__" : Str)) = false := by decide) :
    PDf X Γ j pos (some kx :: ks) (.Name x np :: vs) ((kk, F) :: r) ((tC (kV kk), tC (.ref g)) :: trs) ((kk, .ref g) :: kvs) :=
  .cons hk (pe_glob (v := .ref g) hg hm rfl hd) (c.refd hm).1 ((c.refd hm).2.mono hij) hr
def okRg (a b : Int) : Bool := decide (-(2 ^ 62) ≤ a) && (decide (a < 2 ^ 62) && (decide (-(2 ^ 62) ≤ b) && (decide (b < 2 ^ 62) && decide ((b - a).toNat ≤ 2 ^ 24))))
def kLran : D → Sto → Res (List D) := fun d st => match d with
  | .int n => if okRg 0 n = true then .ok (rng 0 n.toNat) st else .bad
  | _ => .bad
def fLran (f : EF) : AEnv → Sto → Res (List D) := fun env st => (f env st).bind kLran
def rngC (lo c : Int) (n : Nat) : List D := (List.range n).map fun i => .int (lo + (i : Nat) * c)
def okR3 (i j c : Int) : Bool := decide (c ≠ 0) && (decide (c.natAbs < 1073741824) && (Builtin.Range.small i j c && decide (0 ≤ Builtin.Range.rangeSize i j c)))
def kRan3 : List D → Sto → Res (List D) := fun ds st => match ds with
  | [.int i, .int j, .int c] => if okR3 i j c = true then .ok (rngC i c (Builtin.Range.rangeSize i j c).toNat) st else .bad
  | _ => .bad
def iRan3 (fs : EFs) : IF := fun env st => (fs env st).bind kRan3
end
end AM
namespace AM
open PySem PySem.Spec PyProof.Rows L2
open Classical
end AM
namespace AM
open PySem PySem.Spec PyProof.Rows L2 TL
section
variable {N : AEnv → Sto → Prop} {T V : D → Sto → Prop} {Ls : List D → Sto → Prop} {env : AEnv} {st : Sto} {fo fe fv f fa fb : EF} {fs : EFs} {t : TF} {h : SF} {n c i : Nat} {ds : List D} {gs : List (Str × D)} {d : D} {cs : List Nat} {fl : Str}
theorem ws_sRet0 (h : T .non st) : Ws (sRet0 env st) N T := .rt h
theorem ws_sAppH (h : Wx (fo env st) fun o s => isL o s = true ∧ Wx (fe env s) fun d s2 => Ws (putApp o d env s2) N T) : Ws (sAppH fo fe env st) N T := ws_then (wx_mono h fun o s ⟨e, h⟩ => by
  rw [if_pos e]
  exact ws_then h)
theorem ws_sFldD (h : Wx (fv env st) fun d s => Wx (fo env s) fun o s2 => Ws (putFd cs fl o d env s2) N T) : Ws (sFldD cs fl fo fv env st) N T := ws_then (wx_mono h fun d s h => ws_then h)
theorem ws_sAugD {op : Int → Int → Int} (h : Wx (fo env st) fun o s => Ws (putAug cs fl op fv o env s) N T) : Ws (sAugD cs fl op fo fv env st) N T := ws_then h
theorem wx_dDcall {r : List (Key × DF)} (h : Wx (fe env st) fun d s => ∃ F, (keyD d).bind (valF r) = some F ∧ Wx (fs env s) fun ds s2 => Wx (F ds s2) V) : Wx (dDcall r fe fs env st) V := wx_bind (wx_mono h fun d s ⟨F, e, h⟩ => by
  rw [e]
  exact wx_bind h)
theorem wx_dNew {fi : IF} (h : Wx (fi env st) fun ds s => V (.hd s.length) (s ++ [.lst ds])) : Wx (dNew fi env st) V := wx_bind (wx_mono h fun _ _ h => .mk h)
theorem wx_fLran (h : Wx (f env st) fun d s => ∃ n, d = .int n ∧ okRg 0 n = true ∧ Ls (rng 0 n.toNat) s) : Wx (fLran f env st) Ls := wx_bind (wx_mono h fun d s ⟨n, e, e2, h⟩ => by
  subst e
  unfold kLran
  simp only
  rw [if_pos e2]
  exact .mk h)
theorem wx_iRan2 (hw : Wx (fa env st) fun a s => Wx (fb env s) fun b s => ∃ i j, a = .int i ∧ b = .int j ∧ (okR i && okR j) = true ∧ Ls (rng i (j - i).toNat) s) : Wx (iRan2 fa fb env st) Ls := wx_bind (wx_mono hw fun a s hw2 => wx_bind (wx_mono hw2 fun b s ⟨i, j, e1, e2, e3, hl⟩ => by
  subst e1 e2
  unfold kRan2
  simp only
  rw [if_pos e3]
  exact .mk hl))
theorem wx_iRan3 (h : Wx (fs env st) fun ds s => ∃ i j c, ds = [.int i, .int j, .int c] ∧ okR3 i j c = true ∧ Ls (rngC i c (Builtin.Range.rangeSize i j c).toNat) s) : Wx (iRan3 fs env st) Ls := wx_bind (wx_mono h fun ds s ⟨i, j, c, e1, e3, h⟩ => by
  subst e1
  unfold kRan3
  simp only
  rw [if_pos e3]
  exact .mk h)
end
end AM
namespace AM
open PySem PySem.Spec PyProof.Rows L2
def sPar3 (i j l : Nat) (fs : EFs) : SF := fun env st => (fs env st).then fun ds st1 => match ds with
  | [d, e, f] => .nx (((env.set i (.sh d)).set j (.sh e)).set l (.sh f)) st1
  | _ => .bad
theorem ws_sPar3 {N : AEnv → Sto → Prop} {T : D → Sto → Prop} {fs : EFs} {i j l : Nat} {env : AEnv} {st : Sto} (h : Wx (fs env st) fun ds s => ∃ d e f, ds = [d, e, f] ∧ En N (((env.set i (.sh d)).set j (.sh e)).set l (.sh f)) s) : Ws (sPar3 i j l fs env st) N T := ws_then (wx_mono h fun ds s ⟨d, e, f, q, h⟩ => by subst q; exact .nx h)
end AM
namespace AM
open PySem PySem.Spec PyProof.Rows L2
section
variable {V : D → Sto → Prop} {Ls : List D → Sto → Prop} {env : AEnv} {st : Sto} {fa fb fo fe ff : EF} {fs : EFs}
theorem wx_dInG {r : List (Str × D)} {neg : Bool} (h : Wx (fa env st) fun d s => ∃ z, d = .str z ∧ V (.bl (neg != (r.lookup z).isSome)) s) : Wx (dInG r neg fa env st) V := wx_bind (wx_mono h fun d s ⟨z, e, h⟩ => by
  subst e
  exact .mk h)
theorem wx_dIxG {r : List (Str × D)} (h : Wx (fb env st) fun d s => ∃ z v, d = .str z ∧ r.lookup z = some v ∧ V v s) : Wx (dIxG r fb env st) V := wx_bind (wx_mono h fun d s ⟨z, v, e, e2, h⟩ => by
  subst e
  show Wx (match r.lookup z with
    | some v => .ok v s
    | none => .bad) V
  rw [e2]
  exact .mk h)
theorem wx_dDicGet (h : Wx (fo env st) fun d s => ∃ r, d = .dic r ∧ Wx (fe env s) fun e s => Wx (ff env s) fun z s => ∃ k, keyD e = some k ∧ V ((valD r k).getD z) s) : Wx (dDicGet fo fe ff env st) V := wx_bind (wx_mono h fun d s ⟨r, e, h⟩ => by
  subst e
  exact wx_bind (wx_mono h fun e s h => wx_bind (wx_mono h fun z s ⟨k, e2, h⟩ => by
    rw [e2]
    exact .mk h)))
theorem wx_dLcall {t : List (Nat × DF)} {i c : Nat} {F : DF} (e : env[i]? = some (.sh (.cls c))) (e2 : t.lookup c = some F) (h : Wx (fs env st) fun ds s => Wx (F ds s) V) : Wx (dLcall t i fs env st) V := by
  unfold dLcall
  rw [e]
  show Wx (match t.lookup c with
    | some F => (fs env st).bind F
    | none => .bad) V
  rw [e2]
  exact wx_bind h
theorem wx_dCat (h : Wx (fa env st) fun a s => Wx (fb env s) fun b s => ∃ i j, a = .lst i ∧ b = .lst j ∧ i.length + j.length ≤ 16777216 ∧ Ls (i ++ j) s) : Wx (dCat fa fb env st) Ls := wx_bind (wx_mono h fun a s h1 => wx_bind (wx_mono h1 fun b s2 ⟨i, j, e, e2, hz, h2⟩ => by
  rw [e, e2]
  show Wx (if i.length + j.length ≤ sizeLine then .ok (i ++ j) s2 else .bad) Ls
  rw [if_pos (by rw [sizeLine_val]; exact hz)]
  exact .mk h2))
end
end AM
namespace AM
open PySem PySem.Spec PyProof.Rows L2
section
variable {X : Cx} {Γ : Nat → Addr} {W : WX} {k : Nat}
end
end AM
namespace AM
open PySem PySem.Spec PyProof.Rows L2
section
variable {K : Ct} {w : Wd} {env : AEnv} {st : Sto} {σ : St} {H H3 : Hp} {D : Addr} {vs : List V}
end
section
variable {X : Cx} {Γ : Nat → Addr} {W : WX} {i j : Nat} {x y : Str} {a b : Expr} {f : AEnv → Sto → Res (List D)} {g : EF} {px py pt pos : Pos} {kt k2 pt2}
end
end AM
namespace AM
open PySem PySem.Spec PyProof.Rows L2
section
variable {X : Cx} {Γ : Nat → Addr} {W : WX} {tg a b : Expr} {fa fb : EF}
end
end AM
namespace AM
open PySem PySem.Spec PyProof.Rows L2 He
section
variable {X : Cx} {Γ : Nat → Addr} {W : WX} {x y : Str} {p pos : Pos}
def mulOk (i j : Int) : Bool := small64 i || (small64 j || decide (i.natAbs.log2 + j.natAbs.log2 < 1000000))
def oMulW : Op2 := fun a b st => match a, b with
  | .int i, .int j => if mulOk i j = true then .ok (.int (i * j)) st else .bad
  | _, _ => .bad
theorem opd_mulW : OpR X (binaryOp .Mult) (rD2 (XC X Γ) W oMulW) := opr fun w env st σ H x y a b Q r d1 d2 p => by
  cases a with
  | int i =>
    cases b with
    | int j =>
      rw [show oMulW (.int i) (.int j) st = if mulOk i j = true then .ok (.int (i * j)) st else .bad from rfl] at p
      split at p
      · rename_i hz
        have main : (small64 i || small64 j) = true → ∃ t, OpR X (binaryOp .Mult) t ∧ t x y H Q := fun hz => by
          refine ⟨_, op_mul, i, j, d1.int, d2.int, ?_, Post.ok r p (.int _)⟩
          unfold small64 at hz
          rcases Bool.or_eq_true _ _ ▸ hz with q | q
          · obtain ⟨q1, q2⟩ := Bool.and_eq_true_iff.mp q
            exact .inl ⟨of_decide_eq_true q1, of_decide_eq_true q2⟩
          · obtain ⟨q1, q2⟩ := Bool.and_eq_true_iff.mp q
            exact .inr ⟨of_decide_eq_true q1, of_decide_eq_true q2⟩
        unfold mulOk at hz
        cases h1 : small64 i with
        | true => exact main (by rw [h1]; rfl)
        | false =>
          cases h2 : small64 j with
          | true => exact main (by rw [h1, h2]; rfl)
          | false =>
            rw [h1, h2, Bool.false_or, Bool.false_or] at hz
            have hz2 : i.natAbs.log2 + j.natAbs.log2 < 1000000 := of_decide_eq_true hz
            exact ⟨_, op_mulW, i, j, d1.int, d2.int, hz2, Post.ok r p (.int _)⟩
      · exact p.elim
    | _ => exact p.elim
  | _ => exact p.elim
end
section
variable {V T : D → Sto → Prop} {N : AEnv → Sto → Prop} {env : AEnv} {st : Sto} {i j : Nat} {ds : List D}
end
end AM
namespace AM
open PySem PySem.Spec PyProof.Rows L2
section
variable {X : Cx} {Γ : Nat → Addr} {W : WX} {i j l : Nat} {x y z : Str} {a b c : Expr} {f : AEnv → Sto → Res (List D)} {fs : EFs} {px py pz pt pos : Pos} {kt k2 pt2}
end
end AM
namespace AM
open PySem PySem.Spec PyProof.Rows L2
def oIsX : Op2 := fun a b st => match a, b with
  | .bl i, .bl j => .ok (.bl (decide (i = j))) st
  | _, _ => oIs a b st
def oIsNotX : Op2 := fun a b st => match a, b with
  | .bl i, .bl j => .ok (.bl (!decide (i = j))) st
  | _, _ => oIsNot a b st
section
variable {X : Cx} {Γ : Nat → Addr} {W : WX}
theorem op_isNotBl : OpR X (compareOp .IsNot) (fun x y H Q => ∃ a b, x = .bl a ∧ y = .bl b ∧ Q (.bl (!decide (a = b))) H) := by
  intro pins s σ H x y v u Q I rx ry h
  obtain ⟨m, n, rfl, rfl, q⟩ := h
  cases (show v = Value.bool m from rx)
  cases (show u = Value.bool n from ry)
  by_cases e : m = n
  · subst e
    exact wpAny_isNot_self rfl ⟨.bl false, H, I, rfl, by simpa using q⟩
  · exact wpAny_isNot_other rfl (fun z => e (Value.bool.inj z)) ⟨.bl true, H, I, rfl, by simpa [e] using q⟩
theorem opd_isX : OpR X (compareOp .Is) (rD2 (XC X Γ) W oIsX) := opr fun w env st σ H x y a b Q r d1 d2 p => by
  by_cases h : ∃ i j, a = .bl i ∧ b = .bl j
  · obtain ⟨i, j, rfl, rfl⟩ := h
    cases (show Den (XC X Γ) w.ρ w.S H x (.bl i) from d1)
    cases (show Den (XC X Γ) w.ρ w.S H y (.bl j) from d2)
    exact ⟨_, op_isBl, i, j, rfl, rfl, Post.ok r p (.bl _)⟩
  · have e : oIsX a b st = oIs a b st := by
      unfold oIsX
      split
      · rename_i i j
        exact absurd ⟨i, j, rfl, rfl⟩ h
      · rfl
    rw [e] at p
    exact ⟨_, opd_is, w, env, st, σ, a, b, r, d1, d2, p⟩
theorem opd_isNotX : OpR X (compareOp .IsNot) (rD2 (XC X Γ) W oIsNotX) := opr fun w env st σ H x y a b Q r d1 d2 p => by
  by_cases h : ∃ i j, a = .bl i ∧ b = .bl j
  · obtain ⟨i, j, rfl, rfl⟩ := h
    cases (show Den (XC X Γ) w.ρ w.S H x (.bl i) from d1)
    cases (show Den (XC X Γ) w.ρ w.S H y (.bl j) from d2)
    exact ⟨_, op_isNotBl, i, j, rfl, rfl, Post.ok r p (.bl _)⟩
  · have e : oIsNotX a b st = oIsNot a b st := by
      unfold oIsNotX
      split
      · rename_i i j
        exact absurd ⟨i, j, rfl, rfl⟩ h
      · rfl
    rw [e] at p
    exact ⟨_, opd_isNot, w, env, st, σ, a, b, r, d1, d2, p⟩
end
end AM
namespace AM
open PySem PySem.Spec PyProof.Rows L2
section
variable {X : Cx} {Γ : Nat → Addr} {W : WX}
end
section
variable {V : D → Sto → Prop} {st : Sto}
end
end AM
namespace AM
open PySem PySem.Spec PyProof.Rows L2
section
variable {X : Cx} {Γ : Nat → Addr} {W : WX} {o e : Expr} {fa fb fo fe : EF} {apos pos : Pos}
end
section
variable {V : D → Sto → Prop} {st : Sto} {env : AEnv} {N : AEnv → Sto → Prop} {T : D → Sto → Prop} {fo fe : EF} {Ls : List D → Sto → Prop} {f : EF}
end
end AM
namespace AM
open PySem PySem.Spec PyProof.Rows L2
open Classical
end AM
namespace AM
open PySem PySem.Spec PyProof.Rows L2
section
variable {X : Cx} {Γ : Nat → Addr} {W : WX} {i j : Nat} {x y : Str} {a b : Expr} {f : AEnv → Sto → Res (List D)} {g : EF} {px py pt pos : Pos} {kt k2 pt2}
end
end AM
namespace KP
open PySem PySem.Spec PyProof.Rows L2 AM
abbrev cKnown : Nat := 30
abbrev cWinding : Nat := 31
def noW : List Nat → Bool
  | 0 :: 0 :: _ => true
  | _ => false
def dicR : List Nat → List ((String ⊕ Nat) × Bool)
  | 0 :: 0 :: 1 :: _ => [(.inl "dict", false)]
  | _ => []
end KP
namespace KP
open PySem PySem.Spec PyProof.Rows L2 AM KP
def is_int (U : List Nat) : List ((String ⊕ Nat) × Bool) := [(.inl "NoneType", false), (.inl "bool", true), (.inl "int", true), (.inl "str", false), (.inl "tuple", false), (.inl "list", false)] ++ bif noW U then dicR U else [(.inr cKnown, false), (.inr cWinding, false)] ++ U.map fun c => (.inr c, false)
def is_bool (U : List Nat) : List ((String ⊕ Nat) × Bool) := [(.inl "NoneType", false), (.inl "bool", true), (.inl "int", false), (.inl "str", false), (.inl "tuple", false), (.inl "list", false)] ++ bif noW U then dicR U else [(.inr cKnown, false), (.inr cWinding, false)] ++ U.map fun c => (.inr c, false)
def is_str (U : List Nat) : List ((String ⊕ Nat) × Bool) := [(.inl "NoneType", false), (.inl "bool", false), (.inl "int", false), (.inl "str", true), (.inl "tuple", false), (.inl "list", false)] ++ bif noW U then dicR U else [(.inr cKnown, false), (.inr cWinding, false)] ++ U.map fun c => (.inr c, false)
def is_tuple (U : List Nat) : List ((String ⊕ Nat) × Bool) := [(.inl "NoneType", false), (.inl "bool", false), (.inl "int", false), (.inl "str", false), (.inl "tuple", true), (.inl "list", false)] ++ bif noW U then dicR U else [(.inr cKnown, false), (.inr cWinding, false)] ++ U.map fun c => (.inr c, false)
def F_is_integer (U : List Nat) : DF := runD 1 1 (sRet (dAnd (dOp1 (oIsi (is_int U)) (dVar 0)) (dNot (dOp1 (oIsi (is_bool U)) (dVar 0)))))
def F_is_between (U : List Nat) : DF := runD 3 3 (sRet (dAnd (dCall (F_is_integer U) (dCons (dVar 0) dNil)) (dChain oLe oLe (dVar 1) (dVar 0) (dVar 2))))
def F_is_word (U : List Nat) : DF := runD 1 2 (sRet (dAnd (dOp1 (oIsi (is_str U)) (dVar 0)) (dOp1 oAll (dF (compF (iSeq (dVar 0)) false [1] [1] tYesD (dOp2 oIn (dVar 1) (dC (.str "abcdefABCDEF"))))))))
def F_is_block (U : List Nat) : DF := runD 1 1 (sSeq (sIf (gOr (gNot (gTru (dOp1 (oIsi (is_tuple U)) (dVar 0)))) (gOr (gBl (dOp2 oNe (dOp1 oLen (dVar 0)) (dC (.int 3)))) (gNot (gTru (dCall (F_is_word U) (dCons (dOp2 oIx (dVar 0) (dC (.int 0))) dNil)))))) (sRet (dC (.bl false))) sPass) (sSeq (sIf (gOr (gNot (gBl (dChain oLe oLe (dC (.int 1)) (dOp1 oLen (dOp2 oIx (dVar 0) (dC (.int 0)))) (dC (.int 12))))) (gNot (gTru (dCall (F_is_between U) (dCons (dOp2 oIx (dVar 0) (dC (.int 1))) (dCons (dOp2 oSub (dC (.int 0)) (dC (.int 9))) (dCons (dC (.int 9)) dNil))))))) (sRet (dC (.bl false))) sPass) (sRet (dCall (F_is_between U) (dCons (dOp2 oIx (dVar 0) (dC (.int 2))) (dCons (dOp2 oSub (dC (.int 0)) (dC (.int 99))) (dCons (dC (.int 99)) dNil)))))))
def F_are_blocks (U : List Nat) : DF := runD 1 2 (sSeq (sIf (gOr (gNot (gTru (dOp1 (oIsi (is_tuple U)) (dVar 0)))) (gBl (dOp2 oGt (dOp1 oLen (dVar 0)) (dC (.int 12))))) (sRet (dC (.bl false))) sPass) (sRet (dOp1 oAll (dF (compF (iSeq (dVar 0)) false [1] [1] tYesD (dCall (F_is_block U) (dCons (dVar 1) dNil)))))))
end KP
namespace KL
open PySem PySem.Spec PyProof.Rows L2 AM KP
end KL
namespace KP
open PySem PySem.Spec PyProof.Rows L2 AM KL KP
def F_are_pegs (U : List Nat) : DF := runD 1 3 (sSeq (sIf (gOr (gNot (gTru (dOp1 (oIsi (is_str U)) (dVar 0)))) (gNot (gTru (dOp1 oAll (dF (compF (iSeq (dVar 0)) false [2] [2] tYesD (dOp2 oIn (dVar 2) (dC (.str "abcdef"))))))))) (sRet (dC (.bl false))) sPass) (sRet (dOp1 oAll (dF (compF (iRan (dOp2 oSub (dOp1 oLen (dVar 0)) (dC (.int 1)))) false [1] [1] tYesD (dOp2 oLt (dOp2 oIx (dVar 0) (dVar 1)) (dOp2 oIx (dVar 0) (dOp2 oAdd (dVar 1) (dC (.int 1))))))))))
def F_only (U : List Nat) : DF := runD 2 3 (sRet (dM1 sJoin (dC (.str "")) (dF (compF (iSeq (dVar 0)) false [2] [2] (gBl (dOp2 oIn (dM0 sLower (dVar 2)) (dVar 1))) (dVar 2)))))
def F_left_of (U : List Nat) : DF := runD 2 7 (sSeq (sSet 2 (dF (compF (iSeq (dVar 0)) true [3, 4, 5] [3, 4, 5] tYesD (dTup (dCons (dCall (F_only U) (dCons (dVar 3) (dCons (dVar 1) dNil))) (dCons (dVar 4) (dCons (dVar 5) dNil))))))) (sRet (dOp1 oTupT (dF (compF (iSeq (dVar 2)) false [6] [6] (gBl (dOp2 oNe (dOp2 oIx (dVar 6) (dC (.int 0))) (dC (.str "")))) (dVar 6))))))
def F_is_rounds (U : List Nat) : DF := runD 1 1 (sRet (dCall (F_is_between U) (dCons (dVar 0) (dCons (dC (.int 0)) (dCons (dC (.int 1000000000000000000000000000000)) dNil)))))
def F_undone_word (U : List Nat) : DF := runD 1 2 (sRet (dM1 sJoin (dC (.str "")) (dF (compF (iSeq (dOp1 oRev (dVar 0))) false [1] [1] tYesD (dIf (gBl (dOp2 oIn (dVar 1) (dSl (dC (.str "abcdefABCDEF")) (oSo (dC (.int 6))) oNo))) (dM0 sLower (dVar 1)) (dM0 sUpper (dVar 1)))))))
end KP
namespace KL
open PySem PySem.Spec PyProof.Rows L2 AM KL KP
end KL
namespace KW
def bar (c : Nat) : Nat := c ^^^ 32
theorem bar_bar (c : Nat) : bar (bar c) = c := by unfold bar; rw [Nat.xor_assoc, Nat.xor_self, Nat.xor_zero]
def Tight : List Nat → Prop
  | a :: b :: r => b ≠ bar a ∧ Tight (b :: r)
  | _ => True
def decTight : (l : List Nat) → Decidable (Tight l)
  | [] => isTrue trivial
  | [_] => isTrue trivial
  | a :: b :: r => @instDecidableAnd (b ≠ bar a) (Tight (b :: r)) _ (decTight (b :: r))
instance : DecidablePred Tight := decTight
@[simp] theorem tight_nil : Tight [] := trivial
@[simp] theorem tight_one (a : Nat) : Tight [a] := trivial
@[simp] theorem tight_cons2 (a b : Nat) (r : List Nat) : Tight (a :: b :: r) ↔ b ≠ bar a ∧ Tight (b :: r) := Iff.rfl
theorem Tight.tail {a : Nat} {r : List Nat} (h : Tight (a :: r)) : Tight r := by
  cases r with
  | nil => trivial
  | cons b r => exact h.2
theorem tight_append {x y : List Nat} : Tight (x ++ y) ↔ Tight x ∧ Tight y ∧ ∀ a b, x.getLast? = some a → y.head? = some b → b ≠ bar a := by
  induction x with
  | nil => simp
  | cons a x ih =>
    cases x with
    | nil =>
      cases y with
      | nil => simp
      | cons b y =>
        simp only [List.cons_append, List.nil_append, tight_cons2, tight_one, true_and, List.getLast?_singleton, List.head?_cons, Option.some.injEq]
        constructor
        · rintro ⟨h1, h2⟩
          refine ⟨h2, ?_⟩
          rintro _ _ rfl rfl
          exact h1
        · rintro ⟨h1, h2⟩
          exact ⟨h2 _ _ rfl rfl, h1⟩
    | cons c x =>
      simp only [List.cons_append, tight_cons2] at ih ⊢
      rw [ih, List.getLast?_cons_cons, and_assoc]
theorem Tight.left {x y : List Nat} (h : Tight (x ++ y)) : Tight x := (tight_append.mp h).1
theorem Tight.right {x y : List Nat} (h : Tight (x ++ y)) : Tight y := (tight_append.mp h).2.1
def inv (w : List Nat) : List Nat := (w.map bar).reverse
@[simp] theorem inv_nil : inv [] = [] := rfl
@[simp] theorem inv_length (w : List Nat) : (inv w).length = w.length := by simp [inv]
theorem inv_cons (a : Nat) (x : List Nat) : inv (a :: x) = inv x ++ [bar a] := by simp [inv]
@[simp] theorem inv_inv (w : List Nat) : inv (inv w) = w := by
  unfold inv
  rw [List.map_reverse, List.reverse_reverse, List.map_map]
  have : bar ∘ bar = id := funext bar_bar
  rw [this, List.map_id]
def push (s : List Nat) (c : Nat) : List Nat := match s with
  | [] => [c]
  | x :: r => if x = bar c then r else c :: x :: r
def redS (s w : List Nat) : List Nat := w.foldl push s
def red (w : List Nat) : List Nat := (redS [] w).reverse
def TS (s : List Nat) : Prop := Tight s
theorem ts_nil : TS [] := trivial
theorem TS.push {s : List Nat} (h : TS s) (c : Nat) : TS (push s c) := by
  unfold KW.push
  cases s with
  | nil => trivial
  | cons x r =>
    simp only
    split
    · exact h.tail
    · rename_i hx
      exact ⟨hx, h⟩
theorem TS.redS {s : List Nat} (h : TS s) (w : List Nat) : TS (redS s w) := by
  induction w generalizing s with
  | nil => exact h
  | cons a w ih => exact ih (h.push a)
theorem push_bar {s : List Nat} (h : TS s) (c : Nat) : push (push s c) (bar c) = s := by
  cases s with
  | nil => simp [push, bar_bar]
  | cons x r =>
    by_cases hx : x = bar c
    · subst hx
      have e : push (bar c :: r) c = r := by simp [push]
      rw [e]
      cases r with
      | nil => rfl
      | cons y r =>
        have hy : y ≠ bar (bar c) := h.1
        unfold push
        simp [hy]
    · have e : push (x :: r) c = c :: x :: r := by simp [push, hx]
      rw [e]
      unfold push
      simp [bar_bar]
theorem redS_append (s x y : List Nat) : redS s (x ++ y) = redS (redS s x) y := List.foldl_append
theorem redS_cons (s : List Nat) (a : Nat) (x : List Nat) : redS s (a :: x) = redS (push s a) x := rfl
theorem redS_inv {s : List Nat} (h : TS s) (w : List Nat) : redS (redS s w) (inv w) = s := by
  induction w generalizing s with
  | nil => rfl
  | cons a w ih =>
    rw [inv_cons, redS_append]
    show push (redS (redS (push s a) w) (inv w)) (bar a) = s
    rw [ih (h.push a)]
    exact push_bar h a
theorem redS_tight {s w : List Nat} (h : Tight w) (hm : ∀ a b, s.head? = some a → w.head? = some b → b ≠ bar a) : redS s w = w.reverse ++ s := by
  induction w generalizing s with
  | nil => rfl
  | cons b w ih =>
    rw [redS_cons]
    have e : push s b = b :: s := by
      cases s with
      | nil => rfl
      | cons a r =>
        have : a ≠ bar b := fun e => hm a b rfl rfl (by rw [e, bar_bar])
        simp [push, this]
    rw [e, ih h.tail, List.reverse_cons, List.append_assoc]
    · rfl
    · intro x y hx hy
      simp at hx
      subst hx
      cases w with
      | nil => simp at hy
      | cons c w => simp at hy; subst hy; exact h.1
theorem red_tight {w : List Nat} (h : Tight w) : red w = w := by
  unfold red
  rw [redS_tight h (by simp)]
  simp
theorem tight_reverse {w : List Nat} (h : Tight w) : Tight w.reverse := by
  induction w with
  | nil => trivial
  | cons a w ih =>
    rw [List.reverse_cons, tight_append]
    refine ⟨ih h.tail, trivial, fun x y hx hy => ?_⟩
    simp at hy
    subst hy
    cases w with
    | nil => simp at hx
    | cons b w =>
      simp at hx
      subst hx
      intro e
      exact h.1 (by rw [e, bar_bar])
theorem tight_red (w : List Nat) : Tight (red w) := by
  have : TS (redS [] w) := TS.redS ts_nil w
  exact tight_reverse this
theorem red_red (w : List Nat) : red (red w) = red w := red_tight (tight_red w)
theorem redS_red {s : List Nat} (h : TS s) (w : List Nat) : redS s (red w) = redS s w := by
  have key : ∀ (r : List Nat) (n : Nat), r.length = n → redS s (redS [] r).reverse = redS s r := by
    intro r n
    induction n generalizing r with
    | zero => intro e; rw [List.length_eq_zero_iff.mp e]; rfl
    | succ n ih =>
      intro e
      have hr : r ≠ [] := fun z => by rw [z] at e; simp at e
      obtain ⟨x, c, rfl⟩ : ∃ x c, r = x ++ [c] := ⟨r.dropLast, r.getLast hr, (List.dropLast_concat_getLast hr).symm⟩
      have ex : x.length = n := by simpa using e
      have i := ih x ex
      have ht : TS (redS [] x) := TS.redS ts_nil x
      rw [redS_append, redS_append, ← i]
      cases q : redS [] x with
      | nil => rfl
      | cons y t =>
        show redS s (push (y :: t) c).reverse = push (redS s (y :: t).reverse) c
        by_cases hy : y = bar c
        · have e1 : push (y :: t) c = t := by simp [push, hy]
          rw [e1, List.reverse_cons, redS_append]
          show redS s t.reverse = push (push (redS s t.reverse) y) c
          rw [hy]
          have := push_bar (h.redS t.reverse) (bar c)
          rw [bar_bar] at this
          exact this.symm
        · have e1 : push (y :: t) c = c :: y :: t := by simp [push, hy]
          rw [e1, List.reverse_cons, redS_append]
          rfl
  exact key w _ rfl
def E (x y : List Nat) : Prop := red x = red y
theorem E.refl (x : List Nat) : E x x := rfl
theorem E.symm {x y : List Nat} (h : E x y) : E y x := Eq.symm h
theorem E.trans {x y z : List Nat} (a : E x y) (b : E y z) : E x z := Eq.trans a b
theorem E.of_eq {x y : List Nat} (h : x = y) : E x y := by rw [h]; exact E.refl y
theorem E.stack {x y : List Nat} (h : E x y) {s : List Nat} (hs : TS s) : redS s x = redS s y := by
  rw [← redS_red hs x, ← redS_red hs y, h]
theorem E.red (x : List Nat) : E (KW.red x) x := red_red x
theorem E.append {x y u v : List Nat} (a : E x y) (b : E u v) : E (x ++ u) (y ++ v) := by
  unfold E KW.red
  rw [redS_append, redS_append, a.stack ts_nil, b.stack (TS.redS ts_nil y)]
theorem E.left {u v : List Nat} (x : List Nat) (b : E u v) : E (x ++ u) (x ++ v) := (E.refl x).append b
theorem E.right {x y : List Nat} (a : E x y) (u : List Nat) : E (x ++ u) (y ++ u) := a.append (E.refl u)
theorem E.inv_r (w : List Nat) : E (w ++ inv w) [] := by
  unfold E KW.red
  rw [redS_append, redS_inv ts_nil]
  rfl
theorem E.inv_l (w : List Nat) : E (inv w ++ w) [] := by
  have := E.inv_r (inv w)
  rwa [inv_inv] at this
theorem E.pair (x y : List Nat) (a : Nat) : E (x ++ a :: bar a :: y) (x ++ y) := by
  have h : E ([a] ++ inv [a] ++ y) y := (E.inv_r [a]).right y
  exact E.left x h
theorem E.inv {x y : List Nat} (h : E x y) : E (inv x) (inv y) := by
  -- inv x ~ inv x y inv y ~ inv x x inv y ~ inv y
  have h1 : E (KW.inv x ++ (y ++ KW.inv y)) (KW.inv x) := by
    have := E.left (KW.inv x) (E.inv_r y)
    rwa [List.append_nil] at this
  have h2 : E (KW.inv x ++ (y ++ KW.inv y)) (KW.inv y) := by
    have a : E (KW.inv x ++ y ++ KW.inv y) (KW.inv x ++ x ++ KW.inv y) := ((E.left (KW.inv x) h.symm)).right _
    rw [← List.append_assoc]
    exact a.trans ((E.inv_l x).right _)
  exact h1.symm.trans h2
def rep (w : List Nat) (n : Nat) : List Nat := (List.replicate n w).flatten
@[simp] theorem rep_zero (w : List Nat) : rep w 0 = [] := rfl
theorem rep_succ (w : List Nat) (n : Nat) : rep w (n + 1) = w ++ rep w n := by simp [rep, List.replicate_succ]
theorem rep_one (w : List Nat) : rep w 1 = w := by rw [rep_succ, rep_zero, List.append_nil]
theorem rep_length (w : List Nat) (n : Nat) : (rep w n).length = n * w.length := by
  induction n with
  | zero => simp
  | succ n ih => rw [rep_succ, List.length_append, ih, Nat.succ_mul, Nat.add_comm]
@[simp] theorem rep_nil (n : Nat) : rep [] n = [] := by
  have := rep_length [] n
  simpa using this
theorem E.rep {x y : List Nat} (h : E x y) (n : Nat) : E (rep x n) (rep y n) := by
  induction n with
  | zero => exact E.refl _
  | succ n ih => rw [rep_succ, rep_succ]; exact h.append ih
def wpow (w : List Nat) (k : Int) : List Nat := if 0 ≤ k then rep w k.toNat else rep (inv w) (-k).toNat
theorem wpow_nat (w : List Nat) (n : Nat) : wpow w n = rep w n := by simp [wpow]
@[simp] theorem wpow_zero (w : List Nat) : wpow w 0 = [] := by simp [wpow]
@[simp] theorem wpow_one (w : List Nat) : wpow w 1 = w := by
  have := wpow_nat w 1
  rw [rep_one] at this
  exact this
theorem E.wpow {x y : List Nat} (h : E x y) (k : Int) : E (wpow x k) (wpow y k) := by
  unfold KW.wpow
  split
  · exact h.rep _
  · exact h.inv.rep _
end KW
namespace KW
structure It where
  w : List Nat
  p : Int
  q : Int
deriving DecidableEq
abbrev Row := List It
def It.at_ (n : Int) (t : It) : List Nat := wpow t.w (t.p * n + t.q)
def val (n : Int) (r : Row) : List Nat := (r.map (It.at_ n)).flatten
@[simp] theorem val_nil (n : Int) : val n [] = [] := rfl
def It.plain (t : It) : Bool := decide (t.p = 0) && decide (t.q = 1)
inductive Stp where
  | out (i : Nat) | turn (i : Nat) | join (i : Nat) | split (i : Nat) (a b : Int) | cut (i : Nat) (k : Int) | glue (i : Nat) | undo (i : Nat) (k : Int) | back (i : Nat) (k : Int) | opn (i : Nat) (k : Int) | root (i : Nat) (r : Int)
deriving DecidableEq
def Stp.i : Stp → Nat
  | .out i => i | .turn i => i | .join i => i | .split i _ _ => i | .cut i _ => i | .glue i => i | .undo i _ => i | .back i _ => i | .opn i _ => i | .root i _ => i
def Stp.pair : Stp → Bool
  | .join _ => true | .glue _ => true | .back _ _ => true | _ => false
end KW
namespace KP
open PySem PySem.Spec PyProof.Rows L2 AM TL
variable {U : List Nat}
def LET : List Nat := [97, 98, 99, 100, 101, 102, 65, 66, 67, 68, 69, 70]
end KP
namespace KP
open PySem PySem.Spec PyProof.Rows L2 AM TL
variable {U : List Nat}
def fac (p : Int) : List Nat := if p = 1 then [] else if p = -1 then [45] else numI p
def ovr (q : Int) : List Nat := if q = 0 then [] else if q < 0 then numI q else 43 :: numI q
def pw (p q : Int) : List Nat := if p = 0 then numI q else fac p ++ 110 :: ovr q
def txt (w : List Nat) (p q : Int) : List Nat := w ++ 94 :: pw p q
theorem small {p : Int} {n : Nat} (h1 : -(n : Int) ≤ p) (h2 : p ≤ n) (hn : n < 10 ^ 3) : p.natAbs < 10 ^ 500 := by
  have : p.natAbs < 10 ^ 3 := by omega
  exact Nat.lt_trans this (by decide)
abbrev Bk := List Nat × Int × Int
def tx (b : Bk) : List Nat := txt b.1 b.2.1 b.2.2
def lets (R : List Bk) : List Nat := tl (Txt.lower (mk (R.map (·.1)).flatten))
def pegs (R : List Bk) : List Nat := [97, 98, 99, 100, 101, 102].filter fun c => decide (c ∈ lets R)
end KP
namespace KP
open PySem PySem.Spec PyProof.Rows L2 AM TL
local macro_rules | `(tactic| walk_at "en") => `(tactic| ((try simp only [List.map_cons, List.map_nil, List.replicate, List.replicate_zero, List.replicate_succ, List.cons_append, List.nil_append, List.set_cons_zero, List.set_cons_succ, Nat.reduceSub, Nat.reduceAdd, List.reduceReplicate, AM.putAll, AM.wipeE, List.foldl_cons, List.foldl_nil, List.zip_cons_cons, List.zip_nil_left, List.zip_nil_right]); with_unfolding_all rfl))
local macro_rules | `(tactic| walk_at "wp") => `(tactic| repeat' (with_reducible first
  | refine wx_dVar (by with_unfolding_all rfl) ?_ | refine wx_dC ?_ | refine wx_dOp2 ?_ | refine wx_all ?_ | refine wx_any ?_ | refine wx_dOp1 ?_ | refine wx_gBl ?_ | refine wx_gTru ?_ | refine wx_dCall ?_ | refine wx_dCons ?_ | refine wx_dNil ?_
  | refine en_of (by walk_at "en") ?_ | refine ws_sSeq ?_ | refine ws_sIf ?_ | refine ws_sRet ?_ | refine ws_sSet ?_ | refine ws_sAsg ?_ | refine ws_sPass ?_ | refine ws_sExpr ?_ | refine ws_sOwn ?_ | refine ws_sFor ?_ | refine ws_sPar ?_
  | refine ws_gNm ?_ | refine ws_gTup (by with_unfolding_all rfl) ?_ | refine ws_gNil ?_ | refine ws_gCons ?_
  | refine wx_dOwn (by with_unfolding_all rfl) ?_ | refine wx_dOwn' (by with_unfolding_all rfl) ?_ | refine ws_frz (by with_unfolding_all rfl) ?_ | refine ws_frz' (by with_unfolding_all rfl) ?_ | refine ws_sApp (by with_unfolding_all rfl) ?_
  | refine wx_dChain ?_ | refine wx_gAnd ?_ | refine wx_gOr ?_ | refine wx_gNot ?_ | refine wx_dAnd ?_ | refine wx_dOr ?_ | refine wx_dNot ?_ | refine wx_dIf ?_ | refine wx_dNeg ?_
  | refine wx_dTup ?_ | refine wx_dLst ?_ | refine wx_dLstF ?_ | refine wx_dF ?_ | refine wx_oNo ?_ | refine wx_oSo ?_ | refine wx_dSl ?_ | refine wx_dM1 ?_ | refine wx_dM0 ?_ | refine wx_dFld ?_ | refine wx_dProp ?_ | refine wx_dOwn2 ?_ | refine wx_gTruC ?_ | refine wx_iSeq ?_ | refine wx_iRan ?_
  | refine wi_add ?_ | refine wi_sub ?_ | refine wi_lt ?_ | refine wi_le ?_ | refine wi_gt ?_ | refine wi_ge ?_ | refine wi_eq ?_ | refine wi_ne ?_ | refine wi_max ?_ | refine wi_min ?_ | refine wi_lenT ?_ | refine wi_lenL ?_ | refine wi_lenF ?_
  | refine wi_itT ?_ | refine wi_itL ?_ | refine wi_itF ?_ | refine wi_itS ?_ | refine wi_tupL ?_ | refine wi_tupT ?_ | refine wi_isN ?_ | refine wi_isNN ?_ | refine wi_intT ?_ | refine wi_inM ?_ | refine wi_notInM ?_
  | refine and_t ?_ | refine and_f ?_ | refine and_nT ?_ | refine and_nF ?_
  | refine Exists.intro _ (And.intro rfl ?_)
  | refine And.intro (Nat.le_of_ble_eq_true (by with_unfolding_all rfl)) ?_ | refine And.intro (show okRb _ = true by with_unfolding_all rfl) ?_))
section
variable {U : List Nat}
end
end KP
namespace KL
open PySem PySem.Spec PyProof.Rows L2 AM TL KP
variable {U : List Nat}
end KL
namespace KP
open PySem PySem.Spec PyProof.Rows L2 AM TL
local macro_rules | `(tactic| walk_at "en") => `(tactic| ((try simp only [List.map_cons, List.map_nil, List.replicate, List.replicate_zero, List.replicate_succ, List.cons_append, List.nil_append, List.set_cons_zero, List.set_cons_succ, Nat.reduceSub, Nat.reduceAdd, List.reduceReplicate, AM.putAll, AM.wipeE, List.foldl_cons, List.foldl_nil, List.zip_cons_cons, List.zip_nil_left, List.zip_nil_right]); with_unfolding_all rfl))
local macro_rules | `(tactic| walk_at "wp") => `(tactic| repeat' (with_reducible first
  | refine wx_dVar (by with_unfolding_all rfl) ?_ | refine wx_dC ?_ | refine wx_dOp2 ?_ | refine wx_all ?_ | refine wx_any ?_ | refine wx_dOp1 ?_ | refine wx_gBl ?_ | refine wx_gTru ?_ | refine wx_dCall ?_ | refine wx_dCons ?_ | refine wx_dNil ?_
  | refine en_of (by walk_at "en") ?_ | refine ws_sSeq ?_ | refine ws_sIf ?_ | refine ws_sRet ?_ | refine ws_sSet ?_ | refine ws_sAsg ?_ | refine ws_sPass ?_ | refine ws_sExpr ?_ | refine ws_sOwn ?_ | refine ws_sFor ?_ | refine ws_sPar ?_
  | refine ws_gNm ?_ | refine ws_gTup (by with_unfolding_all rfl) ?_ | refine ws_gNil ?_ | refine ws_gCons ?_
  | refine wx_dOwn (by with_unfolding_all rfl) ?_ | refine wx_dOwn' (by with_unfolding_all rfl) ?_ | refine ws_frz (by with_unfolding_all rfl) ?_ | refine ws_frz' (by with_unfolding_all rfl) ?_ | refine ws_sApp (by with_unfolding_all rfl) ?_
  | refine wx_dChain ?_ | refine wx_gAnd ?_ | refine wx_gOr ?_ | refine wx_gNot ?_ | refine wx_dAnd ?_ | refine wx_dOr ?_ | refine wx_dNot ?_ | refine wx_dIf ?_ | refine wx_dNeg ?_
  | refine wx_dTup ?_ | refine wx_dLst ?_ | refine wx_dLstF ?_ | refine wx_dF ?_ | refine wx_oNo ?_ | refine wx_oSo ?_ | refine wx_dSl ?_ | refine wx_dM1 ?_ | refine wx_dM0 ?_ | refine wx_dFld ?_ | refine wx_dProp ?_ | refine wx_dOwn2 ?_ | refine wx_gTruC ?_ | refine wx_iSeq ?_ | refine wx_iRan ?_
  | refine wi_add ?_ | refine wi_sub ?_ | refine wi_lt ?_ | refine wi_le ?_ | refine wi_gt ?_ | refine wi_ge ?_ | refine wi_eq ?_ | refine wi_ne ?_ | refine wi_max ?_ | refine wi_min ?_ | refine wi_lenT ?_ | refine wi_lenL ?_ | refine wi_lenF ?_
  | refine wi_itT ?_ | refine wi_itL ?_ | refine wi_itF ?_ | refine wi_itS ?_ | refine wi_tupL ?_ | refine wi_tupT ?_ | refine wi_isN ?_ | refine wi_isNN ?_ | refine wi_revL ?_ | refine wi_revT ?_ | refine wi_slT ?_ | refine wi_slL ?_ | refine wi_abs ?_ | refine wx_iEnmL ?_ | refine wx_dMeth ?_ | refine wi_intT ?_ | refine wi_inM ?_ | refine wi_notInM ?_
  | refine and_t ?_ | refine and_f ?_ | refine and_nT ?_ | refine and_nF ?_
  | refine Exists.intro _ (And.intro rfl ?_)
  | refine And.intro (Nat.le_of_ble_eq_true (by with_unfolding_all rfl)) ?_ | refine And.intro (show okRb _ = true by with_unfolding_all rfl) ?_))
section
variable {U : List Nat}
theorem let_asc : ∀ c ∈ LET, c < 0x110000 := by decide
theorem let_bar : ∀ c ∈ LET, KW.bar c ∈ LET := by decide
def isL (w : List Nat) : Prop := ∀ c ∈ w, c ∈ LET
theorem isL.inv {w : List Nat} (h : isL w) : isL (KW.inv w) := fun c hc => by
  unfold KW.inv at hc
  obtain ⟨d, hd, rfl⟩ := List.mem_map.mp (List.mem_reverse.mp hc)
  exact let_bar d (h d hd)
theorem isL.asc {w : List Nat} (h : isL w) : asc w = true := by
  unfold AM.asc
  rw [List.all_eq_true]
  exact fun c hc => decide_eq_true (let_asc c (h c hc))
theorem isL.app {a b : List Nat} (ha : isL a) (hb : isL b) : isL (a ++ b) := fun c hc => (List.mem_append.mp hc).elim (ha c) (hb c)
theorem isL.rep {w : List Nat} (h : isL w) (n : Nat) : isL (KW.rep w n) := by
  induction n with
  | zero => exact fun c hc => by cases hc
  | succ n ih => rw [KW.rep_succ]; exact h.app ih
theorem isL.wpow {w : List Nat} (h : isL w) (k : Int) : isL (KW.wpow w k) := by
  unfold KW.wpow
  split
  · exact h.rep _
  · exact h.inv.rep _
theorem isL.one {c : Nat} (h : c ∈ LET) : isL [c] := fun d hd => by rw [List.mem_singleton.mp hd]; exact h
theorem isL.drop {w : List Nat} (h : isL w) (n : Nat) : isL (w.drop n) := fun c hc => h c (List.mem_of_mem_drop hc)
theorem isL.take {w : List Nat} (h : isL w) (n : Nat) : isL (w.take n) := fun c hc => h c (List.mem_of_mem_take hc)
end
end KP
namespace KP
open PySem PySem.Spec PyProof.Rows L2 AM TL
local macro_rules | `(tactic| walk_at "en") => `(tactic| ((try simp only [List.map_cons, List.map_nil, List.replicate, List.replicate_zero, List.replicate_succ, List.cons_append, List.nil_append, List.set_cons_zero, List.set_cons_succ, Nat.reduceSub, Nat.reduceAdd, List.reduceReplicate, AM.putAll, AM.wipeE, List.foldl_cons, List.foldl_nil, List.zip_cons_cons, List.zip_nil_left, List.zip_nil_right]); with_unfolding_all rfl))
local macro_rules | `(tactic| walk_at "wp") => `(tactic| repeat' (with_reducible first
  | (apply wx_dVar; focus (with_unfolding_all rfl)) | refine wx_dC ?_ | refine wx_dOp2 ?_ | refine wx_all ?_ | refine wx_any ?_ | refine wx_dOp1 ?_ | refine wx_gBl ?_ | refine wx_gTru ?_ | refine wx_dCall ?_ | refine wx_dCons ?_ | refine wx_dNil ?_
  | (apply en_of; focus (walk_at "en")) | refine ws_sSeq ?_ | refine ws_sIf ?_ | refine ws_sRet ?_ | refine ws_sSet ?_ | refine ws_sAsg ?_ | refine ws_sPass ?_ | refine ws_sExpr ?_ | refine ws_sOwn ?_ | refine ws_sFor ?_ | refine ws_sPar ?_
  | refine ws_gNm ?_ | (apply ws_gTup; focus (with_unfolding_all rfl)) | refine ws_gNil ?_ | refine ws_gCons ?_
  | (apply wx_dOwn; focus (with_unfolding_all rfl)) | (apply wx_dOwn'; focus (with_unfolding_all rfl)) | (apply ws_frz; focus (with_unfolding_all rfl)) | (apply ws_frz'; focus (with_unfolding_all rfl)) | (apply ws_sApp; focus (with_unfolding_all rfl))
  | refine wx_dChain ?_ | refine wx_gAnd ?_ | refine wx_gOr ?_ | refine wx_gNot ?_ | refine wx_dAnd ?_ | refine wx_dOr ?_ | refine wx_dNot ?_ | refine wx_dIf ?_ | refine wx_dNeg ?_
  | refine wx_dTup ?_ | refine wx_dLst ?_ | refine wx_dLstF ?_ | refine wx_dF ?_ | refine wx_oNo ?_ | refine wx_oSo ?_ | refine wx_dSl ?_ | refine wx_dM1 ?_ | refine wx_dM0 ?_ | refine wx_dFld ?_ | refine wx_dProp ?_ | refine wx_dOwn2 ?_ | refine wx_gTruC ?_ | refine wx_iSeq ?_ | refine wx_iRan ?_
  | refine wi_add ?_ | refine wi_sub ?_ | refine wi_lt ?_ | refine wi_le ?_ | refine wi_gt ?_ | refine wi_ge ?_ | refine wi_eq ?_ | refine wi_ne ?_ | refine wi_max ?_ | refine wi_min ?_ | refine wi_lenT ?_ | refine wi_lenL ?_ | refine wi_lenF ?_
  | refine wi_itT ?_ | refine wi_itL ?_ | refine wi_itF ?_ | refine wi_itS ?_ | refine wi_tupL ?_ | refine wi_tupT ?_ | refine wi_isN ?_ | refine wi_isNN ?_ | refine wi_revL ?_ | refine wi_revT ?_ | refine wi_slT ?_ | refine wi_slL ?_ | refine wi_abs ?_ | refine wx_iEnmL ?_ | refine wx_dMeth ?_ | refine wi_intT ?_ | refine wi_inM ?_ | refine wi_notInM ?_
  | refine and_t ?_ | refine and_f ?_ | refine and_nT ?_ | refine and_nF ?_
  | refine Exists.intro _ (And.intro rfl ?_)
  | (refine And.intro ?_ ?_; focus (refine Nat.le_of_ble_eq_true ?_; with_unfolding_all rfl)) | (refine And.intro ?_ ?_; focus (change okRb _ = true; with_unfolding_all rfl))))
section
variable {U : List Nat}
def PG : List Nat := [97, 98, 99, 100, 101, 102]
end
end KP
namespace KL
open PySem PySem.Spec PyProof.Rows L2 AM TL KP
local macro_rules | `(tactic| walk_at "en") => `(tactic| ((try simp only [List.map_cons, List.map_nil, List.replicate, List.replicate_zero, List.replicate_succ, List.cons_append, List.nil_append, List.set_cons_zero, List.set_cons_succ, Nat.reduceSub, Nat.reduceAdd, List.reduceReplicate, AM.putAll, AM.wipeE, List.foldl_cons, List.foldl_nil, List.zip_cons_cons, List.zip_nil_left, List.zip_nil_right]); with_unfolding_all rfl))
local macro_rules | `(tactic| walk_at "wp") => `(tactic| repeat' (with_reducible first
  | (apply wx_dVar; focus (with_unfolding_all rfl)) | refine wx_dC ?_ | refine wx_dOp2 ?_ | refine wx_all ?_ | refine wx_any ?_ | refine wx_dOp1 ?_ | refine wx_gBl ?_ | refine wx_gTru ?_ | refine wx_dCall ?_ | refine wx_dCons ?_ | refine wx_dNil ?_
  | (apply en_of; focus (walk_at "en")) | refine ws_sSeq ?_ | refine ws_sIf ?_ | refine ws_sRet ?_ | refine ws_sSet ?_ | refine ws_sAsg ?_ | refine ws_sPass ?_ | refine ws_sExpr ?_ | refine ws_sOwn ?_ | refine ws_sFor ?_ | refine ws_sPar ?_
  | refine ws_gNm ?_ | (apply ws_gTup; focus (with_unfolding_all rfl)) | refine ws_gNil ?_ | refine ws_gCons ?_
  | (apply wx_dOwn; focus (with_unfolding_all rfl)) | (apply wx_dOwn'; focus (with_unfolding_all rfl)) | (apply ws_frz; focus (with_unfolding_all rfl)) | (apply ws_frz'; focus (with_unfolding_all rfl)) | (apply ws_sApp; focus (with_unfolding_all rfl))
  | refine wx_dChain ?_ | refine wx_gAnd ?_ | refine wx_gOr ?_ | refine wx_gNot ?_ | refine wx_dAnd ?_ | refine wx_dOr ?_ | refine wx_dNot ?_ | refine wx_dIf ?_ | refine wx_dNeg ?_
  | refine wx_dTup ?_ | refine wx_dLst ?_ | refine wx_dLstF ?_ | refine wx_dF ?_ | refine wx_oNo ?_ | refine wx_oSo ?_ | refine wx_dSl ?_ | refine wx_dM1 ?_ | refine wx_dM0 ?_ | refine wx_dFld ?_ | refine wx_dProp ?_ | refine wx_dOwn2 ?_ | refine wx_gTruC ?_ | refine wx_iSeq ?_ | refine wx_iRan ?_
  | refine wi_add ?_ | refine wi_sub ?_ | refine wi_lt ?_ | refine wi_le ?_ | refine wi_gt ?_ | refine wi_ge ?_ | refine wi_eq ?_ | refine wi_ne ?_ | refine wi_max ?_ | refine wi_min ?_ | refine wi_lenT ?_ | refine wi_lenL ?_ | refine wi_lenF ?_
  | refine wi_itT ?_ | refine wi_itL ?_ | refine wi_itF ?_ | refine wi_itS ?_ | refine wi_tupL ?_ | refine wi_tupT ?_ | refine wi_isN ?_ | refine wi_isNN ?_ | refine wi_revL ?_ | refine wi_revT ?_ | refine wi_slT ?_ | refine wi_slL ?_ | refine wi_abs ?_ | refine wx_iEnmL ?_ | refine wx_dMeth ?_ | refine wi_intT ?_ | refine wi_inM ?_ | refine wi_notInM ?_
  | refine and_t ?_ | refine and_f ?_ | refine and_nT ?_ | refine and_nF ?_
  | refine Exists.intro _ (And.intro rfl ?_) | refine Exists.intro _ (Exists.intro _ (And.intro rfl ?_))
  | (refine And.intro ?_ ?_; focus (refine Nat.le_of_ble_eq_true ?_; with_unfolding_all rfl)) | (refine And.intro ?_ ?_; focus (change okRb _ = true; with_unfolding_all rfl))))
section
variable {U : List Nat}
section
variable {h : Nat} {st : Sto} {V : AM.D → Sto → Prop}
end
end
section
variable {U : List Nat}
end
section
variable {U : List Nat}
section
variable {h : Nat} {st : Sto} {V : AM.D → Sto → Prop}
end
end
section
variable {U : List Nat}
section
variable {h : Nat} {st : Sto} {V : AM.D → Sto → Prop}
end
end
end KL
namespace KP
open PySem PySem.Spec PyProof.Rows L2 AM KL KP
def F_do_undo (U : List Nat) : DF := runD 2 2 (sRet (dAnd (dOp2 oNe (dVar 0) (dVar 1)) (dOp2 oEq (dM0 sLower (dVar 0)) (dM0 sLower (dVar 1)))))
def F_is_plain (U : List Nat) : DF := runD 1 1 (sRet (dAnd (dOp2 oEq (dOp2 oIx (dVar 0) (dC (.int 1))) (dC (.int 0))) (dOp2 oEq (dOp2 oIx (dVar 0) (dC (.int 2))) (dC (.int 1)))))
def F_left_out (U : List Nat) : DF := runD 1 1 (sRet (dIf (gOr (gBl (dOp2 oEq (dOp2 oIx (dVar 0) (dC (.int 0))) (dC (.str "")))) (gAnd (gBl (dOp2 oEq (dOp2 oIx (dVar 0) (dC (.int 1))) (dC (.int 0)))) (gBl (dOp2 oEq (dOp2 oIx (dVar 0) (dC (.int 2))) (dC (.int 0)))))) (dTup dNil) (dC .non)))
def F_turned (U : List Nat) : DF := runD 1 1 (sRet (dTup (dCons (dTup (dCons (dCall (F_undone_word U) (dCons (dOp2 oIx (dVar 0) (dC (.int 0))) dNil)) (dCons (dOp2 oSub (dC (.int 0)) (dOp2 oIx (dVar 0) (dC (.int 1)))) (dCons (dOp2 oSub (dC (.int 0)) (dOp2 oIx (dVar 0) (dC (.int 2)))) dNil)))) dNil)))
def F_joined (U : List Nat) : DF := runD 2 2 (sRet (dIf (gBl (dOp2 oEq (dOp2 oIx (dVar 0) (dC (.int 0))) (dOp2 oIx (dVar 1) (dC (.int 0))))) (dTup (dCons (dTup (dCons (dOp2 oIx (dVar 0) (dC (.int 0))) (dCons (dOp2 oAdd (dOp2 oIx (dVar 0) (dC (.int 1))) (dOp2 oIx (dVar 1) (dC (.int 1)))) (dCons (dOp2 oAdd (dOp2 oIx (dVar 0) (dC (.int 2))) (dOp2 oIx (dVar 1) (dC (.int 2)))) dNil)))) dNil)) (dC .non)))
def F_parted (U : List Nat) : DF := runD 3 3 (sRet (dTup (dCons (dTup (dCons (dOp2 oIx (dVar 0) (dC (.int 0))) (dCons (dOp2 oSub (dOp2 oIx (dVar 0) (dC (.int 1))) (dVar 1)) (dCons (dOp2 oSub (dOp2 oIx (dVar 0) (dC (.int 2))) (dVar 2)) dNil)))) (dCons (dTup (dCons (dOp2 oIx (dVar 0) (dC (.int 0))) (dCons (dVar 1) (dCons (dVar 2) dNil)))) dNil))))
def F_cut_at (U : List Nat) : DF := runD 2 2 (sSeq (sIf (gOr (gNot (gTru (dCall (F_is_plain U) (dCons (dVar 0) dNil)))) (gNot (gBl (dChain oLt oLt (dC (.int 0)) (dVar 1) (dOp1 oLen (dOp2 oIx (dVar 0) (dC (.int 0)))))))) (sRet (dC .non)) sPass) (sRet (dTup (dCons (dTup (dCons (dSl (dOp2 oIx (dVar 0) (dC (.int 0))) oNo (oSo (dVar 1))) (dCons (dC (.int 0)) (dCons (dC (.int 1)) dNil)))) (dCons (dTup (dCons (dSl (dOp2 oIx (dVar 0) (dC (.int 0))) (oSo (dVar 1)) oNo) (dCons (dC (.int 0)) (dCons (dC (.int 1)) dNil)))) dNil)))))
def F_glued (U : List Nat) : DF := runD 2 2 (sRet (dIf (gAnd (gTru (dCall (F_is_plain U) (dCons (dVar 0) dNil))) (gTru (dCall (F_is_plain U) (dCons (dVar 1) dNil)))) (dTup (dCons (dTup (dCons (dOp2 oAdd (dOp2 oIx (dVar 0) (dC (.int 0))) (dOp2 oIx (dVar 1) (dC (.int 0)))) (dCons (dC (.int 0)) (dCons (dC (.int 1)) dNil)))) dNil)) (dC .non)))
def F_unpaired (U : List Nat) : DF := runD 2 3 (sSeq (sSet 2 (dOp2 oIx (dVar 0) (dC (.int 0)))) (sSeq (sIf (gOr (gNot (gBl (dChain oLe oLt (dC (.int 0)) (dVar 1) (dOp2 oSub (dOp1 oLen (dVar 2)) (dC (.int 1)))))) (gNot (gTru (dCall (F_do_undo U) (dCons (dOp2 oIx (dVar 2) (dVar 1)) (dCons (dOp2 oIx (dVar 2) (dOp2 oAdd (dVar 1) (dC (.int 1)))) dNil)))))) (sRet (dC .non)) sPass) (sRet (dTup (dCons (dTup (dCons (dOp2 oAdd (dSl (dVar 2) oNo (oSo (dVar 1))) (dSl (dVar 2) (oSo (dOp2 oAdd (dVar 1) (dC (.int 2)))) oNo)) (dCons (dOp2 oIx (dVar 0) (dC (.int 1))) (dCons (dOp2 oIx (dVar 0) (dC (.int 2))) dNil)))) dNil)))))
def F_passed (U : List Nat) : DF := runD 3 4 (sSeq (sSet 3 (dOp2 oIx (dVar 0) (dC (.int 0)))) (sSeq (sIf (gOr (gNot (gTru (dCall (F_is_plain U) (dCons (dVar 0) dNil)))) (gOr (gBl (dOp2 oNe (dOp1 oLen (dVar 3)) (dVar 2))) (gOr (gBl (dOp2 oLt (dVar 2) (dC (.int 1)))) (gBl (dOp2 oLt (dOp1 oLen (dOp2 oIx (dVar 1) (dC (.int 0)))) (dVar 2)))))) (sRet (dC .non)) sPass) (sSeq (sIf (gBl (dOp2 oNe (dSl (dOp2 oIx (dVar 1) (dC (.int 0))) (oSo (dOp2 oSub (dOp1 oLen (dOp2 oIx (dVar 1) (dC (.int 0)))) (dVar 2))) oNo) (dVar 3))) (sRet (dC .non)) sPass) (sRet (dTup (dCons (dTup (dCons (dOp2 oAdd (dVar 3) (dSl (dOp2 oIx (dVar 1) (dC (.int 0))) oNo (oSo (dOp2 oSub (dOp1 oLen (dOp2 oIx (dVar 1) (dC (.int 0)))) (dVar 2))))) (dCons (dOp2 oIx (dVar 1) (dC (.int 1))) (dCons (dOp2 oIx (dVar 1) (dC (.int 2))) dNil)))) (dCons (dTup (dCons (dVar 3) (dCons (dC (.int 0)) (dCons (dC (.int 1)) dNil)))) dNil)))))))
def F_opened (U : List Nat) : DF := runD 2 4 (sSeq (sSet 2 (dOp2 oIx (dVar 0) (dC (.int 0)))) (sSeq (sIf (gOr (gNot (gBl (dOp2 oLt (dC (.int 0)) (dVar 1)))) (gOr (gBl (dOp2 oGe (dOp2 oMul (dC (.int 2)) (dVar 1)) (dOp1 oLen (dVar 2)))) (gBl (dOp2 oNe (dCall (F_undone_word U) (dCons (dSl (dVar 2) oNo (oSo (dVar 1))) dNil)) (dSl (dVar 2) (oSo (dOp2 oSub (dOp1 oLen (dVar 2)) (dVar 1))) oNo))))) (sRet (dC .non)) sPass) (sSeq (sSet 3 (dSl (dVar 2) (oSo (dVar 1)) (oSo (dOp2 oSub (dOp1 oLen (dVar 2)) (dVar 1))))) (sRet (dTup (dCons (dTup (dCons (dSl (dVar 2) oNo (oSo (dVar 1))) (dCons (dC (.int 0)) (dCons (dC (.int 1)) dNil)))) (dCons (dTup (dCons (dVar 3) (dCons (dOp2 oIx (dVar 0) (dC (.int 1))) (dCons (dOp2 oIx (dVar 0) (dC (.int 2))) dNil)))) (dCons (dTup (dCons (dCall (F_undone_word U) (dCons (dSl (dVar 2) oNo (oSo (dVar 1))) dNil)) (dCons (dC (.int 0)) (dCons (dC (.int 1)) dNil)))) dNil))))))))
def F_rooted (U : List Nat) : DF := runD 2 4 (sSeq (sSet 2 (dOp2 oIx (dVar 0) (dC (.int 0)))) (sSeq (sIf (gOr (gBl (dOp2 oLt (dVar 1) (dC (.int 2)))) (gOr (gBl (dOp2 oEq (dOp1 oLen (dVar 2)) (dC (.int 0)))) (gBl (dOp2 oNe (dOp2 oMod (dOp1 oLen (dVar 2)) (dVar 1)) (dC (.int 0)))))) (sRet (dC .non)) sPass) (sSeq (sSet 3 (dSl (dVar 2) oNo (oSo (dOp2 oDiv (dOp1 oLen (dVar 2)) (dVar 1))))) (sRet (dIf (gBl (dOp2 oEq (dOp2 oMul (dVar 3) (dVar 1)) (dVar 2))) (dTup (dCons (dTup (dCons (dVar 3) (dCons (dOp2 oMul (dOp2 oIx (dVar 0) (dC (.int 1))) (dVar 1)) (dCons (dOp2 oMul (dOp2 oIx (dVar 0) (dC (.int 2))) (dVar 1)) dNil)))) dNil)) (dC .non))))))
def F_replaced (U : List Nat) : DF := runD 2 4 (sSeq (sSet 2 (dOp2 oIx (dVar 0) (dOp2 oIx (dVar 1) (dC (.int 1))))) (sSeq (sIf (gBl (dOp2 oIn (dOp2 oIx (dVar 1) (dC (.int 0))) (dC (.tup ((["join", "glue", "back"] : List Str).map D.str))))) (sSeq (sSet 3 (dOp2 oIx (dVar 0) (dOp2 oAdd (dOp2 oIx (dVar 1) (dC (.int 1))) (dC (.int 1))))) (sSeq (sIf (gBl (dOp2 oEq (dOp2 oIx (dVar 1) (dC (.int 0))) (dC (.str "back")))) (sRet (dCall (F_passed U) (dCons (dVar 2) (dCons (dVar 3) (dCons (dOp2 oIx (dVar 1) (dC (.int 2))) dNil))))) sPass) (sRet (dIf (gBl (dOp2 oEq (dOp2 oIx (dVar 1) (dC (.int 0))) (dC (.str "join")))) (dCall (F_joined U) (dCons (dVar 2) (dCons (dVar 3) dNil))) (dCall (F_glued U) (dCons (dVar 2) (dCons (dVar 3) dNil))))))) sPass) (sSeq (sIf (gBl (dOp2 oEq (dOp2 oIx (dVar 1) (dC (.int 0))) (dC (.str "split")))) (sRet (dCall (F_parted U) (dCons (dVar 2) (dCons (dOp2 oIx (dVar 1) (dC (.int 2))) (dCons (dOp2 oIx (dVar 1) (dC (.int 3))) dNil))))) sPass) (sSeq (sIf (gBl (dOp2 oEq (dOp1 oLen (dVar 1)) (dC (.int 2)))) (sRet (dIf (gBl (dOp2 oEq (dOp2 oIx (dVar 1) (dC (.int 0))) (dC (.str "out")))) (dCall (F_left_out U) (dCons (dVar 2) dNil)) (dCall (F_turned U) (dCons (dVar 2) dNil)))) sPass) (sRet (dDcall [(.inr "cut", (F_cut_at U)), (.inr "undo", (F_unpaired U)), (.inr "open", (F_opened U)), (.inr "root", (F_rooted U))] (dOp2 oIx (dVar 1) (dC (.int 0))) (dCons (dVar 2) (dCons (dOp2 oIx (dVar 1) (dC (.int 2))) dNil))))))))
def F_done (U : List Nat) : DF := runD 2 3 (sSeq (sSet 2 (dCall (F_replaced U) (dCons (dVar 0) (dCons (dVar 1) dNil)))) (sSeq (sIf (gBl (dOp2 oIs (dVar 2) (dC .non))) (sRet (dC .non)) sPass) (sRet (dOp2 oAdd (dOp2 oAdd (dSl (dVar 0) oNo (oSo (dOp2 oIx (dVar 1) (dC (.int 1))))) (dVar 2)) (dSl (dVar 0) (oSo (dOp2 oAdd (dOp2 oIx (dVar 1) (dC (.int 1))) (dIf (gBl (dOp2 oIn (dOp2 oIx (dVar 1) (dC (.int 0))) (dC (.tup ((["join", "glue", "back"] : List Str).map D.str))))) (dC (.int 2)) (dC (.int 1))))) oNo)))))
def F_at_rounds (U : List Nat) : DF := runD 2 5 (sRet (dOp1 oTupT (dF (compF (iSeq (dVar 0)) true [2, 3, 4] [2, 3, 4] tYesD (dTup (dCons (dVar 2) (dCons (dC (.int 0)) (dCons (dOp2 oAdd (dOp2 oMul (dVar 3) (dVar 1)) (dVar 4)) dNil))))))))
def F_length_of (U : List Nat) : DF := runD 1 4 (sRet (dOp1 oSum (dF (compF (iSeq (dVar 0)) true [1, 2, 3] [1, 2, 3] tYesD (dOp2 oMul (dOp1 oLen (dVar 1)) (dVar 3))))))
end KP
namespace KP
open PySem PySem.Spec PyProof.Rows L2 AM TL KP KL
local macro_rules | `(tactic| walk_at "en") => `(tactic| ((try simp only [List.map_cons, List.map_nil, List.replicate, List.replicate_zero, List.replicate_succ, List.cons_append, List.nil_append, List.set_cons_zero, List.set_cons_succ, Nat.reduceSub, Nat.reduceAdd, List.reduceReplicate, AM.putAll, AM.wipeE, List.foldl_cons, List.foldl_nil, List.zip_cons_cons, List.zip_nil_left, List.zip_nil_right]); with_unfolding_all rfl))
local macro_rules | `(tactic| walk_at "wp") => `(tactic| repeat' (with_reducible first
  | (apply wx_dVar; focus (with_unfolding_all rfl)) | refine wx_dC ?_ | refine wx_dOp2 ?_ | refine wx_all ?_ | refine wx_any ?_ | refine wx_dOp1 ?_ | refine wx_gBl ?_ | refine wx_gTru ?_ | refine wx_dCall ?_ | refine wx_dCons ?_ | refine wx_dNil ?_
  | (apply en_of; focus (walk_at "en")) | refine ws_sSeq ?_ | refine ws_sIf ?_ | refine ws_sRet ?_ | refine ws_sSet ?_ | refine ws_sAsg ?_ | refine ws_sPass ?_ | refine ws_sRet0 ?_ | refine ws_sAppH ?_ | refine ws_sFldD ?_ | refine ws_sAugD ?_ | refine wx_dNew ?_ | refine wx_iRan2 ?_ | refine wx_iRan3 ?_ | refine wx_fLran ?_ | refine wx_dDcall ?_ | refine ws_sExpr ?_ | refine ws_sOwn ?_ | refine ws_sFor ?_ | refine ws_sPar ?_
  | refine ws_gNm ?_ | (apply ws_gTup; focus (with_unfolding_all rfl)) | refine ws_gNil ?_ | refine ws_gCons ?_
  | (apply wx_dOwn; focus (with_unfolding_all rfl)) | (apply wx_dOwn'; focus (with_unfolding_all rfl)) | (apply ws_frz; focus (with_unfolding_all rfl)) | (apply ws_frz'; focus (with_unfolding_all rfl)) | (apply ws_sApp; focus (with_unfolding_all rfl))
  | refine wx_dChain ?_ | refine wx_gAnd ?_ | refine wx_gOr ?_ | refine wx_gNot ?_ | refine wx_dAnd ?_ | refine wx_dOr ?_ | refine wx_dNot ?_ | refine wx_dIf ?_ | refine wx_dNeg ?_
  | refine wx_dTup ?_ | refine wx_dLst ?_ | refine wx_dLstF ?_ | refine wx_dF ?_ | refine wx_oNo ?_ | refine wx_oSo ?_ | refine wx_dSl ?_ | refine wx_dM1 ?_ | refine wx_dM0 ?_ | refine wx_dFld ?_ | refine wx_dProp ?_ | refine wx_dOwn2 ?_ | refine wx_gTruC ?_ | refine wx_iSeq ?_ | refine wx_iRan ?_
  | refine wi_add ?_ | refine wi_sub ?_ | refine wi_lt ?_ | refine wi_le ?_ | refine wi_gt ?_ | refine wi_ge ?_ | refine wi_eq ?_ | refine wi_ne ?_ | refine wi_max ?_ | refine wi_min ?_ | refine wi_lenT ?_ | refine wi_lenL ?_ | refine wi_lenF ?_
  | refine wi_itT ?_ | refine wi_itL ?_ | refine wi_itF ?_ | refine wi_itS ?_ | refine wi_tupL ?_ | refine wi_tupT ?_ | refine wi_isN ?_ | refine wi_isNN ?_ | refine wi_revL ?_ | refine wi_revT ?_ | refine wi_slT ?_ | refine wi_slL ?_ | refine wi_abs ?_ | refine wx_iEnmL ?_ | refine wx_dMeth ?_ | refine wi_intT ?_ | refine wi_inM ?_ | refine wi_notInM ?_
  | refine and_t ?_ | refine and_f ?_ | refine and_nT ?_ | refine and_nF ?_
  | refine Exists.intro _ (And.intro rfl ?_) | refine Exists.intro _ (Exists.intro _ (And.intro rfl ?_))
  | (refine And.intro ?_ ?_; focus (refine Nat.le_of_ble_eq_true ?_; with_unfolding_all rfl)) | (refine And.intro ?_ ?_; focus (change okRb _ = true; with_unfolding_all rfl)) | (refine And.intro ?_ ?_; focus (change isC _ _ _ _ = true; with_unfolding_all rfl)) | (refine And.intro ?_ ?_; focus (change isI _ _ _ = true; with_unfolding_all rfl)) | (refine And.intro ?_ ?_; focus (change (isI _ _ _ && isI _ _ _) = true; with_unfolding_all rfl))))
local macro_rules | `(tactic| walk_at "wq") => `(tactic| repeat' (with_reducible first
  | (apply wx_dVar; focus (with_unfolding_all rfl)) | refine wx_dC ?_ | refine wx_dOp2 ?_ | refine wx_all ?_ | refine wx_any ?_ | refine wx_dOp1 ?_ | refine wx_gBl ?_ | refine wx_gTru ?_ | refine wx_dCall ?_ | refine wx_dCons ?_ | refine wx_dNil ?_
  | (apply en_of; focus (walk_at "en")) | refine ws_sSeq ?_  | refine ws_sRet ?_ | refine ws_sSet ?_ | refine ws_sAsg ?_ | refine ws_sPass ?_ | refine ws_sRet0 ?_ | refine ws_sAppH ?_ | refine ws_sFldD ?_ | refine ws_sAugD ?_ | refine wx_dNew ?_ | refine wx_iRan2 ?_ | refine wx_iRan3 ?_ | refine wx_fLran ?_ | refine wx_dDcall ?_ | refine ws_sExpr ?_ | refine ws_sOwn ?_ | refine ws_sFor ?_ | refine ws_sPar ?_
  | refine ws_gNm ?_ | (apply ws_gTup; focus (with_unfolding_all rfl)) | refine ws_gNil ?_ | refine ws_gCons ?_
  | (apply wx_dOwn; focus (with_unfolding_all rfl)) | (apply wx_dOwn'; focus (with_unfolding_all rfl)) | (apply ws_frz; focus (with_unfolding_all rfl)) | (apply ws_frz'; focus (with_unfolding_all rfl)) | (apply ws_sApp; focus (with_unfolding_all rfl))
  | refine wx_dChain ?_ | refine wx_gAnd ?_ | refine wx_gOr ?_ | refine wx_gNot ?_ | refine wx_dAnd ?_ | refine wx_dOr ?_ | refine wx_dNot ?_ | refine wx_dIf ?_ | refine wx_dNeg ?_
  | refine wx_dTup ?_ | refine wx_dLst ?_ | refine wx_dLstF ?_ | refine wx_dF ?_ | refine wx_oNo ?_ | refine wx_oSo ?_ | refine wx_dSl ?_ | refine wx_dM1 ?_ | refine wx_dM0 ?_ | refine wx_dFld ?_ | refine wx_dProp ?_ | refine wx_dOwn2 ?_ | refine wx_gTruC ?_ | refine wx_iSeq ?_ | refine wx_iRan ?_
  | refine wi_add ?_ | refine wi_sub ?_ | refine wi_lt ?_ | refine wi_le ?_ | refine wi_gt ?_ | refine wi_ge ?_ | refine wi_eq ?_ | refine wi_ne ?_ | refine wi_max ?_ | refine wi_min ?_ | refine wi_lenT ?_ | refine wi_lenL ?_ | refine wi_lenF ?_
  | refine wi_itT ?_ | refine wi_itL ?_ | refine wi_itF ?_ | refine wi_itS ?_ | refine wi_tupL ?_ | refine wi_tupT ?_ | refine wi_isN ?_ | refine wi_isNN ?_ | refine wi_revL ?_ | refine wi_revT ?_ | refine wi_slT ?_ | refine wi_slL ?_ | refine wi_abs ?_ | refine wx_iEnmL ?_ | refine wx_dMeth ?_ | refine wi_intT ?_ | refine wi_inM ?_ | refine wi_notInM ?_
  | refine and_t ?_ | refine and_f ?_ | refine and_nT ?_ | refine and_nF ?_
  | refine Exists.intro _ (And.intro rfl ?_) | refine Exists.intro _ (Exists.intro _ (And.intro rfl ?_))
  | (refine And.intro ?_ ?_; focus (refine Nat.le_of_ble_eq_true ?_; with_unfolding_all rfl)) | (refine And.intro ?_ ?_; focus (change okRb _ = true; with_unfolding_all rfl)) | (refine And.intro ?_ ?_; focus (change isC _ _ _ _ = true; with_unfolding_all rfl)) | (refine And.intro ?_ ?_; focus (change isI _ _ _ = true; with_unfolding_all rfl)) | (refine And.intro ?_ ?_; focus (change (isI _ _ _ && isI _ _ _) = true; with_unfolding_all rfl))))
section
variable {U : List Nat}
theorem cut_to {α : Type} (l : List α) {k : Int} (h : 0 ≤ k) : cutL l none (some k) = l.take k.toNat := by
  obtain ⟨n, rfl⟩ := Int.eq_ofNat_of_zero_le h
  unfold cutL
  rw [HT.sIx_none, HT.sIx_nat, List.drop_zero, Nat.sub_zero, Int.toNat_natCast]
  by_cases q : n ≤ l.length
  · rw [Nat.min_eq_left q]
  · rw [Nat.min_eq_right (by omega), List.take_length, List.take_of_length_le (by omega)]
theorem cut_from {α : Type} (l : List α) {k : Int} (h : 0 ≤ k) : cutL l (some k) none = l.drop k.toNat := by
  obtain ⟨n, rfl⟩ := Int.eq_ofNat_of_zero_le h
  unfold cutL
  rw [HT.sIx_none, HT.sIx_nat, Int.toNat_natCast]
  by_cases q : n ≤ l.length
  · rw [Nat.min_eq_left q, List.take_of_length_le (by rw [List.length_drop]; omega)]
  · rw [Nat.min_eq_right (by omega), List.drop_length, List.drop_of_length_le (by omega), List.take_nil]
theorem wi_div {i j : Int} {st : Sto} {V : AM.D → Sto → Prop} (h : 0 < j) (h2 : j < 1073741824) (hv : V (.int (i / j)) st) : Wx (oDiv (.int i) (.int j) st) V := wx_eq (ev_div h h2 st) hv
theorem getD_at {w : List Nat} {i : Nat} (h : i < w.length) : w[i]? = some (w.getD i 0) := by simp [List.getD, List.getElem?_eq_getElem h]
theorem isL.getD {w : List Nat} (hL : isL w) {i : Nat} (h : i < w.length) : w.getD i 0 ∈ LET := hL _ (List.mem_of_getElem? (getD_at h))
end
end KP
namespace KP
open PySem PySem.Spec PyProof.Rows L2 AM KL KP
def F_is_step (U : List Nat) : DF := runD 2 3 (sSeq (sIf (gOr (gNot (gTru (dOp1 (oIsi (is_tuple U)) (dVar 0)))) (gOr (gBl (dOp2 oEq (dOp1 oLen (dVar 0)) (dC (.int 0)))) (gOr (gNot (gTru (dOp1 (oIsi (is_str U)) (dOp2 oIx (dVar 0) (dC (.int 0)))))) (gBl (dInG (rowsD T_SIZES) true (dOp2 oIx (dVar 0) (dC (.int 0)))))))) (sRet (dC (.bl false))) sPass) (sSeq (sIf (gOr (gBl (dOp2 oNe (dOp1 oLen (dVar 0)) (dIxG (rowsD T_SIZES) (dOp2 oIx (dVar 0) (dC (.int 0)))))) (gNot (gTru (dOp1 oAll (dF (compF (iSeq (dSl (dVar 0) (oSo (dC (.int 1))) oNo)) false [2] [2] tYesD (dCall (F_is_integer U) (dCons (dVar 2) dNil)))))))) (sRet (dC (.bl false))) sPass) (sRet (dCall (F_is_between U) (dCons (dOp2 oIx (dVar 0) (dC (.int 1))) (dCons (dC (.int 0)) (dCons (dIf (gBl (dOp2 oIn (dOp2 oIx (dVar 0) (dC (.int 0))) (dC (.tup ((["join", "glue", "back"] : List Str).map D.str))))) (dOp2 oSub (dVar 1) (dC (.int 2))) (dOp2 oSub (dVar 1) (dC (.int 1)))) dNil)))))))
def F_all_done (U : List Nat) : DF := runD 2 3 (sSeq (sIf (gNot (gTru (dOp1 (oIsi (is_tuple U)) (dVar 1)))) (sRet (dC .non)) sPass) (sSeq (sFor (iSeq (dVar 1)) (gNm 2) (sSeq (sSet 0 (dIf (gTru (dCall (F_is_step U) (dCons (dVar 2) (dCons (dOp1 oLen (dVar 0)) dNil)))) (dCall (F_done U) (dCons (dVar 0) (dCons (dVar 2) dNil))) (dC .non))) (sIf (gBl (dOp2 oIs (dVar 0) (dC .non))) (sRet (dC .non)) sPass))) (sRet (dVar 0))))
def F_lead_to_nothing (U : List Nat) : DF := runD 2 2 (sRet (dOp2 oEq (dCall (F_all_done U) (dCons (dVar 0) (dCons (dVar 1) dNil))) (dTup dNil)))
def F_shows_free (U : List Nat) : DF := runD 2 2 (sRet (dAnd (dCall (F_are_blocks U) (dCons (dOp2 oIx (dVar 0) (dC (.int 1))) dNil)) (dCall (F_lead_to_nothing U) (dCons (dOp2 oIx (dVar 0) (dC (.int 1))) (dCons (dVar 1) dNil)))))
def F_shows_free_at (U : List Nat) : DF := runD 2 2 (sSeq (sIf (gOr (gNot (gTru (dCall (F_are_blocks U) (dCons (dOp2 oIx (dVar 0) (dC (.int 1))) dNil)))) (gNot (gTru (dCall (F_is_rounds U) (dCons (dOp2 oIx (dVar 0) (dC (.int 2))) dNil))))) (sRet (dC (.bl false))) sPass) (sRet (dCall (F_lead_to_nothing U) (dCons (dCall (F_at_rounds U) (dCons (dOp2 oIx (dVar 0) (dC (.int 1))) (dCons (dOp2 oIx (dVar 0) (dC (.int 2))) dNil))) (dCons (dVar 1) dNil)))))
end KP
namespace KL
open PySem PySem.Spec PyProof.Rows L2 AM KL KP
def F_law_bag (U : List Nat) : DF := runD 2 4 (sSeq (sSet 2 (dIf (gBl (dOp2 oLt (dVar 1) (dOp1 oLen (dVar 0)))) (dOp2 oIx (dVar 0) (dVar 1)) (dOp2 oAdd (dOp2 oMul (dC (.int 6151)) (dVar 1)) (dC (.int 98317))))) (sSeq (sFor (iSeq (dIf (gBl (dOp2 oGe (dVar 1) (dOp1 oLen (dVar 0)))) (dSl (dVar 0) oNo (oSo (dC (.int 3)))) (dLst dNil))) (gNm 3) (sSet 2 (dOp2 oMod (dOp1 oIntT (dOp2 oAdd (dOp2 oMul (dVar 2) (dC (.int 37))) (dVar 3))) (dC (.int 2147483587))))) (sRet (dNew (dLstF (dCons (dOp2 oMod (dOp1 oIntT (dVar 2)) (dC (.int 2147483587))) (dCons (dIf (gOr (gBl (dOp2 oLt (dVar 2) (dC (.int 0)))) (gBl (dOp2 oGe (dVar 2) (dOp2 oPow (dC (.int 10)) (dC (.int 18)))))) (dOp1 oAbs (dVar 2)) (dC (.int 0))) (dCons (dC (.int 0)) dNil))))))))
def F_law_take (U : List Nat) : DF := runD 2 5 (sSeq (sAsg (dOp2 oAdd (dOp2 oIx (dVar 0) (dC (.int 2))) (dC (.int 1))) (gIx (dVar 0) (dC (.int 2)))) (sSeq (sSet 2 (dOp1 oIntT (dOp2 oIx (dVar 0) (dC (.int 0))))) (sSeq (sSet 3 (dOp2 oDiv (dVar 2) (dC (.int 4093)))) (sSeq (sAsg (dOp2 oMod (dOp1 oIntT (dOp2 oAdd (dOp2 oAdd (dOp2 oAdd (dOp2 oMul (dVar 2) (dC (.int 39373))) (dOp2 oMul (dVar 3) (dVar 3))) (dOp2 oMul (dC (.int 92821)) (dOp2 oIx (dVar 0) (dC (.int 2))))) (dC (.int 5)))) (dC (.int 2147483587))) (gIx (dVar 0) (dC (.int 0)))) (sSeq (sIf (gBl (dOp2 oGt (dOp2 oIx (dVar 0) (dC (.int 1))) (dC (.int 0)))) (sSeq (sAsg (dOp2 oDivmod (dOp2 oIx (dVar 0) (dC (.int 1))) (dVar 1)) (gTupD 2 (gConsD (gIx (dVar 0) (dC (.int 1))) (gConsD (gNm 4) gNilD)))) (sRet (dVar 4))) sPass) (sRet (dOp2 oMod (dOp1 oIntT (dOp2 oDiv (dOp2 oIx (dVar 0) (dC (.int 0))) (dC (.int 512)))) (dVar 1))))))))
def F_law_of (U : List Nat) : DF := runD 2 2 (sRet (dOp2 oIx (dVar 1) (dCall (F_law_take U) (dCons (dVar 0) (dCons (dOp1 oLen (dVar 1)) dNil)))))
end KL
namespace KP
open PySem PySem.Spec PyProof.Rows L2 AM KL KP
def F_is_tight_item (U : List Nat) : DF := runD 2 4 (sSeq (sSet 2 (dOp2 oIx (dVar 0) (dC (.int 0)))) (sSeq (sIf (gOr (gBl (dOp2 oEq (dOp1 oLen (dVar 2)) (dC (.int 0)))) (gTru (dOp1 oAny (dF (compF (iRan (dOp2 oSub (dOp1 oLen (dVar 2)) (dC (.int 1)))) false [3] [3] tYesD (dCall (F_do_undo U) (dCons (dOp2 oIx (dVar 2) (dVar 3)) (dCons (dOp2 oIx (dVar 2) (dOp2 oAdd (dVar 3) (dC (.int 1)))) dNil)))))))) (sRet (dC (.bl false))) sPass) (sSeq (sIf (gTru (dCall (F_is_plain U) (dCons (dVar 0) dNil))) (sRet (dC (.bl true))) sPass) (sRet (dAnd (dOp2 oGe (dOp2 oIx (dVar 0) (dC (.int 1))) (dC (.int 0))) (dAnd (dOp2 oGe (dOp2 oAdd (dOp2 oMulW (dOp2 oIx (dVar 0) (dC (.int 1))) (dVar 1)) (dOp2 oIx (dVar 0) (dC (.int 2)))) (dC (.int 1))) (dNot (dCall (F_do_undo U) (dCons (dOp2 oIx (dVar 2) (dC (.int 0))) (dCons (dOp2 oIx (dVar 2) (dNeg (dC (.int 1)))) dNil))))))))))
def F_is_tight (U : List Nat) : DF := runD 2 4 (sSeq (sIf (gOr (gBl (dOp2 oEq (dOp1 oLen (dVar 0)) (dC (.int 0)))) (gNot (gTru (dOp1 oAll (dF (compF (iSeq (dVar 0)) false [3] [3] tYesD (dCall (F_is_tight_item U) (dCons (dVar 3) (dCons (dVar 1) dNil))))))))) (sRet (dC (.bl false))) sPass) (sRet (dNot (dOp1 oAny (dF (compF (iRan (dOp2 oSub (dOp1 oLen (dVar 0)) (dC (.int 1)))) false [2] [2] tYesD (dCall (F_do_undo U) (dCons (dOp2 oIx (dOp2 oIx (dOp2 oIx (dVar 0) (dVar 2)) (dC (.int 0))) (dNeg (dC (.int 1)))) (dCons (dOp2 oIx (dOp2 oIx (dOp2 oIx (dVar 0) (dOp2 oAdd (dVar 2) (dC (.int 1)))) (dC (.int 0))) (dC (.int 0))) dNil)))))))))
def F_lead_to_tight (U : List Nat) : DF := runD 3 4 (sSeq (sSet 3 (dCall (F_all_done U) (dCons (dVar 0) (dCons (dVar 1) dNil)))) (sRet (dAnd (dOp2 oIsNot (dVar 3) (dC .non)) (dCall (F_is_tight U) (dCons (dVar 3) (dCons (dVar 2) dNil))))))
def F_shows_held_at (U : List Nat) : DF := runD 2 2 (sSeq (sIf (gOr (gNot (gTru (dCall (F_are_blocks U) (dCons (dOp2 oIx (dVar 0) (dC (.int 1))) dNil)))) (gNot (gTru (dCall (F_is_rounds U) (dCons (dOp2 oIx (dVar 0) (dC (.int 2))) dNil))))) (sRet (dC (.bl false))) sPass) (sRet (dCall (F_lead_to_tight U) (dCons (dCall (F_at_rounds U) (dCons (dOp2 oIx (dVar 0) (dC (.int 1))) (dCons (dOp2 oIx (dVar 0) (dC (.int 2))) dNil))) (dCons (dVar 1) (dCons (dC (.int 0)) dNil))))))
def F_shows_length (U : List Nat) : DF := runD 2 3 (sSeq (sIf (gOr (gNot (gTru (dCall (F_are_blocks U) (dCons (dOp2 oIx (dVar 0) (dC (.int 1))) dNil)))) (gOr (gNot (gTru (dCall (F_is_rounds U) (dCons (dOp2 oIx (dVar 0) (dC (.int 2))) dNil)))) (gOr (gNot (gTru (dCall (F_is_integer U) (dCons (dOp2 oIx (dVar 0) (dC (.int 3))) dNil)))) (gBl (dOp2 oLt (dOp2 oIx (dVar 0) (dC (.int 3))) (dC (.int 0))))))) (sRet (dC (.bl false))) sPass) (sSeq (sSet 2 (dCall (F_all_done U) (dCons (dCall (F_at_rounds U) (dCons (dOp2 oIx (dVar 0) (dC (.int 1))) (dCons (dOp2 oIx (dVar 0) (dC (.int 2))) dNil))) (dCons (dVar 1) dNil)))) (sSeq (sIf (gOr (gBl (dOp2 oIs (dVar 2) (dC .non))) (gAnd (gBl (dOp2 oGt (dOp1 oLen (dVar 2)) (dC (.int 0)))) (gNot (gTru (dCall (F_is_tight U) (dCons (dVar 2) (dCons (dC (.int 0)) dNil))))))) (sRet (dC (.bl false))) sPass) (sRet (dOp2 oEq (dCall (F_length_of U) (dCons (dVar 2) dNil)) (dOp2 oIx (dVar 0) (dC (.int 3))))))))
end KP
namespace KL
open PySem PySem.Spec PyProof.Rows L2 AM KL KP
end KL
namespace KL
open PySem PySem.Spec PyProof.Rows L2 AM KL KP
end KL
namespace KP
open PySem PySem.Spec PyProof.Rows L2 AM KL KP
def F_shows_held (U : List Nat) : DF := runD 2 7 (sSeq (sIf (gOr (gNot (gTru (dCall (F_are_blocks U) (dCons (dOp2 oIx (dVar 0) (dC (.int 1))) dNil)))) (gOr (gNot (gTru (dCall (F_is_rounds U) (dCons (dOp2 oIx (dVar 0) (dC (.int 2))) dNil)))) (gOr (gNot (gTru (dOp1 (oIsi (is_tuple U)) (dVar 1)))) (gBl (dOp2 oNe (dOp1 oLen (dVar 1)) (dC (.int 3))))))) (sRet (dC (.bl false))) sPass) (sSeq (sAsg (dVar 1) (gTupD 3 (gConsD (gNm 2) (gConsD (gNm 3) (gConsD (gNm 4) gNilD))))) (sSeq (sIf (gOr (gNot (gTru (dCall (F_is_between U) (dCons (dVar 2) (dCons (dOp2 oIx (dVar 0) (dC (.int 2))) (dCons (dC (.int 1000000000000000000000000000000)) dNil)))))) (gNot (gTru (dCall (F_lead_to_tight U) (dCons (dOp2 oIx (dVar 0) (dC (.int 1))) (dCons (dVar 3) (dCons (dVar 2) dNil))))))) (sRet (dC (.bl false))) sPass) (sSeq (sIf (gOr (gNot (gTru (dOp1 (oIsi (is_tuple U)) (dVar 4)))) (gBl (dOp2 oNe (dOp1 oLen (dVar 4)) (dOp2 oSub (dVar 2) (dOp2 oIx (dVar 0) (dC (.int 2))))))) (sRet (dC (.bl false))) sPass) (sSeq (sFor (iEnm (dVar 4)) (gTupD 2 (gConsD (gNm 5) (gConsD (gNm 6) gNilD))) (sIf (gNot (gTru (dCall (F_lead_to_tight U) (dCons (dCall (F_at_rounds U) (dCons (dOp2 oIx (dVar 0) (dC (.int 1))) (dCons (dOp2 oAdd (dOp2 oIx (dVar 0) (dC (.int 2))) (dVar 5)) dNil))) (dCons (dVar 6) (dCons (dC (.int 0)) dNil)))))) (sRet (dC (.bl false))) sPass)) (sRet (dC (.bl true))))))))
end KP
namespace KL
open PySem PySem.Spec PyProof.Rows L2 AM KL KP
end KL
namespace KP
open PySem PySem.Spec PyProof.Rows L2 AM KL KP
def F_undone_row (U : List Nat) : DF := runD 1 4 (sRet (dOp1 oTupT (dF (compF (iSeq (dOp1 oRev (dVar 0))) true [1, 2, 3] [1, 2, 3] tYesD (dTup (dCons (dVar 1) (dCons (dOp2 oSub (dC (.int 0)) (dVar 2)) (dCons (dOp2 oSub (dC (.int 0)) (dVar 3)) dNil))))))))
def F_shows_same (U : List Nat) : DF := runD 2 2 (sSeq (sIf (gOr (gNot (gTru (dCall (F_are_blocks U) (dCons (dOp2 oIx (dVar 0) (dC (.int 1))) dNil)))) (gNot (gTru (dCall (F_are_blocks U) (dCons (dOp2 oIx (dVar 0) (dC (.int 2))) dNil))))) (sRet (dC (.bl false))) sPass) (sRet (dCall (F_lead_to_nothing U) (dCons (dOp2 oAdd (dOp2 oIx (dVar 0) (dC (.int 1))) (dCall (F_undone_row U) (dCons (dOp2 oIx (dVar 0) (dC (.int 2))) dNil))) (dCons (dVar 1) dNil)))))
end KP
namespace KL
open PySem PySem.Spec PyProof.Rows L2 AM KL KP
end KL
namespace AM
open PySem PySem.Spec PyProof.Rows L2
def rSS (X : Cx) : List V → Hp → VK → Prop := fun xs H Q => ∃ (a : Addr) (ss : List Str), xs = [.ref a] ∧ SqL X.K H a (ss.map V.str) ∧ ∀ p, H p = none → Q (.ref p) (upd H p (.lst ((sortS ss).map V.str)))
theorem cr_sortS {X : Cx} {k : Nat} (hr : Room k X.A) : CallR X (.builtin "sorted") (rSS X) := by
  intro pins s σ H xs us Q I r1 h
  obtain ⟨a, ss, rfl, hs, hq⟩ := h
  obtain ⟨its, rv, hl, hz⟩ := I.list hs
  rw [Vals.ref1 r1]
  have e := vals_strs rv
  have u := hr.un
  have hL : ss.length ≤ sizeLine := by rw [List.length_map] at hz; exact hz
  refine PySem.W.sorted_data (bs := ss) (enc := PyData.str) hl.isList e (e.mono fun v y ⟨t, hv⟩ => ⟨[], by rw [hv]; exact .str _ _⟩) (PySem.W.AllAlike.of fun _ _ => by simp [PySem.W.alike]) (PySem.W.Sortable.others fun _ => ⟨by simp, by simp⟩) hL (fun y _ => ?_) fun out hlo eo => ?_
  · have hd : (PyData.str y).depth = 0 := by simp [PyData.depth]
    omega
  · rw [sortS_eq] at eo
    obtain ⟨ep, he'⟩ := PyProof.Rows.sortedAll_at s.heap its (List.toArray out)
    have hlen : ((sortS ss).map V.str).length ≤ sizeLine := by
      unfold sortS
      rw [List.length_map, isB_len]
      exact hL
    exact ⟨.ref _, upd H (s.heap.objs.size + 1) (.lst ((sortS ss).map V.str)), I.laid (t' := s.toks) (fun _ _ => PyProof.Rows.sortedAll_old) (Nat.le_succ _) ⟨hlen, out, ep, strs_vals eo, he'⟩, rfl, hq _ (I.hok.fresh (Nat.le_succ _))⟩
theorem am_sortT {prog : Program} {w : World} {A : Around} {E : Value → Shared → Prop} {s : Shared} {a : Addr} {its : List Value} {ss : List Str} {Q : Value → Shared → Prop} (ht : s.heap.IsTuple a its.toArray) (e : PySem.W.EachIs (fun v (y : Str) => ∃ t, v = .str y t) its ss) (hL : ss.length ≤ sizeLine) (u : A.units + 2 < cLine)
    (h : ∀ (h1 h2 : Heap) (out : List Value), (∀ b o, s.heap.get? b = some o → h1.get? b = some o) → (∀ b o, h1.get? b = some o → h2.get? b = some o) → out.length = ss.length → PySem.W.EachIs (fun v (y : Str) => ∃ t, v = .str y t) out (sortS ss) → (∃ ep, h2.get? h1.objs.size = some (seqObj "list" out.toArray ep)) → Q (.ref h1.objs.size) { s with heap := h2 }) :
    wpAny (model prog w) A (call (.builtin "sorted") [.ref a]) Q E s := by
  obtain ⟨o, ho, hc, n, hd⟩ := ht
  have hz : its.length ≤ sizeLine := by rw [e.length]; exact hL
  refine call_function_entry_kw kind_sorted plain_sorted entry_sorted (args_sorted1 _) (wpAny_bind (m := checkCount "sorted" 1 1 _) (wpAny_pure (wpAny_bind (wpAny_collect_seq a (.inr rfl) ho hc hd (fun h1 k1 => ?_) (by rw [List.size_toArray]; exact hz)))))
  rw [show its.toArray.toList = its from rfl]
  refine wpAny_bind (wpAny_newList (show wpAny _ _ _ _ _ { s with heap := h1.push (seqObj "list" its.toArray 0) } from ?_) hz)
  have at2 : (h1.push (seqObj "list" its.toArray 0)).get? h1.objs.size = some (seqObj "list" its.toArray 0) := Heap.get?_push_size _ rfl
  refine wpAny_bind (wpAny_holding (wpAny_call_entry_kw slot_list_sort ⟨_, at2, rfl⟩ entry_list_sort ?_ (args_list_sort _)))
  have rd : ∀ g : Heap, PySem.W.EachIs (fun v (y : Str) => ∃ as, Reads g v (PyData.str y) as) its ss := fun g => e.mono fun v y ⟨t, hv⟩ => ⟨[], by rw [hv]; exact .str _ _⟩
  have al : PySem.W.AllAlike (ss.map PyData.str) := PySem.W.AllAlike.of fun _ _ => by simp [PySem.W.alike]
  refine PySem.W.list_sort_vals (s := { s with heap := h1.push (seqObj "list" its.toArray 0) }) (n := 0) at2 (PySem.W.SortsAt.data (ds := ss.map PyData.str) (PySem.W.each_map (R := fun v d => ∃ as, Reads _ v d as) PyData.str (rd _)) al (PySem.W.Sortable.others fun _ => ⟨by simp, by simp⟩) fun d hd => ?_) hz ⟨_, rfl, wpAny_pure ⟨_, rfl, ?_⟩⟩
  · obtain ⟨y, _, rfl⟩ := List.mem_map.mp hd
    have z : (PyData.str y).depth = 0 := by simp [PyData.depth]
    show A.units + 1 + 1 + (PyData.str y).depth < cLine
    omega
  · refine h h1 _ _ k1 (fun b o hb => ?_) ?_ (by rw [← sortS_eq]; exact PySem.W.sortVals_data false e (rd _) al) (sortedHeap_at at2)
    · have lt := Heap.lt_size hb
      have lt2 : b < (h1.push (seqObj "list" its.toArray 0)).objs.size := by
        rw [size_push']
        exact Nat.lt_succ_of_lt lt
      exact (sortedHeap_old (Nat.ne_of_lt lt) lt2).trans (Heap.get?_push_of_some _ hb)
    · rw [PySem.W.sortVals_length false rfl]
      exact e.length
def rST (X : Cx) : List V → Hp → VK → Prop := fun xs H Q => ∃ (a : Addr) (ss : List Str), xs = [.ref a] ∧ SqT X.K H a (ss.map V.str) ∧ ∀ p, H p = none → Q (.ref p) (upd H p (.lst ((sortS ss).map V.str)))
theorem cr_sortT {X : Cx} {k : Nat} (hr : Room k X.A) : CallR X (.builtin "sorted") (rST X) := by
  intro pins s σ H xs us Q I r1 h
  obtain ⟨a, ss, rfl, hs, hq⟩ := h
  obtain ⟨its, rv, ht, hz⟩ := I.tuple hs
  rw [Vals.ref1 r1]
  have u := hr.un
  have hL : ss.length ≤ sizeLine := by rw [List.length_map] at hz; exact hz
  have u2 : X.A.units + 2 < cLine := by omega
  refine am_sortT ht (vals_strs rv) hL u2 fun h1 h2 out k1 k2 hlo eo he => ?_
  have I1 : Inv X pins σ H { s with heap := h1 } := I.kept (t' := s.toks) k1
  have hlen : ((sortS ss).map V.str).length ≤ sizeLine := by
    unfold sortS
    rw [List.length_map, isB_len]
    exact hL
  obtain ⟨ep, he⟩ := he
  exact ⟨.ref _, upd H h1.objs.size (.lst ((sortS ss).map V.str)), Inv.laid (s := { s with heap := h1 }) (t' := s.toks) I1 (fun b o e => k2 b o e) (Nat.le_refl _) ⟨hlen, out, ep, strs_vals eo, he⟩, rfl, hq _ (I1.hok.fresh (Nat.le_refl _))⟩
def oSortS : Op1 := fun a st => match a with
  | .lst ds => (match strsD ds with
    | some ss => .ok (.lst ((sortS ss).map D.str)) st
    | none => .bad)
  | .tup ds => (match strsD ds with
    | some ss => .ok (.lst ((sortS ss).map D.str)) st
    | none => .bad)
  | _ => .bad
theorem cd_sortS {X : Cx} {Γ : Nat → Addr} {W : WX} {k : Nat} (hr : Room k X.A) : CallR X (.builtin "sorted") (rC1 (XC X Γ) W oSortS) := cr1 fun w env st σ H x a Q r d p => by
  cases a with
  | lst ds =>
    obtain ⟨q, vs, e1, hq, _, t⟩ := d.lst
    have p : Post Den (XC X Γ) W w H σ (match strsD ds with
      | some ss => .ok (.lst ((sortS ss).map D.str)) st
      | none => .bad) Q := p
    cases e : strsD ds with
    | none => rw [e] at p; exact p.elim
    | some ss =>
      rw [e] at p
      exact ⟨_, cr_sortS hr, q, ss, by rw [e1], by rw [← t.strs e]; exact SqL.of hq, fun pp hp => p.newLst r (strs_dens _) hp⟩
  | tup ds =>
    obtain ⟨q, vs, e1, hq, t⟩ := DenB.tup (w := w) d
    have p : Post Den (XC X Γ) W w H σ (match strsD ds with
      | some ss => .ok (.lst ((sortS ss).map D.str)) st
      | none => .bad) Q := p
    cases e : strsD ds with
    | none => rw [e] at p; exact p.elim
    | some ss =>
      rw [e] at p
      exact ⟨_, cr_sortT hr, q, ss, by rw [e1], by rw [← t.strs e]; exact hq, fun pp hp => p.newLst r (strs_dens _) hp⟩
  | _ => exact p.elim
end AM
namespace AM
open PySem PySem.Spec PyProof.Rows L2
def adds (acc : List Nat) (c : Nat) : List Nat := if c ∈ acc then acc else acc ++ [c]
def firsts (cs : List Nat) : List Nat := cs.foldl adds []
def rowT (cs : List Nat) : List (Key × V) := cs.map fun c => (.inr (mk [c]), .bl true)
theorem putK_row (acc : List Nat) (c : Nat) : putK (rowT acc) (.inr (mk [c])) (.bl true) = rowT (adds acc c) := by
  have mkc : ∀ {a b : Nat}, mk [a] = mk [b] → a = b := fun {a b} h => by
    have := congrArg (fun s : Str => s.cps.toList) h
    simpa [mk] using this
  unfold putK adds
  by_cases h : c ∈ acc
  · rw [if_pos h, if_pos]
    · unfold rowT
      rw [List.map_map]
      refine List.map_congr_left fun d hd => ?_
      show (if (Sum.inr (mk [d]) : Key) = .inr (mk [c]) then _ else _) = _
      split
      · rfl
      · rfl
    · refine List.any_eq_true.mpr ⟨(.inr (mk [c]), .bl true), List.mem_map.mpr ⟨c, h, rfl⟩, ?_⟩
      exact decide_eq_true rfl
  · rw [if_neg h, if_neg]
    · unfold rowT
      rw [List.map_append]
      rfl
    · intro z
      obtain ⟨q, hq, e⟩ := List.any_eq_true.mp z
      obtain ⟨d, hd, rfl⟩ := List.mem_map.mp hq
      have e := of_decide_eq_true e
      have e : mk [d] = mk [c] := Sum.inr.inj e
      exact h (mkc e ▸ hd)
theorem firsts_len (cs : List Nat) : (firsts cs).length ≤ cs.length := by
  have key : ∀ (cs acc : List Nat), (cs.foldl adds acc).length ≤ acc.length + cs.length := by
    intro cs
    induction cs with
    | nil => exact fun acc => Nat.le_refl _
    | cons c cs ih =>
      intro acc
      have h1 := ih (adds acc c)
      have h2 : (adds acc c).length ≤ acc.length + 1 := by
        unfold adds
        split
        · omega
        · rw [List.length_append, List.length_singleton]; exact Nat.le_refl _
      rw [List.foldl_cons, List.length_cons]
      omega
  have := key cs []
  rw [List.length_nil] at this
  unfold firsts
  omega
theorem firsts_take (cs : List Nat) (i : Nat) (c : Nat) (h : cs[i]? = some c) : firsts (cs.take (i + 1)) = adds (firsts (cs.take i)) c := by
  have hi := (List.getElem?_eq_some_iff.mp h)
  rw [List.take_succ, h]
  unfold firsts
  rw [List.foldl_append]
  rfl
theorem rising_pw : ∀ (ys : List Nat) (a : Nat), risingS (mk [a]) (ys.map fun c => mk [c]) = true → (a :: ys).Pairwise (· ≤ ·)
  | [], a, _ => List.pairwise_singleton _ _
  | b :: ys, a, h => by
    have h : (!ltCps [b] [a] && risingS (mk [b]) (ys.map fun c => mk [c])) = true := h
    obtain ⟨h1, h2⟩ := Bool.and_eq_true_iff.mp h
    have ih := rising_pw ys b h2
    have hab : a ≤ b := by
      have h1 : ltCps [b] [a] = false := by simpa using h1
      have h1 : (decide (b < a) || ((b == a) && false)) = false := h1
      simp at h1
      exact h1
    refine List.pairwise_cons.mpr ⟨fun c hc => ?_, ih⟩
    rcases List.mem_cons.mp hc with rfl | hc
    · exact hab
    · exact Nat.le_trans hab ((List.pairwise_cons.mp ih).1 c hc)
theorem sorted_one {ys : List Str} {cs : List Nat} (hp : ys.Perm (cs.map fun c => mk [c])) (hs : sortedS ys = true) : ys = (sortC cs).map fun c => mk [c] := by
  obtain ⟨zs, hz, e⟩ : ∃ zs : List Nat, zs.Perm cs ∧ ys = zs.map fun c => mk [c] := by
    refine ⟨ys.map fun s => s.cps.toList.headD 0, ?_, ?_⟩
    · have h1 := hp.map fun s : Str => s.cps.toList.headD 0
      rw [List.map_map] at h1
      have h2 : (cs.map ((fun s : Str => s.cps.toList.headD 0) ∘ fun c => mk [c])) = cs := List.map_id'' (fun c => rfl) cs
      rw [h2] at h1
      exact h1
    · have key : ∀ s ∈ ys, mk [s.cps.toList.headD 0] = s := fun s hs => by
        obtain ⟨c, _, rfl⟩ := List.mem_map.mp (hp.subset hs)
        rfl
      rw [List.map_map]
      have e2 : ys.map ((fun c => mk [c]) ∘ fun s : Str => s.cps.toList.headD 0) = ys.map id := List.map_congr_left fun s hs => key s hs
      rw [e2, List.map_id]
  subst e
  congr 1
  have h1 : zs.Pairwise (· ≤ ·) := by
    cases zs with
    | nil => exact List.Pairwise.nil
    | cons a zs => exact rising_pw zs a hs
  exact List.Perm.eq_of_pairwise (fun a b _ _ h1 h2 => Nat.le_antisymm h1 h2) h1 (sortC_pw cs) (hz.trans (sortC_perm cs).symm)
theorem chars_dens {K : Ct} {ρ : List Addr} {S : Addr → Prop} {H : Hp} : ∀ cs : List Nat, Dens K ρ S H ((cs.map fun c => mk [c]).map V.str) (cs.map fun c => D.str (mk [c]))
  | [] => .nil
  | c :: cs => .cons (.str _) (chars_dens cs)
def fSortD (i : Nat) (vs : List Nat) (f : EF) : EF := fun env st => if noOwn env vs = true ∧ i ∈ vs ∧ i < env.length then (f env st).bind fun d st1 => match d with
  | .str z => if (firsts z.cps.toList).length < 64 ∧ z.cps.size < sizeLine then .ok (.lst ((sortC (firsts z.cps.toList)).map fun c => D.str (mk [c]))) st1 else .bad
  | _ => .bad else .bad
def rSD : List V → Hp → VK → Prop := fun xs H Q => ∃ (a : Addr) (kvs : List (Key × V)) (ks : List Str), xs = [.ref a] ∧ Rd H a (.dK kvs) ∧ kvs.map (·.1) = ks.map Sum.inr ∧ ks.length < 64 ∧ ∀ ys p, ys.Perm ks → sortedS ys = true → H p = none → Q (.ref p) (upd H p (.lst (ys.map V.str)))
theorem dc_sort {K : Ct} {W : WX} {f : EF} {i : Nat} {vs : List Nat} {σ : AM.St} {H : Hp} {Q : VK} {tt : TT} (ht : ∀ σ H Q, Q true H → tt σ H Q) (h : tD K W (fSortD i vs f) σ H Q) :
    tDc (iStr (tD K W f)) (gName i) tt (tVar i) (tC (.bl true)) vs σ H (fun x H1 => rSD [x] H1 Q) := by
  obtain ⟨w, env, st, r, p⟩ := h
  have p : Post Den K W w H σ (if noOwn env vs = true ∧ i ∈ vs ∧ i < env.length then (f env st).bind fun d st1 => match d with
    | .str z => if (firsts z.cps.toList).length < 64 ∧ z.cps.size < sizeLine then .ok (.lst ((sortC (firsts z.cps.toList)).map fun c => D.str (mk [c]))) st1 else .bad
    | _ => .bad else .bad) Q := p
  split at p
  · rename_i hz
    obtain ⟨_, hi, hl⟩ := hz
    refine ⟨w, env, st, r, (Post.bind (Da := Den) r p).mono ?_⟩
    rintro v H1 ⟨w1, st1, d, r1, _, _, dd, p1⟩
    cases d with
    | str z =>
      cases dd
      have p1 : Post Den K W w1 H1 σ (if (firsts z.cps.toList).length < 64 ∧ z.cps.size < sizeLine then .ok (.lst ((sortC (firsts z.cps.toList)).map fun c => D.str (mk [c]))) st1 else .bad) Q := p1
      split at p1
      · rename_i h64
        obtain ⟨h64, hsz⟩ := h64
        refine ⟨z, rfl, fun D hD => ?_⟩
        refine ⟨fun j m H' => m = z.cps.size - j ∧ j ≤ z.cps.size ∧ H' = upd H1 D (.dK (rowT (firsts (z.cps.toList.take j)))), ⟨z.cps.size, rfl, Nat.zero_le _, rfl⟩, ?_⟩
        rintro j m H' ⟨rfl, hj, rfl⟩
        by_cases hlt : j < z.cps.size
        · refine .inr ⟨hlt, fun H2 => H2 = upd H1 D (.dK (rowT (firsts (z.cps.toList.take (j + 1))))), fun H2 e => ⟨z.cps.size - (j + 1), by omega, rfl, by omega, e⟩, fun x H2 y => ?_⟩
          obtain ⟨rfl, c, ec, rfl⟩ := y
          have ec2 : z.cps.toList[j]? = some c := by rw [Array.getElem?_toList]; exact ec
          refine ⟨(wipe_set (α := Unit) hi).trans (wipe_wipe σ vs), ht _ _ _ ?_⟩
          rw [if_pos rfl]
          refine ⟨.str (mk [c]), ?_, ?_⟩
          · rw [List.getElem?_set_self (by rw [wipe_length, r1.len]; exact hl)]
            rfl
          · refine ⟨rowT (firsts (z.cps.toList.take j)), .inr (mk [c]), rfl, upd_same, ?_, ?_⟩
            · unfold rowT
              rw [List.length_map]
              have h1 := firsts_len (z.cps.toList.take j)
              have h2 : z.cps.toList.length = z.cps.size := Array.length_toList
              rw [List.length_take] at h1
              omega
            · rw [upd_upd, putK_row, firsts_take _ _ _ ec2]
        · refine .inl ⟨Nat.le_of_not_lt hlt, ?_⟩
          have ej : z.cps.toList.take j = z.cps.toList := List.take_of_length_le (by rw [Array.length_toList]; omega)
          rw [ej]
          refine ⟨D, rowT (firsts z.cps.toList), (firsts z.cps.toList).map fun c => mk [c], rfl, .inl upd_same, by unfold rowT; rw [List.map_map, List.map_map]; rfl, by rw [List.length_map]; exact h64, fun ys pp hp hs hn => ?_⟩
          rw [sorted_one hp hs]
          exact p1 w1.ρ _ _ ((r1.new hD).newSto hn) ((Ext.new hD).trans (Ext.new hn)) (.lst upd_same (fun z => (r1.new hD).fresh hn z) (chars_dens _))
      · exact p1.elim
    | _ => exact p1.elim
  · exact p.elim
section
variable {X : Cx} {Γ : Nat → Addr} {W : WX} {it : Expr} {f : EF} {i j : Nat} {x : Str} {scope : Scope} {own : List (Str × Nat)} {p pos p1 p2 p3 p4 : Pos}
theorem pd_sortD (hcm : X.calm = true) (hN : X.N.Nodup) (hi : PE X it (tD (XC X Γ) W f)) (ok : BlkOk X.N X.env.scope scope own) (hm : X.mg "sorted" = none) (hix : X.N[i]? = some x)
    (hg : ∀ (s : Shared) (H : Hp) (C : Addr) (cl : List (Str × Addr)) (fp : List Addr), PG (X.blk s H scope (compEnvC scope cl C X.env) fp) (.Name x p3) (gName i)) (hk : ∀ (s : Shared) (H : Hp) (C : Addr) (cl : List (Str × Addr)) (fp : List Addr), PE (X.blk s H scope (compEnvC scope cl C X.env) fp) (.Name x p1) (tVar i))
    (hgl : Gl X "sorted" := by rfl) (hs : ∀ z, foldedSetIterable it X.env z = pure z := by intro _; rfl) :
    PE X (.Call (.Name "sorted" p) [.DictComp (.Name x p1) (.Constant (.bool true) j p2) [⟨.Name x p3, it, [], 0⟩] scope p4] [] pos) (tD (XC X Γ) W (fSortD i (own.map (·.2)) f)) :=
  peImp (pe_callB (call_sortedD hcm) hgl hm rfl (pa_cons (pe_dc hcm hN (pi_str hi) ok hg (fun _ _ _ _ _ => pts_nil) hk (fun _ _ _ _ _ => pe_bl) (hs := hs)) pa_nil)) fun σ H Q h => dc_sort (fun _ _ _ h => h) h
end
end AM
namespace PySem
open Builtin
abbrev amZ1 (h : Heap) (o1 : Obj) : Heap := h.push o1
abbrev amZ2 (h : Heap) (o1 o2 : Obj) : Heap := (amZ1 h o1).push o2
abbrev amZ3 (h : Heap) (o1 o2 : Obj) : Heap := (amZ2 h o1 o2).push { cls := .type "tuple", data := .seq #[.ref h.objs.size, .ref (amZ1 h o1).objs.size] }
abbrev amZ4 (h : Heap) (o1 o2 : Obj) : Heap := (amZ3 h o1 o2).push { cls := .type "tuple", data := .seq #[.none, .none] }
abbrev amZ5 (h : Heap) (o1 o2 : Obj) : Heap := (amZ4 h o1 o2).push { cls := .type "zip", data := .fields #[.none, .bool false, .bool false, .ref (amZ2 h o1 o2).objs.size, .ref (amZ3 h o1 o2).objs.size] }
theorem am_zip_new {v1 v2 : Value} {o1 o2 : Obj} {H1 H2 : Heap → Prop} (B1 : Begins v1 o1 H1) (B2 : Begins v2 o2 H2) :
    Meets (Builtin.«zip.__new__» ⟨[.type "zip", v1, v2], []⟩) (fun _ R s => H1 s.heap ∧ H2 (amZ1 s.heap o1) ∧ R (.ok (.ret (.ref (amZ4 s.heap o1 o2).objs.size))) { s with heap := amZ5 s.heap o1 o2 }) := by
  refine Meets.of_wp fun prog w A R s hh => ?_
  obtain ⟨h1, h2, h⟩ := hh
  obtain ⟨hp, g, d, tk, os⟩ := s
  have ty1 := sub_zip
  have go1 : ∀ {A' : Around} {E : Value → Shared → Prop} {Q : Value → Shared → Prop}, Q (.ref hp.objs.size) ⟨hp.push o1, g, d, tk, os⟩ → wpAny (model prog w) A' (pyIter v1) Q E ⟨hp, g, d, tk, os⟩ := fun q => B1.iter prog w _ _ _ _ h1 q
  have go2 : ∀ {A' : Around} {E : Value → Shared → Prop} {Q : Value → Shared → Prop}, Q (.ref (hp.push o1).objs.size) ⟨(hp.push o1).push o2, g, d, tk, os⟩ → wpAny (model prog w) A' (pyIter v2) Q E ⟨hp.push o1, g, d, tk, os⟩ := fun q => B2.iter prog w _ _ _ _ h2 q
  wp_walk using go1, go2
  exact ⟨_, rfl, h⟩
theorem am_zip {prog : Program} {w : World} {A : Around} {E : Value → Shared → Prop} {s : Shared} {v1 v2 : Value} {o1 o2 : Obj} {H1 H2 : Heap → Prop} {Q : Value → Shared → Prop} (B1 : Begins v1 o1 H1) (B2 : Begins v2 o2 H2) (h1 : H1 s.heap) (h2 : H2 s.heap)
    (h : ∀ h', IsZip h' (s.heap.objs.size + 4) (s.heap.objs.size + 2) (s.heap.objs.size + 3) .none → IsTupOf2 h' (s.heap.objs.size + 2) (.ref s.heap.objs.size) (.ref (s.heap.objs.size + 1)) → IsTupOf2 h' (s.heap.objs.size + 3) .none .none →
      h'.get? s.heap.objs.size = some o1 → h'.get? (s.heap.objs.size + 1) = some o2 → (∀ b u, s.heap.get? b = some u → h'.get? b = some u) → Q (.ref (s.heap.objs.size + 4)) { s with heap := h' }) :
    wpAny (model prog w) A (call (.type "zip") [v1, v2]) Q E s := by
  have up1 : ∀ b u, s.heap.get? b = some u → (amZ1 s.heap o1).get? b = some u := fun b u x => Heap.get?_push_of_some _ x
  refine callType_new F.called_zip (by decide) (F.typeCall_zip_2 _ _) (F.newCall_zip_2 _ _) (fun obj => F.args_object_init_3 obj _ _) F.entry_zip_new (am_zip_new B1 B2) ⟨h1, B2.keeps _ _ h2 up1, ?_⟩
  have n1 : (amZ1 s.heap o1).objs.size = s.heap.objs.size + 1 := Heap.size_push ..
  have n2 : (amZ2 s.heap o1 o2).objs.size = s.heap.objs.size + 2 := (Heap.size_push ..).trans (by rw [n1])
  have n3 : (amZ3 s.heap o1 o2).objs.size = s.heap.objs.size + 3 := (Heap.size_push ..).trans (by rw [n2])
  have n4 : (amZ4 s.heap o1 o2).objs.size = s.heap.objs.size + 4 := (Heap.size_push ..).trans (by rw [n3])
  have u5 : ∀ b u, (amZ4 s.heap o1 o2).get? b = some u → (amZ5 s.heap o1 o2).get? b = some u := fun b u x => Heap.get?_push_of_some _ x
  have u4 : ∀ b u, (amZ3 s.heap o1 o2).get? b = some u → (amZ5 s.heap o1 o2).get? b = some u := fun b u x => u5 b u (Heap.get?_push_of_some _ x)
  have u3 : ∀ b u, (amZ2 s.heap o1 o2).get? b = some u → (amZ5 s.heap o1 o2).get? b = some u := fun b u x => u4 b u (Heap.get?_push_of_some _ x)
  have u2 : ∀ b u, (amZ1 s.heap o1).get? b = some u → (amZ5 s.heap o1 o2).get? b = some u := fun b u x => u3 b u (Heap.get?_push_of_some _ x)
  have p5 : (amZ5 s.heap o1 o2).get? (amZ4 s.heap o1 o2).objs.size = some { cls := .type "zip", data := .fields #[.none, .bool false, .bool false, .ref (amZ2 s.heap o1 o2).objs.size, .ref (amZ3 s.heap o1 o2).objs.size] } := Heap.get?_push_size _ rfl
  have p4 : (amZ5 s.heap o1 o2).get? (amZ3 s.heap o1 o2).objs.size = some { cls := .type "tuple", data := .seq #[.none, .none] } := u5 _ _ (Heap.get?_push_size _ rfl)
  have p3 : (amZ5 s.heap o1 o2).get? (amZ2 s.heap o1 o2).objs.size = some { cls := .type "tuple", data := .seq #[.ref s.heap.objs.size, .ref (amZ1 s.heap o1).objs.size] } := u4 _ _ (Heap.get?_push_size _ rfl)
  have p2 : (amZ5 s.heap o1 o2).get? (amZ1 s.heap o1).objs.size = some o2 := u3 _ _ (Heap.get?_push_size _ B2.free)
  have p1 : (amZ5 s.heap o1 o2).get? s.heap.objs.size = some o1 := u2 _ _ (Heap.get?_push_size _ B1.free)
  rw [n2, n3, n4] at p5
  rw [n1, n2] at p3
  rw [n3] at p4
  rw [n1] at p2
  show _ ∧ _
  rw [n4]
  exact ⟨⟨_, p5, rfl⟩, h _ p5 p3 p4 p1 p2 fun b u x => u2 b u (up1 b u x)⟩
end PySem
namespace AM
open PySem PySem.Spec PyProof.Rows L2
def SqB (K : PySem.W.Frag) : Bool → Hp → Addr → List V → Prop
  | true => SqL K
  | false => SqT K
def AtB : Bool → Heap → Addr → Array Value → Prop
  | true => fun h a us => h.IsList a us
  | false => fun h a us => h.IsTuple a us
def ItB : Bool → Heap → Addr → Addr → Nat → Prop
  | true => fun h it a i => h.IsListIter it a i
  | false => fun h it a i => h.IsTupleIter it a i
def newB : Bool → Addr → Obj
  | true => fun a => { cls := .type "list_iterator", data := .fields #[.ref a, .int 0 0] }
  | false => fun a => { cls := .type "tuple_iterator", data := .fields #[.ref a, .int 0 0] }
theorem begins_b (b : Bool) (a : Addr) (us : Array Value) : Begins (.ref a) (newB b a) fun h => AtB b h a us := by
  cases b
  · exact begins_tuple a us
  · exact begins_list a us
theorem draws_b (b : Bool) {prog : Program} {w : World} {A : Around} (hh : A.handled = none) (it a : Addr) (ne : a ≠ it) (us : Array Value) : Draws prog w A it [it, a] us.size (fun i v => us[i]? = some v) (fun i h => ItB b h it a i ∧ AtB b h a us) := by
  cases b
  · exact Draws.tuple hh it a ne us
  · exact Draws.list hh it a ne us
theorem it_new {b : Bool} {h : Heap} {it a : Addr} (e : h.get? it = some (newB b a)) : ItB b h it a 0 := by
  cases b <;> exact ⟨_, e, rfl, rfl⟩
theorem ItB.at {b : Bool} {h h' : Heap} {it a : Addr} {i : Nat} (x : ItB b h it a i) (k : ∀ o, h.get? it = some o → h'.get? it = some o) : ItB b h' it a i := by
  cases b
  · exact Heap.IsTupleIter.at (h := h) x k
  · exact Heap.IsListIter.at (h := h) x k
theorem ItB.obj {b : Bool} {h : Heap} {it a : Addr} {i : Nat} (x : ItB b h it a i) : ∃ o, h.get? it = some o ∧ ∀ v, o.data ≠ .cell v := by
  cases b <;> exact let ⟨o, e, _, d⟩ := x; ⟨o, e, fun v q => by rw [d] at q; cases q⟩
section
variable {X : Cx} {pins : List (Addr × Obj)} {σ : L2.St} {H : Hp} {s : Shared}
theorem at_b {b : Bool} {a : Addr} {xs : List V} (I : Inv X pins σ H s) (h : SqB X.K b H a xs) : ∃ its, Vals xs its ∧ AtB b s.heap a its.toArray := by
  cases b
  · obtain ⟨its, rv, p, _⟩ := I.tuple h
    exact ⟨its, rv, p⟩
  · obtain ⟨its, rv, p, _⟩ := I.list h
    exact ⟨its, rv, p.isList⟩
theorem inj_b {b : Bool} {a : Addr} {xs ys : List V} (I : Inv X pins σ H s) (h : SqB X.K b H a xs) (g : SqB X.K b H a ys) : xs = ys := by
  cases b
  · exact I.tuple_inj h g
  · exact I.list_inj h g
end
theorem AtB.lt {b : Bool} {h : Heap} {a : Addr} {us : Array Value} (x : AtB b h a us) : a < h.objs.size := by
  cases b
  · obtain ⟨o, e, _⟩ := x; exact Heap.lt_size e
  · obtain ⟨o, e, _⟩ := x; exact Heap.lt_size e
def ItZ (K : PySem.W.Frag) (ba bb : Bool) (a b : Addr) : It :=
  ⟨fun i H => ∃ xs ys x y, SqB K ba H a xs ∧ SqB K bb H b ys ∧ xs[i]? = some x ∧ ys[i]? = some y,
   fun i H v H' => ∃ q x y, v = .ref q ∧ H q = none ∧ H' = upd H q (.tup [x, y]) ∧ (∀ us, SqB K ba H a us → us[i]? = some x) ∧ (∀ us, SqB K bb H b us → us[i]? = some y),
   fun i H => ∃ xs ys, SqB K ba H a xs ∧ SqB K bb H b ys ∧ i = min xs.length ys.length⟩
theorem sep_of {z TI TO i1 i2 a b : Addr} (D : ZipApart z TI TO i1 i2 a b) : ZipSep2 z TI TO i1 i2 [i1, a] [i2, b] where
  TIz := D.TIz
  TOz := D.TOz
  TITO := D.TITO
  TIi1 := D.TIi1
  TIi2 := D.TIi2
  mem1 := by simp
  mem2 := by simp
  zf1 := by simp [D.i1z.symm, D.l1z.symm]
  zf2 := by simp [D.i2z.symm, D.l2z.symm]
  Tf1 := by simp [D.TOi1, D.l1TO.symm]
  Tf2 := by simp [D.TOi2, D.l2TO.symm]
  sep1_2 := by simp [D.i12, D.l2i1.symm]
  sep2_1 := by simp [D.i12.symm, D.l1i2.symm]
theorem turn_z {P : Program} {w : World} {K : PySem.W.Frag} {elts : List Expr} {kk : Nat} {tpos : Pos} {ba bb : Bool} {a b z TI TO i1 i2 : Addr} (D : ZipApart z TI TO i1 i2 a b) :
    Turn P w K (.Tuple elts kk tpos) (ItZ K ba bb a b) [z, TI, TO, i1, i2] z (fun i h => (IsZip h z TI TO .none ∧ IsTupOf2 h TI (.ref i1) (.ref i2)) ∧ (∃ x y, IsTupOf2 h TO x y) ∧ ItB ba h i1 a i ∧ ItB bb h i2 b i) where
  mem := List.mem_cons_self
  obj := fun i h st c hc => by
    obtain ⟨⟨hz, hTI⟩, ⟨x, y, hTO⟩, h1, h2⟩ := st
    simp only [List.mem_cons, List.not_mem_nil, or_false] at hc
    rcases hc with rfl | rfl | rfl | rfl | rfl
    · exact ⟨_, hz, fun v e => by cases e⟩
    · exact ⟨_, hTI, fun v e => by cases e⟩
    · exact ⟨_, hTO, fun v e => by cases e⟩
    · exact h1.obj
    · exact h2.obj
  keep := fun i h h' st k => by
    obtain ⟨⟨hz, hTI⟩, ⟨x, y, hTO⟩, h1, h2⟩ := st
    exact ⟨⟨k _ (by simp) _ hz, k _ (by simp) _ hTI⟩, ⟨x, y, k _ (by simp) _ hTO⟩, h1.at fun o e => k _ (by simp) o e, h2.at fun o e => k _ (by simp) o e⟩
  item := by
    rintro X rfl rfl rfl hcalm i pins s σ H E I hf ⟨⟨hz, hTI⟩, ⟨x0, y0, hTO⟩, h1, h2⟩ ⟨xs, ys, x, y, sx, sy, ex, ey⟩
    obtain ⟨its, rv, p1⟩ := at_b I sx
    obtain ⟨its2, rv2, p2⟩ := at_b I sy
    have lt1 : i < its.toArray.size := by
      rw [List.size_toArray, ← rv.length]
      exact (List.getElem?_eq_some_iff.mp ex).1
    have lt2 : i < its2.toArray.size := by
      rw [List.size_toArray, ← rv2.length]
      exact (List.getElem?_eq_some_iff.mp ey).1
    have zlt : z < s.heap.objs.size := Heap.lt_size hz
    have hd1 := I.ok.hd hcalm
    refine wpAny_pyNext_zipD2_item (sep_of D) (draws_b ba (A := X.A.in1) hd1 i1 a D.l1i1 its.toArray) (draws_b bb (A := X.A.in1) hd1 i2 b D.l2i2 its2.toArray) hz hTI hTO ⟨h1, p1⟩ ⟨h2, p2⟩ lt1 lt2 fun u u2 h' tk hu hu2 z' TO' d1 d2 hT sz hk => ?_
    refine ⟨_, rfl, wpAny_letOwnedTupleGo_zip (s := { s with heap := h', toks := tk }) z' fun h3 z3 sb => ?_⟩
    have keep3 : ∀ c, c ≠ z → h3.get? c = h'.get? c := fun c n => sb.2 c n
    obtain ⟨u', eu, ru⟩ := rv.get ex
    obtain ⟨u2', eu2, ru2⟩ := rv2.get ey
    have q1 : u = u' := by
      have t : its.toArray[i]? = some u := hu
      rw [List.getElem?_toArray, eu] at t
      exact (Option.some.inj t).symm
    have q2 : u2 = u2' := by
      have t : its2.toArray[i]? = some u2 := hu2
      rw [List.getElem?_toArray, eu2] at t
      exact (Option.some.inj t).symm
    subst q1
    subst q2
    have obj : ObjOk X.prog X.w (upd H s.heap.objs.size (.tup [x, y])) h3 s.heap.objs.size (.tup [x, y]) :=
      ⟨by show 2 ≤ sizeLine; decide, [u, u2], .cons ru (.cons ru2 .nil), ⟨_, (keep3 _ (Nat.ne_of_gt zlt)).trans hT, rfl, _, rfl⟩⟩
    have J := I.turnedNew (t' := tk) (ch := [z, TI, TO, i1, i2]) (h' := h3) (T := s.heap.objs.size) (ob := .tup [x, y]) (fun c o hb q => by
      simp only [List.mem_cons, List.not_mem_nil, or_false, not_or] at hb
      obtain ⟨b1, b2, b3, b4, b5⟩ := hb
      exact (keep3 c b1).trans (hk c o b1 b3 b4 b5 q)) hf (Nat.le_refl _) obj
    refine ⟨.ref s.heap.objs.size, _, J, rfl, ⟨_, x, y, rfl, I.hok.fresh (Nat.le_refl _), rfl, fun us hs => by rw [inj_b I hs sx]; exact ex, fun us hs => by rw [inj_b I hs sy]; exact ey⟩, ⟨⟨z3, ?_⟩, ⟨u, u2, ?_⟩, ?_, ?_⟩, fun c hc => ?_⟩
    · exact (keep3 _ D.TIz).trans (hk _ _ D.TIz D.TITO D.TIi1 D.TIi2 hTI)
    · exact (keep3 _ D.TOz).trans TO'
    · exact d1.1.at fun o e => (keep3 _ D.i1z).trans e
    · exact d2.1.at fun o e => (keep3 _ D.i2z).trans e
    · have clt : c < s.heap.objs.size := by
        simp only [List.mem_cons, List.not_mem_nil, or_false] at hc
        rcases hc with rfl | rfl | rfl | rfl | rfl
        · exact zlt
        · exact Heap.lt_size hTI
        · exact Heap.lt_size hTO
        · obtain ⟨o, e, _⟩ := h1.obj; exact Heap.lt_size e
        · obtain ⟨o, e, _⟩ := h2.obj; exact Heap.lt_size e
      rw [upd_ne (Nat.ne_of_lt clt)]
      exact (hf c hc).1
  done := by
    rintro X rfl rfl rfl hcalm i pins s σ H E I hf ⟨⟨hz, hTI⟩, ⟨x0, y0, hTO⟩, h1, h2⟩ ⟨xs, ys, sx, sy, rfl⟩
    obtain ⟨its, rv, p1⟩ := at_b I sx
    obtain ⟨its2, rv2, p2⟩ := at_b I sy
    have l1 : its.toArray.size = xs.length := by rw [List.size_toArray, ← rv.length]
    have l2 : its2.toArray.size = ys.length := by rw [List.size_toArray, ← rv2.length]
    have hd1 := I.ok.hd hcalm
    refine wpAny_pyNext_zipD2_end (sep_of D) (draws_b ba (A := X.A.in1) hd1 i1 a D.l1i1 its.toArray) (draws_b bb (A := X.A.in1) hd1 i2 b D.l2i2 its2.toArray) hz hTI hTO ⟨h1, p1⟩ ⟨h2, p2⟩ (by omega) (by omega) (by omega) fun h' tk hk => ⟨rfl, ?_⟩
    refine I.turnedL (t' := tk) (ch := [z, TI, TO, i1, i2]) (fun c o hb q => ?_) hf
    simp only [List.mem_cons, List.not_mem_nil, or_false, not_or] at hb
    obtain ⟨b1, b2, b3, b4, b5⟩ := hb
    exact hk c o b1 b3 b4 b5 q
  self := fun A i s Q E st h => wpAny_pyIter_zip st.1.1 h
def iZipU (K : PySem.W.Frag) (t : TA) : TI := fun σ H R => t σ H fun vs H1 => ∃ ba bb a b xs ys, vs = [.ref a, .ref b] ∧ SqB K ba H1 a xs ∧ SqB K bb H1 b ys ∧ R (ItZ K ba bb a b) H1
section
variable {X : Cx} {Γ : Nat → Addr} {W : WX} {e e2 tg : Expr} {t : TA} {f f2 : EF} {pos p tpos : Pos} {elts : List Expr} {kk : Nat}
theorem pi_zipU (hm : X.mg "zip" = none) (ha : PA X [e, e2] t) (hg : Gl X "zip")
    (hs : starEach [e, e2] X.env = (false, eval e X.env) :: starEach [e2] X.env) (hpl : (backTo pos (starEach [e2] X.env)).any (·.1) = false) :
    PI X (.Tuple elts kk tpos) (.Call (.Name "zip" p) [e, e2] [] pos) (iZipU X.K t) := by
  refine ⟨fun pins s σ H R I h => ?_⟩
  refine Call_ (ld_blt I hg hm boot_zip (PyProof.Rows.callWith_type1 (thn (ha.run pos pins s σ H _ I h) fun us s1 ⟨vs, H1, I1, r1, ba, bb, a, b, xs, ys, ev, sx, sy, q⟩ => ?_) hs hpl))
  subst ev
  cases r1 with
  | cons r rr =>
    cases rr with
    | cons r' rr =>
      cases rr
      cases r
      cases r'
      obtain ⟨its, rv, p1⟩ := at_b I1 sx
      obtain ⟨its2, rv2, p2⟩ := at_b I1 sy
      refine am_zip (begins_b ba a its.toArray) (begins_b bb b its2.toArray) p1 p2 fun h' z0 z1 z2 z3 z4 hk => wpAny_pyIter_zip z0 ?_
      have J : Inv X pins σ H1 { s1 with heap := h' } := I1.kept (t' := s1.toks) hk
      refine ⟨_, [s1.heap.objs.size + 4, s1.heap.objs.size + 2, s1.heap.objs.size + 3, s1.heap.objs.size, s1.heap.objs.size + 1], _, _, H1, rfl, J, turn_z (PySem.W.ktu_apart s1.heap.objs.size a b p1.lt p2.lt), ⟨⟨z0, z1⟩, ⟨_, _, z2⟩, it_new z3, it_new z4⟩, fun c hc => ?_, q⟩
      have hle : s1.heap.objs.size ≤ c := by
        simp only [List.mem_cons, List.not_mem_nil, or_false] at hc
        rcases hc with rfl | rfl | rfl | rfl | rfl <;> first | exact Nat.le_refl _ | exact Nat.le_add_right _ _
      exact I1.fpOk hle (I1.hok.fresh hle)
end
def zipD (xs ys : List D) : List D := List.zipWith (fun a b => D.tup [a, b]) xs ys
structure RowB (K : Ct) (w : Wd) (H : Hp) (b : Bool) (a : Addr) (ds : List D) : Prop where
  row : ∃ vs, Dens K w.ρ w.S H vs ds ∧ ∀ w' H', ExtS K w H w' H' → SqB K.K b H' a vs
def rowD : D → Option (List D)
  | .lst ds => some ds
  | .tup ds => some ds
  | .fz ds => some ds
  | _ => none
section
variable {K : Ct} {w : Wd} {H : Hp} {a b : Addr} {ba bb : Bool} {ds es : List D}
theorem row_of {v : V} {d : D} (h : Den K w.ρ w.S H v d) (e : rowD d = some ds) : ∃ b a, v = .ref a ∧ RowB K w H b a ds := by
  cases d with
  | lst es =>
    obtain rfl : es = ds := Option.some.inj e
    cases h with
    | @lst a vs _ hq n t => exact ⟨true, a, rfl, ⟨vs, t, fun w' H' x => SqL.of (x.keep a _ hq (fun z => n (.inl z)) fun z => n (.inr (.inr z))).1⟩⟩
  | tup es =>
    obtain rfl : es = ds := Option.some.inj e
    obtain ⟨a, vs, e1, hq, t⟩ := DenB.tup (w := w) h.b
    exact ⟨false, a, e1, ⟨vs, t, fun w' H' x => x.tups _ _ hq⟩⟩
  | fz es =>
    obtain rfl : es = ds := Option.some.inj e
    cases h with
    | @fz a vs _ hq t => exact ⟨true, a, rfl, ⟨vs, t, fun w' H' x => SqF.sql (S := fun _ => False) (hq.imp fun o e n => ⟨(x.keep a _ e (fun z => n (.inl z)) fun z => n (.inr (.inr z))).1, fun z => z⟩)⟩⟩
  | _ => cases e
theorem iter_z (h1 : RowB K w H ba a ds) (h2 : RowB K w H bb b es) : Iter K w H (ItZ K.K ba bb a b) (zipD ds es) := by
  obtain ⟨xs, t1, k1⟩ := h1
  obtain ⟨ys, t2, k2⟩ := h2
  have len : (zipD ds es).length = min xs.length ys.length := by unfold zipD; rw [List.length_zipWith, t1.length, t2.length]
  refine ⟨fun w' H' i x hi => ?_, fun w' H' x => ⟨xs, ys, k1 w' H' x, k2 w' H' x, len⟩, fun w' env st σ H' i y H2 r x hi q => ?_⟩
  · rw [len] at hi
    exact ⟨xs, ys, xs[i]'(by omega), ys[i]'(by omega), k1 w' H' x, k2 w' H' x, List.getElem?_eq_getElem _, List.getElem?_eq_getElem _⟩
  · obtain ⟨q, u, u2, rfl, hq, rfl, hu, hu2⟩ := q
    obtain ⟨d, e1, e2⟩ := (t1.monoS x).getV (hu xs (k1 w' H' x))
    obtain ⟨d2, e3, e4⟩ := (t2.monoS x).getV (hu2 ys (k2 w' H' x))
    refine ⟨.tup [d, d2], ?_, .tup (.inl (.inl upd_same)) (.cons (e2.new r hq) (.cons (e4.new r hq) .nil)), r.new hq, Ext.new hq⟩
    unfold zipD
    rw [List.getElem?_zipWith, e1, e3]
end
section
variable {X : Cx} {Γ : Nat → Addr} {W : WX} {e e2 tg : Expr} {f f2 : EF} {pos p tpos : Pos} {elts : List Expr} {kk : Nat}
def kZip : D → D → Sto → Res (List D) := fun a b st => match rowD a, rowD b with
  | some ds, some es => .ok (zipD ds es) st
  | _, _ => .bad
def iZip (fa fb : EF) : IF := fun env st => (fa env st).bind fun a st1 => (fb env st1).bind fun b st => kZip a b st
theorem pid_zip (hm : X.mg "zip" = none) (ha : PE X e (tD (XC X Γ) W f)) (hb : PE X e2 (tD (XC X Γ) W f2)) (hg : Gl X "zip" := by rfl)
    (hst : starEach [e, e2] X.env = (false, eval e X.env) :: starEach [e2] X.env := by rfl) (hst2 : starEach [e2] X.env = (false, eval e2 X.env) :: starEach [] X.env := by rfl) (hpl : (backTo pos (starEach [e2] X.env)).any (·.1) = false := by rfl) :
    PI X (.Tuple elts kk tpos) (.Call (.Name "zip" p) [e, e2] [] pos) (tI (XC X Γ) W (iZip f f2)) := by
  refine ⟨fun pins s σ H R I ⟨w, env, st, r, p⟩ => (pi_zipU hm (pa_cons ha (pa_cons hb pa_nil hst2) hst) hg hst hpl).run pins s σ H R I ⟨w, env, st, r, ?_⟩⟩
  unfold iZip at p
  cases q : f env st with
  | ok d st1 =>
    rw [q] at p
    have p : PostI (XC X Γ) W w H σ ((f2 env st1).bind fun b st => kZip d b st) R := p
    intro ρ' H' x h1 h2 h3
    refine ⟨w.at_ ρ', env, st1, r.ext h2 h1, ?_⟩
    cases q2 : f2 env st1 with
    | ok d2 st2 =>
      rw [q2] at p
      have p : PostI (XC X Γ) W w H σ (kZip d d2 st2) R := p
      intro ρ2 H2 y g1 g2 g3
      unfold kZip at p
      have h4 : Den (XC X Γ) ρ2 (w.at_ ρ2).S H2 x d := lastsD (r.ext h2 h1) ⟨ρ2, rfl⟩ g2 h3
      cases e1 : rowD d with
      | none => rw [e1] at p; exact p.elim
      | some ds =>
        cases e2 : rowD d2 with
        | none => rw [e1, e2] at p; exact p.elim
        | some es =>
          rw [e1, e2] at p
          obtain ⟨ba, a, u1, r1⟩ := row_of (K := XC X Γ) (w := w.at_ ρ2) h4 e1
          obtain ⟨bb, b, u2, r2⟩ := row_of (K := XC X Γ) (w := w.at_ ρ2) g3 e2
          have it := iter_z r1 r2
          obtain ⟨xs, t1, k1⟩ := r1
          obtain ⟨ys, t2, k2⟩ := r2
          exact ⟨ba, bb, a, b, xs, ys, by rw [u1, u2], k1 _ _ ExtS.refl, k2 _ _ ExtS.refl, p ρ2 H2 _ g1 (h2.trans g2) it⟩
    | exc x st2 =>
      rw [q2] at p
      intro ρ2 H2 dd gs g1 g2 g3 g4
      exact p ρ2 H2 dd gs g1 (h2.trans g2) g3 g4
    | bad => rw [q2] at p; exact p.elim
  | exc x st1 => rw [q] at p; exact p
  | bad => rw [q] at p; exact p.elim
end
end AM
namespace AM
open PySem PySem.Spec PyProof.Rows L2
section
variable {P : Program} {w : World} {K : PySem.W.Frag} {mg : Str → Option Value} {base : Heap} {Γ : Nat → Addr} {k : Nat} {x qual : Str} {params : Arguments} {body : List Stmt} {scope : Scope} {kws : List (Str × V)} {fd : FuncData} {N ps : List Str} {p : He.Defn}
theorem def_okT (F : FunD K x qual params body scope [] kws (He.fAd K p) fd) (S : FnScope N ps scope) (g : SF)
    (hbody : ∀ (A : Around) (outer : List Env) (s : Shared) (H : Hp) (E : XK), Go (cxOf (L2.CX P w) P w K mg base N qual scope (He.fAd K p) (.ref (He.codeOf K p)) A outer s H E) (fun c d _ H' => E c d H') k →
      PSs (cxOf (L2.CX P w) P w K mg base N qual scope (He.fAd K p) (.ref (He.codeOf K p)) A outer s H E) body (tS ⟨K, Γ⟩ (fun c d _ H' => E c d H') g)) :
    FnB P w K mg base (k + 1) (He.fAd K p) fd ps (spD ⟨K, Γ⟩ (runD ps.length N.length g)) := by
  have hpl : ps.length ≤ N.length := by
    have e := congrArg List.length S.pre
    rw [List.length_take] at e
    omega
  refine ⟨fun vs H Q E h => runD_len h, fun A outer s H args us vs Q E hr hg e0 hb rv hsp => ?_⟩
  obtain ⟨oc, od, dV, kV, doc, pm, an, cdv, ct, osl, rfl, lk, hcd, _, _⟩ := F.ex
  obtain ⟨c, rfl⟩ := He.codeIn_ref hcd
  obtain rfl : He.codeOf K p = c := He.codeOf_eq lk rfl
  refine StX.run_bnd (G := fun xs H2 => xs = vs ∧ H2 = H) lk hcd S hr e0 (fun A' Ex Q' h => ?_) fun s2 H2 xs hx hr' => ?_
  · exact hb _ _ _ _ (h s H vs us e0 Un.refl rfl (fun _ _ z => z) rv (runD_len hsp) ⟨rfl, rfl⟩)
  · obtain ⟨rfl, rfl⟩ := hx
    exact ⟨_, hbody A outer s2 H2 E (go_of hr' hg), body_ok hpl hsp⟩
end
section
variable {X : Cx} {Γ : Nat → Addr} {W : WX} {e : Expr} {f : EF} {i k kk : Nat} {c : Addr} {x q : Str} {params : Arguments} {scope : Scope} {p pos kpos lpos p1 p2 p3 p4 p5 : Pos}
theorem pd_sortKQ (hq : X.env.qual ++ "<lambda>" = q) (hr : Room k X.A) (B : LamX.TabB X.base X.mg c (Γ i)) (hc : X.env.code = .ref c) (L : KeyS x params scope) (hd : defaultsOf params X.env = ([], [])) (he : PE X e (tDB (XC X Γ) W f)) (hm : X.mg "sorted" = none) (hl : X.mg "len" = none) (hg : Gl X "sorted" := by rfl)
    (hs : starEach [e] X.env = (false, eval e X.env) :: starEach [] X.env := by rfl) (hb1 : backTo pos (starEach [e] X.env) = (false, eval e X.env) :: backTo pos (starEach [] X.env) := by rfl) (hb2 : (backTo pos (starEach [e] X.env)).any (·.1) = false := by rfl) :
    PE X (.Call (.Name "sorted" p) [e] [⟨some "key", .Lambda params (keyBody x kk p1 p2 p3 p4 p5) scope lpos, kpos⟩] pos) (tD (XC X Γ) W (dOp1 (oSortK i q) f)) := by
  subst hq
  exact pd_sortK hr B hc L hd he hm hl hg hs hb1 hb2
end
theorem tabsSt_of {K : PySem.W.Frag} {Γ : Nat → Addr} : ∀ (cs : List (Addr × Addr)) (qs : List (Nat × Str)), cs.length = qs.length → (∀ (n : Nat) p u, cs[n]? = some p → qs[n]? = some u → p.2 = Γ u.1) → tabsSt ⟨K, Γ⟩ cs (qs.map fun u => .tab u.1 u.2) := fun cs qs hl h => by
  refine ⟨by rw [List.length_map]; exact hl, fun n p c h1 h2 => ?_⟩
  rw [List.getElem?_map] at h2
  obtain ⟨u, hu, rfl⟩ := Option.map_eq_some_iff.mp h2
  exact ⟨u.1, u.2, rfl, h n p u h1 hu⟩
end AM
namespace AM
open PySem PySem.Spec PyProof.Rows L2
structure IterX (K : Ct) (w : Wd) (H : Hp) (J : It) (items : List D) : Prop where
  goes : ∀ w' H' i, ExtS K w H w' H' → Ext K w.ρ H w'.ρ H' → i < items.length → J.go i H'
  stops : ∀ w' H', ExtS K w H w' H' → Ext K w.ρ H w'.ρ H' → J.stop items.length H'
  yields : ∀ w' env st σ H' i x H2, Rel K w' env st σ H' → ExtS K w H w' H' → Ext K w.ρ H w'.ρ H' → i < items.length → J.yld i H' x H2 → ∃ d, items[i]? = some d ∧ Den K w'.ρ w'.S H2 x d ∧ Rel K w' env st σ H2 ∧ Ext K w'.ρ H' w'.ρ H2
def PostIX (K : Ct) (W : WX) (w : Wd) (H : Hp) (σ : St) (r : Res (List D)) (R : It → Hp → Prop) : Prop := match r with
  | .ok items st' => ∀ ρ' H' J, StOk K ρ' (w.at_ ρ').S H' st' → Ext K w.ρ H ρ' H' → IterX K (w.at_ ρ') H' J items → R J H'
  | .exc e st' => ∀ ρ' H' d gs, StOk K ρ' (w.at_ ρ').S H' st' → Ext K w.ρ H ρ' H' → H' d = some (.xd gs) → DenF K ρ' (w.at_ ρ').S H' gs e.fs → W (.ref (K.Γ e.c)) (some d) σ H'
  | .bad => False
def tIX (K : Ct) (W : WX) (f : IF) : TI := fun σ H R => ∃ w env st, Rel K w env st σ H ∧ PostIX K W w H σ (f env st) R
theorem iterX_list {K : Ct} {w : Wd} {H : Hp} {a : Addr} {vs : List V} {ds : List D} (h : H a = some (.lst vs)) (n : a ∉ w.ρ) (t : Dens K w.ρ w.S H vs ds) : IterX K w H (Itl K.K a) ds := by
  have k : ∀ (w' : Wd) (H' : Hp), Ext K w.ρ H w'.ρ H' → H' a = some (.lst vs) := fun w' H' x => (x.keep a _ h n).1
  refine ⟨fun w' H' i _ x hi => ?_, fun w' H' _ x => ⟨vs, SqL.of (k w' H' x), by rw [t.length]; exact Nat.le_refl _⟩, fun w' env st σ H' i y H2 r xs x hi q => ?_⟩
  · have hv : i < vs.length := by rw [t.length]; exact hi
    exact ⟨vs, vs[i], SqL.of (k w' H' x), List.getElem?_eq_getElem hv⟩
  · obtain ⟨rfl, q⟩ := q
    obtain ⟨d, e1, e2⟩ := (t.monoS xs).getV (q vs (SqL.of (k w' _ x)))
    exact ⟨d, e1, e2, r, Ext.refl⟩
def kSeqL : D → Sto → Res (List D) := fun d st => match d with
  | .lst ds => .ok ds st
  | _ => .bad
def iSeqL (f : EF) : IF := fun env st => (f env st).bind kSeqL
section
variable {X : Cx} {Γ : Nat → Addr} {W : WX} {elt tg iter l : Expr} {ifs : List Expr} {f : EF} {fi : IF} {t : TF} {pos : Pos} {scope : Scope} {own : List (Str × Nat)} {tup : Bool} {is : List Nat}
theorem pid_seqL (h : PE X l (tDB (XC X Γ) W f)) : PI X tg l (tIX (XC X Γ) W (iSeqL f)) := by
  refine ⟨fun pins s σ H R I hh => ?_⟩
  obtain ⟨w, env, st, r, p⟩ := hh
  have p : PostIX (XC X Γ) W w H σ ((f env st).bind kSeqL) R := p
  cases q : f env st with
  | ok d st1 =>
    rw [q] at p
    cases d with
    | lst ds =>
      refine (pi_list h).run pins s σ H R I ⟨w, env, st, r, ?_⟩
      rw [q]
      intro ρ' H' x h1 h2 h3
      obtain ⟨a, vs, e1, ha, n, t⟩ := DenB.lst (w := w.at_ ρ') h3
      exact ⟨a, e1, ⟨vs, SqL.of ha⟩, p ρ' H' _ h1 h2 (iterX_list (w := w.at_ ρ') ha n t)⟩
    | _ => exact p.elim
  | exc x st1 =>
    rw [q] at p
    refine (pi_list h).run pins s σ H R I ⟨w, env, st, r, ?_⟩
    rw [q]
    exact p
  | bad => rw [q] at p; exact p.elim
theorem comp_okX {K : Ct} {σ : St} {H : Hp} {Q : VK} (h : tF K W (compF fi tup is (own.map (·.2)) t f) σ H Q) : tLc (tIX K W fi) (gC K.K tup is) (tT K WN t) (tD K WN f) (own.map (·.2)) σ H Q := by
  obtain ⟨w, env, st, r, p⟩ := h
  generalize hvs : own.map (·.2) = vs at p
  by_cases hc : noOwn env vs = true ∧ (∀ i ∈ is, i ∈ vs)
  · obtain ⟨hc1, hc2⟩ := hc
    refine ⟨w, env, st, r, ?_⟩
    have eF : compF fi tup is vs t f env st = (fi env st).bind fun items st => onlyOk (compL tup is vs t f env [] items st) := if_pos ⟨hc1, hc2⟩
    rw [eF] at p
    cases q : fi env st with
    | exc x st1 => rw [q] at p; exact p
    | bad => rw [q] at p; exact p
    | ok items st1 =>
      rw [q] at p
      intro ρ' H1 J h1 h2 It D hD
      have r1 : Rel K (w.at_ ρ') env st1 σ H1 := r.ext h2 h1
      obtain ⟨r2, _⟩ := r1.keepNew (vs := []) hD
      have fin0 : CFin K w H1 ρ' D env σ Q (compL tup is vs t f env [] items st1) := cfin_of r h2 hD p
      refine ⟨fun i m H' => m = items.length - i ∧ i ≤ items.length ∧ ∃ ρ2 st2 acc us, Rel K ((w.at_ ρ2).keep D) env st2 σ H' ∧ Ext K ρ' H1 ρ2 H' ∧ H' D = some (.lst us) ∧ Dens K ρ2 ((w.at_ ρ2).keep D).S H' us acc ∧ CFin K w H1 ρ' D env σ Q (compL tup is vs t f env acc (items.drop i) st2),
        ⟨items.length, rfl, Nat.zero_le _, ρ', st1, [], [], r2, Ext.new hD, upd_same, .nil, fin0⟩, ?_⟩
      rintro i m H' ⟨rfl, hi, ρ2, st2, acc, us, r', x', eD, tA, fin⟩
      have xS := ext_keep x' r' hD
      by_cases hlt : i < items.length
      · refine .inr ⟨It.goes _ H' i xS x' hlt, fun H2 => ∃ ρ2 st2 acc us, Rel K ((w.at_ ρ2).keep D) env st2 σ H2 ∧ Ext K ρ' H1 ρ2 H2 ∧ H2 D = some (.lst us) ∧ Dens K ρ2 ((w.at_ ρ2).keep D).S H2 us acc ∧ CFin K w H1 ρ' D env σ Q (compL tup is vs t f env acc (items.drop (i + 1)) st2),
          fun H2 z => ⟨items.length - (i + 1), by omega, rfl, hlt, z⟩, fun x H2 y => ?_⟩
        obtain ⟨d, e1, d1, r3, x3⟩ := It.yields _ env st2 σ H' i x H2 r' xS x' hlt y
        have x4 : Ext K ρ' H1 ρ2 H2 := x'.trans x3
        have eD2 : H2 D = some (.lst us) := (x3.keep D _ eD (r'.res D (.inr rfl)).2).1
        have tA2 : Dens K ρ2 ((w.at_ ρ2).keep D).S H2 us acc := lastsDs r' ⟨ρ2, rfl⟩ x3 tA
        have ed : items.drop i = d :: items.drop (i + 1) := by
          rw [List.drop_eq_getElem_cons hlt]
          congr 1
          rw [List.getElem?_eq_getElem hlt] at e1
          exact Option.some.inj e1
        rw [ed] at fin
        have nb : ¬ CFin K w H1 ρ' D env σ Q .bad := fun z => z
        cases eg : tgC tup is d with
        | none =>
          have fin : CFin K w H1 ρ' D env σ Q (match tgC tup is d with
            | some es => (t (putAll (wipeE env vs) is es) st2).bindN fun b st2 => if b = true then (f (putAll (wipeE env vs) is es) st2).bindN fun y st3 => (if acc.length < sizeLine then compL tup is vs t f env (acc ++ [y]) (items.drop (i + 1)) st3 else .bad) else compL tup is vs t f env acc (items.drop (i + 1)) st2
            | none => .bad) := fin
          rw [eg] at fin
          exact fin.elim
        | some es =>
          have fin : CFin K w H1 ρ' D env σ Q (match tgC tup is d with
            | some es => (t (putAll (wipeE env vs) is es) st2).bindN fun b st2 => if b = true then (f (putAll (wipeE env vs) is es) st2).bindN fun y st3 => (if acc.length < sizeLine then compL tup is vs t f env (acc ++ [y]) (items.drop (i + 1)) st3 else .bad) else compL tup is vs t f env acc (items.drop (i + 1)) st2
            | none => .bad) := fin
          rw [eg] at fin
          obtain ⟨xs, tx, go⟩ := gC_ok (w := (w.at_ ρ2).keep D) (σ := wipe σ vs) (H := H2) (Q := fun σ2 H2 => wipe σ2 vs = wipe σ vs ∧ tT K WN t σ2 H2 fun b H3 =>
            if b = true then tD K WN f σ2 H3 fun y H4 => ∃ acc, H4 D = some (.lst acc) ∧ acc.length < sizeLine ∧ ∃ ρ2 st2 acc' us, Rel K ((w.at_ ρ2).keep D) env st2 σ (upd H4 D (.lst (acc ++ [y]))) ∧ Ext K ρ' H1 ρ2 (upd H4 D (.lst (acc ++ [y]))) ∧ (upd H4 D (.lst (acc ++ [y]))) D = some (.lst us) ∧ Dens K ρ2 ((w.at_ ρ2).keep D).S (upd H4 D (.lst (acc ++ [y]))) us acc' ∧ CFin K w H1 ρ' D env σ Q (compL tup is vs t f env acc' (items.drop (i + 1)) st2)
            else ∃ ρ2 st2 acc us, Rel K ((w.at_ ρ2).keep D) env st2 σ H3 ∧ Ext K ρ' H1 ρ2 H3 ∧ H3 D = some (.lst us) ∧ Dens K ρ2 ((w.at_ ρ2).keep D).S H3 us acc ∧ CFin K w H1 ρ' D env σ Q (compL tup is vs t f env acc (items.drop (i + 1)) st2)) eg d1
          refine go ⟨by rw [wipe_putAll hc2, wipe_wipe], ?_⟩
          have rw1 := (r3.wipe vs hc1).putAll tx fun i hi => noOwn_O r3 hc1 i (hc2 i hi)
          refine ⟨(w.at_ ρ2).keep D, _, st2, rw1, (Post.bindN (Da := dnB) (P := CFin K w H1 ρ' D env σ Q) rw1 fin nb).mono ?_⟩
          rintro b H3 ⟨ρ3, st3, b', r4, x5, eb, fin2⟩
          cases (show b = b' from eb)
          have r4o : Rel K ((w.at_ ρ3).keep D) env st3 σ H3 := r3.ext (ρ' := ρ3) x5 r4.sto
          have eD3 : H3 D = some (.lst us) := (x5.keep D _ eD2 (r3.res D (.inr rfl)).2).1
          have tA3 : Dens K ρ3 ((w.at_ ρ3).keep D).S H3 us acc := lastsDs r3 ⟨ρ3, rfl⟩ x5 tA2
          cases b with
          | false =>
            rw [if_neg Bool.false_ne_true] at fin2 ⊢
            exact ⟨ρ3, st3, acc, us, r4o, x4.trans x5, eD3, tA3, fin2⟩
          | true =>
            rw [if_pos rfl] at fin2 ⊢
            refine ⟨(w.at_ ρ3).keep D, _, st3, r4, (Post.bindN (Da := Den) (P := CFin K w H1 ρ' D env σ Q) r4 fin2 nb).mono ?_⟩
            rintro y2 H4 ⟨ρ4, st4, d4, r5, x6, dy, fin3⟩
            have r5o : Rel K ((w.at_ ρ4).keep D) env st4 σ H4 := r4o.ext (ρ' := ρ4) x6 r5.sto
            have eD4 : H4 D = some (.lst us) := (x6.keep D _ eD3 (r4o.res D (.inr rfl)).2).1
            have tA4 : Dens K ρ4 ((w.at_ ρ4).keep D).S H4 us acc := lastsDs r4o ⟨ρ4, rfl⟩ x6 tA3
            by_cases hz : acc.length < sizeLine
            · rw [if_pos hz] at fin3
              have SD : ((w.at_ ρ4).keep D).S D := keep_S.mpr (.inr rfl)
              have nb2 : ∀ b, ¬ ((w.at_ ρ4).keep D).S b → b ≠ D := fun b n z => n (by rw [z]; exact SD)
              have hk : ∀ b o, H4 b = some o → ¬ ((w.at_ ρ4).keep D).S b → upd H4 D (.lst (us ++ [y2])) b = some o ∧ ¬ ((w.at_ ρ4).keep D).S b := fun b o e n => ⟨by rw [upd_ne (nb2 b n)]; exact e, n⟩
              refine ⟨us, eD4, by rw [tA4.length]; exact hz, ρ4, st4, acc ++ [d4], us ++ [y2], r5o.putKept (.inr rfl) eD4, ?_, upd_same, (tA4.append (.cons dy .nil)).gen hk (fun _ _ h => SqT.put eD4 h) (fun _ _ h => h), fin3⟩
              have x7 := (x4.trans x5).trans x6
              exact ⟨x7.pre, fun b o g n => by
                obtain ⟨g1, g2⟩ := x7.keep b o g n
                exact ⟨by rw [upd_ne (ne_of_none g hD)]; exact g1, g2⟩, fun b us2 g => SqT.put eD4 (x7.tups b us2 g)⟩
            · rw [if_neg hz] at fin3
              exact fin3.elim
      · have e : i = items.length := by omega
        subst e
        rw [List.drop_length] at fin
        exact .inl ⟨It.stops _ H' xS x', fin ρ2 H' us r' x' eD tA⟩
  · have eF : compF fi tup is vs t f env st = .bad := if_neg hc
    rw [eF] at p
    exact p.elim
theorem pf_compX (hc : X.calm = true) (hN : X.N.Nodup) (hi : PI X tg iter (tIX (XC X Γ) W fi)) (ok : BlkOk X.N X.env.scope scope own)
    (hg : ∀ (s : Shared) (H : Hp) (C : Addr) (cl : List (Str × Addr)) (fp : List Addr), PG (X.blk s H scope (compEnvC scope cl C X.env) fp) tg (gC X.K tup is)) (ht : ∀ (s : Shared) (H : Hp) (C : Addr) (cl : List (Str × Addr)) (fp : List Addr), PTs (X.blk s H scope (compEnvC scope cl C X.env) fp) ifs (tT (XC X Γ) WN t))
    (he : ∀ (s : Shared) (H : Hp) (C : Addr) (cl : List (Str × Addr)) (fp : List Addr), PE (X.blk s H scope (compEnvC scope cl C X.env) fp) elt (tD (XC X Γ) WN f)) (hs : ∀ x, foldedSetIterable iter X.env x = pure x := by intro _; rfl) :
    PE X (.ListComp elt [⟨tg, iter, ifs, 0⟩] scope pos) (tF (XC X Γ) W (compF fi tup is (own.map (·.2)) t f)) := peImp (pe_lc hc hN hi ok hg ht he hs) fun _ _ _ h => comp_okX h
end
end AM
namespace AM
open PySem PySem.Spec PyProof.Rows L2
theorem pd_dic0 {X : Cx} {Γ : Nat → Addr} {W : WX} {p : Pos} : PE X (.Dict [] [] p) (tD (XC X Γ) W (dC (.dic []))) := peImp pe_dnewK fun σ H Q ⟨w, env, st, rl, pp⟩ q hn => by
  have r1 := rl.new (o := .dK []) hn
  exact pp w.ρ _ _ r1.sto (Ext.new hn) (.dic upd_same (rl.fresh hn) rfl)
end AM
namespace AM
open PySem PySem.Spec PyProof.Rows L2
def oMulT : Op2 := fun a b st => match a with
  | .tup s => (match b with
    | .int j => if (!s.isEmpty && (decide (2 ≤ j) && (decide (j ≤ 1000) && decide (s.length ≤ 1000)))) = true then .ok (.tup (List.replicate j.toNat s).flatten) st else .bad
    | _ => .bad)
  | _ => oMul a b st
section
variable {X : Cx} {Γ : Nat → Addr} {W : WX}
theorem opd_mulT : OpR X (binaryOp .Mult) (rD2 (XC X Γ) W oMulT) := by
  have g := opd_mul (X := X) (Γ := Γ) (W := W)
  have h : ∀ (a : D), (∀ s, a ≠ .tup s) → ∀ b st, oMulT a b st = oMul a b st := fun a n b st => by
    cases a with
    | tup s => exact absurd rfl (n s)
    | _ => rfl
  refine opr fun w env st σ H x y a b Q r d1 d2 p => ?_
  by_cases e : ∃ s, a = .tup s
  · obtain ⟨s, rfl⟩ := e
    cases b with
    | int j =>
      have p : Post Den (XC X Γ) W w H σ (if (!s.isEmpty && (decide (2 ≤ j) && (decide (j ≤ 1000) && decide (s.length ≤ 1000)))) = true then .ok (.tup (List.replicate j.toNat s).flatten) st else .bad) Q := p
      split at p
      · rename_i hz
        obtain ⟨z1, hz⟩ := Bool.and_eq_true_iff.mp hz
        obtain ⟨z2, hz⟩ := Bool.and_eq_true_iff.mp hz
        obtain ⟨z3, z4⟩ := Bool.and_eq_true_iff.mp hz
        obtain ⟨a1, v1, e1, q1, t1⟩ := DenB.tup (w := w) d1
        refine ⟨_, op_repT, a1, j, v1, e1, d2.int, q1, fun z => ?_, of_decide_eq_true z2, of_decide_eq_true z3, by rw [t1.length]; exact of_decide_eq_true z4, fun pp hp => ?_⟩
        · rw [z] at t1
          cases t1
          cases z1
        · have tt : Dens (XC X Γ) w.ρ w.S H (List.replicate j.toNat v1).flatten (List.replicate j.toNat s).flatten := by
            clear p
            generalize j.toNat = n
            induction n with
            | zero => exact .nil
            | succ n ih => rw [List.replicate_succ, List.replicate_succ, List.flatten_cons, List.flatten_cons]; exact t1.append ih
          exact p.okNew r hp (.tup (.inl (.inl upd_same)) (tt.new r hp))
      · exact p.elim
    | _ => exact p.elim
  · rw [h a (fun s z => e ⟨s, z⟩)] at p
    exact ⟨rD2 (XC X Γ) W oMul, g, w, env, st, σ, a, b, r, d1, d2, p⟩
end
end AM
namespace K74
open PySem PySem.Spec PyProof.Rows L2 AM KL KP
def F_parts_of (U : List Nat) : DF := runD 1 4 (sSeq (sSet 1 (dLst (dCons (dC (.str "")) dNil))) (sSeq (sFor (iSeq (dVar 0)) (gNm 2) (sSet 1 (dOp2 oAdd (dVar 1) (dF (compF (iSeq (dVar 1)) false [3] [3] tYesD (dOp2 oAdd (dVar 3) (dVar 2))))))) (sRet (dOp1 (oSortK 1000 "parts_of.<locals>.<lambda>") (dVar 1)))))
def F_has_all (U : List Nat) : DF := runD 2 3 (sRet (dOp1 oAll (dF (compF (iSeq (dVar 1)) false [2] [2] tYesD (dOp2 oIn (dVar 2) (dVar 0))))))
def F_least (U : List Nat) : DF := runD 1 4 (sSeq (sOwn 1 (dLstF dNil)) (sSeq (sFor (iSeq (dVar 0)) (gNm 2) (sIf (gNot (gTru (dOp1 oAny (dF (compF (iSeqL (dOwn 1)) false [3] [3] tYesD (dCall (F_has_all U) (dCons (dVar 2) (dCons (dVar 3) dNil)))))))) (sApp 1 (dVar 2)) sPass)) (sRet (dOp1 oTupT (dOp1 oSortS (dOwn 1))))))
def F_cuts_of (U : List Nat) : DF := runD 1 5 (sSeq (sSet 1 (dM1 sJoin (dC (.str "")) (fSortD 3 [3] (dM1 sJoin (dC (.str "")) (dVar 0))))) (sRet (dCall (F_least U) (dCons (dF (compF (iSeq (dCall (F_parts_of U) (dCons (dVar 1) dNil))) false [2] [2] (gTru (dOp1 oAll (dF (compF (iSeq (dVar 0)) false [4] [4] tYesD (dOp1 oAny (dF (compF (iSeq (dVar 2)) false [3] [3] tYesD (dOp2 oIn (dVar 3) (dVar 4))))))))) (dVar 2))) dNil))))
def F_pegs_in (U : List Nat) : DF := runD 1 4 (sSeq (sSet 1 (dM0 sLower (dM1 sJoin (dC (.str "")) (dF (compF (iSeq (dVar 0)) false [3] [3] tYesD (dOp2 oIx (dVar 3) (dC (.int 0)))))))) (sRet (dM1 sJoin (dC (.str "")) (dF (compF (iSeq (dC (.str "abcdef"))) false [2] [2] (gBl (dOp2 oIn (dVar 2) (dVar 1))) (dVar 2))))))
def F_are_lots (U : List Nat) : DF := runD 2 5 (sSeq (sIf (gOr (gNot (gTru (dOp1 (oIsi (is_tuple U)) (dVar 0)))) (gNot (gTru (dOp1 oAll (dF (compF (iSeq (dVar 0)) false [3] [3] tYesD (dAnd (dCall (F_are_pegs U) (dCons (dVar 3) dNil)) (dCall (F_has_all U) (dCons (dVar 1) (dCons (dVar 3) dNil)))))))))) (sRet (dC (.bl false))) sPass) (sSeq (sIf (gTru (dOp1 oAny (dF (compF (iRan (dOp2 oSub (dOp1 oLen (dVar 0)) (dC (.int 1)))) false [2] [2] tYesD (dOp2 oGe (dOp2 oIx (dVar 0) (dVar 2)) (dOp2 oIx (dVar 0) (dOp2 oAdd (dVar 2) (dC (.int 1))))))))) (sRet (dC (.bl false))) sPass) (sSeq (sFor (iEnm (dVar 0)) (gTupD 2 (gConsD (gNm 2) (gConsD (gNm 3) gNilD))) (sIf (gTru (dOp1 oAny (dF (compF (iSeq (dOp2 oAdd (dSl (dVar 0) oNo (oSo (dVar 2))) (dSl (dVar 0) (oSo (dOp2 oAdd (dVar 2) (dC (.int 1)))) oNo))) false [4] [4] tYesD (dCall (F_has_all U) (dCons (dVar 3) (dCons (dVar 4) dNil))))))) (sRet (dC (.bl false))) sPass)) (sRet (dC (.bl true))))))
def F_shows_lots (U : List Nat) : DF := runD 2 11 (sSeq (sIf (gOr (gNot (gTru (dCall (F_are_blocks U) (dCons (dOp2 oIx (dVar 0) (dC (.int 1))) dNil)))) (gOr (gNot (gTru (dCall (F_is_rounds U) (dCons (dOp2 oIx (dVar 0) (dC (.int 2))) dNil)))) (gNot (gTru (dCall (F_are_lots U) (dCons (dOp2 oIx (dVar 0) (dC (.int 3))) (dCons (dCall (F_pegs_in U) (dCons (dOp2 oIx (dVar 0) (dC (.int 1))) dNil)) dNil))))))) (sRet (dC (.bl false))) sPass) (sSeq (sIf (gOr (gNot (gTru (dOp1 (oIsi (is_tuple U)) (dVar 1)))) (gOr (gBl (dOp2 oNe (dOp1 oLen (dVar 1)) (dC (.int 2)))) (gNot (gTru (dOp1 oAll (dF (compF (iSeq (dVar 1)) false [9] [9] tYesD (dOp1 (oIsi (is_tuple U)) (dVar 9))))))))) (sRet (dC (.bl false))) sPass) (sSeq (sSet 2 (dCall (F_cuts_of U) (dCons (dOp2 oIx (dVar 0) (dC (.int 3))) dNil))) (sSeq (sIf (gOr (gBl (dOp2 oNe (dOp1 oLen (dOp2 oIx (dVar 1) (dC (.int 0)))) (dOp1 oLen (dOp2 oIx (dVar 0) (dC (.int 3)))))) (gBl (dOp2 oNe (dOp1 oLen (dOp2 oIx (dVar 1) (dC (.int 1)))) (dOp1 oLen (dVar 2))))) (sRet (dC (.bl false))) sPass) (sSeq (sSet 3 (dCall (F_at_rounds U) (dCons (dOp2 oIx (dVar 0) (dC (.int 1))) (dCons (dOp2 oIx (dVar 0) (dC (.int 2))) dNil)))) (sSeq (sIf (gNot (gTru (dOp1 oAll (dF (compF (iZip (dOp2 oIx (dVar 0) (dC (.int 3))) (dOp2 oIx (dVar 1) (dC (.int 0)))) true [10, 8] [10, 8] tYesD (dCall (F_lead_to_tight U) (dCons (dCall (F_left_of U) (dCons (dVar 3) (dCons (dVar 10) dNil))) (dCons (dVar 8) (dCons (dC (.int 0)) dNil))))))))) (sRet (dC (.bl false))) sPass) (sSeq (sSet 4 (dF (compF (iSeq (dVar 2)) false [5] [5] tYesD (dM1 sJoin (dC (.str "")) (dF (compF (iSeq (dC (.str "abcdef"))) false [6] [6] (gBl (dOp2 oNotIn (dVar 6) (dVar 5))) (dVar 6))))))) (sRet (dOp1 oAll (dF (compF (iZip (dVar 4) (dOp2 oIx (dVar 1) (dC (.int 1)))) true [7, 8] [7, 8] tYesD (dCall (F_lead_to_nothing U) (dCons (dCall (F_left_of U) (dCons (dVar 3) (dCons (dVar 7) dNil))) (dCons (dVar 8) dNil))))))))))))))
def L_judge (U : List Nat) : List (Nat × DF) := [(41, (F_shows_free U)), (42, (F_shows_free_at U)), (43, (F_shows_held_at U)), (44, (F_shows_held U)), (45, (F_shows_length U)), (46, (F_shows_same U)), (47, (F_shows_lots U))]
def F_accepts (U : List Nat) : DF := runD 2 4 (sSeq (sIf (gOr (gNot (gTru (dOp1 (oIsi (is_tuple U)) (dVar 0)))) (gOr (gBl (dOp2 oEq (dOp1 oLen (dVar 0)) (dC (.int 0)))) (gOr (gNot (gTru (dOp1 (oIsi (is_str U)) (dOp2 oIx (dVar 0) (dC (.int 0)))))) (gBl (dInG (rowsD T_JUDGES) true (dOp2 oIx (dVar 0) (dC (.int 0)))))))) (sRet (dC (.bl false))) sPass) (sSeq (sAsg (dIxG (rowsD T_JUDGES) (dOp2 oIx (dVar 0) (dC (.int 0)))) (gTupD 2 (gConsD (gNm 2) (gConsD (gNm 3) gNilD)))) (sRet (dAnd (dOp2 oEq (dOp1 oLen (dVar 0)) (dVar 2)) (dLcall (L_judge U) 3 (dCons (dVar 0) (dCons (dVar 1) dNil)))))))
def F_law_menu (U : List Nat) : DF := runD 0 3 (sSeq (sSet 0 (dTup (dCons (dTup (dCons (dC (.str "turn")) (dCons (dC (.int 1)) dNil))) (dCons (dTup (dCons (dC (.str "join")) (dCons (dC (.int 0)) dNil))) (dCons (dTup (dCons (dC (.str "out")) (dCons (dC (.int 0)) dNil))) dNil))))) (sSeq (sOwn 1 (dLstF (dCons (dTup (dCons (dTup (dCons (dC (.str "free")) (dCons (dTup (dCons (dTup (dCons (dC (.str "a")) (dCons (dC (.int 1)) (dCons (dNeg (dC (.int 3))) dNil)))) (dCons (dTup (dCons (dC (.str "A")) (dCons (dC (.int 1)) (dCons (dNeg (dC (.int 3))) dNil)))) dNil))) dNil))) (dCons (dVar 0) dNil))) (dCons (dTup (dCons (dTup (dCons (dC (.str "free at")) (dCons (dTup (dCons (dTup (dCons (dC (.str "a")) (dCons (dC (.int 1)) (dCons (dNeg (dC (.int 3))) dNil)))) dNil)) (dCons (dC (.int 3)) dNil)))) (dCons (dTup (dCons (dTup (dCons (dC (.str "out")) (dCons (dC (.int 0)) dNil))) dNil)) dNil))) dNil)))) (sSeq (sOwn 1 (dCat (dOwn 1) (dLst (dCons (dTup (dCons (dTup (dCons (dC (.str "held at")) (dCons (dTup (dCons (dTup (dCons (dC (.str "ab")) (dCons (dC (.int 2)) (dCons (dNeg (dC (.int 3))) dNil)))) dNil)) (dCons (dC (.int 1)) dNil)))) (dCons (dTup (dCons (dTup (dCons (dC (.str "turn")) (dCons (dC (.int 0)) dNil))) dNil)) dNil))) dNil)))) (sSeq (sApp 1 (dTup (dCons (dTup (dCons (dC (.str "held")) (dCons (dTup (dCons (dTup (dCons (dC (.str "ab")) (dCons (dC (.int 1)) (dCons (dNeg (dC (.int 1))) dNil)))) (dCons (dTup (dCons (dC (.str "c")) (dCons (dC (.int 0)) (dCons (dC (.int 1)) dNil)))) dNil))) (dCons (dC (.int 0)) dNil)))) (dCons (dTup (dCons (dC (.int 2)) (dCons (dTup dNil) (dCons (dTup (dCons (dTup (dCons (dTup (dCons (dC (.str "turn")) (dCons (dC (.int 0)) dNil))) dNil)) (dCons (dTup (dCons (dTup (dCons (dC (.str "out")) (dCons (dC (.int 0)) dNil))) dNil)) dNil))) dNil)))) dNil)))) (sSeq (sApp 1 (dTup (dCons (dTup (dCons (dC (.str "length")) (dCons (dTup (dCons (dTup (dCons (dC (.str "ab")) (dCons (dC (.int 1)) (dCons (dC (.int 0)) dNil)))) (dCons (dTup (dCons (dC (.str "ab")) (dCons (dC (.int 0)) (dCons (dC (.int 2)) dNil)))) dNil))) (dCons (dC (.int 7)) (dCons (dC (.int 18)) dNil))))) (dCons (dTup (dCons (dTup (dCons (dC (.str "join")) (dCons (dC (.int 0)) dNil))) dNil)) dNil)))) (sSeq (sApp 1 (dTup (dCons (dTup (dCons (dC (.str "same")) (dCons (dTup (dCons (dTup (dCons (dC (.str "ab")) (dCons (dC (.int 1)) (dCons (dC (.int 0)) dNil)))) dNil)) (dCons (dTup (dCons (dTup (dCons (dC (.str "BA")) (dCons (dNeg (dC (.int 1))) (dCons (dC (.int 0)) dNil)))) dNil)) dNil)))) (dCons (dTup (dCons (dTup (dCons (dC (.str "turn")) (dCons (dC (.int 1)) dNil))) (dCons (dTup (dCons (dC (.str "join")) (dCons (dC (.int 0)) dNil))) (dCons (dTup (dCons (dC (.str "out")) (dCons (dC (.int 0)) dNil))) dNil)))) dNil)))) (sSeq (sSet 2 (dTup (dCons (dTup (dCons (dC (.str "a")) (dCons (dC (.int 1)) (dCons (dNeg (dC (.int 3))) dNil)))) (dCons (dTup (dCons (dC (.str "b")) (dCons (dC (.int 0)) (dCons (dC (.int 1)) dNil)))) (dCons (dTup (dCons (dC (.str "A")) (dCons (dC (.int 1)) (dCons (dNeg (dC (.int 3))) dNil)))) (dCons (dTup (dCons (dC (.str "B")) (dCons (dC (.int 0)) (dCons (dC (.int 1)) dNil)))) dNil)))))) (sRet (dOp2 oAdd (dOwn 1) (dLst (dCons (dTup (dCons (dTup (dCons (dC (.str "lots")) (dCons (dVar 2) (dCons (dC (.int 4)) (dCons (dTup (dCons (dC (.str "ab")) dNil)) dNil))))) (dCons (dTup (dCons (dTup (dCons (dTup dNil) dNil)) (dCons (dTup (dCons (dVar 0) (dCons (dVar 0) dNil))) dNil))) dNil))) dNil)))))))))))
def F_law_with__0 (U : List Nat) : DF := fun _ _ => .bad
def F_law_with__1 (U : List Nat) : DF := runD 4 5 (sSeq (sIf (gAnd (gTru (dOp1 (oIsi (is_tuple U)) (dVar 1))) (gAnd (gBl (dOp2 oNe (dVar 1) (dTup dNil))) (gAnd (gBl (dOp2 oGt (dVar 3) (dC (.int 0)))) (gBl (dOp2 oGt (dCall (F_law_take U) (dCons (dVar 0) (dCons (dC (.int 4)) dNil))) (dC (.int 0))))))) (sSeq (sSet 4 (dCall (F_law_take U) (dCons (dVar 0) (dCons (dOp1 oLen (dVar 1)) dNil)))) (sRet (dOp2 oAdd (dOp2 oAdd (dSl (dVar 1) oNo (oSo (dVar 4))) (dTup (dCons (dCall (F_law_with__0 U) (dCons (dVar 0) (dCons (dOp2 oIx (dVar 1) (dVar 4)) (dCons (dVar 2) (dCons (dOp2 oSub (dVar 3) (dC (.int 1))) dNil))))) dNil))) (dSl (dVar 1) (oSo (dOp2 oAdd (dVar 4) (dC (.int 1)))) oNo)))) sPass) (sRet (dVar 2)))
def F_law_with__2 (U : List Nat) : DF := runD 4 5 (sSeq (sIf (gAnd (gTru (dOp1 (oIsi (is_tuple U)) (dVar 1))) (gAnd (gBl (dOp2 oNe (dVar 1) (dTup dNil))) (gAnd (gBl (dOp2 oGt (dVar 3) (dC (.int 0)))) (gBl (dOp2 oGt (dCall (F_law_take U) (dCons (dVar 0) (dCons (dC (.int 4)) dNil))) (dC (.int 0))))))) (sSeq (sSet 4 (dCall (F_law_take U) (dCons (dVar 0) (dCons (dOp1 oLen (dVar 1)) dNil)))) (sRet (dOp2 oAdd (dOp2 oAdd (dSl (dVar 1) oNo (oSo (dVar 4))) (dTup (dCons (dCall (F_law_with__1 U) (dCons (dVar 0) (dCons (dOp2 oIx (dVar 1) (dVar 4)) (dCons (dVar 2) (dCons (dOp2 oSub (dVar 3) (dC (.int 1))) dNil))))) dNil))) (dSl (dVar 1) (oSo (dOp2 oAdd (dVar 4) (dC (.int 1)))) oNo)))) sPass) (sRet (dVar 2)))
def F_law_with__3 (U : List Nat) : DF := runD 4 5 (sSeq (sIf (gAnd (gTru (dOp1 (oIsi (is_tuple U)) (dVar 1))) (gAnd (gBl (dOp2 oNe (dVar 1) (dTup dNil))) (gAnd (gBl (dOp2 oGt (dVar 3) (dC (.int 0)))) (gBl (dOp2 oGt (dCall (F_law_take U) (dCons (dVar 0) (dCons (dC (.int 4)) dNil))) (dC (.int 0))))))) (sSeq (sSet 4 (dCall (F_law_take U) (dCons (dVar 0) (dCons (dOp1 oLen (dVar 1)) dNil)))) (sRet (dOp2 oAdd (dOp2 oAdd (dSl (dVar 1) oNo (oSo (dVar 4))) (dTup (dCons (dCall (F_law_with__2 U) (dCons (dVar 0) (dCons (dOp2 oIx (dVar 1) (dVar 4)) (dCons (dVar 2) (dCons (dOp2 oSub (dVar 3) (dC (.int 1))) dNil))))) dNil))) (dSl (dVar 1) (oSo (dOp2 oAdd (dVar 4) (dC (.int 1)))) oNo)))) sPass) (sRet (dVar 2)))
def F_law_with__4 (U : List Nat) : DF := runD 4 5 (sSeq (sIf (gAnd (gTru (dOp1 (oIsi (is_tuple U)) (dVar 1))) (gAnd (gBl (dOp2 oNe (dVar 1) (dTup dNil))) (gAnd (gBl (dOp2 oGt (dVar 3) (dC (.int 0)))) (gBl (dOp2 oGt (dCall (F_law_take U) (dCons (dVar 0) (dCons (dC (.int 4)) dNil))) (dC (.int 0))))))) (sSeq (sSet 4 (dCall (F_law_take U) (dCons (dVar 0) (dCons (dOp1 oLen (dVar 1)) dNil)))) (sRet (dOp2 oAdd (dOp2 oAdd (dSl (dVar 1) oNo (oSo (dVar 4))) (dTup (dCons (dCall (F_law_with__3 U) (dCons (dVar 0) (dCons (dOp2 oIx (dVar 1) (dVar 4)) (dCons (dVar 2) (dCons (dOp2 oSub (dVar 3) (dC (.int 1))) dNil))))) dNil))) (dSl (dVar 1) (oSo (dOp2 oAdd (dVar 4) (dC (.int 1)))) oNo)))) sPass) (sRet (dVar 2)))
def F_law_with__5 (U : List Nat) : DF := runD 4 5 (sSeq (sIf (gAnd (gTru (dOp1 (oIsi (is_tuple U)) (dVar 1))) (gAnd (gBl (dOp2 oNe (dVar 1) (dTup dNil))) (gAnd (gBl (dOp2 oGt (dVar 3) (dC (.int 0)))) (gBl (dOp2 oGt (dCall (F_law_take U) (dCons (dVar 0) (dCons (dC (.int 4)) dNil))) (dC (.int 0))))))) (sSeq (sSet 4 (dCall (F_law_take U) (dCons (dVar 0) (dCons (dOp1 oLen (dVar 1)) dNil)))) (sRet (dOp2 oAdd (dOp2 oAdd (dSl (dVar 1) oNo (oSo (dVar 4))) (dTup (dCons (dCall (F_law_with__4 U) (dCons (dVar 0) (dCons (dOp2 oIx (dVar 1) (dVar 4)) (dCons (dVar 2) (dCons (dOp2 oSub (dVar 3) (dC (.int 1))) dNil))))) dNil))) (dSl (dVar 1) (oSo (dOp2 oAdd (dVar 4) (dC (.int 1)))) oNo)))) sPass) (sRet (dVar 2)))
def F_law_with__6 (U : List Nat) : DF := runD 4 5 (sSeq (sIf (gAnd (gTru (dOp1 (oIsi (is_tuple U)) (dVar 1))) (gAnd (gBl (dOp2 oNe (dVar 1) (dTup dNil))) (gAnd (gBl (dOp2 oGt (dVar 3) (dC (.int 0)))) (gBl (dOp2 oGt (dCall (F_law_take U) (dCons (dVar 0) (dCons (dC (.int 4)) dNil))) (dC (.int 0))))))) (sSeq (sSet 4 (dCall (F_law_take U) (dCons (dVar 0) (dCons (dOp1 oLen (dVar 1)) dNil)))) (sRet (dOp2 oAdd (dOp2 oAdd (dSl (dVar 1) oNo (oSo (dVar 4))) (dTup (dCons (dCall (F_law_with__5 U) (dCons (dVar 0) (dCons (dOp2 oIx (dVar 1) (dVar 4)) (dCons (dVar 2) (dCons (dOp2 oSub (dVar 3) (dC (.int 1))) dNil))))) dNil))) (dSl (dVar 1) (oSo (dOp2 oAdd (dVar 4) (dC (.int 1)))) oNo)))) sPass) (sRet (dVar 2)))
def F_law_wrong (U : List Nat) : DF := runD 2 8 (sSeq (sSet 2 (dCall (F_law_take U) (dCons (dVar 0) (dCons (dC (.int 6)) dNil)))) (sSeq (sIf (gBl (dOp2 oEq (dVar 2) (dC (.int 0)))) (sRet (dCall (F_law_of U) (dCons (dVar 0) (dCons (dLst (dCons (dOp1 oLstT (dVar 1)) (dCons (dOp2 oAdd (dVar 1) (dTup (dCons (dC .non) dNil))) (dCons (dSl (dVar 1) oNo (oSo (dNeg (dC (.int 1))))) (dCons (dSl (dVar 1) oNo (oSo (dC (.int 1)))) (dCons (dTup dNil) (dCons (dC .non) (dCons (dC (.str "free")) (dCons (dC (.int 5)) (dCons (dC (.dic [])) dNil)))))))))) dNil)))) sPass) (sSeq (sIf (gBl (dOp2 oEq (dVar 2) (dC (.int 1)))) (sSeq (sSet 5 (dLst (dCons (dC .non) (dCons (dC (.int 5)) (dCons (dC (.str "")) (dCons (dC (.str "Free")) (dCons (dTup (dCons (dC (.str "free")) dNil)) (dCons (dC (.bl true)) (dCons (dLst dNil) (dCons (dC (.dic [])) (dCons (dC (.str "never")) (dCons (dC (.str "free ")) (dCons (dC (.str "held  at")) (dCons (dC (.str "freeat")) dNil)))))))))))))) (sRet (dOp2 oAdd (dTup (dCons (dCall (F_law_of U) (dCons (dVar 0) (dCons (dVar 5) dNil))) dNil)) (dSl (dVar 1) (oSo (dC (.int 1))) oNo)))) sPass) (sSeq (sIf (gBl (dOp2 oEq (dVar 2) (dC (.int 2)))) (sSeq (sSet 6 (dLst (dCons (dTup (dCons (dOp2 oMulT (dC (.str "a")) (dC (.int 13))) (dCons (dC (.int 1)) (dCons (dC (.int 0)) dNil)))) (dCons (dTup (dCons (dC (.str "")) (dCons (dC (.int 0)) (dCons (dC (.int 1)) dNil)))) (dCons (dTup (dCons (dC (.str "a")) (dCons (dC (.int 10)) (dCons (dC (.int 0)) dNil)))) (dCons (dTup (dCons (dC (.str "a")) (dCons (dC (.int 0)) (dCons (dC (.int 100)) dNil)))) (dCons (dTup (dCons (dC (.str "g")) (dCons (dC (.int 0)) (dCons (dC (.int 1)) dNil)))) (dCons (dTup (dCons (dC (.str "a")) (dCons (dC (.int 0)) dNil))) (dCons (dLst (dCons (dC (.str "a")) (dCons (dC (.int 0)) (dCons (dC (.int 1)) dNil)))) (dCons (dC (.str "a^1")) (dCons (dC .non) dNil))))))))))) (sRet (dOp2 oAdd (dOp2 oAdd (dSl (dVar 1) oNo (oSo (dC (.int 1)))) (dTup (dCons (dOp2 oAdd (dOp2 oIx (dVar 1) (dC (.int 1))) (dTup (dCons (dCall (F_law_of U) (dCons (dVar 0) (dCons (dVar 6) dNil))) dNil))) dNil))) (dSl (dVar 1) (oSo (dC (.int 2))) oNo)))) sPass) (sSeq (sIf (gBl (dOp2 oEq (dVar 2) (dC (.int 3)))) (sSeq (sSet 7 (dLst (dCons (dOp2 oAdd (dOp2 oIx (dVar 1) (dC (.int 1))) (dOp2 oMulT (dTup (dCons (dTup (dCons (dC (.str "a")) (dCons (dC (.int 0)) (dCons (dC (.int 0)) dNil)))) dNil)) (dC (.int 12)))) (dCons (dOp1 oLstT (dOp2 oIx (dVar 1) (dC (.int 1)))) (dCons (dOp2 oIx (dOp2 oIx (dVar 1) (dC (.int 1))) (dC (.int 0))) (dCons (dC (.str "a^n")) (dCons (dC .non) (dCons (dC (.dic [])) (dCons (dC (.int 3)) (dCons (dTup (dCons (dTup dNil) dNil)) (dCons (dOp2 oAdd (dOp2 oIx (dVar 1) (dC (.int 1))) (dTup (dCons (dC (.str "a")) dNil))) dNil))))))))))) (sRet (dOp2 oAdd (dOp2 oAdd (dSl (dVar 1) oNo (oSo (dC (.int 1)))) (dTup (dCons (dCall (F_law_of U) (dCons (dVar 0) (dCons (dVar 7) dNil))) dNil))) (dSl (dVar 1) (oSo (dC (.int 2))) oNo)))) sPass) (sSeq (sIf (gBl (dOp2 oIn (dOp2 oIx (dVar 1) (dC (.int 0))) (dLst (dCons (dC (.str "free")) (dCons (dC (.str "same")) dNil))))) (sRet (dOp2 oAdd (dVar 1) (dTup (dCons (dC (.int 0)) dNil)))) sPass) (sSeq (sSet 3 (dCall (F_law_of U) (dCons (dVar 0) (dCons (dLst (dCons (dNeg (dC (.int 1))) (dCons (dOp2 oAdd (dOp2 oPow (dC (.int 10)) (dC (.int 30))) (dC (.int 1))) (dCons (dC (.bl true)) (dCons (dC (.bl false)) (dCons (dC .non) (dCons (dC (.str "1")) (dCons (dTup (dCons (dC (.int 1)) dNil)) (dCons (dLst (dCons (dC (.int 1)) dNil)) (dCons (dOp2 oPow (dC (.int 10)) (dC (.int 31))) dNil)))))))))) dNil)))) (sSeq (sIf (gOr (gBl (dOp2 oEq (dVar 2) (dC (.int 4)))) (gBl (dOp2 oEq (dOp1 oLen (dVar 1)) (dC (.int 3))))) (sRet (dOp2 oAdd (dOp2 oAdd (dSl (dVar 1) oNo (oSo (dC (.int 2)))) (dTup (dCons (dVar 3) dNil))) (dSl (dVar 1) (oSo (dC (.int 3))) oNo))) sPass) (sSeq (sSet 4 (dLst (dCons (dC (.str "ab")) (dCons (dLst (dCons (dC (.str "ab")) dNil)) (dCons (dTup (dCons (dC (.str "ba")) dNil)) (dCons (dTup (dCons (dC (.str "ab")) (dCons (dC (.int 3)) dNil))) (dCons (dTup (dCons (dC (.str "ab")) (dCons (dC .non) dNil))) (dCons (dTup (dCons (dLst (dCons (dC (.str "ab")) dNil)) dNil)) (dCons (dNeg (dC (.int 1))) (dCons (dC (.bl true)) (dCons (dC .non) (dCons (dC (.str "18")) (dCons (dTup (dCons (dC (.int 18)) dNil)) (dCons (dC (.dic [])) (dCons (dTup (dCons (dC (.str "abf")) dNil)) (dCons (dTup (dCons (dC (.str "g")) dNil)) dNil)))))))))))))))) (sRet (dOp2 oAdd (dSl (dVar 1) oNo (oSo (dC (.int 3)))) (dTup (dCons (dCall (F_law_of U) (dCons (dVar 0) (dCons (dVar 4) dNil))) dNil)))))))))))))
def F_law_right (U : List Nat) : DF := runD 1 8 (sSeq (sSet 1 (dCall (F_law_menu U) dNil)) (sSeq (sFor (iRan (dC (.int 30))) (gNm 2) (sSeq (sAsg (dCall (F_law_of U) (dCons (dVar 0) (dCons (dVar 1) dNil))) (gTupD 2 (gConsD (gNm 6) (gConsD (gNm 7) gNilD)))) (sSeq (sIf (gBl (dOp2 oIsNotX (dCall (F_accepts U) (dCons (dCall (F_law_wrong U) (dCons (dVar 0) (dCons (dVar 6) dNil))) (dCons (dVar 7) dNil))) (dC (.bl false)))) (sRet (dC (.bl false))) sPass) (sSeq (sSet 3 (dCall (F_law_of U) (dCons (dVar 0) (dCons (dLst (dCons (dC (.str "x")) (dCons (dC (.bl true)) (dCons (dC (.dic [])) (dCons (dLst (dCons (dC (.int 0)) (dCons (dC (.int 1)) dNil))) (dCons (dC (.str "0")) (dCons (dLst (dCons (dTup dNil) dNil)) (dCons (dC (.dic [(.inr "x", .int (1))])) (dCons (dTup (dCons (dC (.str "z")) dNil)) (dCons (dOp2 oPow (dC (.int 10)) (dC (.int 31))) (dCons (dLst dNil) (dCons (dC (.str "aG")) dNil)))))))))))) dNil)))) (sSeq (sSet 4 (dOp2 oAdd (dC (.int 1)) (dCall (F_law_take U) (dCons (dVar 0) (dCons (dOp2 oSub (dOp1 oLen (dVar 6)) (dC (.int 1))) dNil))))) (sSeq (sSet 5 (dCall (F_law_with__6 U) (dCons (dVar 0) (dCons (dOp2 oIx (dVar 6) (dVar 4)) (dCons (dVar 3) (dCons (dC (.int 3)) dNil)))))) (sSeq (sIf (gBl (dOp2 oIsNotX (dCall (F_accepts U) (dCons (dOp2 oAdd (dOp2 oAdd (dSl (dVar 6) oNo (oSo (dVar 4))) (dTup (dCons (dVar 5) dNil))) (dSl (dVar 6) (oSo (dOp2 oAdd (dVar 4) (dC (.int 1)))) oNo)) (dCons (dVar 7) dNil))) (dC (.bl false)))) (sRet (dC (.bl false))) sPass) (sIf (gOr (gBl (dOp2 oIsNotX (dCall (F_accepts U) (dCons (dVar 6) (dCons (dCall (F_law_with__6 U) (dCons (dVar 0) (dCons (dVar 7) (dCons (dVar 3) (dCons (dC (.int 5)) dNil))))) dNil))) (dC (.bl false)))) (gBl (dOp2 oIsNotX (dCall (F_accepts U) (dCons (dVar 6) (dCons (dVar 7) dNil))) (dC (.bl true))))) (sRet (dC (.bl false))) sPass)))))))) (sRet (dC (.bl true)))))
def F_law (U : List Nat) : DF := runD 1 6 (sSeq (sSet 1 (dCall (F_law_menu U) dNil)) (sSeq (sIf (gNot (gTru (dOp1 oAll (dF (compF (iSeq (dVar 1)) true [3, 4] [3, 4] tYesD (dOp2 oIsX (dCall (F_accepts U) (dCons (dVar 3) (dCons (dVar 4) dNil))) (dC (.bl true)))))))) (sRet (dC (.bl false))) sPass) (sSeq (sIf (gNot (gTru (dOp1 oAll (dF (compF (iSeq (dVar 1)) true [3, 4] [3, 4] tYesD (dOp2 oIsX (dCall (kwD [1, 0] (F_accepts U)) (dCons (dVar 4) (dCons (dVar 3) dNil))) (dC (.bl true)))))))) (sRet (dC (.bl false))) sPass) (sSeq (sAsg (dOp2 oIx (dVar 1) (dC (.int 0))) (gTupD 2 (gConsD (gNm 3) (gConsD (gNm 4) gNilD)))) (sSeq (sFor (iSeq (dLst (dCons (dLst dNil) (dCons (dC (.dic [])) (dCons (dTup (dCons (dLst dNil) dNil)) (dCons (dTup (dCons (dTup (dCons (dLst dNil) dNil)) dNil)) (dCons (dTup (dCons (dTup (dCons (dC (.str "out")) (dCons (dLst dNil) dNil))) dNil)) (dCons (dTup (dCons (dTup (dCons (dLst dNil) (dCons (dC (.int 0)) dNil))) dNil)) (dCons (dTup (dCons (dTup (dCons (dC (.str "turn")) (dCons (dC (.int 1)) dNil))) (dCons (dC .non) dNil))) (dCons (dC (.str "out")) (dCons (dC (.int 0)) (dCons (dC (.bl true)) dNil)))))))))))) (gNm 2) (sIf (gOr (gBl (dOp2 oIsNotX (dCall (F_accepts U) (dCons (dVar 3) (dCons (dVar 2) dNil))) (dC (.bl false)))) (gBl (dOp2 oIsNotX (dCall (F_accepts U) (dCons (dOp2 oAdd (dTup (dCons (dVar 2) dNil)) (dSl (dVar 3) (oSo (dC (.int 1))) oNo)) (dCons (dVar 4) dNil))) (dC (.bl false))))) (sRet (dC (.bl false))) sPass)) (sRet (dOp1 oAll (dF (compF (iRan (dOp2 oMax (dC (.int 2)) (dOp2 oMin (dOp1 oLen (dVar 0)) (dC (.int 4))))) false [5] [5] tYesD (dCall (F_law_right U) (dCons (dCall (F_law_bag U) (dCons (dVar 0) (dCons (dVar 5) dNil))) dNil)))))))))))
end K74
namespace K74
open PySem PySem.Spec PyProof.Rows L2 AM KL KP
def U0 : List Nat := [0, 0, 1]
def TB : Cell := .tab 1000 "parts_of.<locals>.<lambda>"
def ask0 : List AM.D := [.str "free", .tup [.tup [.str "a", .int 1, .int (-3)], .tup [.str "A", .int 1, .int (-3)]]]
def pap0 : AM.D := .tup [.tup [.str "turn", .int 1], .tup [.str "join", .int 0], .tup [.str "out", .int 0]]
def ask1 : List AM.D := [.str "free at", .tup [.tup [.str "a", .int 1, .int (-3)]], .int 3]
def pap1 : AM.D := .tup [.tup [.str "out", .int 0]]
def ask2 : List AM.D := [.str "held at", .tup [.tup [.str "ab", .int 2, .int (-3)]], .int 1]
def pap2 : AM.D := .tup [.tup [.str "turn", .int 0]]
def ask3 : List AM.D := [.str "held", .tup [.tup [.str "ab", .int 1, .int (-1)], .tup [.str "c", .int 0, .int 1]], .int 0]
def pap3 : AM.D := .tup [.int 2, .tup [], .tup [.tup [.tup [.str "turn", .int 0]], .tup [.tup [.str "out", .int 0]]]]
def ask4 : List AM.D := [.str "length", .tup [.tup [.str "ab", .int 1, .int 0], .tup [.str "ab", .int 0, .int 2]], .int 7, .int 18]
def pap4 : AM.D := .tup [.tup [.str "join", .int 0]]
def ask5 : List AM.D := [.str "same", .tup [.tup [.str "ab", .int 1, .int 0]], .tup [.tup [.str "BA", .int (-1), .int 0]]]
def pap5 : AM.D := .tup [.tup [.str "turn", .int 1], .tup [.str "join", .int 0], .tup [.str "out", .int 0]]
def ask6 : List AM.D := [.str "lots", .tup [.tup [.str "a", .int 1, .int (-3)], .tup [.str "b", .int 0, .int 1], .tup [.str "A", .int 1, .int (-3)], .tup [.str "B", .int 0, .int 1]], .int 4, .tup [.str "ab"]]
def pap6 : AM.D := .tup [.tup [.tup []], .tup [.tup [.tup [.str "turn", .int 1], .tup [.str "join", .int 0], .tup [.str "out", .int 0]], .tup [.tup [.str "turn", .int 1], .tup [.str "join", .int 0], .tup [.str "out", .int 0]]]]
def menuD : List (List AM.D × AM.D) := [(ask0, pap0), (ask1, pap1), (ask2, pap2), (ask3, pap3), (ask4, pap4), (ask5, pap5), (ask6, pap6)]
def odds : List AM.D := [.str "x", .bl true, .dic [], .lst [.int 0, .int 1], .str "0", .lst [.tup []], .dic [(.inr "x", .int 1)], .tup [.str "z"], .int 10000000000000000000000000000000, .lst [], .str "aG"]
def words : List AM.D := [.non, .int 5, .str "", .str "Free", .tup [.str "free"], .bl true, .lst [], .dic [], .str "never", .str "free ", .str "held  at", .str "freeat"]
def wides : List AM.D := [.tup [.str "aaaaaaaaaaaaa", .int 1, .int 0], .tup [.str "", .int 0, .int 1], .tup [.str "a", .int 10, .int 0], .tup [.str "a", .int 0, .int 100], .tup [.str "g", .int 0, .int 1], .tup [.str "a", .int 0], .lst [.str "a", .int 0, .int 1], .str "a^1", .non]
def fars : List AM.D := [.int (-1), .int 1000000000000000000000000000001, .bl true, .bl false, .non, .str "1", .tup [.int 1], .lst [.int 1], .int 10000000000000000000000000000000]
def somes : List AM.D := [.str "ab", .lst [.str "ab"], .tup [.str "ba"], .tup [.str "ab", .int 3], .tup [.str "ab", .non], .tup [.lst [.str "ab"]], .int (-1), .bl true, .non, .str "18", .tup [.int 18], .dic [], .tup [.str "abf"], .tup [.str "g"]]
theorem menu_ok (r : Sto) : F_law_menu U0 [] (TB :: r) = .ok (.lst (menuD.map fun p => .tup [.tup p.1, p.2])) (TB :: r) := by kernel_rfl
def Tells (b : Bool) (c : AM.D × AM.D) : Prop := ∀ r : Sto, F_accepts U0 [c.1, c.2] (TB :: r) = .ok (.bl b) (TB :: r)
def AllT (b : Bool) (cs : List (AM.D × AM.D)) : Prop := ∀ r : Sto, cs.map (fun c => F_accepts U0 [c.1, c.2] (TB :: r)) = cs.map fun _ => .ok (.bl b) (TB :: r)
theorem AllT.mem {b : Bool} {cs : List (AM.D × AM.D)} (h : AllT b cs) : ∀ c ∈ cs, Tells b c := fun c hc r => by
  have e := h r
  exact (List.map_inj_left.mp e) c hc
theorem good_all : AllT true (menuD.map fun p => (.tup p.1, p.2)) := fun r => by kernel_rfl
def wrongs (a : List AM.D) : List AM.D := match a with
  | w :: b :: rest => [.lst a, .tup (a ++ [.non]), .tup a.dropLast, .tup (a.take 1), .tup [], .non, .str "free", .int 5, .dic []]
      ++ (words.map fun x => .tup (x :: b :: rest))
      ++ (match b with
        | .tup bs => (wides.map fun x => .tup (w :: .tup (bs ++ [x]) :: rest)) ++ ([.tup (bs ++ List.replicate 12 (.tup [.str "a", .int 0, .int 0])), .lst bs, bs.headD .non, .str "a^n", .non, .dic [], .int 3, .tup [.tup []], .tup (bs ++ [.str "a"])].map fun x => .tup (w :: x :: rest))
        | _ => [])
      ++ (match rest with
        | [] => [.tup (a ++ [.int 0])]
        | y :: r2 => [.tup (a ++ [.int 0])] ++ (fars.map fun x => .tup (w :: b :: x :: r2)) ++ (somes.map fun x => .tup (w :: b :: y :: [x])))
  | _ => []
def wrongC (p : List AM.D × AM.D) : List (AM.D × AM.D) := (wrongs p.1).map fun a => (a, p.2)
theorem wrong0 : AllT false (wrongC (ask0, pap0)) := fun r => by kernel_rfl
theorem wrong1 : AllT false (wrongC (ask1, pap1)) := fun r => by kernel_rfl
theorem wrong2 : AllT false (wrongC (ask2, pap2)) := fun r => by kernel_rfl
theorem wrong3 : AllT false (wrongC (ask3, pap3)) := fun r => by kernel_rfl
theorem wrong4 : AllT false (wrongC (ask4, pap4)) := fun r => by kernel_rfl
theorem wrong5 : AllT false (wrongC (ask5, pap5)) := fun r => by kernel_rfl
theorem wrong6 : AllT false (wrongC (ask6, pap6)) := fun r => by kernel_rfl
def bends (odd : AM.D) : Nat → AM.D → List AM.D
  | 0, _ => [odd]
  | n + 1, d => odd :: (match d with
    | .tup ds => (List.range ds.length).flatMap fun i => (bends odd n (ds.getD i .non)).map fun x => .tup (ds.take i ++ x :: ds.drop (i + 1))
    | _ => [])
def bentC (p : List AM.D × AM.D) : List (AM.D × AM.D) := odds.flatMap fun o => (List.range (p.1.length - 1)).flatMap fun i => (bends o 3 (p.1.getD (i + 1) .non)).map fun x => (.tup (p.1.take (i + 1) ++ x :: p.1.drop (i + 2)), p.2)
theorem bent0 : AllT false (bentC (ask0, pap0)) := fun r => by kernel_rfl
theorem bent1 : AllT false (bentC (ask1, pap1)) := fun r => by kernel_rfl
theorem bent2 : AllT false (bentC (ask2, pap2)) := fun r => by kernel_rfl
theorem bent3 : AllT false (bentC (ask3, pap3)) := fun r => by kernel_rfl
theorem bent4 : AllT false (bentC (ask4, pap4)) := fun r => by kernel_rfl
theorem bent5 : AllT false (bentC (ask5, pap5)) := fun r => by kernel_rfl
theorem bent6 : AllT false (bentC (ask6, pap6)) := fun r => by kernel_rfl
def paperC (p : List AM.D × AM.D) : List (AM.D × AM.D) := odds.flatMap fun o => (bends o 5 p.2).map fun x => (.tup p.1, x)
theorem paper0 : AllT false (paperC (ask0, pap0)) := fun r => by kernel_rfl
theorem paper1 : AllT false (paperC (ask1, pap1)) := fun r => by kernel_rfl
theorem paper2 : AllT false (paperC (ask2, pap2)) := fun r => by kernel_rfl
theorem paper3 : AllT false (paperC (ask3, pap3)) := fun r => by kernel_rfl
theorem paper4 : AllT false (paperC (ask4, pap4)) := fun r => by kernel_rfl
theorem paper5 : AllT false (paperC (ask5, pap5)) := fun r => by kernel_rfl
theorem paper6 : AllT false (paperC (ask6, pap6)) := fun r => by kernel_rfl
end K74
namespace K74
open PySem PySem.Spec PyProof.Rows L2 AM TL KP KL
local macro_rules | `(tactic| walk_at "en") => `(tactic| ((try simp only [List.map_cons, List.map_nil, List.replicate, List.replicate_zero, List.replicate_succ, List.cons_append, List.nil_append, List.set_cons_zero, List.set_cons_succ, Nat.reduceSub, Nat.reduceAdd, List.reduceReplicate, AM.putAll, AM.wipeE, List.foldl_cons, List.foldl_nil, List.zip_cons_cons, List.zip_nil_left, List.zip_nil_right]); with_unfolding_all rfl))
local macro_rules | `(tactic| walk_at "w1") => `(tactic| (with_reducible first
  | (apply wx_dVar; focus (with_unfolding_all rfl)) | refine wx_dC ?_ | refine wx_dOp2 ?_ | refine wx_all ?_ | refine wx_any ?_ | refine wx_dOp1 ?_ | refine wx_gBl ?_ | refine wx_gTru ?_ | refine wx_dCall ?_ | refine wx_dCons ?_ | refine wx_dNil ?_
  | (apply en_of; focus (walk_at "en")) | refine ws_sSeq ?_ | refine ws_sIf ?_ | refine ws_sRet ?_ | refine ws_sSet ?_ | refine ws_sAsg ?_ | refine ws_sPass ?_ | refine ws_sRet0 ?_ | refine ws_sAppH ?_ | refine ws_sFldD ?_ | refine ws_sAugD ?_ | refine wx_dNew ?_ | refine wx_iRan2 ?_ | refine wx_iRan3 ?_ | refine wx_fLran ?_ | refine wx_dInG ?_ | refine wx_dIxG ?_ | refine wx_dDicGet ?_ | refine wx_dCat ?_ | (apply wx_dLcall; focus (with_unfolding_all rfl); focus (with_unfolding_all rfl)) | refine wx_dDcall ?_ | refine ws_sExpr ?_ | refine ws_sOwn ?_ | refine ws_sFor ?_ | refine ws_sPar ?_ | refine ws_sPar3 ?_
  | refine ws_gNm ?_ | (apply ws_gTup; focus (with_unfolding_all rfl)) | refine ws_gNil ?_ | refine ws_gCons ?_
  | (apply wx_dOwn; focus (with_unfolding_all rfl)) | (apply wx_dOwn'; focus (with_unfolding_all rfl)) | (apply ws_frz; focus (with_unfolding_all rfl)) | (apply ws_frz'; focus (with_unfolding_all rfl)) | (apply ws_sApp; focus (with_unfolding_all rfl))
  | refine wx_dChain ?_ | refine wx_gAnd ?_ | refine wx_gOr ?_ | refine wx_gNot ?_ | refine wx_dAnd ?_ | refine wx_dOr ?_ | refine wx_dNot ?_ | refine wx_dIf ?_ | refine wx_dNeg ?_
  | refine wx_dTup ?_ | refine wx_dLst ?_ | refine wx_dLstF ?_ | refine wx_dF ?_ | refine wx_oNo ?_ | refine wx_oSo ?_ | refine wx_dSl ?_ | refine wx_dM1 ?_ | refine wx_dM0 ?_ | refine wx_dFld ?_ | refine wx_dProp ?_ | refine wx_dOwn2 ?_ | refine wx_gTruC ?_ | refine wx_iSeq ?_ | refine wx_iRan ?_
  | refine wi_add ?_ | refine wi_sub ?_ | refine wi_lt ?_ | refine wi_le ?_ | refine wi_gt ?_ | refine wi_ge ?_ | refine wi_eq ?_ | refine wi_ne ?_ | refine wi_max ?_ | refine wi_min ?_ | refine wi_lenT ?_ | refine wi_lenL ?_ | refine wi_lenF ?_
  | refine wi_itT ?_ | refine wi_itL ?_ | refine wi_itF ?_ | refine wi_itS ?_ | refine wi_tupL ?_ | refine wi_tupT ?_ | refine wi_isN ?_ | refine wi_isNN ?_ | refine wi_revL ?_ | refine wi_revT ?_ | refine wi_slT ?_ | refine wi_slL ?_ | refine wi_abs ?_ | refine wx_iEnmL ?_ | refine wx_dMeth ?_ | refine wi_intT ?_ | refine wi_inM ?_ | refine wi_notInM ?_
  | refine and_t ?_ | refine and_f ?_ | refine and_nT ?_ | refine and_nF ?_
  | refine Exists.intro _ (And.intro rfl ?_) | refine Exists.intro _ (Exists.intro _ (And.intro rfl ?_)) | refine Exists.intro _ (Exists.intro _ (Exists.intro _ (And.intro rfl ?_)))
  | (refine And.intro ?_ ?_; focus (refine Nat.le_of_ble_eq_true ?_; with_unfolding_all rfl)) | (refine And.intro ?_ ?_; focus (change okRb _ = true; with_unfolding_all rfl)) | (refine And.intro ?_ ?_; focus (change isC _ _ _ _ = true; with_unfolding_all rfl)) | (refine And.intro ?_ ?_; focus (change isI _ _ _ = true; with_unfolding_all rfl)) | (refine And.intro ?_ ?_; focus (change (isI _ _ _ && isI _ _ _) = true; with_unfolding_all rfl))))
local macro_rules | `(tactic| walk_at "w2") => `(tactic| (with_reducible first
  | (apply wx_dVar; focus (with_unfolding_all rfl)) | refine wx_dC ?_ | refine wx_dOp2 ?_ | refine wx_all ?_ | refine wx_any ?_ | refine wx_dOp1 ?_ | refine wx_gBl ?_ | refine wx_gTru ?_ | refine wx_dCall ?_ | refine wx_dCons ?_ | refine wx_dNil ?_
  | (apply en_of; focus (walk_at "en")) | refine ws_sSeq ?_ | refine ws_sRet ?_ | refine ws_sSet ?_ | refine ws_sAsg ?_ | refine ws_sPass ?_ | refine ws_sRet0 ?_ | refine ws_sAppH ?_ | refine ws_sFldD ?_ | refine ws_sAugD ?_ | refine wx_dNew ?_ | refine wx_iRan2 ?_ | refine wx_iRan3 ?_ | refine wx_fLran ?_ | refine wx_dInG ?_ | refine wx_dIxG ?_ | refine wx_dDicGet ?_ | refine wx_dCat ?_ | (apply wx_dLcall; focus (with_unfolding_all rfl); focus (with_unfolding_all rfl)) | refine wx_dDcall ?_ | refine ws_sExpr ?_ | refine ws_sOwn ?_ | refine ws_sFor ?_ | refine ws_sPar ?_ | refine ws_sPar3 ?_
  | refine ws_gNm ?_ | (apply ws_gTup; focus (with_unfolding_all rfl)) | refine ws_gNil ?_ | refine ws_gCons ?_
  | (apply wx_dOwn; focus (with_unfolding_all rfl)) | (apply wx_dOwn'; focus (with_unfolding_all rfl)) | (apply ws_frz; focus (with_unfolding_all rfl)) | (apply ws_frz'; focus (with_unfolding_all rfl)) | (apply ws_sApp; focus (with_unfolding_all rfl))
  | refine wx_dChain ?_ | refine wx_gAnd ?_ | refine wx_gOr ?_ | refine wx_gNot ?_ | refine wx_dAnd ?_ | refine wx_dOr ?_ | refine wx_dNot ?_ | refine wx_dNeg ?_
  | refine wx_dTup ?_ | refine wx_dLst ?_ | refine wx_dLstF ?_ | refine wx_dF ?_ | refine wx_oNo ?_ | refine wx_oSo ?_ | refine wx_dSl ?_ | refine wx_dM1 ?_ | refine wx_dM0 ?_ | refine wx_dFld ?_ | refine wx_dProp ?_ | refine wx_dOwn2 ?_ | refine wx_gTruC ?_ | refine wx_iSeq ?_ | refine wx_iRan ?_
  | refine wi_add ?_ | refine wi_sub ?_ | refine wi_lt ?_ | refine wi_le ?_ | refine wi_gt ?_ | refine wi_ge ?_ | refine wi_eq ?_ | refine wi_ne ?_ | refine wi_max ?_ | refine wi_min ?_ | refine wi_lenT ?_ | refine wi_lenL ?_ | refine wi_lenF ?_
  | refine wi_itT ?_ | refine wi_itL ?_ | refine wi_itF ?_ | refine wi_itS ?_ | refine wi_tupL ?_ | refine wi_tupT ?_ | refine wi_isN ?_ | refine wi_isNN ?_ | refine wi_revL ?_ | refine wi_revT ?_ | refine wi_slT ?_ | refine wi_slL ?_ | refine wi_abs ?_ | refine wx_iEnmL ?_ | refine wx_dMeth ?_ | refine wi_intT ?_ | refine wi_inM ?_ | refine wi_notInM ?_
  | refine and_t ?_ | refine and_f ?_ | refine and_nT ?_ | refine and_nF ?_
  | refine Exists.intro _ (And.intro rfl ?_) | refine Exists.intro _ (Exists.intro _ (And.intro rfl ?_)) | refine Exists.intro _ (Exists.intro _ (Exists.intro _ (And.intro rfl ?_)))
  | (refine And.intro ?_ ?_; focus (refine Nat.le_of_ble_eq_true ?_; with_unfolding_all rfl)) | (refine And.intro ?_ ?_; focus (change okRb _ = true; with_unfolding_all rfl)) | (refine And.intro ?_ ?_; focus (change isC _ _ _ _ = true; with_unfolding_all rfl)) | (refine And.intro ?_ ?_; focus (change isI _ _ _ = true; with_unfolding_all rfl)) | (refine And.intro ?_ ?_; focus (change (isI _ _ _ && isI _ _ _) = true; with_unfolding_all rfl))))
local macro_rules | `(tactic| walk_at "wp") => `(tactic| repeat' (walk_at "w1"))
local macro_rules | `(tactic| walk_at "wq") => `(tactic| repeat' (walk_at "w2"))
local macro_rules | `(tactic| walk_at "sd") => `(tactic| first | assumption | omega | (simp only [List.length_map, List.length_cons, List.length_nil]; omega) | decide)
local macro_rules | `(tactic| walk_at "ca") => `(tactic| (with_reducible first
  | refine wx_kwD rfl ?_
  | refine wi_len (by walk_at "sd") ?_
  | (refine And.intro ?_ ?_; focus (show List.length _ < 16777216; simp only [List.length_cons, List.length_nil, List.length_append, List.length_map]; omega))
  | refine and_nt rfl ?_ | refine and_nt (by omega) ?_ | refine and_dt (by omega) ?_ | refine and_df (by omega) ?_ | refine and_nf (by omega) ?_ | fail))
local macro_rules | `(tactic| walk_at "go") => `(tactic| repeat' (first | walk_at "w1" | walk_at "ca"))
local macro_rules | `(tactic| walk_at "gq") => `(tactic| repeat' (first | walk_at "w2" | walk_at "ca"))
section
variable {U : List Nat}
theorem atI_0 {α : Type} (a : α) (r : List α) : atI (a :: r) 0 = some a := by
  unfold atI ixN
  rw [if_pos (by omega), if_pos (by rw [List.length_cons]; omega)]
  rfl
theorem atI_1 {α : Type} (a b : α) (r : List α) : atI (a :: b :: r) 1 = some b := by
  unfold atI ixN
  rw [if_pos (by omega), if_pos (by rw [List.length_cons, List.length_cons]; omega)]
  rfl
theorem atI_2 {α : Type} (a b c : α) (r : List α) : atI (a :: b :: c :: r) 2 = some c := by
  unfold atI ixN
  rw [if_pos (by omega), if_pos (by simp only [List.length_cons]; omega)]
  rfl
def Bag (h : Nat) (st : Sto) : Prop := ∃ a b n : Int, 0 ≤ a ∧ a < 2147483587 ∧ st[h]? = some (.lst [.int a, .int b, .int n]) ∧ ∃ r, st = TB :: r
theorem tb_set {h : Nat} {st : Sto} {ds : List AM.D} {c : Cell} (e : st[h]? = some (.lst ds)) (t : ∃ r, st = TB :: r) : ∃ r, st.set h c = TB :: r := by
  obtain ⟨r, rfl⟩ := t
  cases h with
  | zero => cases e
  | succ k => exact ⟨r.set k c, rfl⟩
theorem ws_gIx1 {fa fb : EF} {v : AM.D} {env : AEnv} {st : Sto} {N : AEnv → Sto → Prop} {T : AM.D → Sto → Prop} (h : Wx (fa env st) fun a s => Wx (fb env s) fun i s => Ws (putIx a i v env s) N T) : Ws (gIx fa fb v env st) N T := ws_then (wx_mono h fun _ _ h => ws_then (wx_mono h fun _ _ h => h))
theorem wsb {h : Nat} {i : Int} {a b n x y z : Int} {st : Sto} {env : AEnv} {v : AM.D} {N : AEnv → Sto → Prop} {T : AM.D → Sto → Prop} (e : st[h]? = some (.lst [.int a, .int b, .int n])) (tb : ∃ r, st = TB :: r) (hi : ixN 3 i = some k) (hs : [AM.D.int a, .int b, .int n].set k v = [.int x, .int y, .int z])
    (hn : ∀ st', st'[h]? = some (.lst [.int x, .int y, .int z]) → (∃ r, st' = TB :: r) → N env st') : Ws (putIx (.hd h) (.int i) v env st) N T := by
  have e1 : putIx (.hd h) (.int i) v env st = .nx env (st.set h (.lst [.int x, .int y, .int z])) := by
    unfold putIx
    simp only [e]
    show (match ixN 3 i with
      | some k => SR.nx env (st.set h (.lst ([AM.D.int a, .int b, .int n].set k v)))
      | none => .bad) = _
    rw [hi]
    show SR.nx env (st.set h (.lst ([AM.D.int a, .int b, .int n].set k v))) = _
    rw [hs]
  rw [e1]
  refine .nx (hn _ ?_ (tb_set e tb))
  rw [List.getElem?_set_self (List.getElem?_eq_some_iff.mp e).1]
theorem wi_ixHd1 {h : Nat} {st : Sto} {ds : List AM.D} {i : Int} {d : AM.D} {V : AM.D → Sto → Prop} (e : st[h]? = some (.lst ds)) (e2 : atI ds i = some d) (hv : V d st) : Wx (oIx (.hd h) (.int i) st) V := wx_eq (ev_ixHd e e2) hv
theorem wi_divmod {i j : Int} {st : Sto} {V : AM.D → Sto → Prop} (h : 0 < j) (h2 : j < 1073741824) (hv : V (.tup [.int (i / j), .int (i % j)]) st) : Wx (oDivmod (.int i) (.int j) st) V := wx_eq (ev_divmod h h2 st) hv
theorem w_take {h : Nat} {st : Sto} {m : Int} {V : AM.D → Sto → Prop} (c : Bag h st) (h0 : 0 < m) (h1 : m < 1073741824) (hv : ∀ (r : Int) (st' : Sto), 0 ≤ r → r < m → Bag h st' → V (.int r) st') : Wx (F_law_take U [.hd h, .int m] st) V := by
  obtain ⟨a, b, n, ha, hb, e, tb⟩ := c
  have sm : AM.small64 (a / 4093) = true := by
    have z1 : 0 ≤ a / 4093 := Int.ediv_nonneg ha (by omega)
    have z2 : a / 4093 < 2147483587 := by omega
    unfold AM.small64
    rw [decide_eq_true (by omega), decide_eq_true (by omega)]
    rfl
  unfold F_law_take
  refine wx_run rfl ?_
  walk_at "go"
  refine wi_ixHd1 e (atI_2 ..) ?_
  walk_at "go"
  refine ws_gIx1 ?_
  walk_at "go"
  refine wsb (k := 2) e tb rfl rfl fun st1 e tb => ?_
  walk_at "go"
  refine wi_ixHd1 e (atI_0 ..) ?_
  walk_at "go"
  refine wi_div (by omega) (by omega) ?_
  walk_at "go"
  refine wi_mul (by rw [Bool.or_eq_true]; exact .inr rfl) ?_
  walk_at "go"
  refine wi_mul (by rw [sm]; rfl) ?_
  walk_at "go"
  refine wi_ixHd1 e (atI_2 ..) ?_
  walk_at "go"
  refine wi_mul rfl ?_
  walk_at "go"
  refine wi_mod (by omega) ?_
  walk_at "go"
  have ra := Int.emod_nonneg (a * 39373 + a / 4093 * (a / 4093) + 92821 * (n + 1) + 5) (b := 2147483587) (by omega)
  have rb := Int.emod_lt_of_pos (a * 39373 + a / 4093 * (a / 4093) + 92821 * (n + 1) + 5) (b := 2147483587) (by omega)
  generalize (a * 39373 + a / 4093 * (a / 4093) + 92821 * (n + 1) + 5) % 2147483587 = a1 at ra rb ⊢
  refine ws_gIx1 ?_
  walk_at "go"
  refine wsb (k := 0) e tb rfl rfl fun st2 e tb => ?_
  walk_at "go"
  refine wi_ixHd1 e (atI_1 ..) ?_
  walk_at "go"
  refine and_by (fun q => ?_) (fun q => ?_)
  · walk_at "go"
    refine wi_ixHd1 e (atI_1 ..) ?_
    walk_at "go"
    refine wi_divmod h0 h1 ?_
    walk_at "go"
    refine ws_gIx1 ?_
    walk_at "go"
    refine wsb (k := 1) e tb rfl rfl fun st3 e tb => ?_
    walk_at "go"
    exact hv _ _ (Int.emod_nonneg _ (by omega)) (Int.emod_lt_of_pos _ h0) ⟨_, _, _, ra, rb, e, tb⟩
  · walk_at "go"
    refine wi_ixHd1 e (atI_0 ..) ?_
    walk_at "go"
    refine wi_div (by omega) (by omega) ?_
    walk_at "go"
    refine wi_mod h0 ?_
    walk_at "go"
    exact hv _ _ (Int.emod_nonneg _ (by omega)) (Int.emod_lt_of_pos _ h0) ⟨_, _, _, ra, rb, e, tb⟩
theorem w_of {h : Nat} {st : Sto} {ds : List AM.D} {V : AM.D → Sto → Prop} (c : Bag h st) (h0 : 0 < ds.length) (h1 : ds.length < 1073741824) (hv : ∀ (d : AM.D) (st' : Sto), d ∈ ds → Bag h st' → V d st') : Wx (F_law_of U [.hd h, .lst ds] st) V := by
  unfold F_law_of
  refine wx_run rfl ?_
  walk_at "go"
  refine w_take c (by omega) (by omega) fun r st' g0 g1 g2 => ?_
  obtain ⟨d, e2, e3⟩ := AM.atI_nat (ds := ds) g0 g1
  walk_at "go"
  exact wi_ixL e2 (hv d st' e3 g2)
theorem w_bag {ns : List Int} {i : Int} (h0 : 0 ≤ i) (hi : i < 64) {st : Sto} (tb : ∃ r, st = TB :: r) {V : AM.D → Sto → Prop} (hv : ∀ h st', Bag h st' → V (.hd h) st') : Wx (F_law_bag U [.fz (ns.map AM.D.int), .int i] st) V := by
  unfold F_law_bag
  refine wx_run rfl ?_
  walk_at "gq"
  refine wx_mono (P := fun d s => (∃ x : Int, d = .int x) ∧ s = st) ?_ ?_
  · refine wx_dIf ?_
    walk_at "gq"
    refine and_by (fun q => ?_) (fun q => ?_)
    · have hn : i.toNat < ns.length := by rw [List.length_map] at q; omega
      have ex : atI (ns.map AM.D.int) i = some (.int ns[i.toNat]) := by
        rw [atI_pos h0 (by rw [List.length_map]; omega), List.getElem?_map, List.getElem?_eq_getElem hn]
        rfl
      walk_at "go"
      exact wi_ixF ex ⟨⟨_, rfl⟩, rfl⟩
    · walk_at "go"
      refine wi_mul rfl ?_
      walk_at "go"
      exact ⟨⟨_, rfl⟩, rfl⟩
  rintro _ s1 ⟨⟨x, rfl⟩, rfl⟩
  walk_at "gq"
  refine wx_mono (P := fun d s => (∃ l : List Int, d = .lst (l.map AM.D.int)) ∧ s = s1) ?_ ?_
  · refine wx_dIf ?_
    walk_at "gq"
    refine and_by (fun q => ?_) (fun q => ?_)
    · walk_at "go"
      refine wx_eq (a := .lst ((cutL ns none (some 3)).map AM.D.int)) (st := s1) ?_ ⟨⟨_, rfl⟩, rfl⟩
      unfold oSl cutL
      simp only [List.length_map, List.map_take, List.map_drop]
    · walk_at "go"
      exact ⟨⟨[], rfl⟩, rfl⟩
  rintro _ s2 ⟨⟨l, rfl⟩, rfl⟩
  walk_at "gq"
  refine ws_forT l (fun done rest E s => ∃ (x : Int) (z : Sl), E = [.sh (.fz (ns.map AM.D.int)), .sh (.int i), .sh (.int x), z] ∧ s = s2) (it := AM.D.int) rfl ⟨x, _, rfl, rfl⟩ ?_ ?_
  · rintro done y rest E s _ ⟨x, z, rfl, rfl⟩
    walk_at "go"
    refine wi_mul (by rw [Bool.or_eq_true]; exact .inr rfl) ?_
    walk_at "go"
    refine wi_mod (by omega) ?_
    walk_at "go"
    rfl
  · rintro E s ⟨x, z, rfl, rfl⟩
    walk_at "go"
    refine wi_mod (by omega) ?_
    walk_at "gq"
    refine wx_mono (P := fun d s' => (∃ b : Int, d = .int b) ∧ s' = s) ?_ ?_
    · refine wx_dIf ?_
      walk_at "gq"
      refine and_by (fun q => ?_) (fun q => ?_)
      · walk_at "go"
        exact ⟨⟨_, rfl⟩, rfl⟩
      · walk_at "gq"
        refine wi_pow (by omega) (by omega) (by decide) ?_
        walk_at "gq"
        refine and_by (fun q2 => ?_) (fun q2 => ?_)
        · walk_at "go"
          exact ⟨⟨_, rfl⟩, rfl⟩
        · walk_at "go"
          exact ⟨⟨_, rfl⟩, rfl⟩
    rintro _ s3 ⟨⟨b, rfl⟩, rfl⟩
    walk_at "go"
    refine hv _ _ ⟨x % 2147483587, b, 0, Int.emod_nonneg _ (by omega), Int.emod_lt_of_pos _ (by omega), ?_, ?_⟩
    · rw [List.getElem?_append_right (Nat.le_refl _), Nat.sub_self]
      rfl
    · obtain ⟨r, rfl⟩ := tb
      exact ⟨_, rfl⟩
def bodyW (U : List Nat) (F : DF) : DF := runD 4 5 (sSeq (sIf (gAnd (gTru (dOp1 (oIsi (is_tuple U)) (dVar 1))) (gAnd (gBl (dOp2 oNe (dVar 1) (dTup dNil))) (gAnd (gBl (dOp2 oGt (dVar 3) (dC (.int 0)))) (gBl (dOp2 oGt (dCall (F_law_take U) (dCons (dVar 0) (dCons (dC (.int 4)) dNil))) (dC (.int 0))))))) (sSeq (sSet 4 (dCall (F_law_take U) (dCons (dVar 0) (dCons (dOp1 oLen (dVar 1)) dNil)))) (sRet (dOp2 oAdd (dOp2 oAdd (dSl (dVar 1) oNo (oSo (dVar 4))) (dTup (dCons (dCall F (dCons (dVar 0) (dCons (dOp2 oIx (dVar 1) (dVar 4)) (dCons (dVar 2) (dCons (dOp2 oSub (dVar 3) (dC (.int 1))) dNil))))) dNil))) (dSl (dVar 1) (oSo (dOp2 oAdd (dVar 4) (dC (.int 1)))) oNo)))) sPass) (sRet (dVar 2)))
def FW (U : List Nat) : Nat → DF
  | 0 => F_law_with__0 U
  | n + 1 => bodyW U (FW U n)
theorem eq_nilT1 {ds : List AM.D} (h : shD (.tup ds) = true) (hne : ds ≠ []) (st : Sto) : oEq (.tup ds) (.tup []) st = .ok (.bl false) st ∧ oNe (.tup ds) (.tup []) st = .ok (.bl true) st := by
  have key : eqD (.tup ds) (.tup []) = some false := by
    obtain ⟨d, ds, rfl⟩ := List.exists_cons_of_ne_nil hne
    unfold shD at h
    unfold eqD
    cases h1 : AM.D.py (.tup (d :: ds)) with
    | none => rw [h1] at h; cases h
    | some x =>
      rw [h1] at h
      have e0 : AM.D.py (.tup []) = some (.tuple []) := by unfold AM.D.py pyL; rfl
      rw [e0]
      have s0 : SeqAt.shaped (.tuple []) = true := by decide
      simp only [h, s0, Bool.and_self, if_true]
      unfold AM.D.py pyL at h1
      cases h2 : AM.D.py d with
      | none => rw [h2] at h1; simp at h1
      | some y =>
        cases h3 : pyL ds with
        | none => rw [h2, h3] at h1; simp at h1
        | some ys =>
          rw [h2, h3] at h1
          have : x = .tuple (y :: ys) := (Option.some.inj h1).symm
          rw [this]
          rfl
  unfold oEq oNe
  rw [key]
  exact ⟨rfl, rfl⟩
def thing : Nat → AM.D → Bool
  | n + 1, .tup ds => shD (.tup ds) && (decide (ds.length ≤ 100) && ds.all (thing n))
  | _, .str _ => true
  | _, .int _ => true
  | _, _ => false
theorem bend_at {odd x : AM.D} {k i : Nat} {ds : List AM.D} {d : AM.D} (e : ds[i]? = some d) (h : x ∈ bends odd k d) : .tup (ds.take i ++ x :: ds.drop (i + 1)) ∈ bends odd (k + 1) (.tup ds) := by
  have hi := (List.getElem?_eq_some_iff.mp e).1
  have e2 : ds.getD i .non = d := by rw [List.getD_eq_getElem?_getD, e]; rfl
  refine List.mem_cons_of_mem _ (List.mem_flatMap.mpr ⟨i, List.mem_range.mpr hi, List.mem_map.mpr ⟨x, by rw [e2]; exact h, rfl⟩⟩)
theorem sIx_at {n d : Nat} {i : Int} {j : Nat} (e : i = (j : Int)) (h : j ≤ n) : HT.sIx n d (some i) = j := by
  subst e
  rw [HT.sIx_nat, Nat.min_eq_left h]
theorem cut_to {ds : List AM.D} {j : Nat} (h : j ≤ ds.length) : cutL ds none (some (j : Int)) = ds.take j := by
  unfold cutL
  rw [sIx_at rfl h]
  show (ds.drop 0).take (j - 0) = _
  simp
theorem cut_from {ds : List AM.D} {j : Nat} (h : j + 1 ≤ ds.length) : cutL ds (some ((j : Int) + 1)) none = ds.drop (j + 1) := by
  unfold cutL
  rw [sIx_at (j := j + 1) (by omega) h]
  show (ds.drop (j + 1)).take (ds.length - (j + 1)) = _
  rw [List.take_of_length_le (by rw [List.length_drop]; omega)]
theorem w_body {odd : AM.D} {F : DF} {deep m h : Nat} {d : AM.D} {st : Sto} {V : AM.D → Sto → Prop} (hd : deep < 100) (ht : thing m d = true) (c : Bag h st)
    (hF : ∀ (k m' : Nat) (d' : AM.D) (st : Sto) (V : AM.D → Sto → Prop), deep = k + 1 → thing m' d' = true → Bag h st → (∀ x st', x ∈ bends odd k d' → Bag h st' → V x st') → Wx (F [.hd h, d', odd, .int (k : Nat)] st) V)
    (hv : ∀ x st', x ∈ bends odd deep d → Bag h st' → V x st') : Wx (bodyW U F [.hd h, d, odd, .int (deep : Nat)] st) V := by
  have self : odd ∈ bends odd deep d := by cases deep <;> exact List.mem_cons_self
  unfold bodyW
  refine wx_run rfl ?_
  walk_at "gq"
  refine ws_sIf ?_
  walk_at "gq"
  cases d with
  | str z =>
    refine wx_eq (show oIsi (is_tuple U) (.str z) st = .ok (.bl false) st from rfl) ?_
    walk_at "go"
    exact hv _ _ self c
  | int z =>
    refine wx_eq (show oIsi (is_tuple U) (.int z) st = .ok (.bl false) st from rfl) ?_
    walk_at "go"
    exact hv _ _ self c
  | tup ds =>
    refine wx_eq (show oIsi (is_tuple U) (.tup ds) st = .ok (.bl true) st from rfl) ?_
    walk_at "gq"
    cases m with
    | zero => cases ht
    | succ m =>
      obtain ⟨t1, t2⟩ := Bool.and_eq_true_iff.mp (show (shD (.tup ds) && (decide (ds.length ≤ 100) && ds.all (thing m))) = true from ht)
      obtain ⟨t2, t3⟩ := Bool.and_eq_true_iff.mp t2
      have t2 := of_decide_eq_true t2
      by_cases e0 : ds = []
      · subst e0
        refine wx_eq (show oNe (.tup []) (.tup []) st = .ok (.bl false) st by kernel_rfl) ?_
        walk_at "go"
        exact hv _ _ self c
      · have hl : 0 < ds.length := List.length_pos_iff.mpr e0
        refine wx_eq (eq_nilT1 t1 e0 st).2 ?_
        walk_at "gq"
        refine and_by (fun q => ?_) (fun q => ?_)
        · walk_at "gq"
          refine w_take c (by omega) (by omega) fun r st1 r0 r1 c1 => ?_
          walk_at "gq"
          refine and_by (fun q2 => ?_) (fun q2 => ?_)
          · walk_at "gq"
            refine w_take c1 (by omega) (by omega) fun i st2 i0 i1 c2 => ?_
            obtain ⟨j, rfl⟩ := Int.eq_ofNat_of_zero_le i0
            have hj : j < ds.length := by omega
            obtain ⟨k, rfl⟩ : ∃ k, deep = k + 1 := ⟨deep - 1, by omega⟩
            have ej : ds[j]? = some ds[j] := List.getElem?_eq_getElem hj
            have tj : thing m ds[j] = true := List.all_eq_true.mp t3 _ (List.getElem_mem hj)
            walk_at "go"
            refine wi_ixT (d := ds[j]) (by rw [AM.atI_pos (by omega) (by omega)]; exact ej) ?_
            walk_at "go"
            rw [show ((k + 1 : Nat) : Int) - 1 = (k : Nat) by omega]
            refine hF k m ds[j] st2 _ rfl tj c2 fun x st3 hx c3 => ?_
            have u1 : cutL ds none (some (j : Int)) = ds.take j := cut_to (by omega)
            have u2 : cutL ds (some ((j : Int) + 1)) none = ds.drop (j + 1) := cut_from (by omega)
            rw [u1]
            walk_at "go"
            refine wi_addT (by rw [List.length_take]; simp only [List.length_cons, List.length_nil]; omega) ?_
            walk_at "go"
            rw [u2]
            refine wi_addT (by rw [List.length_append, List.length_take, List.length_drop]; simp only [List.length_cons, List.length_nil]; omega) ?_
            have e3 : ds.take j ++ [x] ++ ds.drop (j + 1) = ds.take j ++ x :: ds.drop (j + 1) := by simp
            rw [e3]
            exact hv _ _ (bend_at ej hx) c3
          · walk_at "go"
            exact hv _ _ self c1
        · walk_at "go"
          exact hv _ _ self c
  | _ => cases m <;> cases ht
theorem w_with (odd : AM.D) (n : Nat) : ∀ (deep m : Nat) (d : AM.D) (h : Nat) (st : Sto) (V : AM.D → Sto → Prop), deep ≤ n → n < 100 → thing m d = true → Bag h st → (∀ x st', x ∈ bends odd deep d → Bag h st' → V x st') → Wx (FW U (n + 1) [.hd h, d, odd, .int (deep : Nat)] st) V := by
  induction n with
  | zero => exact fun deep m d h st V hn hn2 ht c hv => w_body (by omega) ht c (fun k m' d' st V e => by omega) hv
  | succ n ih => exact fun deep m d h st V hn hn2 ht c hv => w_body (by omega) ht c (fun k m' d' st V e t c' hv' => ih k m' d' h st V (by omega) (by omega) t c' hv') hv
theorem mem_sub {f : AM.D → AM.D} {L M : List AM.D} {x : AM.D} (i n : Nat) (e : L.map f = (M.drop i).take n) (h : x ∈ L) : f x ∈ M := List.mem_of_mem_drop (List.mem_of_mem_take (by rw [← e]; exact List.mem_map.mpr ⟨x, h, rfl⟩))
def bl (a : List AM.D) : List AM.D := match a.getD 1 .non with
  | .tup bs => bs
  | _ => []
def blocks0 (bs : List AM.D) : List AM.D := [.tup (bs ++ List.replicate 12 (.tup [.str "a", .int 0, .int 0])), .lst bs, bs.headD .non, .str "a^n", .non, .dic [], .int 3, .tup [.tup []], .tup (bs ++ [.str "a"])]
theorem w_wrong0 {h : Nat} {st : Sto} {V : AM.D → Sto → Prop} (c : Bag h st) (hv : ∀ x st', x ∈ wrongs ask0 → Bag h st' → V x st') : Wx (F_law_wrong U [.hd h, .tup ask0] st) V := by
  unfold F_law_wrong
  refine wx_run rfl ?_
  walk_at "gq"
  refine w_take c (by omega) (by omega) fun r st1 r0 r1 c1 => ?_
  walk_at "gq"
  refine ws_sIf ?_
  walk_at "gq"
  refine and_by (fun q => ?_) (fun q => ?_)
  · refine ws_sRet (wx_dCall (wx_eq (a := [.hd h, .lst ((wrongs ask0).take 9)]) (st := st1) (by kernel_rfl) ?_))
    exact w_of c1 (by decide) (by decide) fun d st2 hd c2 => hv d st2 (mem_sub (f := fun x => x) 0 9 (by rw [List.map_id']; rfl) hd) c2
  · walk_at "go"
    refine and_by (fun q => ?_) (fun q => ?_)
    · walk_at "go"
      refine w_of c1 (by decide) (by decide) fun d st2 hd c2 => ?_
      walk_at "go"
      refine wi_addT (Nat.le_of_ble_eq_true (by kernel_rfl)) ?_
      exact hv _ _ (mem_sub (f := fun x => .tup (x :: ask0.drop 1)) 9 12 (by kernel_rfl) hd) c2
    · refine ws_sPass (ws_sSeq (ws_sIf ?_))
      walk_at "gq"
      refine and_by (fun q => ?_) (fun q => ?_)
      · refine ws_sSeq (ws_sSet (wx_eq (a := .lst wides) (st := st1) (by kernel_rfl) ?_))
        walk_at "go"
        refine wx_eq (a := .tup (bl ask0)) (st := st1) (by kernel_rfl) ?_
        walk_at "go"
        refine w_of c1 (by decide) (by decide) fun d st2 hd c2 => ?_
        walk_at "go"
        refine wi_addT (Nat.le_of_ble_eq_true (by kernel_rfl)) ?_
        walk_at "go"
        refine wi_addT (Nat.le_of_ble_eq_true (by kernel_rfl)) ?_
        walk_at "go"
        refine wi_addT (Nat.le_of_ble_eq_true (by kernel_rfl)) ?_
        exact hv _ _ (mem_sub (f := fun x => .tup (ask0.take 1 ++ [.tup (bl ask0 ++ [x])] ++ ask0.drop 2)) 21 9 (by kernel_rfl) hd) c2
      · refine ws_sPass (ws_sSeq (ws_sIf ?_))
        walk_at "gq"
        refine and_by (fun q => ?_) (fun q => ?_)
        · refine ws_sSeq (ws_sSet (wx_eq (a := .lst (blocks0 (bl ask0))) (st := st1) (by kernel_rfl) ?_))
          walk_at "go"
          refine w_of c1 (by decide) (by decide) fun d st2 hd c2 => ?_
          walk_at "go"
          refine wi_addT (Nat.le_of_ble_eq_true (by kernel_rfl)) ?_
          walk_at "go"
          refine wi_addT (Nat.le_of_ble_eq_true (by kernel_rfl)) ?_
          exact hv _ _ (mem_sub (f := fun x => .tup (ask0.take 1 ++ [x] ++ ask0.drop 2)) 30 9 (by kernel_rfl) hd) c2
        · refine ws_sPass (ws_sSeq (ws_sIf (wx_eq (a := true) (st := st1) (by kernel_rfl) ⟨fun _ => ws_sRet (wx_eq (a := .tup (ask0 ++ [.int 0])) (st := st1) (by kernel_rfl) ?_), fun e => by cases e⟩)))
          exact hv _ _ (mem_sub (L := [.tup (ask0 ++ [.int 0])]) (f := fun x => x) 39 1 (by kernel_rfl) List.mem_cons_self) c1
theorem w_wrong1 {h : Nat} {st : Sto} {V : AM.D → Sto → Prop} (c : Bag h st) (hv : ∀ x st', x ∈ wrongs ask1 → Bag h st' → V x st') : Wx (F_law_wrong U [.hd h, .tup ask1] st) V := by
  unfold F_law_wrong
  refine wx_run rfl ?_
  walk_at "gq"
  refine w_take c (by omega) (by omega) fun r st1 r0 r1 c1 => ?_
  walk_at "gq"
  refine ws_sIf ?_
  walk_at "gq"
  refine and_by (fun q => ?_) (fun q => ?_)
  · refine ws_sRet (wx_dCall (wx_eq (a := [.hd h, .lst ((wrongs ask1).take 9)]) (st := st1) (by kernel_rfl) ?_))
    exact w_of c1 (by decide) (by decide) fun d st2 hd c2 => hv d st2 (mem_sub (f := fun x => x) 0 9 (by rw [List.map_id']; rfl) hd) c2
  · walk_at "go"
    refine and_by (fun q => ?_) (fun q => ?_)
    · walk_at "go"
      refine w_of c1 (by decide) (by decide) fun d st2 hd c2 => ?_
      walk_at "go"
      refine wi_addT (Nat.le_of_ble_eq_true (by kernel_rfl)) ?_
      exact hv _ _ (mem_sub (f := fun x => .tup (x :: ask1.drop 1)) 9 12 (by kernel_rfl) hd) c2
    · refine ws_sPass (ws_sSeq (ws_sIf ?_))
      walk_at "gq"
      refine and_by (fun q => ?_) (fun q => ?_)
      · refine ws_sSeq (ws_sSet (wx_eq (a := .lst wides) (st := st1) (by kernel_rfl) ?_))
        walk_at "go"
        refine wx_eq (a := .tup (bl ask1)) (st := st1) (by kernel_rfl) ?_
        walk_at "go"
        refine w_of c1 (by decide) (by decide) fun d st2 hd c2 => ?_
        walk_at "go"
        refine wi_addT (Nat.le_of_ble_eq_true (by kernel_rfl)) ?_
        walk_at "go"
        refine wi_addT (Nat.le_of_ble_eq_true (by kernel_rfl)) ?_
        walk_at "go"
        refine wi_addT (Nat.le_of_ble_eq_true (by kernel_rfl)) ?_
        exact hv _ _ (mem_sub (f := fun x => .tup (ask1.take 1 ++ [.tup (bl ask1 ++ [x])] ++ ask1.drop 2)) 21 9 (by kernel_rfl) hd) c2
      · refine ws_sPass (ws_sSeq (ws_sIf ?_))
        walk_at "gq"
        refine and_by (fun q => ?_) (fun q => ?_)
        · refine ws_sSeq (ws_sSet (wx_eq (a := .lst (blocks0 (bl ask1))) (st := st1) (by kernel_rfl) ?_))
          walk_at "go"
          refine w_of c1 (by decide) (by decide) fun d st2 hd c2 => ?_
          walk_at "go"
          refine wi_addT (Nat.le_of_ble_eq_true (by kernel_rfl)) ?_
          walk_at "go"
          refine wi_addT (Nat.le_of_ble_eq_true (by kernel_rfl)) ?_
          exact hv _ _ (mem_sub (f := fun x => .tup (ask1.take 1 ++ [x] ++ ask1.drop 2)) 30 9 (by kernel_rfl) hd) c2
        · refine ws_sPass (ws_sSeq (ws_sIf (wx_eq (a := false) (st := st1) (by kernel_rfl) ⟨fun e => (by cases e), fun _ => ?_⟩)))
          refine ws_sPass (ws_sSeq (ws_sSet (wx_dCall (wx_eq (a := [.hd h, .lst fars]) (st := st1) (by kernel_rfl) ?_))))
          refine w_of c1 (by decide) (by decide) fun x st2 hx c2 => ?_
          walk_at "gq"
          refine ws_sIf ?_
          walk_at "gq"
          refine and_by (fun q => ?_) (fun q => ?_)
          · walk_at "go"
            refine wi_addT (Nat.le_of_ble_eq_true (by kernel_rfl)) ?_
            walk_at "go"
            refine wi_addT (Nat.le_of_ble_eq_true (by kernel_rfl)) ?_
            exact hv _ _ (mem_sub (f := fun x => .tup (ask1.take 2 ++ [x] ++ ask1.drop 3)) 40 9 (by kernel_rfl) hx) c2
          · walk_at "go"
            refine and_dt (by decide) ?_
            walk_at "go"
            refine wi_addT (Nat.le_of_ble_eq_true (by kernel_rfl)) ?_
            walk_at "go"
            refine wi_addT (Nat.le_of_ble_eq_true (by kernel_rfl)) ?_
            exact hv _ _ (mem_sub (f := fun x => .tup (ask1.take 2 ++ [x] ++ ask1.drop 3)) 40 9 (by kernel_rfl) hx) c2
theorem w_wrong2 {h : Nat} {st : Sto} {V : AM.D → Sto → Prop} (c : Bag h st) (hv : ∀ x st', x ∈ wrongs ask2 → Bag h st' → V x st') : Wx (F_law_wrong U [.hd h, .tup ask2] st) V := by
  unfold F_law_wrong
  refine wx_run rfl ?_
  walk_at "gq"
  refine w_take c (by omega) (by omega) fun r st1 r0 r1 c1 => ?_
  walk_at "gq"
  refine ws_sIf ?_
  walk_at "gq"
  refine and_by (fun q => ?_) (fun q => ?_)
  · refine ws_sRet (wx_dCall (wx_eq (a := [.hd h, .lst ((wrongs ask2).take 9)]) (st := st1) (by kernel_rfl) ?_))
    exact w_of c1 (by decide) (by decide) fun d st2 hd c2 => hv d st2 (mem_sub (f := fun x => x) 0 9 (by rw [List.map_id']; rfl) hd) c2
  · walk_at "go"
    refine and_by (fun q => ?_) (fun q => ?_)
    · walk_at "go"
      refine w_of c1 (by decide) (by decide) fun d st2 hd c2 => ?_
      walk_at "go"
      refine wi_addT (Nat.le_of_ble_eq_true (by kernel_rfl)) ?_
      exact hv _ _ (mem_sub (f := fun x => .tup (x :: ask2.drop 1)) 9 12 (by kernel_rfl) hd) c2
    · refine ws_sPass (ws_sSeq (ws_sIf ?_))
      walk_at "gq"
      refine and_by (fun q => ?_) (fun q => ?_)
      · refine ws_sSeq (ws_sSet (wx_eq (a := .lst wides) (st := st1) (by kernel_rfl) ?_))
        walk_at "go"
        refine wx_eq (a := .tup (bl ask2)) (st := st1) (by kernel_rfl) ?_
        walk_at "go"
        refine w_of c1 (by decide) (by decide) fun d st2 hd c2 => ?_
        walk_at "go"
        refine wi_addT (Nat.le_of_ble_eq_true (by kernel_rfl)) ?_
        walk_at "go"
        refine wi_addT (Nat.le_of_ble_eq_true (by kernel_rfl)) ?_
        walk_at "go"
        refine wi_addT (Nat.le_of_ble_eq_true (by kernel_rfl)) ?_
        exact hv _ _ (mem_sub (f := fun x => .tup (ask2.take 1 ++ [.tup (bl ask2 ++ [x])] ++ ask2.drop 2)) 21 9 (by kernel_rfl) hd) c2
      · refine ws_sPass (ws_sSeq (ws_sIf ?_))
        walk_at "gq"
        refine and_by (fun q => ?_) (fun q => ?_)
        · refine ws_sSeq (ws_sSet (wx_eq (a := .lst (blocks0 (bl ask2))) (st := st1) (by kernel_rfl) ?_))
          walk_at "go"
          refine w_of c1 (by decide) (by decide) fun d st2 hd c2 => ?_
          walk_at "go"
          refine wi_addT (Nat.le_of_ble_eq_true (by kernel_rfl)) ?_
          walk_at "go"
          refine wi_addT (Nat.le_of_ble_eq_true (by kernel_rfl)) ?_
          exact hv _ _ (mem_sub (f := fun x => .tup (ask2.take 1 ++ [x] ++ ask2.drop 2)) 30 9 (by kernel_rfl) hd) c2
        · refine ws_sPass (ws_sSeq (ws_sIf (wx_eq (a := false) (st := st1) (by kernel_rfl) ⟨fun e => (by cases e), fun _ => ?_⟩)))
          refine ws_sPass (ws_sSeq (ws_sSet (wx_dCall (wx_eq (a := [.hd h, .lst fars]) (st := st1) (by kernel_rfl) ?_))))
          refine w_of c1 (by decide) (by decide) fun x st2 hx c2 => ?_
          walk_at "gq"
          refine ws_sIf ?_
          walk_at "gq"
          refine and_by (fun q => ?_) (fun q => ?_)
          · walk_at "go"
            refine wi_addT (Nat.le_of_ble_eq_true (by kernel_rfl)) ?_
            walk_at "go"
            refine wi_addT (Nat.le_of_ble_eq_true (by kernel_rfl)) ?_
            exact hv _ _ (mem_sub (f := fun x => .tup (ask2.take 2 ++ [x] ++ ask2.drop 3)) 40 9 (by kernel_rfl) hx) c2
          · walk_at "go"
            refine and_dt (by decide) ?_
            walk_at "go"
            refine wi_addT (Nat.le_of_ble_eq_true (by kernel_rfl)) ?_
            walk_at "go"
            refine wi_addT (Nat.le_of_ble_eq_true (by kernel_rfl)) ?_
            exact hv _ _ (mem_sub (f := fun x => .tup (ask2.take 2 ++ [x] ++ ask2.drop 3)) 40 9 (by kernel_rfl) hx) c2
theorem w_wrong3 {h : Nat} {st : Sto} {V : AM.D → Sto → Prop} (c : Bag h st) (hv : ∀ x st', x ∈ wrongs ask3 → Bag h st' → V x st') : Wx (F_law_wrong U [.hd h, .tup ask3] st) V := by
  unfold F_law_wrong
  refine wx_run rfl ?_
  walk_at "gq"
  refine w_take c (by omega) (by omega) fun r st1 r0 r1 c1 => ?_
  walk_at "gq"
  refine ws_sIf ?_
  walk_at "gq"
  refine and_by (fun q => ?_) (fun q => ?_)
  · refine ws_sRet (wx_dCall (wx_eq (a := [.hd h, .lst ((wrongs ask3).take 9)]) (st := st1) (by kernel_rfl) ?_))
    exact w_of c1 (by decide) (by decide) fun d st2 hd c2 => hv d st2 (mem_sub (f := fun x => x) 0 9 (by rw [List.map_id']; rfl) hd) c2
  · walk_at "go"
    refine and_by (fun q => ?_) (fun q => ?_)
    · walk_at "go"
      refine w_of c1 (by decide) (by decide) fun d st2 hd c2 => ?_
      walk_at "go"
      refine wi_addT (Nat.le_of_ble_eq_true (by kernel_rfl)) ?_
      exact hv _ _ (mem_sub (f := fun x => .tup (x :: ask3.drop 1)) 9 12 (by kernel_rfl) hd) c2
    · refine ws_sPass (ws_sSeq (ws_sIf ?_))
      walk_at "gq"
      refine and_by (fun q => ?_) (fun q => ?_)
      · refine ws_sSeq (ws_sSet (wx_eq (a := .lst wides) (st := st1) (by kernel_rfl) ?_))
        walk_at "go"
        refine wx_eq (a := .tup (bl ask3)) (st := st1) (by kernel_rfl) ?_
        walk_at "go"
        refine w_of c1 (by decide) (by decide) fun d st2 hd c2 => ?_
        walk_at "go"
        refine wi_addT (Nat.le_of_ble_eq_true (by kernel_rfl)) ?_
        walk_at "go"
        refine wi_addT (Nat.le_of_ble_eq_true (by kernel_rfl)) ?_
        walk_at "go"
        refine wi_addT (Nat.le_of_ble_eq_true (by kernel_rfl)) ?_
        exact hv _ _ (mem_sub (f := fun x => .tup (ask3.take 1 ++ [.tup (bl ask3 ++ [x])] ++ ask3.drop 2)) 21 9 (by kernel_rfl) hd) c2
      · refine ws_sPass (ws_sSeq (ws_sIf ?_))
        walk_at "gq"
        refine and_by (fun q => ?_) (fun q => ?_)
        · refine ws_sSeq (ws_sSet (wx_eq (a := .lst (blocks0 (bl ask3))) (st := st1) (by kernel_rfl) ?_))
          walk_at "go"
          refine w_of c1 (by decide) (by decide) fun d st2 hd c2 => ?_
          walk_at "go"
          refine wi_addT (Nat.le_of_ble_eq_true (by kernel_rfl)) ?_
          walk_at "go"
          refine wi_addT (Nat.le_of_ble_eq_true (by kernel_rfl)) ?_
          exact hv _ _ (mem_sub (f := fun x => .tup (ask3.take 1 ++ [x] ++ ask3.drop 2)) 30 9 (by kernel_rfl) hd) c2
        · refine ws_sPass (ws_sSeq (ws_sIf (wx_eq (a := false) (st := st1) (by kernel_rfl) ⟨fun e => (by cases e), fun _ => ?_⟩)))
          refine ws_sPass (ws_sSeq (ws_sSet (wx_dCall (wx_eq (a := [.hd h, .lst fars]) (st := st1) (by kernel_rfl) ?_))))
          refine w_of c1 (by decide) (by decide) fun x st2 hx c2 => ?_
          walk_at "gq"
          refine ws_sIf ?_
          walk_at "gq"
          refine and_by (fun q => ?_) (fun q => ?_)
          · walk_at "go"
            refine wi_addT (Nat.le_of_ble_eq_true (by kernel_rfl)) ?_
            walk_at "go"
            refine wi_addT (Nat.le_of_ble_eq_true (by kernel_rfl)) ?_
            exact hv _ _ (mem_sub (f := fun x => .tup (ask3.take 2 ++ [x] ++ ask3.drop 3)) 40 9 (by kernel_rfl) hx) c2
          · walk_at "go"
            refine and_dt (by decide) ?_
            walk_at "go"
            refine wi_addT (Nat.le_of_ble_eq_true (by kernel_rfl)) ?_
            walk_at "go"
            refine wi_addT (Nat.le_of_ble_eq_true (by kernel_rfl)) ?_
            exact hv _ _ (mem_sub (f := fun x => .tup (ask3.take 2 ++ [x] ++ ask3.drop 3)) 40 9 (by kernel_rfl) hx) c2
theorem w_wrong4 {h : Nat} {st : Sto} {V : AM.D → Sto → Prop} (c : Bag h st) (hv : ∀ x st', x ∈ wrongs ask4 → Bag h st' → V x st') : Wx (F_law_wrong U [.hd h, .tup ask4] st) V := by
  unfold F_law_wrong
  refine wx_run rfl ?_
  walk_at "gq"
  refine w_take c (by omega) (by omega) fun r st1 r0 r1 c1 => ?_
  walk_at "gq"
  refine ws_sIf ?_
  walk_at "gq"
  refine and_by (fun q => ?_) (fun q => ?_)
  · refine ws_sRet (wx_dCall (wx_eq (a := [.hd h, .lst ((wrongs ask4).take 9)]) (st := st1) (by kernel_rfl) ?_))
    exact w_of c1 (by decide) (by decide) fun d st2 hd c2 => hv d st2 (mem_sub (f := fun x => x) 0 9 (by rw [List.map_id']; rfl) hd) c2
  · walk_at "go"
    refine and_by (fun q => ?_) (fun q => ?_)
    · walk_at "go"
      refine w_of c1 (by decide) (by decide) fun d st2 hd c2 => ?_
      walk_at "go"
      refine wi_addT (Nat.le_of_ble_eq_true (by kernel_rfl)) ?_
      exact hv _ _ (mem_sub (f := fun x => .tup (x :: ask4.drop 1)) 9 12 (by kernel_rfl) hd) c2
    · refine ws_sPass (ws_sSeq (ws_sIf ?_))
      walk_at "gq"
      refine and_by (fun q => ?_) (fun q => ?_)
      · refine ws_sSeq (ws_sSet (wx_eq (a := .lst wides) (st := st1) (by kernel_rfl) ?_))
        walk_at "go"
        refine wx_eq (a := .tup (bl ask4)) (st := st1) (by kernel_rfl) ?_
        walk_at "go"
        refine w_of c1 (by decide) (by decide) fun d st2 hd c2 => ?_
        walk_at "go"
        refine wi_addT (Nat.le_of_ble_eq_true (by kernel_rfl)) ?_
        walk_at "go"
        refine wi_addT (Nat.le_of_ble_eq_true (by kernel_rfl)) ?_
        walk_at "go"
        refine wi_addT (Nat.le_of_ble_eq_true (by kernel_rfl)) ?_
        exact hv _ _ (mem_sub (f := fun x => .tup (ask4.take 1 ++ [.tup (bl ask4 ++ [x])] ++ ask4.drop 2)) 21 9 (by kernel_rfl) hd) c2
      · refine ws_sPass (ws_sSeq (ws_sIf ?_))
        walk_at "gq"
        refine and_by (fun q => ?_) (fun q => ?_)
        · refine ws_sSeq (ws_sSet (wx_eq (a := .lst (blocks0 (bl ask4))) (st := st1) (by kernel_rfl) ?_))
          walk_at "go"
          refine w_of c1 (by decide) (by decide) fun d st2 hd c2 => ?_
          walk_at "go"
          refine wi_addT (Nat.le_of_ble_eq_true (by kernel_rfl)) ?_
          walk_at "go"
          refine wi_addT (Nat.le_of_ble_eq_true (by kernel_rfl)) ?_
          exact hv _ _ (mem_sub (f := fun x => .tup (ask4.take 1 ++ [x] ++ ask4.drop 2)) 30 9 (by kernel_rfl) hd) c2
        · refine ws_sPass (ws_sSeq (ws_sIf (wx_eq (a := false) (st := st1) (by kernel_rfl) ⟨fun e => (by cases e), fun _ => ?_⟩)))
          refine ws_sPass (ws_sSeq (ws_sSet (wx_dCall (wx_eq (a := [.hd h, .lst fars]) (st := st1) (by kernel_rfl) ?_))))
          refine w_of c1 (by decide) (by decide) fun x st2 hx c2 => ?_
          walk_at "gq"
          refine ws_sIf ?_
          walk_at "gq"
          refine and_by (fun q => ?_) (fun q => ?_)
          · walk_at "go"
            refine wi_addT (Nat.le_of_ble_eq_true (by kernel_rfl)) ?_
            walk_at "go"
            refine wi_addT (Nat.le_of_ble_eq_true (by kernel_rfl)) ?_
            exact hv _ _ (mem_sub (f := fun x => .tup (ask4.take 2 ++ [x] ++ ask4.drop 3)) 40 9 (by kernel_rfl) hx) c2
          · walk_at "go"
            refine and_df (by decide) ?_
            walk_at "go"
            refine w_of c2 (by decide) (by decide) fun y st3 hy c3 => ?_
            walk_at "go"
            refine wi_addT (Nat.le_of_ble_eq_true (by kernel_rfl)) ?_
            exact hv _ _ (mem_sub (f := fun x => .tup (ask4.take 3 ++ [x])) 49 14 (by kernel_rfl) hy) c3
theorem w_wrong5 {h : Nat} {st : Sto} {V : AM.D → Sto → Prop} (c : Bag h st) (hv : ∀ x st', x ∈ wrongs ask5 → Bag h st' → V x st') : Wx (F_law_wrong U [.hd h, .tup ask5] st) V := by
  unfold F_law_wrong
  refine wx_run rfl ?_
  walk_at "gq"
  refine w_take c (by omega) (by omega) fun r st1 r0 r1 c1 => ?_
  walk_at "gq"
  refine ws_sIf ?_
  walk_at "gq"
  refine and_by (fun q => ?_) (fun q => ?_)
  · refine ws_sRet (wx_dCall (wx_eq (a := [.hd h, .lst ((wrongs ask5).take 9)]) (st := st1) (by kernel_rfl) ?_))
    exact w_of c1 (by decide) (by decide) fun d st2 hd c2 => hv d st2 (mem_sub (f := fun x => x) 0 9 (by rw [List.map_id']; rfl) hd) c2
  · walk_at "go"
    refine and_by (fun q => ?_) (fun q => ?_)
    · walk_at "go"
      refine w_of c1 (by decide) (by decide) fun d st2 hd c2 => ?_
      walk_at "go"
      refine wi_addT (Nat.le_of_ble_eq_true (by kernel_rfl)) ?_
      exact hv _ _ (mem_sub (f := fun x => .tup (x :: ask5.drop 1)) 9 12 (by kernel_rfl) hd) c2
    · refine ws_sPass (ws_sSeq (ws_sIf ?_))
      walk_at "gq"
      refine and_by (fun q => ?_) (fun q => ?_)
      · refine ws_sSeq (ws_sSet (wx_eq (a := .lst wides) (st := st1) (by kernel_rfl) ?_))
        walk_at "go"
        refine wx_eq (a := .tup (bl ask5)) (st := st1) (by kernel_rfl) ?_
        walk_at "go"
        refine w_of c1 (by decide) (by decide) fun d st2 hd c2 => ?_
        walk_at "go"
        refine wi_addT (Nat.le_of_ble_eq_true (by kernel_rfl)) ?_
        walk_at "go"
        refine wi_addT (Nat.le_of_ble_eq_true (by kernel_rfl)) ?_
        walk_at "go"
        refine wi_addT (Nat.le_of_ble_eq_true (by kernel_rfl)) ?_
        exact hv _ _ (mem_sub (f := fun x => .tup (ask5.take 1 ++ [.tup (bl ask5 ++ [x])] ++ ask5.drop 2)) 21 9 (by kernel_rfl) hd) c2
      · refine ws_sPass (ws_sSeq (ws_sIf ?_))
        walk_at "gq"
        refine and_by (fun q => ?_) (fun q => ?_)
        · refine ws_sSeq (ws_sSet (wx_eq (a := .lst (blocks0 (bl ask5))) (st := st1) (by kernel_rfl) ?_))
          walk_at "go"
          refine w_of c1 (by decide) (by decide) fun d st2 hd c2 => ?_
          walk_at "go"
          refine wi_addT (Nat.le_of_ble_eq_true (by kernel_rfl)) ?_
          walk_at "go"
          refine wi_addT (Nat.le_of_ble_eq_true (by kernel_rfl)) ?_
          exact hv _ _ (mem_sub (f := fun x => .tup (ask5.take 1 ++ [x] ++ ask5.drop 2)) 30 9 (by kernel_rfl) hd) c2
        · refine ws_sPass (ws_sSeq (ws_sIf (wx_eq (a := true) (st := st1) (by kernel_rfl) ⟨fun _ => ws_sRet (wx_eq (a := .tup (ask5 ++ [.int 0])) (st := st1) (by kernel_rfl) ?_), fun e => by cases e⟩)))
          exact hv _ _ (mem_sub (L := [.tup (ask5 ++ [.int 0])]) (f := fun x => x) 39 1 (by kernel_rfl) List.mem_cons_self) c1
theorem w_wrong6 {h : Nat} {st : Sto} {V : AM.D → Sto → Prop} (c : Bag h st) (hv : ∀ x st', x ∈ wrongs ask6 → Bag h st' → V x st') : Wx (F_law_wrong U [.hd h, .tup ask6] st) V := by
  unfold F_law_wrong
  refine wx_run rfl ?_
  walk_at "gq"
  refine w_take c (by omega) (by omega) fun r st1 r0 r1 c1 => ?_
  walk_at "gq"
  refine ws_sIf ?_
  walk_at "gq"
  refine and_by (fun q => ?_) (fun q => ?_)
  · refine ws_sRet (wx_dCall (wx_eq (a := [.hd h, .lst ((wrongs ask6).take 9)]) (st := st1) (by kernel_rfl) ?_))
    exact w_of c1 (by decide) (by decide) fun d st2 hd c2 => hv d st2 (mem_sub (f := fun x => x) 0 9 (by rw [List.map_id']; rfl) hd) c2
  · walk_at "go"
    refine and_by (fun q => ?_) (fun q => ?_)
    · walk_at "go"
      refine w_of c1 (by decide) (by decide) fun d st2 hd c2 => ?_
      walk_at "go"
      refine wi_addT (Nat.le_of_ble_eq_true (by kernel_rfl)) ?_
      exact hv _ _ (mem_sub (f := fun x => .tup (x :: ask6.drop 1)) 9 12 (by kernel_rfl) hd) c2
    · refine ws_sPass (ws_sSeq (ws_sIf ?_))
      walk_at "gq"
      refine and_by (fun q => ?_) (fun q => ?_)
      · refine ws_sSeq (ws_sSet (wx_eq (a := .lst wides) (st := st1) (by kernel_rfl) ?_))
        walk_at "go"
        refine wx_eq (a := .tup (bl ask6)) (st := st1) (by kernel_rfl) ?_
        walk_at "go"
        refine w_of c1 (by decide) (by decide) fun d st2 hd c2 => ?_
        walk_at "go"
        refine wi_addT (Nat.le_of_ble_eq_true (by kernel_rfl)) ?_
        walk_at "go"
        refine wi_addT (Nat.le_of_ble_eq_true (by kernel_rfl)) ?_
        walk_at "go"
        refine wi_addT (Nat.le_of_ble_eq_true (by kernel_rfl)) ?_
        exact hv _ _ (mem_sub (f := fun x => .tup (ask6.take 1 ++ [.tup (bl ask6 ++ [x])] ++ ask6.drop 2)) 21 9 (by kernel_rfl) hd) c2
      · refine ws_sPass (ws_sSeq (ws_sIf ?_))
        walk_at "gq"
        refine and_by (fun q => ?_) (fun q => ?_)
        · refine ws_sSeq (ws_sSet (wx_eq (a := .lst (blocks0 (bl ask6))) (st := st1) (by kernel_rfl) ?_))
          walk_at "go"
          refine w_of c1 (by decide) (by decide) fun d st2 hd c2 => ?_
          walk_at "go"
          refine wi_addT (Nat.le_of_ble_eq_true (by kernel_rfl)) ?_
          walk_at "go"
          refine wi_addT (Nat.le_of_ble_eq_true (by kernel_rfl)) ?_
          exact hv _ _ (mem_sub (f := fun x => .tup (ask6.take 1 ++ [x] ++ ask6.drop 2)) 30 9 (by kernel_rfl) hd) c2
        · refine ws_sPass (ws_sSeq (ws_sIf (wx_eq (a := false) (st := st1) (by kernel_rfl) ⟨fun e => (by cases e), fun _ => ?_⟩)))
          refine ws_sPass (ws_sSeq (ws_sSet (wx_dCall (wx_eq (a := [.hd h, .lst fars]) (st := st1) (by kernel_rfl) ?_))))
          refine w_of c1 (by decide) (by decide) fun x st2 hx c2 => ?_
          walk_at "gq"
          refine ws_sIf ?_
          walk_at "gq"
          refine and_by (fun q => ?_) (fun q => ?_)
          · walk_at "go"
            refine wi_addT (Nat.le_of_ble_eq_true (by kernel_rfl)) ?_
            walk_at "go"
            refine wi_addT (Nat.le_of_ble_eq_true (by kernel_rfl)) ?_
            exact hv _ _ (mem_sub (f := fun x => .tup (ask6.take 2 ++ [x] ++ ask6.drop 3)) 40 9 (by kernel_rfl) hx) c2
          · walk_at "go"
            refine and_df (by decide) ?_
            walk_at "go"
            refine w_of c2 (by decide) (by decide) fun y st3 hy c3 => ?_
            walk_at "go"
            refine wi_addT (Nat.le_of_ble_eq_true (by kernel_rfl)) ?_
            exact hv _ _ (mem_sub (f := fun x => .tup (ask6.take 3 ++ [x])) 49 14 (by kernel_rfl) hy) c3
end
section
theorem w_acc {b : Bool} {a q : AM.D} {h : Nat} {st : Sto} {V : AM.D → Sto → Prop} (t : Tells b (a, q)) (c : Bag h st) (hv : V (.bl b) st) : Wx (F_accepts U0 [a, q] st) V := by
  obtain ⟨_, _, _, _, _, _, r, rfl⟩ := c
  exact wx_eq (t r) hv
theorem menu_cases {P : List AM.D × AM.D → Prop} (h0 : P (ask0, pap0)) (h1 : P (ask1, pap1)) (h2 : P (ask2, pap2)) (h3 : P (ask3, pap3)) (h4 : P (ask4, pap4)) (h5 : P (ask5, pap5)) (h6 : P (ask6, pap6)) : ∀ p ∈ menuD, P p := fun p hp => by
  unfold menuD at hp
  simp only [List.mem_cons, List.not_mem_nil, or_false] at hp
  rcases hp with rfl | rfl | rfl | rfl | rfl | rfl | rfl <;> assumption
theorem w_wrong : ∀ p ∈ menuD, ∀ {h : Nat} {st : Sto} {V : AM.D → Sto → Prop} (_ : Bag h st) (_ : ∀ x st', x ∈ wrongs p.1 → Bag h st' → V x st'), Wx (F_law_wrong U0 [.hd h, .tup p.1] st) V :=
  menu_cases w_wrong0 w_wrong1 w_wrong2 w_wrong3 w_wrong4 w_wrong5 w_wrong6
theorem t_wrong : ∀ p ∈ menuD, ∀ x ∈ wrongs p.1, Tells false (x, p.2) := by
  have key : ∀ p ∈ menuD, AllT false (wrongC p) := menu_cases wrong0 wrong1 wrong2 wrong3 wrong4 wrong5 wrong6
  exact fun p hp x hx => (key p hp).mem _ (List.mem_map.mpr ⟨x, hx, rfl⟩)
theorem t_bent : ∀ p ∈ menuD, ∀ o ∈ odds, ∀ i, i < p.1.length - 1 → ∀ x ∈ bends o 3 (p.1.getD (i + 1) .non), Tells false (.tup (p.1.take (i + 1) ++ x :: p.1.drop (i + 2)), p.2) := by
  have key : ∀ p ∈ menuD, AllT false (bentC p) := menu_cases bent0 bent1 bent2 bent3 bent4 bent5 bent6
  exact fun p hp o ho i hi x hx => (key p hp).mem _ (List.mem_flatMap.mpr ⟨o, ho, List.mem_flatMap.mpr ⟨i, List.mem_range.mpr hi, List.mem_map.mpr ⟨x, hx, rfl⟩⟩⟩)
theorem t_paper : ∀ p ∈ menuD, ∀ o ∈ odds, ∀ x ∈ bends o 5 p.2, Tells false (.tup p.1, x) := by
  have key : ∀ p ∈ menuD, AllT false (paperC p) := menu_cases paper0 paper1 paper2 paper3 paper4 paper5 paper6
  exact fun p hp o ho x hx => (key p hp).mem _ (List.mem_flatMap.mpr ⟨o, ho, List.mem_map.mpr ⟨x, hx, rfl⟩⟩)
theorem t_good : ∀ p ∈ menuD, Tells true (.tup p.1, p.2) := fun p hp => good_all.mem _ (List.mem_map.mpr ⟨p, hp, rfl⟩)
theorem thing_ask : ∀ p ∈ menuD, (∀ d ∈ p.1, thing 6 d = true) ∧ thing 6 p.2 = true ∧ 2 ≤ p.1.length ∧ p.1.length ≤ 4 := by
  have key : (menuD.all fun p => p.1.all (thing 6) && (thing 6 p.2 && (decide (2 ≤ p.1.length) && decide (p.1.length ≤ 4)))) = true := by kernel_rfl
  intro p hp
  obtain ⟨h1, h2⟩ := Bool.and_eq_true_iff.mp (List.all_eq_true.mp key p hp)
  obtain ⟨h2, h3⟩ := Bool.and_eq_true_iff.mp h2
  obtain ⟨h3, h4⟩ := Bool.and_eq_true_iff.mp h3
  exact ⟨fun d hd => List.all_eq_true.mp h1 d hd, h2, of_decide_eq_true h3, of_decide_eq_true h4⟩
theorem w_right {h : Nat} {st : Sto} {V : AM.D → Sto → Prop} (c : Bag h st) (hv : ∀ st', Bag h st' → V (.bl true) st') : Wx (F_law_right U0 [.hd h] st) V := by
  unfold F_law_right
  refine wx_run rfl ?_
  walk_at "gq"
  obtain ⟨r, e⟩ : ∃ r, st = TB :: r := by
    obtain ⟨_, _, _, _, _, _, t⟩ := c
    exact t
  refine wx_eq (by rw [e]; exact menu_ok r) ?_
  rw [← e]
  walk_at "go"
  refine ws_forL (fun _ _ E s => ∃ z2 z3 z4 z5 z6 z7 : Sl, E = [.sh (.hd h), .sh (.lst (menuD.map fun p => .tup [.tup p.1, p.2])), z2, z3, z4, z5, z6, z7] ∧ Bag h s) _ [] _ _ ⟨_, _, _, _, _, _, rfl, c⟩ ?_ ?_
  · rintro done d rest E s ⟨z2, z3, z4, z5, z6, z7, rfl, c1⟩
    walk_at "go"
    refine w_of c1 (by decide) (by decide) fun d st2 hd c2 => ?_
    obtain ⟨p, hp, rfl⟩ := List.mem_map.mp hd
    walk_at "go"
    refine w_wrong p hp c2 fun x st3 hx c3 => ?_
    walk_at "go"
    refine w_acc (t_wrong p hp x hx) c3 ?_
    walk_at "go"
    refine wx_eq (show oIsNotX (.bl false) (.bl false) st3 = .ok (.bl false) st3 by kernel_rfl) ?_
    refine ⟨false, rfl, fun e => (by cases e), fun _ => ?_⟩
    refine ws_sPass (ws_sSeq (ws_sSet (wx_dCall (wx_eq (a := [.hd h, .lst odds]) (st := st3) (by kernel_rfl) ?_))))
    refine w_of c3 (by decide) (by decide) fun o st4 ho c4 => ?_
    obtain ⟨k1, k2, k3, k4⟩ := thing_ask p hp
    walk_at "go"
    refine w_take c4 (by omega) (by omega) fun i st5 i0 i1 c5 => ?_
    obtain ⟨j, rfl⟩ := Int.eq_ofNat_of_zero_le i0
    have hj : j + 1 < p.1.length := by omega
    have ej : p.1[j + 1]? = some p.1[j + 1] := List.getElem?_eq_getElem hj
    walk_at "go"
    refine wi_ixT (d := p.1[j + 1]) (by rw [AM.atI_pos (by omega) (by omega), show (1 + (j : Int)).toNat = j + 1 by omega]; exact ej) ?_
    walk_at "go"
    refine w_with o 5 3 6 p.1[j + 1] h st5 _ (by decide) (by decide) (k1 _ (List.getElem_mem hj)) c5 fun y st6 hy c6 => ?_
    have u1 : cutL p.1 none (some (1 + (j : Int))) = p.1.take (j + 1) := by
      rw [show 1 + (j : Int) = ((j + 1 : Nat) : Int) by omega]
      exact cut_to (by omega)
    have u2 : cutL p.1 (some (1 + (j : Int) + 1)) none = p.1.drop (j + 2) := by
      rw [show 1 + (j : Int) + 1 = ((j + 1 : Nat) : Int) + 1 by omega]
      exact cut_from (by omega)
    have e2 : p.1.getD (j + 1) .non = p.1[j + 1] := by rw [List.getD_eq_getElem?_getD, ej]; rfl
    walk_at "go"
    rw [u1]
    refine wi_addT (by rw [List.length_take]; simp only [List.length_cons, List.length_nil]; omega) ?_
    walk_at "go"
    rw [u2]
    refine wi_addT (by rw [List.length_append, List.length_take, List.length_drop]; simp only [List.length_cons, List.length_nil]; omega) ?_
    rw [show p.1.take (j + 1) ++ [y] ++ p.1.drop (j + 2) = p.1.take (j + 1) ++ y :: p.1.drop (j + 2) by simp]
    walk_at "go"
    refine w_acc (t_bent p hp o ho j (by omega) y (by rw [e2]; exact hy)) c6 ?_
    walk_at "go"
    refine wx_eq (show oIsNotX (.bl false) (.bl false) st6 = .ok (.bl false) st6 by kernel_rfl) ?_
    refine ⟨false, rfl, fun e => (by cases e), fun _ => ?_⟩
    walk_at "go"
    refine w_with o 5 5 6 p.2 h st6 _ (by decide) (by decide) k2 c6 fun z st7 hz c7 => ?_
    walk_at "go"
    refine w_acc (t_paper p hp o ho z hz) c7 ?_
    walk_at "go"
    refine wx_eq (show oIsNotX (.bl false) (.bl false) st7 = .ok (.bl false) st7 by kernel_rfl) ?_
    refine ⟨false, rfl, fun e => (by cases e), fun _ => ?_⟩
    walk_at "go"
    refine w_acc (t_good p hp) c7 ?_
    walk_at "go"
    refine wx_eq (show oIsNotX (.bl true) (.bl true) st7 = .ok (.bl false) st7 by kernel_rfl) ?_
    refine ⟨false, rfl, fun e => (by cases e), fun _ => ?_⟩
    walk_at "go"
    exact ⟨_, _, _, _, _, _, rfl, c7⟩
  · rintro done E s ⟨z2, z3, z4, z5, z6, z7, rfl, c1⟩
    walk_at "go"
    exact hv _ c1
theorem wx_lawAllT {R : DF} {ns : List Int} {M : Int} {k : Nat} {env : AEnv} {st : Sto} {V : AM.D → Sto → Prop} (hn : ns.length ≤ 63) (hM : M ≤ 60) (h0 : env[0]? = some (.sh (.fz (ns.map AM.D.int)))) (hk : k < env.length) (hk0 : 0 < k) (ho : noOwn env [k] = true)
    (tb : ∃ r, st = TB :: r) (hR : ∀ (h : Nat) (st : Sto), Bag h st → Wx (R [.hd h] st) fun d s => d = .bl true ∧ ∃ r, s = TB :: r) (hV : ∀ s, V (.bl true) s) :
    Wx (dOp1 oAll (dF (compF (iRan (dOp2 oMax (dC (.int 2)) (dOp2 oMin (dOp1 oLen (dVar 0)) (dC (.int M))))) false [k] [k] tYesD (dCall R (dCons (dCall (F_law_bag U0) (dCons (dVar 0) (dCons (dVar k) dNil))) dNil)))) env st) V := by
  walk_at "wp"
  refine wx_compS (fun s => ∃ r, s = TB :: r) (fun y => y = .bl true) ho (by simp) ?_
  refine wx_iRan (wx_dOp2 (wx_dC (wx_dOp2 (wx_dOp1 (wx_dVar h0 (wi_lenF ?_))))))
  rw [List.length_map]
  refine wx_dC (wi_min (wi_max ⟨_, rfl, okRb_of (by split <;> split <;> omega) (by split <;> split <;> omega), ?_⟩))
  refine ⟨by rw [rng_length]; split <;> split <;> omega, tb, fun d hd s hs => ⟨[d], rfl, ?_⟩, fun ys s2 _ hy _ => ?_⟩
  · obtain ⟨i, hi, rfl⟩ := rng_mem hd
    have hi : i < 64 := by
      revert hi
      split <;> split <;> omega
    have e0 : ((env.set k .un).set k (.sh (.int (0 + (i : Int)))))[0]? = some (.sh (.fz (ns.map AM.D.int))) := by
      rw [List.getElem?_set_ne (by omega), List.getElem?_set_ne (by omega)]
      exact h0
    have e1 : ((env.set k .un).set k (.sh (.int (0 + (i : Int)))))[k]? = some (.sh (.int (0 + (i : Int)))) := by
      rw [List.getElem?_set_self (by rw [List.length_set]; exact hk)]
    show Wx (dCall R (dCons (dCall (F_law_bag U0) (dCons (dVar 0) (dCons (dVar k) dNil))) dNil) ((env.set k .un).set k (.sh (.int (0 + (i : Int))))) s) _
    refine wx_dCall (wx_dCons (wx_dCall (wx_dCons (wx_dVar e0 (wx_dCons (wx_dVar e1 (wx_dNil ?_)))))))
    refine w_bag (by omega) (by omega) hs fun h st' c => ?_
    refine wx_dNil ?_
    exact wx_mono (hR _ _ c) fun d s h => h
  · obtain ⟨bs, e1, e2⟩ := all_true hy
    refine ⟨bs, e1, ?_⟩
    rw [e2]
    exact hV _
theorem ws_eqN {r : SR} {env : AEnv} {st : Sto} {N T} (e : r = .nx env st) (h : N env st) : Ws r N T := by
  rw [e]
  exact .nx h
theorem law_ok (ns : List Int) (hn : ns.length ≤ 63) : Wx (F_law U0 [.fz (ns.map AM.D.int)] [TB]) fun x _ => x = .bl true := by
  unfold F_law
  refine wx_run rfl ?_
  refine ws_sSeq (ws_sSet (wx_dCall (wx_eq (a := []) (st := [TB]) rfl (wx_eq (menu_ok []) ?_))))
  walk_at "gq"
  refine ws_sIf (wx_eq (a := false) (st := [TB]) (by kernel_rfl) ⟨fun e => (by cases e), fun _ => ?_⟩)
  refine ws_sPass (ws_sSeq (ws_sIf (wx_eq (a := false) (st := [TB]) (by kernel_rfl) ⟨fun e => (by cases e), fun _ => ?_⟩)))
  refine ws_sPass (ws_sSeq (ws_eqN (env := [Sl.sh (D.fz (List.map D.int ns)), Sl.sh (D.lst (List.map (fun p => D.tup [D.tup p.fst, p.snd]) menuD)), Sl.un, Sl.sh (.tup ask0), Sl.sh pap0, Sl.un]) (st := [TB]) (by kernel_rfl) ?_))
  refine ws_sSeq (ws_eqN (env := [Sl.sh (D.fz (List.map D.int ns)), Sl.sh (D.lst (List.map (fun p => D.tup [D.tup p.fst, p.snd]) menuD)), Sl.sh (.bl true), Sl.sh (.tup ask0), Sl.sh pap0, Sl.un]) (st := [TB]) (by kernel_rfl) ?_)
  refine ws_sRet (wx_lawAllT hn (by decide) rfl (by simp) (by decide) rfl ⟨[], rfl⟩ (fun h st c => w_right c fun st' c' => ⟨rfl, by obtain ⟨_, _, _, _, _, _, t⟩ := c'; exact t⟩) (fun _ => rfl))
theorem law_true (ns : List Int) (hn : ns.length ≤ 63) : ∃ st, F_law U0 [.fz (ns.map AM.D.int)] [TB] = .ok (.bl true) st := by
  obtain ⟨d, s, e, rfl⟩ := wx_ex (law_ok ns hn)
  exact ⟨s, e⟩
end
end K74
namespace K74
open PySem PySem.Spec PyProof.Rows L2 AM KL KP
abbrev U : List Nat := [0, 0, 1]
structure Hd (w : World) (mg : Str → Option Value) (K : PySem.W.Frag) : Prop where
  b_abs : mg "abs" = none
  b_all : mg "all" = none
  b_any : mg "any" = none
  b_bool : mg "bool" = none
  b_divmod : mg "divmod" = none
  b_enumerate : mg "enumerate" = none
  b_int : mg "int" = none
  b_isinstance : mg "isinstance" = none
  b_len : mg "len" = none
  b_list : mg "list" = none
  b_max : mg "max" = none
  b_min : mg "min" = none
  b_range : mg "range" = none
  b_sorted : mg "sorted" = none
  b_str : mg "str" = none
  b_sum : mg "sum" = none
  b_tuple : mg "tuple" = none
  b_zip : mg "zip" = none
  c_MOST_BLOCKS : ∃ t, mg "MOST_BLOCKS" = some (.int 12 t)
  c_MOST_WORD : ∃ t, mg "MOST_WORD" = some (.int 12 t)
  c_MOST_TIMES : ∃ t, mg "MOST_TIMES" = some (.int 9 t)
  c_MOST_MORE : ∃ t, mg "MOST_MORE" = some (.int 99 t)
  c_GREATEST : ∃ t, mg "GREATEST" = some (.int 1000000000000000000000000000000 t)
  c_PEGS : ∃ t, mg "PEGS" = some (.str "abcdef" t)
  c_LETTERS : ∃ t, mg "LETTERS" = some (.str "abcdefABCDEF" t)
  c_PAIRS : ∃ a, mg "PAIRS" = some (.ref a) ∧ ∀ H, SqT K H a ((["join", "glue", "back"] : List Str).map V.str)
  c_ITEMS : ∃ t, mg "ITEMS" = some (.int 3 t)
  g_is_integer : mg "is_integer" = some (.ref (He.ga K "is_integer"))
  g_is_between : mg "is_between" = some (.ref (He.ga K "is_between"))
  g_is_word : mg "is_word" = some (.ref (He.ga K "is_word"))
  g_is_block : mg "is_block" = some (.ref (He.ga K "is_block"))
  g_are_blocks : mg "are_blocks" = some (.ref (He.ga K "are_blocks"))
  g_is_step : mg "is_step" = some (.ref (He.ga K "is_step"))
  g_left_out : mg "left_out" = some (.ref (He.ga K "left_out"))
  g_undone_word : mg "undone_word" = some (.ref (He.ga K "undone_word"))
  g_turned : mg "turned" = some (.ref (He.ga K "turned"))
  g_joined : mg "joined" = some (.ref (He.ga K "joined"))
  g_parted : mg "parted" = some (.ref (He.ga K "parted"))
  g_is_plain : mg "is_plain" = some (.ref (He.ga K "is_plain"))
  g_cut_at : mg "cut_at" = some (.ref (He.ga K "cut_at"))
  g_glued : mg "glued" = some (.ref (He.ga K "glued"))
  g_do_undo : mg "do_undo" = some (.ref (He.ga K "do_undo"))
  g_unpaired : mg "unpaired" = some (.ref (He.ga K "unpaired"))
  g_passed : mg "passed" = some (.ref (He.ga K "passed"))
  g_opened : mg "opened" = some (.ref (He.ga K "opened"))
  g_rooted : mg "rooted" = some (.ref (He.ga K "rooted"))
  g_replaced : mg "replaced" = some (.ref (He.ga K "replaced"))
  g_done : mg "done" = some (.ref (He.ga K "done"))
  g_all_done : mg "all_done" = some (.ref (He.ga K "all_done"))
  g_lead_to_nothing : mg "lead_to_nothing" = some (.ref (He.ga K "lead_to_nothing"))
  g_shows_free : mg "shows_free" = some (.ref (He.ga K "shows_free"))
  g_is_rounds : mg "is_rounds" = some (.ref (He.ga K "is_rounds"))
  g_at_rounds : mg "at_rounds" = some (.ref (He.ga K "at_rounds"))
  g_shows_free_at : mg "shows_free_at" = some (.ref (He.ga K "shows_free_at"))
  g_is_tight_item : mg "is_tight_item" = some (.ref (He.ga K "is_tight_item"))
  g_is_tight : mg "is_tight" = some (.ref (He.ga K "is_tight"))
  g_lead_to_tight : mg "lead_to_tight" = some (.ref (He.ga K "lead_to_tight"))
  g_shows_held_at : mg "shows_held_at" = some (.ref (He.ga K "shows_held_at"))
  g_shows_held : mg "shows_held" = some (.ref (He.ga K "shows_held"))
  g_length_of : mg "length_of" = some (.ref (He.ga K "length_of"))
  g_shows_length : mg "shows_length" = some (.ref (He.ga K "shows_length"))
  g_undone_row : mg "undone_row" = some (.ref (He.ga K "undone_row"))
  g_shows_same : mg "shows_same" = some (.ref (He.ga K "shows_same"))
  g_only : mg "only" = some (.ref (He.ga K "only"))
  g_left_of : mg "left_of" = some (.ref (He.ga K "left_of"))
  g_parts_of : mg "parts_of" = some (.ref (He.ga K "parts_of"))
  g_has_all : mg "has_all" = some (.ref (He.ga K "has_all"))
  g_least : mg "least" = some (.ref (He.ga K "least"))
  g_cuts_of : mg "cuts_of" = some (.ref (He.ga K "cuts_of"))
  g_pegs_in : mg "pegs_in" = some (.ref (He.ga K "pegs_in"))
  g_are_pegs : mg "are_pegs" = some (.ref (He.ga K "are_pegs"))
  g_are_lots : mg "are_lots" = some (.ref (He.ga K "are_lots"))
  g_shows_lots : mg "shows_lots" = some (.ref (He.ga K "shows_lots"))
  g_accepts : mg "accepts" = some (.ref (He.ga K "accepts"))
  g_law_bag : mg "_law_bag" = some (.ref (He.ga K "_law_bag"))
  g_law_menu : mg "_law_menu" = some (.ref (He.ga K "_law_menu"))
  g_law_take : mg "_law_take" = some (.ref (He.ga K "_law_take"))
  g_law_of : mg "_law_of" = some (.ref (He.ga K "_law_of"))
  g_law_with__0 : mg "_law_with" = some (.ref (He.ga K "_law_with"))
  g_law_with__1 : mg "_law_with" = some (.ref (He.ga K "_law_with"))
  g_law_with__2 : mg "_law_with" = some (.ref (He.ga K "_law_with"))
  g_law_with__3 : mg "_law_with" = some (.ref (He.ga K "_law_with"))
  g_law_with__4 : mg "_law_with" = some (.ref (He.ga K "_law_with"))
  g_law_with__5 : mg "_law_with" = some (.ref (He.ga K "_law_with"))
  g_law_with__6 : mg "_law_with" = some (.ref (He.ga K "_law_with"))
  g_law_wrong : mg "_law_wrong" = some (.ref (He.ga K "_law_wrong"))
  g_law_right : mg "_law_right" = some (.ref (He.ga K "_law_right"))
  g_law : mg "law" = some (.ref (He.ga K "law"))
  is_int : IsT K (Γ K) (.type "int") (is_int U)
  is_bool : IsT K (Γ K) (.type "bool") (is_bool U)
  is_str : IsT K (Γ K) (.type "str") (is_str U)
  is_tuple : IsT K (Γ K) (.type "tuple") (is_tuple U)
  t_SIZES : Dt K w mg (Γ K) "SIZES" (rowsD T_SIZES)
  t_JUDGES : Dt K w mg (Γ K) "JUDGES" (rowsD T_JUDGES)
  d_is_integer : ∃ fd, FunD K "is_integer" "is_integer" (defArgs (top 8)) (defBody (top 8)) (defScope (top 8)) [] [] ((fun K => He.ga K "is_integer") K) fd
  d_is_between : ∃ fd, FunD K "is_between" "is_between" (defArgs (top 9)) (defBody (top 9)) (defScope (top 9)) [] [] ((fun K => He.ga K "is_between") K) fd
  d_is_word : ∃ fd, FunD K "is_word" "is_word" (defArgs (top 11)) (defBody (top 11)) (defScope (top 11)) [] [] ((fun K => He.ga K "is_word") K) fd
  d_is_block : ∃ fd, FunD K "is_block" "is_block" (defArgs (top 40)) (defBody (top 40)) (defScope (top 40)) [] [] ((fun K => He.ga K "is_block") K) fd
  d_are_blocks : ∃ fd, FunD K "are_blocks" "are_blocks" (defArgs (top 41)) (defBody (top 41)) (defScope (top 41)) [] [] ((fun K => He.ga K "are_blocks") K) fd
  d_is_step : ∃ fd, FunD K "is_step" "is_step" (defArgs (top 20)) (defBody (top 20)) (defScope (top 20)) [] [] ((fun K => He.ga K "is_step") K) fd
  d_left_out : ∃ fd, FunD K "left_out" "left_out" (defArgs (top 21)) (defBody (top 21)) (defScope (top 21)) [] [] ((fun K => He.ga K "left_out") K) fd
  d_undone_word : ∃ fd, FunD K "undone_word" "undone_word" (defArgs (top 14)) (defBody (top 14)) (defScope (top 14)) [] [] ((fun K => He.ga K "undone_word") K) fd
  d_turned : ∃ fd, FunD K "turned" "turned" (defArgs (top 22)) (defBody (top 22)) (defScope (top 22)) [] [] ((fun K => He.ga K "turned") K) fd
  d_joined : ∃ fd, FunD K "joined" "joined" (defArgs (top 23)) (defBody (top 23)) (defScope (top 23)) [] [] ((fun K => He.ga K "joined") K) fd
  d_parted : ∃ fd, FunD K "parted" "parted" (defArgs (top 24)) (defBody (top 24)) (defScope (top 24)) [] [] ((fun K => He.ga K "parted") K) fd
  d_is_plain : ∃ fd, FunD K "is_plain" "is_plain" (defArgs (top 19)) (defBody (top 19)) (defScope (top 19)) [] [] ((fun K => He.ga K "is_plain") K) fd
  d_cut_at : ∃ fd, FunD K "cut_at" "cut_at" (defArgs (top 25)) (defBody (top 25)) (defScope (top 25)) [] [] ((fun K => He.ga K "cut_at") K) fd
  d_glued : ∃ fd, FunD K "glued" "glued" (defArgs (top 26)) (defBody (top 26)) (defScope (top 26)) [] [] ((fun K => He.ga K "glued") K) fd
  d_do_undo : ∃ fd, FunD K "do_undo" "do_undo" (defArgs (top 13)) (defBody (top 13)) (defScope (top 13)) [] [] ((fun K => He.ga K "do_undo") K) fd
  d_unpaired : ∃ fd, FunD K "unpaired" "unpaired" (defArgs (top 27)) (defBody (top 27)) (defScope (top 27)) [] [] ((fun K => He.ga K "unpaired") K) fd
  d_passed : ∃ fd, FunD K "passed" "passed" (defArgs (top 28)) (defBody (top 28)) (defScope (top 28)) [] [] ((fun K => He.ga K "passed") K) fd
  d_opened : ∃ fd, FunD K "opened" "opened" (defArgs (top 29)) (defBody (top 29)) (defScope (top 29)) [] [] ((fun K => He.ga K "opened") K) fd
  d_rooted : ∃ fd, FunD K "rooted" "rooted" (defArgs (top 30)) (defBody (top 30)) (defScope (top 30)) [] [] ((fun K => He.ga K "rooted") K) fd
  d_replaced : ∃ fd, FunD K "replaced" "replaced" (defArgs (top 31)) (defBody (top 31)) (defScope (top 31)) [] [] ((fun K => He.ga K "replaced") K) fd
  d_done : ∃ fd, FunD K "done" "done" (defArgs (top 32)) (defBody (top 32)) (defScope (top 32)) [] [] ((fun K => He.ga K "done") K) fd
  d_all_done : ∃ fd, FunD K "all_done" "all_done" (defArgs (top 33)) (defBody (top 33)) (defScope (top 33)) [] [] ((fun K => He.ga K "all_done") K) fd
  d_lead_to_nothing : ∃ fd, FunD K "lead_to_nothing" "lead_to_nothing" (defArgs (top 53)) (defBody (top 53)) (defScope (top 53)) [] [] ((fun K => He.ga K "lead_to_nothing") K) fd
  d_shows_free : ∃ fd, FunD K "shows_free" "shows_free" (defArgs (top 55)) (defBody (top 55)) (defScope (top 55)) [] [] ((fun K => He.ga K "shows_free") K) fd
  d_is_rounds : ∃ fd, FunD K "is_rounds" "is_rounds" (defArgs (top 10)) (defBody (top 10)) (defScope (top 10)) [] [] ((fun K => He.ga K "is_rounds") K) fd
  d_at_rounds : ∃ fd, FunD K "at_rounds" "at_rounds" (defArgs (top 37)) (defBody (top 37)) (defScope (top 37)) [] [] ((fun K => He.ga K "at_rounds") K) fd
  d_shows_free_at : ∃ fd, FunD K "shows_free_at" "shows_free_at" (defArgs (top 56)) (defBody (top 56)) (defScope (top 56)) [] [] ((fun K => He.ga K "shows_free_at") K) fd
  d_is_tight_item : ∃ fd, FunD K "is_tight_item" "is_tight_item" (defArgs (top 34)) (defBody (top 34)) (defScope (top 34)) [] [] ((fun K => He.ga K "is_tight_item") K) fd
  d_is_tight : ∃ fd, FunD K "is_tight" "is_tight" (defArgs (top 35)) (defBody (top 35)) (defScope (top 35)) [] [] ((fun K => He.ga K "is_tight") K) fd
  d_lead_to_tight : ∃ fd, FunD K "lead_to_tight" "lead_to_tight" (defArgs (top 54)) (defBody (top 54)) (defScope (top 54)) [] [] ((fun K => He.ga K "lead_to_tight") K) fd
  d_shows_held_at : ∃ fd, FunD K "shows_held_at" "shows_held_at" (defArgs (top 57)) (defBody (top 57)) (defScope (top 57)) [] [] ((fun K => He.ga K "shows_held_at") K) fd
  d_shows_held : ∃ fd, FunD K "shows_held" "shows_held" (defArgs (top 58)) (defBody (top 58)) (defScope (top 58)) [] [] ((fun K => He.ga K "shows_held") K) fd
  d_length_of : ∃ fd, FunD K "length_of" "length_of" (defArgs (top 49)) (defBody (top 49)) (defScope (top 49)) [] [] ((fun K => He.ga K "length_of") K) fd
  d_shows_length : ∃ fd, FunD K "shows_length" "shows_length" (defArgs (top 59)) (defBody (top 59)) (defScope (top 59)) [] [] ((fun K => He.ga K "shows_length") K) fd
  d_undone_row : ∃ fd, FunD K "undone_row" "undone_row" (defArgs (top 51)) (defBody (top 51)) (defScope (top 51)) [] [] ((fun K => He.ga K "undone_row") K) fd
  d_shows_same : ∃ fd, FunD K "shows_same" "shows_same" (defArgs (top 60)) (defBody (top 60)) (defScope (top 60)) [] [] ((fun K => He.ga K "shows_same") K) fd
  d_only : ∃ fd, FunD K "only" "only" (defArgs (top 15)) (defBody (top 15)) (defScope (top 15)) [] [] ((fun K => He.ga K "only") K) fd
  d_left_of : ∃ fd, FunD K "left_of" "left_of" (defArgs (top 42)) (defBody (top 42)) (defScope (top 42)) [] [] ((fun K => He.ga K "left_of") K) fd
  d_parts_of : ∃ fd, FunD K "parts_of" "parts_of" (defArgs (top 44)) (defBody (top 44)) (defScope (top 44)) [] [] ((fun K => He.ga K "parts_of") K) fd
  d_has_all : ∃ fd, FunD K "has_all" "has_all" (defArgs (top 45)) (defBody (top 45)) (defScope (top 45)) [] [] ((fun K => He.ga K "has_all") K) fd
  d_least : ∃ fd, FunD K "least" "least" (defArgs (top 46)) (defBody (top 46)) (defScope (top 46)) [] [] ((fun K => He.ga K "least") K) fd
  d_cuts_of : ∃ fd, FunD K "cuts_of" "cuts_of" (defArgs (top 47)) (defBody (top 47)) (defScope (top 47)) [] [] ((fun K => He.ga K "cuts_of") K) fd
  d_pegs_in : ∃ fd, FunD K "pegs_in" "pegs_in" (defArgs (top 52)) (defBody (top 52)) (defScope (top 52)) [] [] ((fun K => He.ga K "pegs_in") K) fd
  d_are_pegs : ∃ fd, FunD K "are_pegs" "are_pegs" (defArgs (top 12)) (defBody (top 12)) (defScope (top 12)) [] [] ((fun K => He.ga K "are_pegs") K) fd
  d_are_lots : ∃ fd, FunD K "are_lots" "are_lots" (defArgs (top 61)) (defBody (top 61)) (defScope (top 61)) [] [] ((fun K => He.ga K "are_lots") K) fd
  d_shows_lots : ∃ fd, FunD K "shows_lots" "shows_lots" (defArgs (top 62)) (defBody (top 62)) (defScope (top 62)) [] [] ((fun K => He.ga K "shows_lots") K) fd
  d_accepts : ∃ fd, FunD K "accepts" "accepts" (defArgs (top 64)) (defBody (top 64)) (defScope (top 64)) [] [] ((fun K => He.ga K "accepts") K) fd
  d_law_bag : ∃ fd, FunD K "_law_bag" "_law_bag" (defArgs (top 66)) (defBody (top 66)) (defScope (top 66)) [] [] ((fun K => He.ga K "_law_bag") K) fd
  d_law_menu : ∃ fd, FunD K "_law_menu" "_law_menu" (defArgs (top 69)) (defBody (top 69)) (defScope (top 69)) [] [] ((fun K => He.ga K "_law_menu") K) fd
  d_law_take : ∃ fd, FunD K "_law_take" "_law_take" (defArgs (top 67)) (defBody (top 67)) (defScope (top 67)) [] [] ((fun K => He.ga K "_law_take") K) fd
  d_law_of : ∃ fd, FunD K "_law_of" "_law_of" (defArgs (top 68)) (defBody (top 68)) (defScope (top 68)) [] [] ((fun K => He.ga K "_law_of") K) fd
  d_law_with__0 : ∃ fd, FunD K "_law_with" "_law_with" (defArgs (top 70)) (defBody (top 70)) (defScope (top 70)) [] [] ((fun K => He.ga K "_law_with") K) fd
  d_law_with__1 : ∃ fd, FunD K "_law_with" "_law_with" (defArgs (top 70)) (defBody (top 70)) (defScope (top 70)) [] [] ((fun K => He.ga K "_law_with") K) fd
  d_law_with__2 : ∃ fd, FunD K "_law_with" "_law_with" (defArgs (top 70)) (defBody (top 70)) (defScope (top 70)) [] [] ((fun K => He.ga K "_law_with") K) fd
  d_law_with__3 : ∃ fd, FunD K "_law_with" "_law_with" (defArgs (top 70)) (defBody (top 70)) (defScope (top 70)) [] [] ((fun K => He.ga K "_law_with") K) fd
  d_law_with__4 : ∃ fd, FunD K "_law_with" "_law_with" (defArgs (top 70)) (defBody (top 70)) (defScope (top 70)) [] [] ((fun K => He.ga K "_law_with") K) fd
  d_law_with__5 : ∃ fd, FunD K "_law_with" "_law_with" (defArgs (top 70)) (defBody (top 70)) (defScope (top 70)) [] [] ((fun K => He.ga K "_law_with") K) fd
  d_law_with__6 : ∃ fd, FunD K "_law_with" "_law_with" (defArgs (top 70)) (defBody (top 70)) (defScope (top 70)) [] [] ((fun K => He.ga K "_law_with") K) fd
  d_law_wrong : ∃ fd, FunD K "_law_wrong" "_law_wrong" (defArgs (top 71)) (defBody (top 71)) (defScope (top 71)) [] [] ((fun K => He.ga K "_law_wrong") K) fd
  d_law_right : ∃ fd, FunD K "_law_right" "_law_right" (defArgs (top 72)) (defBody (top 72)) (defScope (top 72)) [] [] ((fun K => He.ga K "_law_right") K) fd
  d_law : ∃ fd, FunD K "law" "law" (defArgs (top 73)) (defBody (top 73)) (defScope (top 73)) [] [] ((fun K => He.ga K "law") K) fd
structure HdT (w : World) (mg : Str → Option Value) (K : PySem.W.Frag) (base : Heap) : Prop extends Hd w mg K where
  tb : ∀ p ∈ tabsOf tf K, LamX.TabB base mg p.1 p.2
section
variable {P : Program} {w : World} {K : PySem.W.Frag} {mg : Str → Option Value} {base : Heap}
theorem tb_parts_of (h : HdT w mg K base) : LamX.TabB base mg (He.codeOf K ("parts_of", none)) (Γ K 1000) := h.tb (He.cT K ("parts_of", none)) (List.mem_of_getElem? (i := 0) rfl)
theorem sc_is_integer : FnScope ["value"] ["value"] (defScope (top 8)) := ⟨rfl, rfl, rfl, by decide +kernel, rfl, by decide +kernel, by decide +kernel⟩
theorem b_is_integer (h : HdT w mg K base) {fd : FuncData} (D : FunD K "is_integer" "is_integer" (defArgs (top 8)) (defBody (top 8)) (defScope (top 8)) [] [] ((fun K => He.ga K "is_integer") K) fd) : FnB P w K mg base 1 ((fun K => He.ga K "is_integer") K) fd ["value"] (spD ⟨K, Γ K⟩ (F_is_integer U)) :=
  def_ok D sc_is_integer _ fun cdv A outer s H E G =>
    (pssd_one (psd_ret (pd_and (pd_isi h.is_int (.ty "int") (pdb (pd_var 0)) (pe_bltn (v := .ty "int") (by rfl) h.b_int (by decide +kernel) rfl (by decide)) h.b_isinstance) (pd_one (pd_not (pd_isi h.is_bool (.ty "bool") (pdb (pd_var 0)) (pe_bltn (v := .ty "bool") (by rfl) h.b_bool (by decide +kernel) rfl (by decide)) h.b_isinstance))))))
theorem v_is_integer (h : HdT w mg K base) : FnV P w K mg base 1 ((fun K => He.ga K "is_integer") K) (spD ⟨K, Γ K⟩ (F_is_integer U)) := by
  obtain ⟨fd, D⟩ := h.d_is_integer
  exact (b_is_integer h D).v D (fun _ _ _ _ _ _ us hl => match us, hl with | [_], _ => rfl)
theorem k_is_integer (h : HdT w mg K base) : Kn P w K mg base (Γ K) 1 "is_integer" [] (F_is_integer U) := by
  obtain ⟨fd, D⟩ := h.d_is_integer
  exact ⟨_, h.g_is_integer, D.kp, Cal.fn0 (v_is_integer h)⟩
theorem sc_is_between : FnScope ["value", "low", "high"] ["value", "low", "high"] (defScope (top 9)) := ⟨rfl, rfl, rfl, by decide +kernel, rfl, by decide +kernel, by decide +kernel⟩
theorem b_is_between (h : HdT w mg K base) {fd : FuncData} (D : FunD K "is_between" "is_between" (defArgs (top 9)) (defBody (top 9)) (defScope (top 9)) [] [] ((fun K => He.ga K "is_between") K) fd) : FnB P w K mg base 2 ((fun K => He.ga K "is_between") K) fd ["value", "low", "high"] (spD ⟨K, Γ K⟩ (F_is_between U)) :=
  def_ok D sc_is_between _ fun cdv A outer s H E G =>
    (pssd_one (psd_ret (pd_and (pd_call G (k_is_integer h) (pad_cons (pd_var 0) pad_nil)) (pd_one (pd_chain opd_le opd_le (pdb (pd_var 1)) (pdb (pd_var 0)) (pdb (pd_var 2)))))))
theorem v_is_between (h : HdT w mg K base) : FnV P w K mg base 2 ((fun K => He.ga K "is_between") K) (spD ⟨K, Γ K⟩ (F_is_between U)) := by
  obtain ⟨fd, D⟩ := h.d_is_between
  exact (b_is_between h D).v D (fun _ _ _ _ _ _ us hl => match us, hl with | [_, _, _], _ => rfl)
theorem k_is_between (h : HdT w mg K base) : Kn P w K mg base (Γ K) 2 "is_between" [] (F_is_between U) := by
  obtain ⟨fd, D⟩ := h.d_is_between
  exact ⟨_, h.g_is_between, D.kp, Cal.fn0 (v_is_between h)⟩
theorem sc_is_word : FnScope ["value", "sign"] ["value"] (defScope (top 11)) := ⟨rfl, rfl, rfl, by decide +kernel, rfl, by decide +kernel, by decide +kernel⟩
theorem b_is_word (h : HdT w mg K base) {fd : FuncData} (D : FunD K "is_word" "is_word" (defArgs (top 11)) (defBody (top 11)) (defScope (top 11)) [] [] ((fun K => He.ga K "is_word") K) fd) : FnB P w K mg base 1 ((fun K => He.ga K "is_word") K) fd ["value"] (spD ⟨K, Γ K⟩ (F_is_word U)) :=
  def_ok D sc_is_word _ fun cdv A outer s H E G =>
    (pssd_one (psd_ret (pd_and (pd_isi h.is_str (.ty "str") (pdb (pd_var 0)) (pe_bltn (v := .ty "str") (by rfl) h.b_str (by decide +kernel) rfl (by decide)) h.b_isinstance) (pd_one (pd_call1 (cd_all G.calm) h.b_all (pdb (pdf (pf_comp (own := [("sign", 1)]) (tup := false) (is := [1]) G.calm sc_is_word.nd (pid_seq (pd_var 0)) ⟨rfl, of_decide_eq_true (by kernel_rfl), of_decide_eq_true (by kernel_rfl), of_decide_eq_true (by kernel_rfl), of_decide_eq_true (by kernel_rfl)⟩ (fun _ _ _ _ _ => (pgc_name sc_is_word.nd)) (fun _ _ _ _ _ => ptsd_nil) (fun _ _ _ _ _ => (pd_cmp (opd_inO (G.blk _ _ _ _ _)) (pdb (pd_var 1)) (pdb (pd_gstr h.c_LETTERS))))))))))))
theorem v_is_word (h : HdT w mg K base) : FnV P w K mg base 1 ((fun K => He.ga K "is_word") K) (spD ⟨K, Γ K⟩ (F_is_word U)) := by
  obtain ⟨fd, D⟩ := h.d_is_word
  exact (b_is_word h D).v D (fun _ _ _ _ _ _ us hl => match us, hl with | [_], _ => rfl)
theorem k_is_word (h : HdT w mg K base) : Kn P w K mg base (Γ K) 1 "is_word" [] (F_is_word U) := by
  obtain ⟨fd, D⟩ := h.d_is_word
  exact ⟨_, h.g_is_word, D.kp, Cal.fn0 (v_is_word h)⟩
theorem sc_is_block : FnScope ["value"] ["value"] (defScope (top 40)) := ⟨rfl, rfl, rfl, by decide +kernel, rfl, by decide +kernel, by decide +kernel⟩
theorem b_is_block (h : HdT w mg K base) {fd : FuncData} (D : FunD K "is_block" "is_block" (defArgs (top 40)) (defBody (top 40)) (defScope (top 40)) [] [] ((fun K => He.ga K "is_block") K) fd) : FnB P w K mg base 3 ((fun K => He.ga K "is_block") K) fd ["value"] (spD ⟨K, Γ K⟩ (F_is_block U)) :=
  def_ok D sc_is_block _ fun cdv A outer s H E G =>
    (pssd_cons (psd_if (PW.pt (pwd_or (ptd_not (pt_tru (pdb (pd_isi h.is_tuple (.ty "tuple") (pdb (pd_var 0)) (pe_bltn (v := .ty "tuple") (by rfl) h.b_tuple (by decide +kernel) rfl (by decide)) h.b_isinstance)))) (pwd_or (pt_cmp (opd_ne G.rm.units) (pdb (pd_call1 cd_len h.b_len (pdb (pd_var 0)))) (pdb (pd_gint h.c_ITEMS))) (pwd1 (ptd_not (pt_tru (pdb (pd_call G (k_is_word h) (pad_cons (pd_ix (pdb (pd_var 0)) (pdb pd_int)) pad_nil))))) _)))) (pssd_one (psd_ret pd_bl)) pssd_nil) (pssd_cons (psd_if (PW.pt (pwd_or (ptd_not (pt_chainD opd_le opd_le (pdb pd_int) (pdb (pd_call1 cd_len h.b_len (pdb (pd_ix (pdb (pd_var 0)) (pdb pd_int))))) (pdb (pd_gint h.c_MOST_WORD)))) (pwd1 (ptd_not (pt_tru (pdb (pd_call G (k_is_between h) (pad_cons (pd_ix (pdb (pd_var 0)) (pdb pd_int)) (pad_cons (pd_op opd_sub (pdb pd_int) (pdb (pd_gint h.c_MOST_TIMES))) (pad_cons (pd_gint h.c_MOST_TIMES) pad_nil))))))) _))) (pssd_one (psd_ret pd_bl)) pssd_nil) (pssd_one (psd_ret (pd_call G (k_is_between h) (pad_cons (pd_ix (pdb (pd_var 0)) (pdb pd_int)) (pad_cons (pd_op opd_sub (pdb pd_int) (pdb (pd_gint h.c_MOST_MORE))) (pad_cons (pd_gint h.c_MOST_MORE) pad_nil))))))))
theorem v_is_block (h : HdT w mg K base) : FnV P w K mg base 3 ((fun K => He.ga K "is_block") K) (spD ⟨K, Γ K⟩ (F_is_block U)) := by
  obtain ⟨fd, D⟩ := h.d_is_block
  exact (b_is_block h D).v D (fun _ _ _ _ _ _ us hl => match us, hl with | [_], _ => rfl)
theorem k_is_block (h : HdT w mg K base) : Kn P w K mg base (Γ K) 3 "is_block" [] (F_is_block U) := by
  obtain ⟨fd, D⟩ := h.d_is_block
  exact ⟨_, h.g_is_block, D.kp, Cal.fn0 (v_is_block h)⟩
theorem sc_are_blocks : FnScope ["value", "block"] ["value"] (defScope (top 41)) := ⟨rfl, rfl, rfl, by decide +kernel, rfl, by decide +kernel, by decide +kernel⟩
theorem b_are_blocks (h : HdT w mg K base) {fd : FuncData} (D : FunD K "are_blocks" "are_blocks" (defArgs (top 41)) (defBody (top 41)) (defScope (top 41)) [] [] ((fun K => He.ga K "are_blocks") K) fd) : FnB P w K mg base 4 ((fun K => He.ga K "are_blocks") K) fd ["value"] (spD ⟨K, Γ K⟩ (F_are_blocks U)) :=
  def_ok D sc_are_blocks _ fun cdv A outer s H E G =>
    (pssd_cons (psd_if (PW.pt (pwd_or (ptd_not (pt_tru (pdb (pd_isi h.is_tuple (.ty "tuple") (pdb (pd_var 0)) (pe_bltn (v := .ty "tuple") (by rfl) h.b_tuple (by decide +kernel) rfl (by decide)) h.b_isinstance)))) (pwd1 (pt_cmp opd_gt (pdb (pd_call1 cd_len h.b_len (pdb (pd_var 0)))) (pdb (pd_gint h.c_MOST_BLOCKS))) _))) (pssd_one (psd_ret pd_bl)) pssd_nil) (pssd_one (psd_ret (pd_call1 (cd_all G.calm) h.b_all (pdb (pdf (pf_comp (own := [("block", 1)]) (tup := false) (is := [1]) G.calm sc_are_blocks.nd (pid_seq (pd_var 0)) ⟨rfl, of_decide_eq_true (by kernel_rfl), of_decide_eq_true (by kernel_rfl), of_decide_eq_true (by kernel_rfl), of_decide_eq_true (by kernel_rfl)⟩ (fun _ _ _ _ _ => (pgc_name sc_are_blocks.nd)) (fun _ _ _ _ _ => ptsd_nil) (fun _ _ _ _ _ => (pd_call (G.blk _ _ _ _ _) (k_is_block h) (pad_cons (pd_var 1) pad_nil))))))))))
theorem v_are_blocks (h : HdT w mg K base) : FnV P w K mg base 4 ((fun K => He.ga K "are_blocks") K) (spD ⟨K, Γ K⟩ (F_are_blocks U)) := by
  obtain ⟨fd, D⟩ := h.d_are_blocks
  exact (b_are_blocks h D).v D (fun _ _ _ _ _ _ us hl => match us, hl with | [_], _ => rfl)
theorem k_are_blocks (h : HdT w mg K base) : Kn P w K mg base (Γ K) 4 "are_blocks" [] (F_are_blocks U) := by
  obtain ⟨fd, D⟩ := h.d_are_blocks
  exact ⟨_, h.g_are_blocks, D.kp, Cal.fn0 (v_are_blocks h)⟩
theorem sc_is_step : FnScope ["value", "count", "number"] ["value", "count"] (defScope (top 20)) := ⟨rfl, rfl, rfl, by decide +kernel, rfl, by decide +kernel, by decide +kernel⟩
theorem b_is_step (h : HdT w mg K base) {fd : FuncData} (D : FunD K "is_step" "is_step" (defArgs (top 20)) (defBody (top 20)) (defScope (top 20)) [] [] ((fun K => He.ga K "is_step") K) fd) : FnB P w K mg base 3 ((fun K => He.ga K "is_step") K) fd ["value", "count"] (spD ⟨K, Γ K⟩ (F_is_step U)) :=
  def_ok D sc_is_step _ fun cdv A outer s H E G =>
    (pssd_cons (psd_if (PW.pt (pwd_or (ptd_not (pt_tru (pdb (pd_isi h.is_tuple (.ty "tuple") (pdb (pd_var 0)) (pe_bltn (v := .ty "tuple") (by rfl) h.b_tuple (by decide +kernel) rfl (by decide)) h.b_isinstance)))) (pwd_or (pt_cmp (opd_eq G.rm.units) (pdb (pd_call1 cd_len h.b_len (pdb (pd_var 0)))) (pdb pd_int)) (pwd_or (ptd_not (pt_tru (pdb (pd_isi h.is_str (.ty "str") (pdb (pd_ix (pdb (pd_var 0)) (pdb pd_int))) (pe_bltn (v := .ty "str") (by rfl) h.b_str (by decide +kernel) rfl (by decide)) h.b_isinstance)))) (pwd1 (pt_notInG h.t_SIZES (pd_ix (pdb (pd_var 0)) (pdb pd_int))) _))))) (pssd_one (psd_ret pd_bl)) pssd_nil) (pssd_cons (psd_if (PW.pt (pwd_or (pt_cmp (opd_ne G.rm.units) (pdb (pd_call1 cd_len h.b_len (pdb (pd_var 0)))) (pdb (pd_ixG h.t_SIZES (pd_ix (pdb (pd_var 0)) (pdb pd_int))))) (pwd1 (ptd_not (pt_tru (pdb (pd_call1 (cd_all G.calm) h.b_all (pdb (pdf (pf_comp (own := [("number", 2)]) (tup := false) (is := [2]) G.calm sc_is_step.nd (pid_seq (pd_slice (pdb (pd_var 0)) (pod_some pd_int) pod_none)) ⟨rfl, of_decide_eq_true (by kernel_rfl), of_decide_eq_true (by kernel_rfl), of_decide_eq_true (by kernel_rfl), of_decide_eq_true (by kernel_rfl)⟩ (fun _ _ _ _ _ => (pgc_name sc_is_step.nd)) (fun _ _ _ _ _ => ptsd_nil) (fun _ _ _ _ _ => (pd_call (G.blk _ _ _ _ _) (k_is_integer h) (pad_cons (pd_var 2) pad_nil)))))))))) _))) (pssd_one (psd_ret pd_bl)) pssd_nil) (pssd_one (psd_ret (pd_call G (k_is_between h) (pad_cons (pd_ix (pdb (pd_var 0)) (pdb pd_int)) (pad_cons pd_int (pad_cons (pd_if (pt_cmp (opd_inO G) (pdb (pd_ix (pdb (pd_var 0)) (pdb pd_int))) (pdb (pd_gtup (zs := ["join", "glue", "back"]) h.c_PAIRS))) (pd_op opd_sub (pdb (pd_var 1)) (pdb pd_int)) (pd_op opd_sub (pdb (pd_var 1)) (pdb pd_int))) pad_nil))))))))
theorem v_is_step (h : HdT w mg K base) : FnV P w K mg base 3 ((fun K => He.ga K "is_step") K) (spD ⟨K, Γ K⟩ (F_is_step U)) := by
  obtain ⟨fd, D⟩ := h.d_is_step
  exact (b_is_step h D).v D (fun _ _ _ _ _ _ us hl => match us, hl with | [_, _], _ => rfl)
theorem k_is_step (h : HdT w mg K base) : Kn P w K mg base (Γ K) 3 "is_step" [] (F_is_step U) := by
  obtain ⟨fd, D⟩ := h.d_is_step
  exact ⟨_, h.g_is_step, D.kp, Cal.fn0 (v_is_step h)⟩
theorem sc_left_out : FnScope ["item"] ["item"] (defScope (top 21)) := ⟨rfl, rfl, rfl, by decide +kernel, rfl, by decide +kernel, by decide +kernel⟩
theorem b_left_out (h : HdT w mg K base) {fd : FuncData} (D : FunD K "left_out" "left_out" (defArgs (top 21)) (defBody (top 21)) (defScope (top 21)) [] [] ((fun K => He.ga K "left_out") K) fd) : FnB P w K mg base 1 ((fun K => He.ga K "left_out") K) fd ["item"] (spD ⟨K, Γ K⟩ (F_left_out U)) :=
  def_ok D sc_left_out _ fun cdv A outer s H E G =>
    (pssd_one (psd_ret (pd_if (PW.pt (pwd_or (pt_cmp (opd_eq G.rm.units) (pdb (pd_ix (pdb (pd_var 0)) (pdb pd_int))) (pdb pd_str)) (pwd1 (PW.pt (pwd_and (pt_cmp (opd_eq G.rm.units) (pdb (pd_ix (pdb (pd_var 0)) (pdb pd_int))) (pdb pd_int)) (pwd1 (pt_cmp (opd_eq G.rm.units) (pdb (pd_ix (pdb (pd_var 0)) (pdb pd_int))) (pdb pd_int)) _))) _))) (pd_tup pad_nil) pd_non)))
theorem v_left_out (h : HdT w mg K base) : FnV P w K mg base 1 ((fun K => He.ga K "left_out") K) (spD ⟨K, Γ K⟩ (F_left_out U)) := by
  obtain ⟨fd, D⟩ := h.d_left_out
  exact (b_left_out h D).v D (fun _ _ _ _ _ _ us hl => match us, hl with | [_], _ => rfl)
theorem k_left_out (h : HdT w mg K base) : Kn P w K mg base (Γ K) 1 "left_out" [] (F_left_out U) := by
  obtain ⟨fd, D⟩ := h.d_left_out
  exact ⟨_, h.g_left_out, D.kp, Cal.fn0 (v_left_out h)⟩
theorem sc_undone_word : FnScope ["word", "letter"] ["word"] (defScope (top 14)) := ⟨rfl, rfl, rfl, by decide +kernel, rfl, by decide +kernel, by decide +kernel⟩
theorem b_undone_word (h : HdT w mg K base) {fd : FuncData} (D : FunD K "undone_word" "undone_word" (defArgs (top 14)) (defBody (top 14)) (defScope (top 14)) [] [] ((fun K => He.ga K "undone_word") K) fd) : FnB P w K mg base 1 ((fun K => He.ga K "undone_word") K) fd ["word"] (spD ⟨K, Γ K⟩ (F_undone_word U)) :=
  def_ok D sc_undone_word _ fun cdv A outer s H E G =>
    (pssd_one (psd_ret (pd_join pd_str (pdb (pdf (pf_comp (own := [("letter", 1)]) (tup := false) (is := [1]) G.calm sc_undone_word.nd (pid_seq (pd_rev (pdb (pd_var 0)))) ⟨rfl, of_decide_eq_true (by kernel_rfl), of_decide_eq_true (by kernel_rfl), of_decide_eq_true (by kernel_rfl), of_decide_eq_true (by kernel_rfl)⟩ (fun _ _ _ _ _ => (pgc_name sc_undone_word.nd)) (fun _ _ _ _ _ => ptsd_nil) (fun _ _ _ _ _ => (pd_if (pt_cmp (opd_inO (G.blk _ _ _ _ _)) (pdb (pd_var 1)) (pdb (pd_slice (pdb (pd_gstr h.c_LETTERS)) (pod_some pd_int) pod_none))) (pd_lower (pd_var 1)) (pd_upper (pd_var 1))))))))))
theorem v_undone_word (h : HdT w mg K base) : FnV P w K mg base 1 ((fun K => He.ga K "undone_word") K) (spD ⟨K, Γ K⟩ (F_undone_word U)) := by
  obtain ⟨fd, D⟩ := h.d_undone_word
  exact (b_undone_word h D).v D (fun _ _ _ _ _ _ us hl => match us, hl with | [_], _ => rfl)
theorem k_undone_word (h : HdT w mg K base) : Kn P w K mg base (Γ K) 1 "undone_word" [] (F_undone_word U) := by
  obtain ⟨fd, D⟩ := h.d_undone_word
  exact ⟨_, h.g_undone_word, D.kp, Cal.fn0 (v_undone_word h)⟩
theorem sc_turned : FnScope ["item"] ["item"] (defScope (top 22)) := ⟨rfl, rfl, rfl, by decide +kernel, rfl, by decide +kernel, by decide +kernel⟩
theorem b_turned (h : HdT w mg K base) {fd : FuncData} (D : FunD K "turned" "turned" (defArgs (top 22)) (defBody (top 22)) (defScope (top 22)) [] [] ((fun K => He.ga K "turned") K) fd) : FnB P w K mg base 2 ((fun K => He.ga K "turned") K) fd ["item"] (spD ⟨K, Γ K⟩ (F_turned U)) :=
  def_ok D sc_turned _ fun cdv A outer s H E G =>
    (pssd_one (psd_ret (pd_tup (pad_cons (pd_tup (pad_cons (pd_call G (k_undone_word h) (pad_cons (pd_ix (pdb (pd_var 0)) (pdb pd_int)) pad_nil)) (pad_cons (pd_op opd_sub (pdb pd_int) (pdb (pd_ix (pdb (pd_var 0)) (pdb pd_int)))) (pad_cons (pd_op opd_sub (pdb pd_int) (pdb (pd_ix (pdb (pd_var 0)) (pdb pd_int)))) pad_nil)))) pad_nil))))
theorem v_turned (h : HdT w mg K base) : FnV P w K mg base 2 ((fun K => He.ga K "turned") K) (spD ⟨K, Γ K⟩ (F_turned U)) := by
  obtain ⟨fd, D⟩ := h.d_turned
  exact (b_turned h D).v D (fun _ _ _ _ _ _ us hl => match us, hl with | [_], _ => rfl)
theorem k_turned (h : HdT w mg K base) : Kn P w K mg base (Γ K) 2 "turned" [] (F_turned U) := by
  obtain ⟨fd, D⟩ := h.d_turned
  exact ⟨_, h.g_turned, D.kp, Cal.fn0 (v_turned h)⟩
theorem sc_joined : FnScope ["item", "more"] ["item", "more"] (defScope (top 23)) := ⟨rfl, rfl, rfl, by decide +kernel, rfl, by decide +kernel, by decide +kernel⟩
theorem b_joined (h : HdT w mg K base) {fd : FuncData} (D : FunD K "joined" "joined" (defArgs (top 23)) (defBody (top 23)) (defScope (top 23)) [] [] ((fun K => He.ga K "joined") K) fd) : FnB P w K mg base 1 ((fun K => He.ga K "joined") K) fd ["item", "more"] (spD ⟨K, Γ K⟩ (F_joined U)) :=
  def_ok D sc_joined _ fun cdv A outer s H E G =>
    (pssd_one (psd_ret (pd_if (pt_cmp (opd_eq G.rm.units) (pdb (pd_ix (pdb (pd_var 0)) (pdb pd_int))) (pdb (pd_ix (pdb (pd_var 1)) (pdb pd_int)))) (pd_tup (pad_cons (pd_tup (pad_cons (pd_ix (pdb (pd_var 0)) (pdb pd_int)) (pad_cons (pd_op opd_add (pdb (pd_ix (pdb (pd_var 0)) (pdb pd_int))) (pdb (pd_ix (pdb (pd_var 1)) (pdb pd_int)))) (pad_cons (pd_op opd_add (pdb (pd_ix (pdb (pd_var 0)) (pdb pd_int))) (pdb (pd_ix (pdb (pd_var 1)) (pdb pd_int)))) pad_nil)))) pad_nil)) pd_non)))
theorem v_joined (h : HdT w mg K base) : FnV P w K mg base 1 ((fun K => He.ga K "joined") K) (spD ⟨K, Γ K⟩ (F_joined U)) := by
  obtain ⟨fd, D⟩ := h.d_joined
  exact (b_joined h D).v D (fun _ _ _ _ _ _ us hl => match us, hl with | [_, _], _ => rfl)
theorem k_joined (h : HdT w mg K base) : Kn P w K mg base (Γ K) 1 "joined" [] (F_joined U) := by
  obtain ⟨fd, D⟩ := h.d_joined
  exact ⟨_, h.g_joined, D.kp, Cal.fn0 (v_joined h)⟩
theorem sc_parted : FnScope ["item", "times", "over"] ["item", "times", "over"] (defScope (top 24)) := ⟨rfl, rfl, rfl, by decide +kernel, rfl, by decide +kernel, by decide +kernel⟩
theorem b_parted (h : HdT w mg K base) {fd : FuncData} (D : FunD K "parted" "parted" (defArgs (top 24)) (defBody (top 24)) (defScope (top 24)) [] [] ((fun K => He.ga K "parted") K) fd) : FnB P w K mg base 1 ((fun K => He.ga K "parted") K) fd ["item", "times", "over"] (spD ⟨K, Γ K⟩ (F_parted U)) :=
  def_ok D sc_parted _ fun cdv A outer s H E G =>
    (pssd_one (psd_ret (pd_tup (pad_cons (pd_tup (pad_cons (pd_ix (pdb (pd_var 0)) (pdb pd_int)) (pad_cons (pd_op opd_sub (pdb (pd_ix (pdb (pd_var 0)) (pdb pd_int))) (pdb (pd_var 1))) (pad_cons (pd_op opd_sub (pdb (pd_ix (pdb (pd_var 0)) (pdb pd_int))) (pdb (pd_var 2))) pad_nil)))) (pad_cons (pd_tup (pad_cons (pd_ix (pdb (pd_var 0)) (pdb pd_int)) (pad_cons (pd_var 1) (pad_cons (pd_var 2) pad_nil)))) pad_nil)))))
theorem v_parted (h : HdT w mg K base) : FnV P w K mg base 1 ((fun K => He.ga K "parted") K) (spD ⟨K, Γ K⟩ (F_parted U)) := by
  obtain ⟨fd, D⟩ := h.d_parted
  exact (b_parted h D).v D (fun _ _ _ _ _ _ us hl => match us, hl with | [_, _, _], _ => rfl)
theorem k_parted (h : HdT w mg K base) : Kn P w K mg base (Γ K) 1 "parted" [] (F_parted U) := by
  obtain ⟨fd, D⟩ := h.d_parted
  exact ⟨_, h.g_parted, D.kp, Cal.fn0 (v_parted h)⟩
theorem sc_is_plain : FnScope ["item"] ["item"] (defScope (top 19)) := ⟨rfl, rfl, rfl, by decide +kernel, rfl, by decide +kernel, by decide +kernel⟩
theorem b_is_plain (h : HdT w mg K base) {fd : FuncData} (D : FunD K "is_plain" "is_plain" (defArgs (top 19)) (defBody (top 19)) (defScope (top 19)) [] [] ((fun K => He.ga K "is_plain") K) fd) : FnB P w K mg base 1 ((fun K => He.ga K "is_plain") K) fd ["item"] (spD ⟨K, Γ K⟩ (F_is_plain U)) :=
  def_ok D sc_is_plain _ fun cdv A outer s H E G =>
    (pssd_one (psd_ret (pd_and (pd_cmp (opd_eq G.rm.units) (pdb (pd_ix (pdb (pd_var 0)) (pdb pd_int))) (pdb pd_int)) (pd_one (pd_cmp (opd_eq G.rm.units) (pdb (pd_ix (pdb (pd_var 0)) (pdb pd_int))) (pdb pd_int))))))
theorem v_is_plain (h : HdT w mg K base) : FnV P w K mg base 1 ((fun K => He.ga K "is_plain") K) (spD ⟨K, Γ K⟩ (F_is_plain U)) := by
  obtain ⟨fd, D⟩ := h.d_is_plain
  exact (b_is_plain h D).v D (fun _ _ _ _ _ _ us hl => match us, hl with | [_], _ => rfl)
theorem k_is_plain (h : HdT w mg K base) : Kn P w K mg base (Γ K) 1 "is_plain" [] (F_is_plain U) := by
  obtain ⟨fd, D⟩ := h.d_is_plain
  exact ⟨_, h.g_is_plain, D.kp, Cal.fn0 (v_is_plain h)⟩
theorem sc_cut_at : FnScope ["item", "size"] ["item", "size"] (defScope (top 25)) := ⟨rfl, rfl, rfl, by decide +kernel, rfl, by decide +kernel, by decide +kernel⟩
theorem b_cut_at (h : HdT w mg K base) {fd : FuncData} (D : FunD K "cut_at" "cut_at" (defArgs (top 25)) (defBody (top 25)) (defScope (top 25)) [] [] ((fun K => He.ga K "cut_at") K) fd) : FnB P w K mg base 2 ((fun K => He.ga K "cut_at") K) fd ["item", "size"] (spD ⟨K, Γ K⟩ (F_cut_at U)) :=
  def_ok D sc_cut_at _ fun cdv A outer s H E G =>
    (pssd_cons (psd_if (PW.pt (pwd_or (ptd_not (pt_tru (pdb (pd_call G (k_is_plain h) (pad_cons (pd_var 0) pad_nil))))) (pwd1 (ptd_not (pt_chainD opd_lt opd_lt (pdb pd_int) (pdb (pd_var 1)) (pdb (pd_call1 cd_len h.b_len (pdb (pd_ix (pdb (pd_var 0)) (pdb pd_int))))))) _))) (pssd_one (psd_ret pd_non)) pssd_nil) (pssd_one (psd_ret (pd_tup (pad_cons (pd_tup (pad_cons (pd_slice (pdb (pd_ix (pdb (pd_var 0)) (pdb pd_int))) pod_none (pod_some (pd_var 1))) (pad_cons pd_int (pad_cons pd_int pad_nil)))) (pad_cons (pd_tup (pad_cons (pd_slice (pdb (pd_ix (pdb (pd_var 0)) (pdb pd_int))) (pod_some (pd_var 1)) pod_none) (pad_cons pd_int (pad_cons pd_int pad_nil)))) pad_nil))))))
theorem v_cut_at (h : HdT w mg K base) : FnV P w K mg base 2 ((fun K => He.ga K "cut_at") K) (spD ⟨K, Γ K⟩ (F_cut_at U)) := by
  obtain ⟨fd, D⟩ := h.d_cut_at
  exact (b_cut_at h D).v D (fun _ _ _ _ _ _ us hl => match us, hl with | [_, _], _ => rfl)
theorem k_cut_at (h : HdT w mg K base) : Kn P w K mg base (Γ K) 2 "cut_at" [] (F_cut_at U) := by
  obtain ⟨fd, D⟩ := h.d_cut_at
  exact ⟨_, h.g_cut_at, D.kp, Cal.fn0 (v_cut_at h)⟩
theorem sc_glued : FnScope ["item", "more"] ["item", "more"] (defScope (top 26)) := ⟨rfl, rfl, rfl, by decide +kernel, rfl, by decide +kernel, by decide +kernel⟩
theorem b_glued (h : HdT w mg K base) {fd : FuncData} (D : FunD K "glued" "glued" (defArgs (top 26)) (defBody (top 26)) (defScope (top 26)) [] [] ((fun K => He.ga K "glued") K) fd) : FnB P w K mg base 2 ((fun K => He.ga K "glued") K) fd ["item", "more"] (spD ⟨K, Γ K⟩ (F_glued U)) :=
  def_ok D sc_glued _ fun cdv A outer s H E G =>
    (pssd_one (psd_ret (pd_if (PW.pt (pwd_and (pt_tru (pdb (pd_call G (k_is_plain h) (pad_cons (pd_var 0) pad_nil)))) (pwd1 (pt_tru (pdb (pd_call G (k_is_plain h) (pad_cons (pd_var 1) pad_nil)))) _))) (pd_tup (pad_cons (pd_tup (pad_cons (pd_op opd_add (pdb (pd_ix (pdb (pd_var 0)) (pdb pd_int))) (pdb (pd_ix (pdb (pd_var 1)) (pdb pd_int)))) (pad_cons pd_int (pad_cons pd_int pad_nil)))) pad_nil)) pd_non)))
theorem v_glued (h : HdT w mg K base) : FnV P w K mg base 2 ((fun K => He.ga K "glued") K) (spD ⟨K, Γ K⟩ (F_glued U)) := by
  obtain ⟨fd, D⟩ := h.d_glued
  exact (b_glued h D).v D (fun _ _ _ _ _ _ us hl => match us, hl with | [_, _], _ => rfl)
theorem k_glued (h : HdT w mg K base) : Kn P w K mg base (Γ K) 2 "glued" [] (F_glued U) := by
  obtain ⟨fd, D⟩ := h.d_glued
  exact ⟨_, h.g_glued, D.kp, Cal.fn0 (v_glued h)⟩
theorem sc_do_undo : FnScope ["one", "other"] ["one", "other"] (defScope (top 13)) := ⟨rfl, rfl, rfl, by decide +kernel, rfl, by decide +kernel, by decide +kernel⟩
theorem b_do_undo (h : HdT w mg K base) {fd : FuncData} (D : FunD K "do_undo" "do_undo" (defArgs (top 13)) (defBody (top 13)) (defScope (top 13)) [] [] ((fun K => He.ga K "do_undo") K) fd) : FnB P w K mg base 1 ((fun K => He.ga K "do_undo") K) fd ["one", "other"] (spD ⟨K, Γ K⟩ (F_do_undo U)) :=
  def_ok D sc_do_undo _ fun cdv A outer s H E G =>
    (pssd_one (psd_ret (pd_and (pd_cmp (opd_ne G.rm.units) (pdb (pd_var 0)) (pdb (pd_var 1))) (pd_one (pd_cmp (opd_eq G.rm.units) (pdb (pd_lower (pd_var 0))) (pdb (pd_lower (pd_var 1))))))))
theorem v_do_undo (h : HdT w mg K base) : FnV P w K mg base 1 ((fun K => He.ga K "do_undo") K) (spD ⟨K, Γ K⟩ (F_do_undo U)) := by
  obtain ⟨fd, D⟩ := h.d_do_undo
  exact (b_do_undo h D).v D (fun _ _ _ _ _ _ us hl => match us, hl with | [_, _], _ => rfl)
theorem k_do_undo (h : HdT w mg K base) : Kn P w K mg base (Γ K) 1 "do_undo" [] (F_do_undo U) := by
  obtain ⟨fd, D⟩ := h.d_do_undo
  exact ⟨_, h.g_do_undo, D.kp, Cal.fn0 (v_do_undo h)⟩
theorem sc_unpaired : FnScope ["item", "place", "word"] ["item", "place"] (defScope (top 27)) := ⟨rfl, rfl, rfl, by decide +kernel, rfl, by decide +kernel, by decide +kernel⟩
theorem b_unpaired (h : HdT w mg K base) {fd : FuncData} (D : FunD K "unpaired" "unpaired" (defArgs (top 27)) (defBody (top 27)) (defScope (top 27)) [] [] ((fun K => He.ga K "unpaired") K) fd) : FnB P w K mg base 2 ((fun K => He.ga K "unpaired") K) fd ["item", "place"] (spD ⟨K, Γ K⟩ (F_unpaired U)) :=
  def_ok D sc_unpaired _ fun cdv A outer s H E G =>
    (pssd_cons (psd_set sc_unpaired.nd (pd_ix (pdb (pd_var 0)) (pdb pd_int))) (pssd_cons (psd_if (PW.pt (pwd_or (ptd_not (pt_chainD opd_le opd_lt (pdb pd_int) (pdb (pd_var 1)) (pdb (pd_op opd_sub (pdb (pd_call1 cd_len h.b_len (pdb (pd_var 2)))) (pdb pd_int))))) (pwd1 (ptd_not (pt_tru (pdb (pd_call G (k_do_undo h) (pad_cons (pd_ix (pdb (pd_var 2)) (pdb (pd_var 1))) (pad_cons (pd_ix (pdb (pd_var 2)) (pdb (pd_op opd_add (pdb (pd_var 1)) (pdb pd_int)))) pad_nil)))))) _))) (pssd_one (psd_ret pd_non)) pssd_nil) (pssd_one (psd_ret (pd_tup (pad_cons (pd_tup (pad_cons (pd_op opd_add (pdb (pd_slice (pdb (pd_var 2)) pod_none (pod_some (pd_var 1)))) (pdb (pd_slice (pdb (pd_var 2)) (pod_some (pd_op opd_add (pdb (pd_var 1)) (pdb pd_int))) pod_none))) (pad_cons (pd_ix (pdb (pd_var 0)) (pdb pd_int)) (pad_cons (pd_ix (pdb (pd_var 0)) (pdb pd_int)) pad_nil)))) pad_nil))))))
theorem v_unpaired (h : HdT w mg K base) : FnV P w K mg base 2 ((fun K => He.ga K "unpaired") K) (spD ⟨K, Γ K⟩ (F_unpaired U)) := by
  obtain ⟨fd, D⟩ := h.d_unpaired
  exact (b_unpaired h D).v D (fun _ _ _ _ _ _ us hl => match us, hl with | [_, _], _ => rfl)
theorem k_unpaired (h : HdT w mg K base) : Kn P w K mg base (Γ K) 2 "unpaired" [] (F_unpaired U) := by
  obtain ⟨fd, D⟩ := h.d_unpaired
  exact ⟨_, h.g_unpaired, D.kp, Cal.fn0 (v_unpaired h)⟩
theorem sc_passed : FnScope ["item", "more", "size", "word"] ["item", "more", "size"] (defScope (top 28)) := ⟨rfl, rfl, rfl, by decide +kernel, rfl, by decide +kernel, by decide +kernel⟩
theorem b_passed (h : HdT w mg K base) {fd : FuncData} (D : FunD K "passed" "passed" (defArgs (top 28)) (defBody (top 28)) (defScope (top 28)) [] [] ((fun K => He.ga K "passed") K) fd) : FnB P w K mg base 2 ((fun K => He.ga K "passed") K) fd ["item", "more", "size"] (spD ⟨K, Γ K⟩ (F_passed U)) :=
  def_ok D sc_passed _ fun cdv A outer s H E G =>
    (pssd_cons (psd_set sc_passed.nd (pd_ix (pdb (pd_var 0)) (pdb pd_int))) (pssd_cons (psd_if (PW.pt (pwd_or (ptd_not (pt_tru (pdb (pd_call G (k_is_plain h) (pad_cons (pd_var 0) pad_nil))))) (pwd_or (pt_cmp (opd_ne G.rm.units) (pdb (pd_call1 cd_len h.b_len (pdb (pd_var 3)))) (pdb (pd_var 2))) (pwd_or (pt_cmp opd_lt (pdb (pd_var 2)) (pdb pd_int)) (pwd1 (pt_cmp opd_lt (pdb (pd_call1 cd_len h.b_len (pdb (pd_ix (pdb (pd_var 1)) (pdb pd_int))))) (pdb (pd_var 2))) _))))) (pssd_one (psd_ret pd_non)) pssd_nil) (pssd_cons (psd_if (pt_cmp (opd_ne G.rm.units) (pdb (pd_slice (pdb (pd_ix (pdb (pd_var 1)) (pdb pd_int))) (pod_some (pd_op opd_sub (pdb (pd_call1 cd_len h.b_len (pdb (pd_ix (pdb (pd_var 1)) (pdb pd_int))))) (pdb (pd_var 2)))) pod_none)) (pdb (pd_var 3))) (pssd_one (psd_ret pd_non)) pssd_nil) (pssd_one (psd_ret (pd_tup (pad_cons (pd_tup (pad_cons (pd_op opd_add (pdb (pd_var 3)) (pdb (pd_slice (pdb (pd_ix (pdb (pd_var 1)) (pdb pd_int))) pod_none (pod_some (pd_op opd_sub (pdb (pd_call1 cd_len h.b_len (pdb (pd_ix (pdb (pd_var 1)) (pdb pd_int))))) (pdb (pd_var 2))))))) (pad_cons (pd_ix (pdb (pd_var 1)) (pdb pd_int)) (pad_cons (pd_ix (pdb (pd_var 1)) (pdb pd_int)) pad_nil)))) (pad_cons (pd_tup (pad_cons (pd_var 3) (pad_cons pd_int (pad_cons pd_int pad_nil)))) pad_nil))))))))
theorem v_passed (h : HdT w mg K base) : FnV P w K mg base 2 ((fun K => He.ga K "passed") K) (spD ⟨K, Γ K⟩ (F_passed U)) := by
  obtain ⟨fd, D⟩ := h.d_passed
  exact (b_passed h D).v D (fun _ _ _ _ _ _ us hl => match us, hl with | [_, _, _], _ => rfl)
theorem k_passed (h : HdT w mg K base) : Kn P w K mg base (Γ K) 2 "passed" [] (F_passed U) := by
  obtain ⟨fd, D⟩ := h.d_passed
  exact ⟨_, h.g_passed, D.kp, Cal.fn0 (v_passed h)⟩
theorem sc_opened : FnScope ["item", "size", "word", "middle"] ["item", "size"] (defScope (top 29)) := ⟨rfl, rfl, rfl, by decide +kernel, rfl, by decide +kernel, by decide +kernel⟩
theorem b_opened (h : HdT w mg K base) {fd : FuncData} (D : FunD K "opened" "opened" (defArgs (top 29)) (defBody (top 29)) (defScope (top 29)) [] [] ((fun K => He.ga K "opened") K) fd) : FnB P w K mg base 2 ((fun K => He.ga K "opened") K) fd ["item", "size"] (spD ⟨K, Γ K⟩ (F_opened U)) :=
  def_ok D sc_opened _ fun cdv A outer s H E G =>
    (pssd_cons (psd_set sc_opened.nd (pd_ix (pdb (pd_var 0)) (pdb pd_int))) (pssd_cons (psd_if (PW.pt (pwd_or (ptd_not (pt_cmp opd_lt (pdb pd_int) (pdb (pd_var 1)))) (pwd_or (pt_cmp opd_ge (pdb (pd_op opd_mul (pdb pd_int) (pdb (pd_var 1)))) (pdb (pd_call1 cd_len h.b_len (pdb (pd_var 2))))) (pwd1 (pt_cmp (opd_ne G.rm.units) (pdb (pd_call G (k_undone_word h) (pad_cons (pd_slice (pdb (pd_var 2)) pod_none (pod_some (pd_var 1))) pad_nil))) (pdb (pd_slice (pdb (pd_var 2)) (pod_some (pd_op opd_sub (pdb (pd_call1 cd_len h.b_len (pdb (pd_var 2)))) (pdb (pd_var 1)))) pod_none))) _)))) (pssd_one (psd_ret pd_non)) pssd_nil) (pssd_cons (psd_set sc_opened.nd (pd_slice (pdb (pd_var 2)) (pod_some (pd_var 1)) (pod_some (pd_op opd_sub (pdb (pd_call1 cd_len h.b_len (pdb (pd_var 2)))) (pdb (pd_var 1)))))) (pssd_one (psd_ret (pd_tup (pad_cons (pd_tup (pad_cons (pd_slice (pdb (pd_var 2)) pod_none (pod_some (pd_var 1))) (pad_cons pd_int (pad_cons pd_int pad_nil)))) (pad_cons (pd_tup (pad_cons (pd_var 3) (pad_cons (pd_ix (pdb (pd_var 0)) (pdb pd_int)) (pad_cons (pd_ix (pdb (pd_var 0)) (pdb pd_int)) pad_nil)))) (pad_cons (pd_tup (pad_cons (pd_call G (k_undone_word h) (pad_cons (pd_slice (pdb (pd_var 2)) pod_none (pod_some (pd_var 1))) pad_nil)) (pad_cons pd_int (pad_cons pd_int pad_nil)))) pad_nil)))))))))
theorem v_opened (h : HdT w mg K base) : FnV P w K mg base 2 ((fun K => He.ga K "opened") K) (spD ⟨K, Γ K⟩ (F_opened U)) := by
  obtain ⟨fd, D⟩ := h.d_opened
  exact (b_opened h D).v D (fun _ _ _ _ _ _ us hl => match us, hl with | [_, _], _ => rfl)
theorem k_opened (h : HdT w mg K base) : Kn P w K mg base (Γ K) 2 "opened" [] (F_opened U) := by
  obtain ⟨fd, D⟩ := h.d_opened
  exact ⟨_, h.g_opened, D.kp, Cal.fn0 (v_opened h)⟩
theorem sc_rooted : FnScope ["item", "times", "word", "part"] ["item", "times"] (defScope (top 30)) := ⟨rfl, rfl, rfl, by decide +kernel, rfl, by decide +kernel, by decide +kernel⟩
theorem b_rooted (h : HdT w mg K base) {fd : FuncData} (D : FunD K "rooted" "rooted" (defArgs (top 30)) (defBody (top 30)) (defScope (top 30)) [] [] ((fun K => He.ga K "rooted") K) fd) : FnB P w K mg base 1 ((fun K => He.ga K "rooted") K) fd ["item", "times"] (spD ⟨K, Γ K⟩ (F_rooted U)) :=
  def_ok D sc_rooted _ fun cdv A outer s H E G =>
    (pssd_cons (psd_set sc_rooted.nd (pd_ix (pdb (pd_var 0)) (pdb pd_int))) (pssd_cons (psd_if (PW.pt (pwd_or (pt_cmp opd_lt (pdb (pd_var 1)) (pdb pd_int)) (pwd_or (pt_cmp (opd_eq G.rm.units) (pdb (pd_call1 cd_len h.b_len (pdb (pd_var 2)))) (pdb pd_int)) (pwd1 (pt_cmp (opd_ne G.rm.units) (pdb (pd_op opd_mod (pdb (pd_call1 cd_len h.b_len (pdb (pd_var 2)))) (pdb (pd_var 1)))) (pdb pd_int)) _)))) (pssd_one (psd_ret pd_non)) pssd_nil) (pssd_cons (psd_set sc_rooted.nd (pd_slice (pdb (pd_var 2)) pod_none (pod_some (pd_op opd_div (pdb (pd_call1 cd_len h.b_len (pdb (pd_var 2)))) (pdb (pd_var 1)))))) (pssd_one (psd_ret (pd_if (pt_cmp (opd_eq G.rm.units) (pdb (pd_op opd_mul (pdb (pd_var 3)) (pdb (pd_var 1)))) (pdb (pd_var 2))) (pd_tup (pad_cons (pd_tup (pad_cons (pd_var 3) (pad_cons (pd_op opd_mul (pdb (pd_ix (pdb (pd_var 0)) (pdb pd_int))) (pdb (pd_var 1))) (pad_cons (pd_op opd_mul (pdb (pd_ix (pdb (pd_var 0)) (pdb pd_int))) (pdb (pd_var 1))) pad_nil)))) pad_nil)) pd_non))))))
theorem v_rooted (h : HdT w mg K base) : FnV P w K mg base 1 ((fun K => He.ga K "rooted") K) (spD ⟨K, Γ K⟩ (F_rooted U)) := by
  obtain ⟨fd, D⟩ := h.d_rooted
  exact (b_rooted h D).v D (fun _ _ _ _ _ _ us hl => match us, hl with | [_, _], _ => rfl)
theorem k_rooted (h : HdT w mg K base) : Kn P w K mg base (Γ K) 1 "rooted" [] (F_rooted U) := by
  obtain ⟨fd, D⟩ := h.d_rooted
  exact ⟨_, h.g_rooted, D.kp, Cal.fn0 (v_rooted h)⟩
theorem sc_replaced : FnScope ["row", "step", "item", "more"] ["row", "step"] (defScope (top 31)) := ⟨rfl, rfl, rfl, by decide +kernel, rfl, by decide +kernel, by decide +kernel⟩
theorem b_replaced (h : HdT w mg K base) {fd : FuncData} (D : FunD K "replaced" "replaced" (defArgs (top 31)) (defBody (top 31)) (defScope (top 31)) [] [] ((fun K => He.ga K "replaced") K) fd) : FnB P w K mg base 3 ((fun K => He.ga K "replaced") K) fd ["row", "step"] (spD ⟨K, Γ K⟩ (F_replaced U)) :=
  def_ok D sc_replaced _ fun cdv A outer s H E G =>
    (pssd_cons (psd_set sc_replaced.nd (pd_ix (pdb (pd_var 0)) (pdb (pd_ix (pdb (pd_var 1)) (pdb pd_int))))) (pssd_cons (psd_if (pt_cmp (opd_inO G) (pdb (pd_ix (pdb (pd_var 1)) (pdb pd_int))) (pdb (pd_gtup (zs := ["join", "glue", "back"]) h.c_PAIRS))) (pssd_cons (psd_set sc_replaced.nd (pd_ix (pdb (pd_var 0)) (pdb (pd_op opd_add (pdb (pd_ix (pdb (pd_var 1)) (pdb pd_int))) (pdb pd_int))))) (pssd_cons (psd_if (pt_cmp (opd_eq G.rm.units) (pdb (pd_ix (pdb (pd_var 1)) (pdb pd_int))) (pdb pd_str)) (pssd_one (psd_ret (pd_call G (k_passed h) (pad_cons (pd_var 2) (pad_cons (pd_var 3) (pad_cons (pd_ix (pdb (pd_var 1)) (pdb pd_int)) pad_nil)))))) pssd_nil) (pssd_one (psd_ret (pd_if (pt_cmp (opd_eq G.rm.units) (pdb (pd_ix (pdb (pd_var 1)) (pdb pd_int))) (pdb pd_str)) (pd_call G (k_joined h) (pad_cons (pd_var 2) (pad_cons (pd_var 3) pad_nil))) (pd_call G (k_glued h) (pad_cons (pd_var 2) (pad_cons (pd_var 3) pad_nil)))))))) pssd_nil) (pssd_cons (psd_if (pt_cmp (opd_eq G.rm.units) (pdb (pd_ix (pdb (pd_var 1)) (pdb pd_int))) (pdb pd_str)) (pssd_one (psd_ret (pd_call G (k_parted h) (pad_cons (pd_var 2) (pad_cons (pd_ix (pdb (pd_var 1)) (pdb pd_int)) (pad_cons (pd_ix (pdb (pd_var 1)) (pdb pd_int)) pad_nil)))))) pssd_nil) (pssd_cons (psd_if (pt_cmp (opd_eq G.rm.units) (pdb (pd_call1 cd_len h.b_len (pdb (pd_var 1)))) (pdb pd_int)) (pssd_one (psd_ret (pd_if (pt_cmp (opd_eq G.rm.units) (pdb (pd_ix (pdb (pd_var 1)) (pdb pd_int))) (pdb pd_str)) (pd_call G (k_left_out h) (pad_cons (pd_var 2) pad_nil)) (pd_call G (k_turned h) (pad_cons (pd_var 2) pad_nil))))) pssd_nil) (pssd_one (psd_ret (pd_dcall (j := 2) (r := [(.inr "cut", (F_cut_at U)), (.inr "undo", (F_unpaired U)), (.inr "open", (F_opened U)), (.inr "root", (F_rooted U))]) G (pdf_cons (kk := .inr "cut") (k_cut_at h) h.g_cut_at (by exact pe_str) (pdf_cons (kk := .inr "undo") (k_unpaired h) h.g_unpaired (by exact pe_str) (pdf_cons (kk := .inr "open") (k_opened h) h.g_opened (by exact pe_str) (pdf_cons (kk := .inr "root") (k_rooted h) h.g_rooted (by exact pe_str) .nil)))) (pd_ix (pdb (pd_var 1)) (pdb pd_int)) (pad_cons (pd_var 2) (pad_cons (pd_ix (pdb (pd_var 1)) (pdb pd_int)) pad_nil)))))))))
theorem v_replaced (h : HdT w mg K base) : FnV P w K mg base 3 ((fun K => He.ga K "replaced") K) (spD ⟨K, Γ K⟩ (F_replaced U)) := by
  obtain ⟨fd, D⟩ := h.d_replaced
  exact (b_replaced h D).v D (fun _ _ _ _ _ _ us hl => match us, hl with | [_, _], _ => rfl)
theorem k_replaced (h : HdT w mg K base) : Kn P w K mg base (Γ K) 3 "replaced" [] (F_replaced U) := by
  obtain ⟨fd, D⟩ := h.d_replaced
  exact ⟨_, h.g_replaced, D.kp, Cal.fn0 (v_replaced h)⟩
theorem sc_done : FnScope ["row", "step", "found"] ["row", "step"] (defScope (top 32)) := ⟨rfl, rfl, rfl, by decide +kernel, rfl, by decide +kernel, by decide +kernel⟩
theorem b_done (h : HdT w mg K base) {fd : FuncData} (D : FunD K "done" "done" (defArgs (top 32)) (defBody (top 32)) (defScope (top 32)) [] [] ((fun K => He.ga K "done") K) fd) : FnB P w K mg base 4 ((fun K => He.ga K "done") K) fd ["row", "step"] (spD ⟨K, Γ K⟩ (F_done U)) :=
  def_ok D sc_done _ fun cdv A outer s H E G =>
    (pssd_cons (psd_set sc_done.nd (pd_call G (k_replaced h) (pad_cons (pd_var 0) (pad_cons (pd_var 1) pad_nil)))) (pssd_cons (psd_if (pt_cmp opd_is (pdb (pd_var 2)) (pdb pd_non)) (pssd_one (psd_ret pd_non)) pssd_nil) (pssd_one (psd_ret (pd_op opd_add (pdb (pd_op opd_add (pdb (pd_slice (pdb (pd_var 0)) pod_none (pod_some (pd_ix (pdb (pd_var 1)) (pdb pd_int))))) (pdb (pd_var 2)))) (pdb (pd_slice (pdb (pd_var 0)) (pod_some (pd_op opd_add (pdb (pd_ix (pdb (pd_var 1)) (pdb pd_int))) (pdb (pd_if (pt_cmp (opd_inO G) (pdb (pd_ix (pdb (pd_var 1)) (pdb pd_int))) (pdb (pd_gtup (zs := ["join", "glue", "back"]) h.c_PAIRS))) pd_int pd_int)))) pod_none)))))))
theorem v_done (h : HdT w mg K base) : FnV P w K mg base 4 ((fun K => He.ga K "done") K) (spD ⟨K, Γ K⟩ (F_done U)) := by
  obtain ⟨fd, D⟩ := h.d_done
  exact (b_done h D).v D (fun _ _ _ _ _ _ us hl => match us, hl with | [_, _], _ => rfl)
theorem k_done (h : HdT w mg K base) : Kn P w K mg base (Γ K) 4 "done" [] (F_done U) := by
  obtain ⟨fd, D⟩ := h.d_done
  exact ⟨_, h.g_done, D.kp, Cal.fn0 (v_done h)⟩
theorem sc_all_done : FnScope ["row", "steps", "step"] ["row", "steps"] (defScope (top 33)) := ⟨rfl, rfl, rfl, by decide +kernel, rfl, by decide +kernel, by decide +kernel⟩
theorem b_all_done (h : HdT w mg K base) {fd : FuncData} (D : FunD K "all_done" "all_done" (defArgs (top 33)) (defBody (top 33)) (defScope (top 33)) [] [] ((fun K => He.ga K "all_done") K) fd) : FnB P w K mg base 5 ((fun K => He.ga K "all_done") K) fd ["row", "steps"] (spD ⟨K, Γ K⟩ (F_all_done U)) :=
  def_ok D sc_all_done _ fun cdv A outer s H E G =>
    (pssd_cons (psd_if (ptd_not (pt_tru (pdb (pd_isi h.is_tuple (.ty "tuple") (pdb (pd_var 1)) (pe_bltn (v := .ty "tuple") (by rfl) h.b_tuple (by decide +kernel) rfl (by decide)) h.b_isinstance)))) (pssd_one (psd_ret pd_non)) pssd_nil) (pssd_cons (psd_for G.po G.calm (pid_seq (pd_var 1)) (pgd_name sc_all_done.nd) (pssd_cons (psd_set sc_all_done.nd (pd_if (pt_tru (pdb (pd_call G (k_is_step h) (pad_cons (pd_var 2) (pad_cons (pd_call1 cd_len h.b_len (pdb (pd_var 0))) pad_nil))))) (pd_call G (k_done h) (pad_cons (pd_var 0) (pad_cons (pd_var 2) pad_nil))) pd_non)) (pssd_one (psd_if (pt_cmp opd_is (pdb (pd_var 0)) (pdb pd_non)) (pssd_one (psd_ret pd_non)) pssd_nil)))) (pssd_one (psd_ret (pd_var 0)))))
theorem v_all_done (h : HdT w mg K base) : FnV P w K mg base 5 ((fun K => He.ga K "all_done") K) (spD ⟨K, Γ K⟩ (F_all_done U)) := by
  obtain ⟨fd, D⟩ := h.d_all_done
  exact (b_all_done h D).v D (fun _ _ _ _ _ _ us hl => match us, hl with | [_, _], _ => rfl)
theorem k_all_done (h : HdT w mg K base) : Kn P w K mg base (Γ K) 5 "all_done" [] (F_all_done U) := by
  obtain ⟨fd, D⟩ := h.d_all_done
  exact ⟨_, h.g_all_done, D.kp, Cal.fn0 (v_all_done h)⟩
theorem sc_lead_to_nothing : FnScope ["row", "steps"] ["row", "steps"] (defScope (top 53)) := ⟨rfl, rfl, rfl, by decide +kernel, rfl, by decide +kernel, by decide +kernel⟩
theorem b_lead_to_nothing (h : HdT w mg K base) {fd : FuncData} (D : FunD K "lead_to_nothing" "lead_to_nothing" (defArgs (top 53)) (defBody (top 53)) (defScope (top 53)) [] [] ((fun K => He.ga K "lead_to_nothing") K) fd) : FnB P w K mg base 6 ((fun K => He.ga K "lead_to_nothing") K) fd ["row", "steps"] (spD ⟨K, Γ K⟩ (F_lead_to_nothing U)) :=
  def_ok D sc_lead_to_nothing _ fun cdv A outer s H E G =>
    (pssd_one (psd_ret (pd_cmp (opd_eq G.rm.units) (pdb (pd_call G (k_all_done h) (pad_cons (pd_var 0) (pad_cons (pd_var 1) pad_nil)))) (pdb (pd_tup pad_nil)))))
theorem v_lead_to_nothing (h : HdT w mg K base) : FnV P w K mg base 6 ((fun K => He.ga K "lead_to_nothing") K) (spD ⟨K, Γ K⟩ (F_lead_to_nothing U)) := by
  obtain ⟨fd, D⟩ := h.d_lead_to_nothing
  exact (b_lead_to_nothing h D).v D (fun _ _ _ _ _ _ us hl => match us, hl with | [_, _], _ => rfl)
theorem k_lead_to_nothing (h : HdT w mg K base) : Kn P w K mg base (Γ K) 6 "lead_to_nothing" [] (F_lead_to_nothing U) := by
  obtain ⟨fd, D⟩ := h.d_lead_to_nothing
  exact ⟨_, h.g_lead_to_nothing, D.kp, Cal.fn0 (v_lead_to_nothing h)⟩
theorem sc_shows_free : FnScope ["claim", "paper"] ["claim", "paper"] (defScope (top 55)) := ⟨rfl, rfl, rfl, by decide +kernel, rfl, by decide +kernel, by decide +kernel⟩
theorem b_shows_free (h : HdT w mg K base) {fd : FuncData} (D : FunD K "shows_free" "shows_free" (defArgs (top 55)) (defBody (top 55)) (defScope (top 55)) [] [] ((fun K => He.ga K "shows_free") K) fd) : FnB P w K mg base 7 ((fun K => He.ga K "shows_free") K) fd ["claim", "paper"] (spD ⟨K, Γ K⟩ (F_shows_free U)) :=
  def_ok D sc_shows_free _ fun cdv A outer s H E G =>
    (pssd_one (psd_ret (pd_and (pd_call G (k_are_blocks h) (pad_cons (pd_ix (pdb (pd_var 0)) (pdb pd_int)) pad_nil)) (pd_one (pd_call G (k_lead_to_nothing h) (pad_cons (pd_ix (pdb (pd_var 0)) (pdb pd_int)) (pad_cons (pd_var 1) pad_nil)))))))
theorem v_shows_free (h : HdT w mg K base) : FnV P w K mg base 7 ((fun K => He.ga K "shows_free") K) (spD ⟨K, Γ K⟩ (F_shows_free U)) := by
  obtain ⟨fd, D⟩ := h.d_shows_free
  exact (b_shows_free h D).v D (fun _ _ _ _ _ _ us hl => match us, hl with | [_, _], _ => rfl)
theorem sc_is_rounds : FnScope ["value"] ["value"] (defScope (top 10)) := ⟨rfl, rfl, rfl, by decide +kernel, rfl, by decide +kernel, by decide +kernel⟩
theorem b_is_rounds (h : HdT w mg K base) {fd : FuncData} (D : FunD K "is_rounds" "is_rounds" (defArgs (top 10)) (defBody (top 10)) (defScope (top 10)) [] [] ((fun K => He.ga K "is_rounds") K) fd) : FnB P w K mg base 3 ((fun K => He.ga K "is_rounds") K) fd ["value"] (spD ⟨K, Γ K⟩ (F_is_rounds U)) :=
  def_ok D sc_is_rounds _ fun cdv A outer s H E G =>
    (pssd_one (psd_ret (pd_call G (k_is_between h) (pad_cons (pd_var 0) (pad_cons pd_int (pad_cons (pd_gint h.c_GREATEST) pad_nil))))))
theorem v_is_rounds (h : HdT w mg K base) : FnV P w K mg base 3 ((fun K => He.ga K "is_rounds") K) (spD ⟨K, Γ K⟩ (F_is_rounds U)) := by
  obtain ⟨fd, D⟩ := h.d_is_rounds
  exact (b_is_rounds h D).v D (fun _ _ _ _ _ _ us hl => match us, hl with | [_], _ => rfl)
theorem k_is_rounds (h : HdT w mg K base) : Kn P w K mg base (Γ K) 3 "is_rounds" [] (F_is_rounds U) := by
  obtain ⟨fd, D⟩ := h.d_is_rounds
  exact ⟨_, h.g_is_rounds, D.kp, Cal.fn0 (v_is_rounds h)⟩
theorem sc_at_rounds : FnScope ["blocks", "rounds", "word", "times", "over"] ["blocks", "rounds"] (defScope (top 37)) := ⟨rfl, rfl, rfl, by decide +kernel, rfl, by decide +kernel, by decide +kernel⟩
theorem b_at_rounds (h : HdT w mg K base) {fd : FuncData} (D : FunD K "at_rounds" "at_rounds" (defArgs (top 37)) (defBody (top 37)) (defScope (top 37)) [] [] ((fun K => He.ga K "at_rounds") K) fd) : FnB P w K mg base 1 ((fun K => He.ga K "at_rounds") K) fd ["blocks", "rounds"] (spD ⟨K, Γ K⟩ (F_at_rounds U)) :=
  def_ok D sc_at_rounds _ fun cdv A outer s H E G =>
    (pssd_one (psd_ret (pd_callT1 cd_tuple h.b_tuple (pdb (pdf (pf_comp (own := [("word", 2), ("times", 3), ("over", 4)]) (tup := true) (is := [2, 3, 4]) G.calm sc_at_rounds.nd (pid_seq (pd_var 0)) ⟨rfl, of_decide_eq_true (by kernel_rfl), of_decide_eq_true (by kernel_rfl), of_decide_eq_true (by kernel_rfl), of_decide_eq_true (by kernel_rfl)⟩ (fun _ _ _ _ _ => (pgc_tup G.calm (pgsc_cons sc_at_rounds.nd (pgsc_cons sc_at_rounds.nd (pgsc_cons sc_at_rounds.nd pgsc_nil))))) (fun _ _ _ _ _ => ptsd_nil) (fun _ _ _ _ _ => (pd_tup (pad_cons (pd_var 2) (pad_cons pd_int (pad_cons (pd_op opd_add (pdb (pd_op opd_mul (pdb (pd_var 3)) (pdb (pd_var 1)))) (pdb (pd_var 4))) pad_nil)))))))))))
theorem v_at_rounds (h : HdT w mg K base) : FnV P w K mg base 1 ((fun K => He.ga K "at_rounds") K) (spD ⟨K, Γ K⟩ (F_at_rounds U)) := by
  obtain ⟨fd, D⟩ := h.d_at_rounds
  exact (b_at_rounds h D).v D (fun _ _ _ _ _ _ us hl => match us, hl with | [_, _], _ => rfl)
theorem k_at_rounds (h : HdT w mg K base) : Kn P w K mg base (Γ K) 1 "at_rounds" [] (F_at_rounds U) := by
  obtain ⟨fd, D⟩ := h.d_at_rounds
  exact ⟨_, h.g_at_rounds, D.kp, Cal.fn0 (v_at_rounds h)⟩
theorem sc_shows_free_at : FnScope ["claim", "paper"] ["claim", "paper"] (defScope (top 56)) := ⟨rfl, rfl, rfl, by decide +kernel, rfl, by decide +kernel, by decide +kernel⟩
theorem b_shows_free_at (h : HdT w mg K base) {fd : FuncData} (D : FunD K "shows_free_at" "shows_free_at" (defArgs (top 56)) (defBody (top 56)) (defScope (top 56)) [] [] ((fun K => He.ga K "shows_free_at") K) fd) : FnB P w K mg base 7 ((fun K => He.ga K "shows_free_at") K) fd ["claim", "paper"] (spD ⟨K, Γ K⟩ (F_shows_free_at U)) :=
  def_ok D sc_shows_free_at _ fun cdv A outer s H E G =>
    (pssd_cons (psd_if (PW.pt (pwd_or (ptd_not (pt_tru (pdb (pd_call G (k_are_blocks h) (pad_cons (pd_ix (pdb (pd_var 0)) (pdb pd_int)) pad_nil))))) (pwd1 (ptd_not (pt_tru (pdb (pd_call G (k_is_rounds h) (pad_cons (pd_ix (pdb (pd_var 0)) (pdb pd_int)) pad_nil))))) _))) (pssd_one (psd_ret pd_bl)) pssd_nil) (pssd_one (psd_ret (pd_call G (k_lead_to_nothing h) (pad_cons (pd_call G (k_at_rounds h) (pad_cons (pd_ix (pdb (pd_var 0)) (pdb pd_int)) (pad_cons (pd_ix (pdb (pd_var 0)) (pdb pd_int)) pad_nil))) (pad_cons (pd_var 1) pad_nil))))))
theorem v_shows_free_at (h : HdT w mg K base) : FnV P w K mg base 7 ((fun K => He.ga K "shows_free_at") K) (spD ⟨K, Γ K⟩ (F_shows_free_at U)) := by
  obtain ⟨fd, D⟩ := h.d_shows_free_at
  exact (b_shows_free_at h D).v D (fun _ _ _ _ _ _ us hl => match us, hl with | [_, _], _ => rfl)
theorem sc_is_tight_item : FnScope ["item", "number", "word", "place"] ["item", "number"] (defScope (top 34)) := ⟨rfl, rfl, rfl, by decide +kernel, rfl, by decide +kernel, by decide +kernel⟩
theorem b_is_tight_item (h : HdT w mg K base) {fd : FuncData} (D : FunD K "is_tight_item" "is_tight_item" (defArgs (top 34)) (defBody (top 34)) (defScope (top 34)) [] [] ((fun K => He.ga K "is_tight_item") K) fd) : FnB P w K mg base 2 ((fun K => He.ga K "is_tight_item") K) fd ["item", "number"] (spD ⟨K, Γ K⟩ (F_is_tight_item U)) :=
  def_ok D sc_is_tight_item _ fun cdv A outer s H E G =>
    (pssd_cons (psd_set sc_is_tight_item.nd (pd_ix (pdb (pd_var 0)) (pdb pd_int))) (pssd_cons (psd_if (PW.pt (pwd_or (pt_cmp (opd_eq G.rm.units) (pdb (pd_call1 cd_len h.b_len (pdb (pd_var 2)))) (pdb pd_int)) (pwd1 (pt_tru (pdb (pd_call1 (cd_any G.calm) h.b_any (pdb (pdf (pf_comp (own := [("place", 3)]) (tup := false) (is := [3]) G.calm sc_is_tight_item.nd (pid_range1 h.b_range (pd_op opd_sub (pdb (pd_call1 cd_len h.b_len (pdb (pd_var 2)))) (pdb pd_int))) ⟨rfl, of_decide_eq_true (by kernel_rfl), of_decide_eq_true (by kernel_rfl), of_decide_eq_true (by kernel_rfl), of_decide_eq_true (by kernel_rfl)⟩ (fun _ _ _ _ _ => (pgc_name sc_is_tight_item.nd)) (fun _ _ _ _ _ => ptsd_nil) (fun _ _ _ _ _ => (pd_call (G.blk _ _ _ _ _) (k_do_undo h) (pad_cons (pd_ix (pdb (pd_var 2)) (pdb (pd_var 3))) (pad_cons (pd_ix (pdb (pd_var 2)) (pdb (pd_op opd_add (pdb (pd_var 3)) (pdb pd_int)))) pad_nil)))))))))) _))) (pssd_one (psd_ret pd_bl)) pssd_nil) (pssd_cons (psd_if (pt_tru (pdb (pd_call G (k_is_plain h) (pad_cons (pd_var 0) pad_nil)))) (pssd_one (psd_ret pd_bl)) pssd_nil) (pssd_one (psd_ret (pd_and (pd_cmp opd_ge (pdb (pd_ix (pdb (pd_var 0)) (pdb pd_int))) (pdb pd_int)) (pd_and (pd_cmp opd_ge (pdb (pd_op opd_add (pdb (pd_op opd_mulW (pdb (pd_ix (pdb (pd_var 0)) (pdb pd_int))) (pdb (pd_var 1)))) (pdb (pd_ix (pdb (pd_var 0)) (pdb pd_int))))) (pdb pd_int)) (pd_one (pd_not (pd_call G (k_do_undo h) (pad_cons (pd_ix (pdb (pd_var 2)) (pdb pd_int)) (pad_cons (pd_ix (pdb (pd_var 2)) (pdb (pd_neg pd_int))) pad_nil))))))))))))
theorem v_is_tight_item (h : HdT w mg K base) : FnV P w K mg base 2 ((fun K => He.ga K "is_tight_item") K) (spD ⟨K, Γ K⟩ (F_is_tight_item U)) := by
  obtain ⟨fd, D⟩ := h.d_is_tight_item
  exact (b_is_tight_item h D).v D (fun _ _ _ _ _ _ us hl => match us, hl with | [_, _], _ => rfl)
theorem k_is_tight_item (h : HdT w mg K base) : Kn P w K mg base (Γ K) 2 "is_tight_item" [] (F_is_tight_item U) := by
  obtain ⟨fd, D⟩ := h.d_is_tight_item
  exact ⟨_, h.g_is_tight_item, D.kp, Cal.fn0 (v_is_tight_item h)⟩
theorem sc_is_tight : FnScope ["row", "number", "place", "item"] ["row", "number"] (defScope (top 35)) := ⟨rfl, rfl, rfl, by decide +kernel, rfl, by decide +kernel, by decide +kernel⟩
theorem b_is_tight (h : HdT w mg K base) {fd : FuncData} (D : FunD K "is_tight" "is_tight" (defArgs (top 35)) (defBody (top 35)) (defScope (top 35)) [] [] ((fun K => He.ga K "is_tight") K) fd) : FnB P w K mg base 3 ((fun K => He.ga K "is_tight") K) fd ["row", "number"] (spD ⟨K, Γ K⟩ (F_is_tight U)) :=
  def_ok D sc_is_tight _ fun cdv A outer s H E G =>
    (pssd_cons (psd_if (PW.pt (pwd_or (pt_cmp (opd_eq G.rm.units) (pdb (pd_call1 cd_len h.b_len (pdb (pd_var 0)))) (pdb pd_int)) (pwd1 (ptd_not (pt_tru (pdb (pd_call1 (cd_all G.calm) h.b_all (pdb (pdf (pf_comp (own := [("item", 3)]) (tup := false) (is := [3]) G.calm sc_is_tight.nd (pid_seq (pd_var 0)) ⟨rfl, of_decide_eq_true (by kernel_rfl), of_decide_eq_true (by kernel_rfl), of_decide_eq_true (by kernel_rfl), of_decide_eq_true (by kernel_rfl)⟩ (fun _ _ _ _ _ => (pgc_name sc_is_tight.nd)) (fun _ _ _ _ _ => ptsd_nil) (fun _ _ _ _ _ => (pd_call (G.blk _ _ _ _ _) (k_is_tight_item h) (pad_cons (pd_var 3) (pad_cons (pd_var 1) pad_nil))))))))))) _))) (pssd_one (psd_ret pd_bl)) pssd_nil) (pssd_one (psd_ret (pd_not (pd_call1 (cd_any G.calm) h.b_any (pdb (pdf (pf_comp (own := [("place", 2)]) (tup := false) (is := [2]) G.calm sc_is_tight.nd (pid_range1 h.b_range (pd_op opd_sub (pdb (pd_call1 cd_len h.b_len (pdb (pd_var 0)))) (pdb pd_int))) ⟨rfl, of_decide_eq_true (by kernel_rfl), of_decide_eq_true (by kernel_rfl), of_decide_eq_true (by kernel_rfl), of_decide_eq_true (by kernel_rfl)⟩ (fun _ _ _ _ _ => (pgc_name sc_is_tight.nd)) (fun _ _ _ _ _ => ptsd_nil) (fun _ _ _ _ _ => (pd_call (G.blk _ _ _ _ _) (k_do_undo h) (pad_cons (pd_ix (pdb (pd_ix (pdb (pd_ix (pdb (pd_var 0)) (pdb (pd_var 2)))) (pdb pd_int))) (pdb (pd_neg pd_int))) (pad_cons (pd_ix (pdb (pd_ix (pdb (pd_ix (pdb (pd_var 0)) (pdb (pd_op opd_add (pdb (pd_var 2)) (pdb pd_int))))) (pdb pd_int))) (pdb pd_int)) pad_nil))))))))))))
theorem v_is_tight (h : HdT w mg K base) : FnV P w K mg base 3 ((fun K => He.ga K "is_tight") K) (spD ⟨K, Γ K⟩ (F_is_tight U)) := by
  obtain ⟨fd, D⟩ := h.d_is_tight
  exact (b_is_tight h D).v D (fun _ _ _ _ _ _ us hl => match us, hl with | [_, _], _ => rfl)
theorem k_is_tight (h : HdT w mg K base) : Kn P w K mg base (Γ K) 3 "is_tight" [] (F_is_tight U) := by
  obtain ⟨fd, D⟩ := h.d_is_tight
  exact ⟨_, h.g_is_tight, D.kp, Cal.fn0 (v_is_tight h)⟩
theorem sc_lead_to_tight : FnScope ["row", "steps", "number", "found"] ["row", "steps", "number"] (defScope (top 54)) := ⟨rfl, rfl, rfl, by decide +kernel, rfl, by decide +kernel, by decide +kernel⟩
theorem b_lead_to_tight (h : HdT w mg K base) {fd : FuncData} (D : FunD K "lead_to_tight" "lead_to_tight" (defArgs (top 54)) (defBody (top 54)) (defScope (top 54)) [] [] ((fun K => He.ga K "lead_to_tight") K) fd) : FnB P w K mg base 6 ((fun K => He.ga K "lead_to_tight") K) fd ["row", "steps", "number"] (spD ⟨K, Γ K⟩ (F_lead_to_tight U)) :=
  def_ok D sc_lead_to_tight _ fun cdv A outer s H E G =>
    (pssd_cons (psd_set sc_lead_to_tight.nd (pd_call G (k_all_done h) (pad_cons (pd_var 0) (pad_cons (pd_var 1) pad_nil)))) (pssd_one (psd_ret (pd_and (pd_cmp opd_isNot (pdb (pd_var 3)) (pdb pd_non)) (pd_one (pd_call G (k_is_tight h) (pad_cons (pd_var 3) (pad_cons (pd_var 2) pad_nil))))))))
theorem v_lead_to_tight (h : HdT w mg K base) : FnV P w K mg base 6 ((fun K => He.ga K "lead_to_tight") K) (spD ⟨K, Γ K⟩ (F_lead_to_tight U)) := by
  obtain ⟨fd, D⟩ := h.d_lead_to_tight
  exact (b_lead_to_tight h D).v D (fun _ _ _ _ _ _ us hl => match us, hl with | [_, _, _], _ => rfl)
theorem k_lead_to_tight (h : HdT w mg K base) : Kn P w K mg base (Γ K) 6 "lead_to_tight" [] (F_lead_to_tight U) := by
  obtain ⟨fd, D⟩ := h.d_lead_to_tight
  exact ⟨_, h.g_lead_to_tight, D.kp, Cal.fn0 (v_lead_to_tight h)⟩
theorem sc_shows_held_at : FnScope ["claim", "paper"] ["claim", "paper"] (defScope (top 57)) := ⟨rfl, rfl, rfl, by decide +kernel, rfl, by decide +kernel, by decide +kernel⟩
theorem b_shows_held_at (h : HdT w mg K base) {fd : FuncData} (D : FunD K "shows_held_at" "shows_held_at" (defArgs (top 57)) (defBody (top 57)) (defScope (top 57)) [] [] ((fun K => He.ga K "shows_held_at") K) fd) : FnB P w K mg base 7 ((fun K => He.ga K "shows_held_at") K) fd ["claim", "paper"] (spD ⟨K, Γ K⟩ (F_shows_held_at U)) :=
  def_ok D sc_shows_held_at _ fun cdv A outer s H E G =>
    (pssd_cons (psd_if (PW.pt (pwd_or (ptd_not (pt_tru (pdb (pd_call G (k_are_blocks h) (pad_cons (pd_ix (pdb (pd_var 0)) (pdb pd_int)) pad_nil))))) (pwd1 (ptd_not (pt_tru (pdb (pd_call G (k_is_rounds h) (pad_cons (pd_ix (pdb (pd_var 0)) (pdb pd_int)) pad_nil))))) _))) (pssd_one (psd_ret pd_bl)) pssd_nil) (pssd_one (psd_ret (pd_call G (k_lead_to_tight h) (pad_cons (pd_call G (k_at_rounds h) (pad_cons (pd_ix (pdb (pd_var 0)) (pdb pd_int)) (pad_cons (pd_ix (pdb (pd_var 0)) (pdb pd_int)) pad_nil))) (pad_cons (pd_var 1) (pad_cons pd_int pad_nil)))))))
theorem v_shows_held_at (h : HdT w mg K base) : FnV P w K mg base 7 ((fun K => He.ga K "shows_held_at") K) (spD ⟨K, Γ K⟩ (F_shows_held_at U)) := by
  obtain ⟨fd, D⟩ := h.d_shows_held_at
  exact (b_shows_held_at h D).v D (fun _ _ _ _ _ _ us hl => match us, hl with | [_, _], _ => rfl)
theorem sc_shows_held : FnScope ["claim", "paper", "begin", "steps", "others", "index", "other"] ["claim", "paper"] (defScope (top 58)) := ⟨rfl, rfl, rfl, by decide +kernel, rfl, by decide +kernel, by decide +kernel⟩
theorem b_shows_held (h : HdT w mg K base) {fd : FuncData} (D : FunD K "shows_held" "shows_held" (defArgs (top 58)) (defBody (top 58)) (defScope (top 58)) [] [] ((fun K => He.ga K "shows_held") K) fd) : FnB P w K mg base 7 ((fun K => He.ga K "shows_held") K) fd ["claim", "paper"] (spD ⟨K, Γ K⟩ (F_shows_held U)) :=
  def_ok D sc_shows_held _ fun cdv A outer s H E G =>
    (pssd_cons (psd_if (PW.pt (pwd_or (ptd_not (pt_tru (pdb (pd_call G (k_are_blocks h) (pad_cons (pd_ix (pdb (pd_var 0)) (pdb pd_int)) pad_nil))))) (pwd_or (ptd_not (pt_tru (pdb (pd_call G (k_is_rounds h) (pad_cons (pd_ix (pdb (pd_var 0)) (pdb pd_int)) pad_nil))))) (pwd_or (ptd_not (pt_tru (pdb (pd_isi h.is_tuple (.ty "tuple") (pdb (pd_var 1)) (pe_bltn (v := .ty "tuple") (by rfl) h.b_tuple (by decide +kernel) rfl (by decide)) h.b_isinstance)))) (pwd1 (pt_cmp (opd_ne G.rm.units) (pdb (pd_call1 cd_len h.b_len (pdb (pd_var 1)))) (pdb pd_int)) _))))) (pssd_one (psd_ret pd_bl)) pssd_nil) (pssd_cons (psd_asg (pd_var 1) (pgd_tup G.calm (pgsd_cons (pgd_name sc_shows_held.nd) (pgsd_cons (pgd_name sc_shows_held.nd) (pgsd_cons (pgd_name sc_shows_held.nd) pgsd_nil))))) (pssd_cons (psd_if (PW.pt (pwd_or (ptd_not (pt_tru (pdb (pd_call G (k_is_between h) (pad_cons (pd_var 2) (pad_cons (pd_ix (pdb (pd_var 0)) (pdb pd_int)) (pad_cons (pd_gint h.c_GREATEST) pad_nil))))))) (pwd1 (ptd_not (pt_tru (pdb (pd_call G (k_lead_to_tight h) (pad_cons (pd_ix (pdb (pd_var 0)) (pdb pd_int)) (pad_cons (pd_var 3) (pad_cons (pd_var 2) pad_nil))))))) _))) (pssd_one (psd_ret pd_bl)) pssd_nil) (pssd_cons (psd_if (PW.pt (pwd_or (ptd_not (pt_tru (pdb (pd_isi h.is_tuple (.ty "tuple") (pdb (pd_var 4)) (pe_bltn (v := .ty "tuple") (by rfl) h.b_tuple (by decide +kernel) rfl (by decide)) h.b_isinstance)))) (pwd1 (pt_cmp (opd_ne G.rm.units) (pdb (pd_call1 cd_len h.b_len (pdb (pd_var 4)))) (pdb (pd_op opd_sub (pdb (pd_var 2)) (pdb (pd_ix (pdb (pd_var 0)) (pdb pd_int)))))) _))) (pssd_one (psd_ret pd_bl)) pssd_nil) (pssd_cons (psd_for G.po G.calm (pid_enum h.b_enumerate (pd_var 4)) (pgd_tup G.calm (pgsd_cons (pgd_name sc_shows_held.nd) (pgsd_cons (pgd_name sc_shows_held.nd) pgsd_nil))) (pssd_one (psd_if (ptd_not (pt_tru (pdb (pd_call G (k_lead_to_tight h) (pad_cons (pd_call G (k_at_rounds h) (pad_cons (pd_ix (pdb (pd_var 0)) (pdb pd_int)) (pad_cons (pd_op opd_add (pdb (pd_ix (pdb (pd_var 0)) (pdb pd_int))) (pdb (pd_var 5))) pad_nil))) (pad_cons (pd_var 6) (pad_cons pd_int pad_nil))))))) (pssd_one (psd_ret pd_bl)) pssd_nil))) (pssd_one (psd_ret pd_bl)))))))
theorem v_shows_held (h : HdT w mg K base) : FnV P w K mg base 7 ((fun K => He.ga K "shows_held") K) (spD ⟨K, Γ K⟩ (F_shows_held U)) := by
  obtain ⟨fd, D⟩ := h.d_shows_held
  exact (b_shows_held h D).v D (fun _ _ _ _ _ _ us hl => match us, hl with | [_, _], _ => rfl)
theorem sc_length_of : FnScope ["row", "word", "times", "over"] ["row"] (defScope (top 49)) := ⟨rfl, rfl, rfl, by decide +kernel, rfl, by decide +kernel, by decide +kernel⟩
theorem b_length_of (h : HdT w mg K base) {fd : FuncData} (D : FunD K "length_of" "length_of" (defArgs (top 49)) (defBody (top 49)) (defScope (top 49)) [] [] ((fun K => He.ga K "length_of") K) fd) : FnB P w K mg base 1 ((fun K => He.ga K "length_of") K) fd ["row"] (spD ⟨K, Γ K⟩ (F_length_of U)) :=
  def_ok D sc_length_of _ fun cdv A outer s H E G =>
    (pssd_one (psd_ret (pd_call1 (cd_sum G.calm) h.b_sum (pdb (pdf (pf_comp (own := [("word", 1), ("times", 2), ("over", 3)]) (tup := true) (is := [1, 2, 3]) G.calm sc_length_of.nd (pid_seq (pd_var 0)) ⟨rfl, of_decide_eq_true (by kernel_rfl), of_decide_eq_true (by kernel_rfl), of_decide_eq_true (by kernel_rfl), of_decide_eq_true (by kernel_rfl)⟩ (fun _ _ _ _ _ => (pgc_tup G.calm (pgsc_cons sc_length_of.nd (pgsc_cons sc_length_of.nd (pgsc_cons sc_length_of.nd pgsc_nil))))) (fun _ _ _ _ _ => ptsd_nil) (fun _ _ _ _ _ => (pd_op opd_mul (pdb (pd_call1 cd_len h.b_len (pdb (pd_var 1)))) (pdb (pd_var 3))))))))))
theorem v_length_of (h : HdT w mg K base) : FnV P w K mg base 1 ((fun K => He.ga K "length_of") K) (spD ⟨K, Γ K⟩ (F_length_of U)) := by
  obtain ⟨fd, D⟩ := h.d_length_of
  exact (b_length_of h D).v D (fun _ _ _ _ _ _ us hl => match us, hl with | [_], _ => rfl)
theorem k_length_of (h : HdT w mg K base) : Kn P w K mg base (Γ K) 1 "length_of" [] (F_length_of U) := by
  obtain ⟨fd, D⟩ := h.d_length_of
  exact ⟨_, h.g_length_of, D.kp, Cal.fn0 (v_length_of h)⟩
theorem sc_shows_length : FnScope ["claim", "paper", "row"] ["claim", "paper"] (defScope (top 59)) := ⟨rfl, rfl, rfl, by decide +kernel, rfl, by decide +kernel, by decide +kernel⟩
theorem b_shows_length (h : HdT w mg K base) {fd : FuncData} (D : FunD K "shows_length" "shows_length" (defArgs (top 59)) (defBody (top 59)) (defScope (top 59)) [] [] ((fun K => He.ga K "shows_length") K) fd) : FnB P w K mg base 6 ((fun K => He.ga K "shows_length") K) fd ["claim", "paper"] (spD ⟨K, Γ K⟩ (F_shows_length U)) :=
  def_ok D sc_shows_length _ fun cdv A outer s H E G =>
    (pssd_cons (psd_if (PW.pt (pwd_or (ptd_not (pt_tru (pdb (pd_call G (k_are_blocks h) (pad_cons (pd_ix (pdb (pd_var 0)) (pdb pd_int)) pad_nil))))) (pwd_or (ptd_not (pt_tru (pdb (pd_call G (k_is_rounds h) (pad_cons (pd_ix (pdb (pd_var 0)) (pdb pd_int)) pad_nil))))) (pwd_or (ptd_not (pt_tru (pdb (pd_call G (k_is_integer h) (pad_cons (pd_ix (pdb (pd_var 0)) (pdb pd_int)) pad_nil))))) (pwd1 (pt_cmp opd_lt (pdb (pd_ix (pdb (pd_var 0)) (pdb pd_int))) (pdb pd_int)) _))))) (pssd_one (psd_ret pd_bl)) pssd_nil) (pssd_cons (psd_set sc_shows_length.nd (pd_call G (k_all_done h) (pad_cons (pd_call G (k_at_rounds h) (pad_cons (pd_ix (pdb (pd_var 0)) (pdb pd_int)) (pad_cons (pd_ix (pdb (pd_var 0)) (pdb pd_int)) pad_nil))) (pad_cons (pd_var 1) pad_nil)))) (pssd_cons (psd_if (PW.pt (pwd_or (pt_cmp opd_is (pdb (pd_var 2)) (pdb pd_non)) (pwd1 (PW.pt (pwd_and (pt_cmp opd_gt (pdb (pd_call1 cd_len h.b_len (pdb (pd_var 2)))) (pdb pd_int)) (pwd1 (ptd_not (pt_tru (pdb (pd_call G (k_is_tight h) (pad_cons (pd_var 2) (pad_cons pd_int pad_nil)))))) _))) _))) (pssd_one (psd_ret pd_bl)) pssd_nil) (pssd_one (psd_ret (pd_cmp (opd_eq G.rm.units) (pdb (pd_call G (k_length_of h) (pad_cons (pd_var 2) pad_nil))) (pdb (pd_ix (pdb (pd_var 0)) (pdb pd_int)))))))))
theorem v_shows_length (h : HdT w mg K base) : FnV P w K mg base 6 ((fun K => He.ga K "shows_length") K) (spD ⟨K, Γ K⟩ (F_shows_length U)) := by
  obtain ⟨fd, D⟩ := h.d_shows_length
  exact (b_shows_length h D).v D (fun _ _ _ _ _ _ us hl => match us, hl with | [_, _], _ => rfl)
theorem sc_undone_row : FnScope ["row", "word", "times", "over"] ["row"] (defScope (top 51)) := ⟨rfl, rfl, rfl, by decide +kernel, rfl, by decide +kernel, by decide +kernel⟩
theorem b_undone_row (h : HdT w mg K base) {fd : FuncData} (D : FunD K "undone_row" "undone_row" (defArgs (top 51)) (defBody (top 51)) (defScope (top 51)) [] [] ((fun K => He.ga K "undone_row") K) fd) : FnB P w K mg base 1 ((fun K => He.ga K "undone_row") K) fd ["row"] (spD ⟨K, Γ K⟩ (F_undone_row U)) :=
  def_ok D sc_undone_row _ fun cdv A outer s H E G =>
    (pssd_one (psd_ret (pd_callT1 cd_tuple h.b_tuple (pdb (pdf (pf_comp (own := [("word", 1), ("times", 2), ("over", 3)]) (tup := true) (is := [1, 2, 3]) G.calm sc_undone_row.nd (pid_seq (pd_rev (pdb (pd_var 0)))) ⟨rfl, of_decide_eq_true (by kernel_rfl), of_decide_eq_true (by kernel_rfl), of_decide_eq_true (by kernel_rfl), of_decide_eq_true (by kernel_rfl)⟩ (fun _ _ _ _ _ => (pgc_tup G.calm (pgsc_cons sc_undone_row.nd (pgsc_cons sc_undone_row.nd (pgsc_cons sc_undone_row.nd pgsc_nil))))) (fun _ _ _ _ _ => ptsd_nil) (fun _ _ _ _ _ => (pd_tup (pad_cons (pd_var 1) (pad_cons (pd_op opd_sub (pdb pd_int) (pdb (pd_var 2))) (pad_cons (pd_op opd_sub (pdb pd_int) (pdb (pd_var 3))) pad_nil)))))))))))
theorem v_undone_row (h : HdT w mg K base) : FnV P w K mg base 1 ((fun K => He.ga K "undone_row") K) (spD ⟨K, Γ K⟩ (F_undone_row U)) := by
  obtain ⟨fd, D⟩ := h.d_undone_row
  exact (b_undone_row h D).v D (fun _ _ _ _ _ _ us hl => match us, hl with | [_], _ => rfl)
theorem k_undone_row (h : HdT w mg K base) : Kn P w K mg base (Γ K) 1 "undone_row" [] (F_undone_row U) := by
  obtain ⟨fd, D⟩ := h.d_undone_row
  exact ⟨_, h.g_undone_row, D.kp, Cal.fn0 (v_undone_row h)⟩
theorem sc_shows_same : FnScope ["claim", "paper"] ["claim", "paper"] (defScope (top 60)) := ⟨rfl, rfl, rfl, by decide +kernel, rfl, by decide +kernel, by decide +kernel⟩
theorem b_shows_same (h : HdT w mg K base) {fd : FuncData} (D : FunD K "shows_same" "shows_same" (defArgs (top 60)) (defBody (top 60)) (defScope (top 60)) [] [] ((fun K => He.ga K "shows_same") K) fd) : FnB P w K mg base 7 ((fun K => He.ga K "shows_same") K) fd ["claim", "paper"] (spD ⟨K, Γ K⟩ (F_shows_same U)) :=
  def_ok D sc_shows_same _ fun cdv A outer s H E G =>
    (pssd_cons (psd_if (PW.pt (pwd_or (ptd_not (pt_tru (pdb (pd_call G (k_are_blocks h) (pad_cons (pd_ix (pdb (pd_var 0)) (pdb pd_int)) pad_nil))))) (pwd1 (ptd_not (pt_tru (pdb (pd_call G (k_are_blocks h) (pad_cons (pd_ix (pdb (pd_var 0)) (pdb pd_int)) pad_nil))))) _))) (pssd_one (psd_ret pd_bl)) pssd_nil) (pssd_one (psd_ret (pd_call G (k_lead_to_nothing h) (pad_cons (pd_op opd_add (pdb (pd_ix (pdb (pd_var 0)) (pdb pd_int))) (pdb (pd_call G (k_undone_row h) (pad_cons (pd_ix (pdb (pd_var 0)) (pdb pd_int)) pad_nil)))) (pad_cons (pd_var 1) pad_nil))))))
theorem v_shows_same (h : HdT w mg K base) : FnV P w K mg base 7 ((fun K => He.ga K "shows_same") K) (spD ⟨K, Γ K⟩ (F_shows_same U)) := by
  obtain ⟨fd, D⟩ := h.d_shows_same
  exact (b_shows_same h D).v D (fun _ _ _ _ _ _ us hl => match us, hl with | [_, _], _ => rfl)
theorem sc_only : FnScope ["word", "pegs", "letter"] ["word", "pegs"] (defScope (top 15)) := ⟨rfl, rfl, rfl, by decide +kernel, rfl, by decide +kernel, by decide +kernel⟩
theorem b_only (h : HdT w mg K base) {fd : FuncData} (D : FunD K "only" "only" (defArgs (top 15)) (defBody (top 15)) (defScope (top 15)) [] [] ((fun K => He.ga K "only") K) fd) : FnB P w K mg base 1 ((fun K => He.ga K "only") K) fd ["word", "pegs"] (spD ⟨K, Γ K⟩ (F_only U)) :=
  def_ok D sc_only _ fun cdv A outer s H E G =>
    (pssd_one (psd_ret (pd_join pd_str (pdb (pdf (pf_comp (own := [("letter", 2)]) (tup := false) (is := [2]) G.calm sc_only.nd (pid_seq (pd_var 0)) ⟨rfl, of_decide_eq_true (by kernel_rfl), of_decide_eq_true (by kernel_rfl), of_decide_eq_true (by kernel_rfl), of_decide_eq_true (by kernel_rfl)⟩ (fun _ _ _ _ _ => (pgc_name sc_only.nd)) (fun _ _ _ _ _ => (ptsd_one (pt_cmp (opd_inO (G.blk _ _ _ _ _)) (pdb (pd_lower (pd_var 2))) (pdb (pd_var 1))))) (fun _ _ _ _ _ => (pd_var 2))))))))
theorem v_only (h : HdT w mg K base) : FnV P w K mg base 1 ((fun K => He.ga K "only") K) (spD ⟨K, Γ K⟩ (F_only U)) := by
  obtain ⟨fd, D⟩ := h.d_only
  exact (b_only h D).v D (fun _ _ _ _ _ _ us hl => match us, hl with | [_, _], _ => rfl)
theorem k_only (h : HdT w mg K base) : Kn P w K mg base (Γ K) 1 "only" [] (F_only U) := by
  obtain ⟨fd, D⟩ := h.d_only
  exact ⟨_, h.g_only, D.kp, Cal.fn0 (v_only h)⟩
theorem sc_left_of : FnScope ["blocks", "pegs", "found", "word", "times", "over", "block"] ["blocks", "pegs"] (defScope (top 42)) := ⟨rfl, rfl, rfl, by decide +kernel, rfl, by decide +kernel, by decide +kernel⟩
theorem b_left_of (h : HdT w mg K base) {fd : FuncData} (D : FunD K "left_of" "left_of" (defArgs (top 42)) (defBody (top 42)) (defScope (top 42)) [] [] ((fun K => He.ga K "left_of") K) fd) : FnB P w K mg base 2 ((fun K => He.ga K "left_of") K) fd ["blocks", "pegs"] (spD ⟨K, Γ K⟩ (F_left_of U)) :=
  def_ok D sc_left_of _ fun cdv A outer s H E G =>
    (pssd_cons (psd_setLc (own := [("word", 3), ("times", 4), ("over", 5)]) (tup := true) (is := [3, 4, 5]) G.calm sc_left_of.nd (pid_seq (pd_var 0)) ⟨rfl, of_decide_eq_true (by kernel_rfl), of_decide_eq_true (by kernel_rfl), of_decide_eq_true (by kernel_rfl), of_decide_eq_true (by kernel_rfl)⟩ (fun _ _ _ _ _ => (pgc_tup G.calm (pgsc_cons sc_left_of.nd (pgsc_cons sc_left_of.nd (pgsc_cons sc_left_of.nd pgsc_nil))))) (fun _ _ _ _ _ => ptsd_nil) (fun _ _ _ _ _ => (pd_tup (pad_cons (pd_call (G.blk _ _ _ _ _) (k_only h) (pad_cons (pd_var 3) (pad_cons (pd_var 1) pad_nil))) (pad_cons (pd_var 4) (pad_cons (pd_var 5) pad_nil)))))) (pssd_one (psd_ret (pd_callT1 cd_tuple h.b_tuple (pdb (pdf (pf_comp (own := [("block", 6)]) (tup := false) (is := [6]) G.calm sc_left_of.nd (pid_seq (pd_var 2)) ⟨rfl, of_decide_eq_true (by kernel_rfl), of_decide_eq_true (by kernel_rfl), of_decide_eq_true (by kernel_rfl), of_decide_eq_true (by kernel_rfl)⟩ (fun _ _ _ _ _ => (pgc_name sc_left_of.nd)) (fun _ _ _ _ _ => (ptsd_one (pt_cmp (opd_ne (G.blk _ _ _ _ _).rm.units) (pdb (pd_ix (pdb (pd_var 6)) (pdb pd_int))) (pdb pd_str)))) (fun _ _ _ _ _ => (pd_var 6)))))))))
theorem v_left_of (h : HdT w mg K base) : FnV P w K mg base 2 ((fun K => He.ga K "left_of") K) (spD ⟨K, Γ K⟩ (F_left_of U)) := by
  obtain ⟨fd, D⟩ := h.d_left_of
  exact (b_left_of h D).v D (fun _ _ _ _ _ _ us hl => match us, hl with | [_, _], _ => rfl)
theorem k_left_of (h : HdT w mg K base) : Kn P w K mg base (Γ K) 2 "left_of" [] (F_left_of U) := by
  obtain ⟨fd, D⟩ := h.d_left_of
  exact ⟨_, h.g_left_of, D.kp, Cal.fn0 (v_left_of h)⟩
theorem sc_parts_of : FnScope ["pegs", "found", "peg", "part"] ["pegs"] (defScope (top 44)) := ⟨rfl, rfl, rfl, by decide +kernel, rfl, by decide +kernel, by decide +kernel⟩
theorem b_parts_of (h : HdT w mg K base) {fd : FuncData} (D : FunD K "parts_of" "parts_of" (defArgs (top 44)) (defBody (top 44)) (defScope (top 44)) [] [] ((fun K => He.ga K "parts_of") K) fd) : FnB P w K mg base 1 ((fun K => He.ga K "parts_of") K) fd ["pegs"] (spD ⟨K, Γ K⟩ (F_parts_of U)) :=
  def_okT (p := ("parts_of", none)) D sc_parts_of _ fun A outer s H E G =>
    (pssd_cons (psd_set sc_parts_of.nd (pd_lst (pad_cons pd_str pad_nil))) (pssd_cons (psd_for G.po G.calm (pid_seq (pd_var 0)) (pgd_name sc_parts_of.nd) (pssd_one (psd_set sc_parts_of.nd (pd_op opd_add (pdb (pd_var 1)) (pdb (pdf (pf_comp (own := [("part", 3)]) (tup := false) (is := [3]) G.calm sc_parts_of.nd (pid_seq (pd_var 1)) ⟨rfl, of_decide_eq_true (by kernel_rfl), of_decide_eq_true (by kernel_rfl), of_decide_eq_true (by kernel_rfl), of_decide_eq_true (by kernel_rfl)⟩ (fun _ _ _ _ _ => (pgc_name sc_parts_of.nd)) (fun _ _ _ _ _ => ptsd_nil) (fun _ _ _ _ _ => (pd_op opd_add (pdb (pd_var 3)) (pdb (pd_var 2))))))))))) (pssd_one (psd_ret (pd_sortKQ (q := "parts_of.<locals>.<lambda>") (i := 1000) (by first | rfl | kernel_rfl) G.rm (tb_parts_of h) rfl ⟨rfl, rfl, rfl, rfl, rfl, by decide +kernel, by decide +kernel, fun _ _ _ _ _ _ _ => rfl, by decide⟩ rfl (pdb (pd_var 1)) h.b_sorted h.b_len)))))
theorem v_parts_of (h : HdT w mg K base) : FnV P w K mg base 1 ((fun K => He.ga K "parts_of") K) (spD ⟨K, Γ K⟩ (F_parts_of U)) := by
  obtain ⟨fd, D⟩ := h.d_parts_of
  exact (b_parts_of h D).v D (fun _ _ _ _ _ _ us hl => match us, hl with | [_], _ => rfl)
theorem k_parts_of (h : HdT w mg K base) : Kn P w K mg base (Γ K) 1 "parts_of" [] (F_parts_of U) := by
  obtain ⟨fd, D⟩ := h.d_parts_of
  exact ⟨_, h.g_parts_of, D.kp, Cal.fn0 (v_parts_of h)⟩
theorem sc_has_all : FnScope ["pegs", "others", "peg"] ["pegs", "others"] (defScope (top 45)) := ⟨rfl, rfl, rfl, by decide +kernel, rfl, by decide +kernel, by decide +kernel⟩
theorem b_has_all (h : HdT w mg K base) {fd : FuncData} (D : FunD K "has_all" "has_all" (defArgs (top 45)) (defBody (top 45)) (defScope (top 45)) [] [] ((fun K => He.ga K "has_all") K) fd) : FnB P w K mg base 1 ((fun K => He.ga K "has_all") K) fd ["pegs", "others"] (spD ⟨K, Γ K⟩ (F_has_all U)) :=
  def_ok D sc_has_all _ fun cdv A outer s H E G =>
    (pssd_one (psd_ret (pd_call1 (cd_all G.calm) h.b_all (pdb (pdf (pf_comp (own := [("peg", 2)]) (tup := false) (is := [2]) G.calm sc_has_all.nd (pid_seq (pd_var 1)) ⟨rfl, of_decide_eq_true (by kernel_rfl), of_decide_eq_true (by kernel_rfl), of_decide_eq_true (by kernel_rfl), of_decide_eq_true (by kernel_rfl)⟩ (fun _ _ _ _ _ => (pgc_name sc_has_all.nd)) (fun _ _ _ _ _ => ptsd_nil) (fun _ _ _ _ _ => (pd_cmp (opd_inO (G.blk _ _ _ _ _)) (pdb (pd_var 2)) (pdb (pd_var 0))))))))))
theorem v_has_all (h : HdT w mg K base) : FnV P w K mg base 1 ((fun K => He.ga K "has_all") K) (spD ⟨K, Γ K⟩ (F_has_all U)) := by
  obtain ⟨fd, D⟩ := h.d_has_all
  exact (b_has_all h D).v D (fun _ _ _ _ _ _ us hl => match us, hl with | [_, _], _ => rfl)
theorem k_has_all (h : HdT w mg K base) : Kn P w K mg base (Γ K) 1 "has_all" [] (F_has_all U) := by
  obtain ⟨fd, D⟩ := h.d_has_all
  exact ⟨_, h.g_has_all, D.kp, Cal.fn0 (v_has_all h)⟩
theorem sc_least : FnScope ["parts", "found", "part", "other"] ["parts"] (defScope (top 46)) := ⟨rfl, rfl, rfl, by decide +kernel, rfl, by decide +kernel, by decide +kernel⟩
theorem b_least (h : HdT w mg K base) {fd : FuncData} (D : FunD K "least" "least" (defArgs (top 46)) (defBody (top 46)) (defScope (top 46)) [] [] ((fun K => He.ga K "least") K) fd) : FnB P w K mg base 2 ((fun K => He.ga K "least") K) fd ["parts"] (spD ⟨K, Γ K⟩ (F_least U)) :=
  def_ok D sc_least _ fun cdv A outer s H E G =>
    (pssd_cons (psd_own sc_least.nd (pf_lst pad_nil)) (pssd_cons (psd_for G.po G.calm (pid_seq (pd_var 0)) (pgd_name sc_least.nd) (pssd_one (psd_if (ptd_not (pt_tru (pdb (pd_call1 (cd_any G.calm) h.b_any (pdb (pdf (pf_compX (own := [("other", 3)]) (tup := false) (is := [3]) G.calm sc_least.nd (pid_seqL (pd_own 1)) ⟨rfl, of_decide_eq_true (by kernel_rfl), of_decide_eq_true (by kernel_rfl), of_decide_eq_true (by kernel_rfl), of_decide_eq_true (by kernel_rfl)⟩ (fun _ _ _ _ _ => (pgc_name sc_least.nd)) (fun _ _ _ _ _ => ptsd_nil) (fun _ _ _ _ _ => (pd_call (G.blk _ _ _ _ _) (k_has_all h) (pad_cons (pd_var 2) (pad_cons (pd_var 3) pad_nil))))))))))) (pssd_one (psd_app 1 (pd_var 2))) pssd_nil))) (pssd_one (psd_ret (pd_callT1 cd_tuple h.b_tuple (pdb (pd_call1 (cd_sortS G.rm) h.b_sorted (pd_own 1))))))))
theorem v_least (h : HdT w mg K base) : FnV P w K mg base 2 ((fun K => He.ga K "least") K) (spD ⟨K, Γ K⟩ (F_least U)) := by
  obtain ⟨fd, D⟩ := h.d_least
  exact (b_least h D).v D (fun _ _ _ _ _ _ us hl => match us, hl with | [_], _ => rfl)
theorem k_least (h : HdT w mg K base) : Kn P w K mg base (Γ K) 2 "least" [] (F_least U) := by
  obtain ⟨fd, D⟩ := h.d_least
  exact ⟨_, h.g_least, D.kp, Cal.fn0 (v_least h)⟩
theorem sc_cuts_of : FnScope ["found", "pegs", "part", "peg", "lot"] ["found"] (defScope (top 47)) := ⟨rfl, rfl, rfl, by decide +kernel, rfl, by decide +kernel, by decide +kernel⟩
theorem b_cuts_of (h : HdT w mg K base) {fd : FuncData} (D : FunD K "cuts_of" "cuts_of" (defArgs (top 47)) (defBody (top 47)) (defScope (top 47)) [] [] ((fun K => He.ga K "cuts_of") K) fd) : FnB P w K mg base 3 ((fun K => He.ga K "cuts_of") K) fd ["found"] (spD ⟨K, Γ K⟩ (F_cuts_of U)) :=
  def_ok D sc_cuts_of _ fun cdv A outer s H E G =>
    (pssd_cons (psd_set sc_cuts_of.nd (pd_join pd_str (pdb (pd_sortD (i := 3) (own := [("peg", 3)]) G.calm sc_cuts_of.nd (pd_join pd_str (pdb (pd_var 0))) ⟨rfl, of_decide_eq_true (by kernel_rfl), of_decide_eq_true (by kernel_rfl), of_decide_eq_true (by kernel_rfl), of_decide_eq_true (by kernel_rfl)⟩ h.b_sorted rfl (fun _ _ _ _ _ => pgc_name (i := 3) sc_cuts_of.nd) (fun _ _ _ _ _ => pe_var rfl (by first | exact Or.inl rfl | exact Or.inr (Or.inl rfl) | exact Or.inr (Or.inr rfl))))))) (pssd_one (psd_ret (pd_call G (k_least h) (pad_cons (pdf (pf_comp (own := [("part", 2)]) (tup := false) (is := [2]) G.calm sc_cuts_of.nd (pid_seq (pd_call G (k_parts_of h) (pad_cons (pd_var 1) pad_nil))) ⟨rfl, of_decide_eq_true (by kernel_rfl), of_decide_eq_true (by kernel_rfl), of_decide_eq_true (by kernel_rfl), of_decide_eq_true (by kernel_rfl)⟩ (fun _ _ _ _ _ => (pgc_name sc_cuts_of.nd)) (fun _ _ _ _ _ => (ptsd_one (pt_tru (pdb (pd_call1 (cd_all (G.blk _ _ _ _ _).calm) h.b_all (pdb (pdf (pf_comp (own := [("lot", 4)]) (tup := false) (is := [4]) (G.blk _ _ _ _ _).calm sc_cuts_of.nd (pid_seq (pd_var 0)) ⟨rfl, of_decide_eq_true (by kernel_rfl), of_decide_eq_true (by kernel_rfl), of_decide_eq_true (by kernel_rfl), of_decide_eq_true (by kernel_rfl)⟩ (fun _ _ _ _ _ => (pgc_name sc_cuts_of.nd)) (fun _ _ _ _ _ => ptsd_nil) (fun _ _ _ _ _ => (pd_call1 (cd_any ((G.blk _ _ _ _ _).blk _ _ _ _ _).calm) h.b_any (pdb (pdf (pf_comp (own := [("peg", 3)]) (tup := false) (is := [3]) ((G.blk _ _ _ _ _).blk _ _ _ _ _).calm sc_cuts_of.nd (pid_seq (pd_var 2)) ⟨rfl, of_decide_eq_true (by kernel_rfl), of_decide_eq_true (by kernel_rfl), of_decide_eq_true (by kernel_rfl), of_decide_eq_true (by kernel_rfl)⟩ (fun _ _ _ _ _ => (pgc_name sc_cuts_of.nd)) (fun _ _ _ _ _ => ptsd_nil) (fun _ _ _ _ _ => (pd_cmp (opd_inO (((G.blk _ _ _ _ _).blk _ _ _ _ _).blk _ _ _ _ _)) (pdb (pd_var 3)) (pdb (pd_var 4))))))))))))))))) (fun _ _ _ _ _ => (pd_var 2)))) pad_nil)))))
theorem v_cuts_of (h : HdT w mg K base) : FnV P w K mg base 3 ((fun K => He.ga K "cuts_of") K) (spD ⟨K, Γ K⟩ (F_cuts_of U)) := by
  obtain ⟨fd, D⟩ := h.d_cuts_of
  exact (b_cuts_of h D).v D (fun _ _ _ _ _ _ us hl => match us, hl with | [_], _ => rfl)
theorem k_cuts_of (h : HdT w mg K base) : Kn P w K mg base (Γ K) 3 "cuts_of" [] (F_cuts_of U) := by
  obtain ⟨fd, D⟩ := h.d_cuts_of
  exact ⟨_, h.g_cuts_of, D.kp, Cal.fn0 (v_cuts_of h)⟩
theorem sc_pegs_in : FnScope ["blocks", "letters", "peg", "block"] ["blocks"] (defScope (top 52)) := ⟨rfl, rfl, rfl, by decide +kernel, rfl, by decide +kernel, by decide +kernel⟩
theorem b_pegs_in (h : HdT w mg K base) {fd : FuncData} (D : FunD K "pegs_in" "pegs_in" (defArgs (top 52)) (defBody (top 52)) (defScope (top 52)) [] [] ((fun K => He.ga K "pegs_in") K) fd) : FnB P w K mg base 1 ((fun K => He.ga K "pegs_in") K) fd ["blocks"] (spD ⟨K, Γ K⟩ (F_pegs_in U)) :=
  def_ok D sc_pegs_in _ fun cdv A outer s H E G =>
    (pssd_cons (psd_set sc_pegs_in.nd (pd_lower (pd_join pd_str (pdb (pdf (pf_comp (own := [("block", 3)]) (tup := false) (is := [3]) G.calm sc_pegs_in.nd (pid_seq (pd_var 0)) ⟨rfl, of_decide_eq_true (by kernel_rfl), of_decide_eq_true (by kernel_rfl), of_decide_eq_true (by kernel_rfl), of_decide_eq_true (by kernel_rfl)⟩ (fun _ _ _ _ _ => (pgc_name sc_pegs_in.nd)) (fun _ _ _ _ _ => ptsd_nil) (fun _ _ _ _ _ => (pd_ix (pdb (pd_var 3)) (pdb pd_int))))))))) (pssd_one (psd_ret (pd_join pd_str (pdb (pdf (pf_comp (own := [("peg", 2)]) (tup := false) (is := [2]) G.calm sc_pegs_in.nd (pid_seq (pd_gstr h.c_PEGS)) ⟨rfl, of_decide_eq_true (by kernel_rfl), of_decide_eq_true (by kernel_rfl), of_decide_eq_true (by kernel_rfl), of_decide_eq_true (by kernel_rfl)⟩ (fun _ _ _ _ _ => (pgc_name sc_pegs_in.nd)) (fun _ _ _ _ _ => (ptsd_one (pt_cmp (opd_inO (G.blk _ _ _ _ _)) (pdb (pd_var 2)) (pdb (pd_var 1))))) (fun _ _ _ _ _ => (pd_var 2)))))))))
theorem v_pegs_in (h : HdT w mg K base) : FnV P w K mg base 1 ((fun K => He.ga K "pegs_in") K) (spD ⟨K, Γ K⟩ (F_pegs_in U)) := by
  obtain ⟨fd, D⟩ := h.d_pegs_in
  exact (b_pegs_in h D).v D (fun _ _ _ _ _ _ us hl => match us, hl with | [_], _ => rfl)
theorem k_pegs_in (h : HdT w mg K base) : Kn P w K mg base (Γ K) 1 "pegs_in" [] (F_pegs_in U) := by
  obtain ⟨fd, D⟩ := h.d_pegs_in
  exact ⟨_, h.g_pegs_in, D.kp, Cal.fn0 (v_pegs_in h)⟩
theorem sc_are_pegs : FnScope ["value", "index", "letter"] ["value"] (defScope (top 12)) := ⟨rfl, rfl, rfl, by decide +kernel, rfl, by decide +kernel, by decide +kernel⟩
theorem b_are_pegs (h : HdT w mg K base) {fd : FuncData} (D : FunD K "are_pegs" "are_pegs" (defArgs (top 12)) (defBody (top 12)) (defScope (top 12)) [] [] ((fun K => He.ga K "are_pegs") K) fd) : FnB P w K mg base 1 ((fun K => He.ga K "are_pegs") K) fd ["value"] (spD ⟨K, Γ K⟩ (F_are_pegs U)) :=
  def_ok D sc_are_pegs _ fun cdv A outer s H E G =>
    (pssd_cons (psd_if (PW.pt (pwd_or (ptd_not (pt_tru (pdb (pd_isi h.is_str (.ty "str") (pdb (pd_var 0)) (pe_bltn (v := .ty "str") (by rfl) h.b_str (by decide +kernel) rfl (by decide)) h.b_isinstance)))) (pwd1 (ptd_not (pt_tru (pdb (pd_call1 (cd_all G.calm) h.b_all (pdb (pdf (pf_comp (own := [("letter", 2)]) (tup := false) (is := [2]) G.calm sc_are_pegs.nd (pid_seq (pd_var 0)) ⟨rfl, of_decide_eq_true (by kernel_rfl), of_decide_eq_true (by kernel_rfl), of_decide_eq_true (by kernel_rfl), of_decide_eq_true (by kernel_rfl)⟩ (fun _ _ _ _ _ => (pgc_name sc_are_pegs.nd)) (fun _ _ _ _ _ => ptsd_nil) (fun _ _ _ _ _ => (pd_cmp (opd_inO (G.blk _ _ _ _ _)) (pdb (pd_var 2)) (pdb (pd_gstr h.c_PEGS))))))))))) _))) (pssd_one (psd_ret pd_bl)) pssd_nil) (pssd_one (psd_ret (pd_call1 (cd_all G.calm) h.b_all (pdb (pdf (pf_comp (own := [("index", 1)]) (tup := false) (is := [1]) G.calm sc_are_pegs.nd (pid_range1 h.b_range (pd_op opd_sub (pdb (pd_call1 cd_len h.b_len (pdb (pd_var 0)))) (pdb pd_int))) ⟨rfl, of_decide_eq_true (by kernel_rfl), of_decide_eq_true (by kernel_rfl), of_decide_eq_true (by kernel_rfl), of_decide_eq_true (by kernel_rfl)⟩ (fun _ _ _ _ _ => (pgc_name sc_are_pegs.nd)) (fun _ _ _ _ _ => ptsd_nil) (fun _ _ _ _ _ => (pd_cmp opd_lt (pdb (pd_ix (pdb (pd_var 0)) (pdb (pd_var 1)))) (pdb (pd_ix (pdb (pd_var 0)) (pdb (pd_op opd_add (pdb (pd_var 1)) (pdb pd_int))))))))))))))
theorem v_are_pegs (h : HdT w mg K base) : FnV P w K mg base 1 ((fun K => He.ga K "are_pegs") K) (spD ⟨K, Γ K⟩ (F_are_pegs U)) := by
  obtain ⟨fd, D⟩ := h.d_are_pegs
  exact (b_are_pegs h D).v D (fun _ _ _ _ _ _ us hl => match us, hl with | [_], _ => rfl)
theorem k_are_pegs (h : HdT w mg K base) : Kn P w K mg base (Γ K) 1 "are_pegs" [] (F_are_pegs U) := by
  obtain ⟨fd, D⟩ := h.d_are_pegs
  exact ⟨_, h.g_are_pegs, D.kp, Cal.fn0 (v_are_pegs h)⟩
theorem sc_are_lots : FnScope ["value", "pegs", "index", "lot", "other"] ["value", "pegs"] (defScope (top 61)) := ⟨rfl, rfl, rfl, by decide +kernel, rfl, by decide +kernel, by decide +kernel⟩
theorem b_are_lots (h : HdT w mg K base) {fd : FuncData} (D : FunD K "are_lots" "are_lots" (defArgs (top 61)) (defBody (top 61)) (defScope (top 61)) [] [] ((fun K => He.ga K "are_lots") K) fd) : FnB P w K mg base 2 ((fun K => He.ga K "are_lots") K) fd ["value", "pegs"] (spD ⟨K, Γ K⟩ (F_are_lots U)) :=
  def_ok D sc_are_lots _ fun cdv A outer s H E G =>
    (pssd_cons (psd_if (PW.pt (pwd_or (ptd_not (pt_tru (pdb (pd_isi h.is_tuple (.ty "tuple") (pdb (pd_var 0)) (pe_bltn (v := .ty "tuple") (by rfl) h.b_tuple (by decide +kernel) rfl (by decide)) h.b_isinstance)))) (pwd1 (ptd_not (pt_tru (pdb (pd_call1 (cd_all G.calm) h.b_all (pdb (pdf (pf_comp (own := [("lot", 3)]) (tup := false) (is := [3]) G.calm sc_are_lots.nd (pid_seq (pd_var 0)) ⟨rfl, of_decide_eq_true (by kernel_rfl), of_decide_eq_true (by kernel_rfl), of_decide_eq_true (by kernel_rfl), of_decide_eq_true (by kernel_rfl)⟩ (fun _ _ _ _ _ => (pgc_name sc_are_lots.nd)) (fun _ _ _ _ _ => ptsd_nil) (fun _ _ _ _ _ => (pd_and (pd_call (G.blk _ _ _ _ _) (k_are_pegs h) (pad_cons (pd_var 3) pad_nil)) (pd_one (pd_call (G.blk _ _ _ _ _) (k_has_all h) (pad_cons (pd_var 1) (pad_cons (pd_var 3) pad_nil))))))))))))) _))) (pssd_one (psd_ret pd_bl)) pssd_nil) (pssd_cons (psd_if (pt_tru (pdb (pd_call1 (cd_any G.calm) h.b_any (pdb (pdf (pf_comp (own := [("index", 2)]) (tup := false) (is := [2]) G.calm sc_are_lots.nd (pid_range1 h.b_range (pd_op opd_sub (pdb (pd_call1 cd_len h.b_len (pdb (pd_var 0)))) (pdb pd_int))) ⟨rfl, of_decide_eq_true (by kernel_rfl), of_decide_eq_true (by kernel_rfl), of_decide_eq_true (by kernel_rfl), of_decide_eq_true (by kernel_rfl)⟩ (fun _ _ _ _ _ => (pgc_name sc_are_lots.nd)) (fun _ _ _ _ _ => ptsd_nil) (fun _ _ _ _ _ => (pd_cmp opd_ge (pdb (pd_ix (pdb (pd_var 0)) (pdb (pd_var 2)))) (pdb (pd_ix (pdb (pd_var 0)) (pdb (pd_op opd_add (pdb (pd_var 2)) (pdb pd_int))))))))))))) (pssd_one (psd_ret pd_bl)) pssd_nil) (pssd_cons (psd_for G.po G.calm (pid_enum h.b_enumerate (pd_var 0)) (pgd_tup G.calm (pgsd_cons (pgd_name sc_are_lots.nd) (pgsd_cons (pgd_name sc_are_lots.nd) pgsd_nil))) (pssd_one (psd_if (pt_tru (pdb (pd_call1 (cd_any G.calm) h.b_any (pdb (pdf (pf_comp (own := [("other", 4)]) (tup := false) (is := [4]) G.calm sc_are_lots.nd (pid_seq (pd_op opd_add (pdb (pd_slice (pdb (pd_var 0)) pod_none (pod_some (pd_var 2)))) (pdb (pd_slice (pdb (pd_var 0)) (pod_some (pd_op opd_add (pdb (pd_var 2)) (pdb pd_int))) pod_none)))) ⟨rfl, of_decide_eq_true (by kernel_rfl), of_decide_eq_true (by kernel_rfl), of_decide_eq_true (by kernel_rfl), of_decide_eq_true (by kernel_rfl)⟩ (fun _ _ _ _ _ => (pgc_name sc_are_lots.nd)) (fun _ _ _ _ _ => ptsd_nil) (fun _ _ _ _ _ => (pd_call (G.blk _ _ _ _ _) (k_has_all h) (pad_cons (pd_var 3) (pad_cons (pd_var 4) pad_nil)))))))))) (pssd_one (psd_ret pd_bl)) pssd_nil))) (pssd_one (psd_ret pd_bl)))))
theorem v_are_lots (h : HdT w mg K base) : FnV P w K mg base 2 ((fun K => He.ga K "are_lots") K) (spD ⟨K, Γ K⟩ (F_are_lots U)) := by
  obtain ⟨fd, D⟩ := h.d_are_lots
  exact (b_are_lots h D).v D (fun _ _ _ _ _ _ us hl => match us, hl with | [_, _], _ => rfl)
theorem k_are_lots (h : HdT w mg K base) : Kn P w K mg base (Γ K) 2 "are_lots" [] (F_are_lots U) := by
  obtain ⟨fd, D⟩ := h.d_are_lots
  exact ⟨_, h.g_are_lots, D.kp, Cal.fn0 (v_are_lots h)⟩
theorem sc_shows_lots : FnScope ["claim", "paper", "cuts", "row", "others", "cut", "peg", "left", "steps", "part", "lot"] ["claim", "paper"] (defScope (top 62)) := ⟨rfl, rfl, rfl, by decide +kernel, rfl, by decide +kernel, by decide +kernel⟩
theorem b_shows_lots (h : HdT w mg K base) {fd : FuncData} (D : FunD K "shows_lots" "shows_lots" (defArgs (top 62)) (defBody (top 62)) (defScope (top 62)) [] [] ((fun K => He.ga K "shows_lots") K) fd) : FnB P w K mg base 7 ((fun K => He.ga K "shows_lots") K) fd ["claim", "paper"] (spD ⟨K, Γ K⟩ (F_shows_lots U)) :=
  def_ok D sc_shows_lots _ fun cdv A outer s H E G =>
    (pssd_cons (psd_if (PW.pt (pwd_or (ptd_not (pt_tru (pdb (pd_call G (k_are_blocks h) (pad_cons (pd_ix (pdb (pd_var 0)) (pdb pd_int)) pad_nil))))) (pwd_or (ptd_not (pt_tru (pdb (pd_call G (k_is_rounds h) (pad_cons (pd_ix (pdb (pd_var 0)) (pdb pd_int)) pad_nil))))) (pwd1 (ptd_not (pt_tru (pdb (pd_call G (k_are_lots h) (pad_cons (pd_ix (pdb (pd_var 0)) (pdb pd_int)) (pad_cons (pd_call G (k_pegs_in h) (pad_cons (pd_ix (pdb (pd_var 0)) (pdb pd_int)) pad_nil)) pad_nil)))))) _)))) (pssd_one (psd_ret pd_bl)) pssd_nil) (pssd_cons (psd_if (PW.pt (pwd_or (ptd_not (pt_tru (pdb (pd_isi h.is_tuple (.ty "tuple") (pdb (pd_var 1)) (pe_bltn (v := .ty "tuple") (by rfl) h.b_tuple (by decide +kernel) rfl (by decide)) h.b_isinstance)))) (pwd_or (pt_cmp (opd_ne G.rm.units) (pdb (pd_call1 cd_len h.b_len (pdb (pd_var 1)))) (pdb pd_int)) (pwd1 (ptd_not (pt_tru (pdb (pd_call1 (cd_all G.calm) h.b_all (pdb (pdf (pf_comp (own := [("part", 9)]) (tup := false) (is := [9]) G.calm sc_shows_lots.nd (pid_seq (pd_var 1)) ⟨rfl, of_decide_eq_true (by kernel_rfl), of_decide_eq_true (by kernel_rfl), of_decide_eq_true (by kernel_rfl), of_decide_eq_true (by kernel_rfl)⟩ (fun _ _ _ _ _ => (pgc_name sc_shows_lots.nd)) (fun _ _ _ _ _ => ptsd_nil) (fun _ _ _ _ _ => (pd_isi h.is_tuple (.ty "tuple") (pdb (pd_var 9)) (pe_bltn (v := .ty "tuple") (by rfl) h.b_tuple (by decide +kernel) rfl (by decide)) h.b_isinstance))))))))) _)))) (pssd_one (psd_ret pd_bl)) pssd_nil) (pssd_cons (psd_set sc_shows_lots.nd (pd_call G (k_cuts_of h) (pad_cons (pd_ix (pdb (pd_var 0)) (pdb pd_int)) pad_nil))) (pssd_cons (psd_if (PW.pt (pwd_or (pt_cmp (opd_ne G.rm.units) (pdb (pd_call1 cd_len h.b_len (pdb (pd_ix (pdb (pd_var 1)) (pdb pd_int))))) (pdb (pd_call1 cd_len h.b_len (pdb (pd_ix (pdb (pd_var 0)) (pdb pd_int)))))) (pwd1 (pt_cmp (opd_ne G.rm.units) (pdb (pd_call1 cd_len h.b_len (pdb (pd_ix (pdb (pd_var 1)) (pdb pd_int))))) (pdb (pd_call1 cd_len h.b_len (pdb (pd_var 2))))) _))) (pssd_one (psd_ret pd_bl)) pssd_nil) (pssd_cons (psd_set sc_shows_lots.nd (pd_call G (k_at_rounds h) (pad_cons (pd_ix (pdb (pd_var 0)) (pdb pd_int)) (pad_cons (pd_ix (pdb (pd_var 0)) (pdb pd_int)) pad_nil)))) (pssd_cons (psd_if (ptd_not (pt_tru (pdb (pd_call1 (cd_all G.calm) h.b_all (pdb (pdf (pf_comp (own := [("lot", 10), ("steps", 8)]) (tup := true) (is := [10, 8]) G.calm sc_shows_lots.nd (pid_zip h.b_zip (pd_ix (pdb (pd_var 0)) (pdb pd_int)) (pd_ix (pdb (pd_var 1)) (pdb pd_int))) ⟨rfl, of_decide_eq_true (by kernel_rfl), of_decide_eq_true (by kernel_rfl), of_decide_eq_true (by kernel_rfl), of_decide_eq_true (by kernel_rfl)⟩ (fun _ _ _ _ _ => (pgc_tup G.calm (pgsc_cons sc_shows_lots.nd (pgsc_cons sc_shows_lots.nd pgsc_nil)))) (fun _ _ _ _ _ => ptsd_nil) (fun _ _ _ _ _ => (pd_call (G.blk _ _ _ _ _) (k_lead_to_tight h) (pad_cons (pd_call (G.blk _ _ _ _ _) (k_left_of h) (pad_cons (pd_var 3) (pad_cons (pd_var 10) pad_nil))) (pad_cons (pd_var 8) (pad_cons pd_int pad_nil)))))))))))) (pssd_one (psd_ret pd_bl)) pssd_nil) (pssd_cons (psd_setLc (own := [("cut", 5)]) (tup := false) (is := [5]) G.calm sc_shows_lots.nd (pid_seq (pd_var 2)) ⟨rfl, of_decide_eq_true (by kernel_rfl), of_decide_eq_true (by kernel_rfl), of_decide_eq_true (by kernel_rfl), of_decide_eq_true (by kernel_rfl)⟩ (fun _ _ _ _ _ => (pgc_name sc_shows_lots.nd)) (fun _ _ _ _ _ => ptsd_nil) (fun _ _ _ _ _ => (pd_join pd_str (pdb (pdf (pf_comp (own := [("peg", 6)]) (tup := false) (is := [6]) (G.blk _ _ _ _ _).calm sc_shows_lots.nd (pid_seq (pd_gstr h.c_PEGS)) ⟨rfl, of_decide_eq_true (by kernel_rfl), of_decide_eq_true (by kernel_rfl), of_decide_eq_true (by kernel_rfl), of_decide_eq_true (by kernel_rfl)⟩ (fun _ _ _ _ _ => (pgc_name sc_shows_lots.nd)) (fun _ _ _ _ _ => (ptsd_one (pt_cmp (opd_notInO ((G.blk _ _ _ _ _).blk _ _ _ _ _)) (pdb (pd_var 6)) (pdb (pd_var 5))))) (fun _ _ _ _ _ => (pd_var 6)))))))) (pssd_one (psd_ret (pd_call1 (cd_all G.calm) h.b_all (pdb (pdf (pf_comp (own := [("left", 7), ("steps", 8)]) (tup := true) (is := [7, 8]) G.calm sc_shows_lots.nd (pid_zip h.b_zip (pd_var 4) (pd_ix (pdb (pd_var 1)) (pdb pd_int))) ⟨rfl, of_decide_eq_true (by kernel_rfl), of_decide_eq_true (by kernel_rfl), of_decide_eq_true (by kernel_rfl), of_decide_eq_true (by kernel_rfl)⟩ (fun _ _ _ _ _ => (pgc_tup G.calm (pgsc_cons sc_shows_lots.nd (pgsc_cons sc_shows_lots.nd pgsc_nil)))) (fun _ _ _ _ _ => ptsd_nil) (fun _ _ _ _ _ => (pd_call (G.blk _ _ _ _ _) (k_lead_to_nothing h) (pad_cons (pd_call (G.blk _ _ _ _ _) (k_left_of h) (pad_cons (pd_var 3) (pad_cons (pd_var 7) pad_nil))) (pad_cons (pd_var 8) pad_nil)))))))))))))))))
theorem v_shows_lots (h : HdT w mg K base) : FnV P w K mg base 7 ((fun K => He.ga K "shows_lots") K) (spD ⟨K, Γ K⟩ (F_shows_lots U)) := by
  obtain ⟨fd, D⟩ := h.d_shows_lots
  exact (b_shows_lots h D).v D (fun _ _ _ _ _ _ us hl => match us, hl with | [_, _], _ => rfl)
theorem sc_accepts : FnScope ["claim", "certificate", "size", "judge"] ["claim", "certificate"] (defScope (top 64)) := ⟨rfl, rfl, rfl, by decide +kernel, rfl, by decide +kernel, by decide +kernel⟩
theorem lc_judge (h : HdT w mg K base) : LcOk P w K mg base (Γ K) 7 (L_judge U) :=
  (.cons ⟨(h.d_shows_free).elim fun _ D => D.kp, (Cal.fn0 (v_shows_free h)).mono (by decide)⟩ (.cons ⟨(h.d_shows_free_at).elim fun _ D => D.kp, (Cal.fn0 (v_shows_free_at h)).mono (by decide)⟩ (.cons ⟨(h.d_shows_held_at).elim fun _ D => D.kp, (Cal.fn0 (v_shows_held_at h)).mono (by decide)⟩ (.cons ⟨(h.d_shows_held).elim fun _ D => D.kp, (Cal.fn0 (v_shows_held h)).mono (by decide)⟩ (.cons ⟨(h.d_shows_length).elim fun _ D => D.kp, (Cal.fn0 (v_shows_length h)).mono (by decide)⟩ (.cons ⟨(h.d_shows_same).elim fun _ D => D.kp, (Cal.fn0 (v_shows_same h)).mono (by decide)⟩ (.cons ⟨(h.d_shows_lots).elim fun _ D => D.kp, (Cal.fn0 (v_shows_lots h)).mono (by decide)⟩ LcOk.nil0)))))))
theorem b_accepts (h : HdT w mg K base) {fd : FuncData} (D : FunD K "accepts" "accepts" (defArgs (top 64)) (defBody (top 64)) (defScope (top 64)) [] [] ((fun K => He.ga K "accepts") K) fd) : FnB P w K mg base 8 ((fun K => He.ga K "accepts") K) fd ["claim", "certificate"] (spD ⟨K, Γ K⟩ (F_accepts U)) :=
  def_ok D sc_accepts _ fun cdv A outer s H E G =>
    (pssd_cons (psd_if (PW.pt (pwd_or (ptd_not (pt_tru (pdb (pd_isi h.is_tuple (.ty "tuple") (pdb (pd_var 0)) (pe_bltn (v := .ty "tuple") (by rfl) h.b_tuple (by decide +kernel) rfl (by decide)) h.b_isinstance)))) (pwd_or (pt_cmp (opd_eq G.rm.units) (pdb (pd_call1 cd_len h.b_len (pdb (pd_var 0)))) (pdb pd_int)) (pwd_or (ptd_not (pt_tru (pdb (pd_isi h.is_str (.ty "str") (pdb (pd_ix (pdb (pd_var 0)) (pdb pd_int))) (pe_bltn (v := .ty "str") (by rfl) h.b_str (by decide +kernel) rfl (by decide)) h.b_isinstance)))) (pwd1 (pt_notInG h.t_JUDGES (pd_ix (pdb (pd_var 0)) (pdb pd_int))) _))))) (pssd_one (psd_ret pd_bl)) pssd_nil) (pssd_cons (psd_asg (pd_ixG h.t_JUDGES (pd_ix (pdb (pd_var 0)) (pdb pd_int))) (pgd_tup G.calm (pgsd_cons (pgd_name sc_accepts.nd) (pgsd_cons (pgd_name sc_accepts.nd) pgsd_nil)))) (pssd_one (psd_ret (pd_and (pd_cmp (opd_eq G.rm.units) (pdb (pd_call1 cd_len h.b_len (pdb (pd_var 0)))) (pdb (pd_var 2))) (pd_one (pd_lcall (t := L_judge U) 3 G (lc_judge h) (pad_cons (pd_var 0) (pad_cons (pd_var 1) pad_nil)))))))))
theorem v_accepts (h : HdT w mg K base) : FnV P w K mg base 8 ((fun K => He.ga K "accepts") K) (spD ⟨K, Γ K⟩ (F_accepts U)) := by
  obtain ⟨fd, D⟩ := h.d_accepts
  exact (b_accepts h D).v D (fun _ _ _ _ _ _ us hl => match us, hl with | [_, _], _ => rfl)
theorem k_accepts (h : HdT w mg K base) : Kn P w K mg base (Γ K) 8 "accepts" [] (F_accepts U) := by
  obtain ⟨fd, D⟩ := h.d_accepts
  exact ⟨_, h.g_accepts, D.kp, Cal.fn0 (v_accepts h)⟩
theorem k_accepts_kw_certificate_claim (h : HdT w mg K base) : Kn P w K mg base (Γ K) 8 "accepts" ["certificate", "claim"] (kwD [1, 0] (F_accepts U)) := by
  obtain ⟨fd, D⟩ := h.d_accepts
  exact ⟨_, h.g_accepts, D.kp, Cal.fnP [1, 0] D (b_accepts h D) (by decide) fun _ _ _ _ _ _ vs hl => match vs, hl with | [_, _], _ => rfl⟩
theorem sc_law_bag : FnScope ["_law_script", "_law_spot", "_law_cell", "_law_part"] ["_law_script", "_law_spot"] (defScope (top 66)) := ⟨rfl, rfl, rfl, by decide +kernel, rfl, by decide +kernel, by decide +kernel⟩
theorem b_law_bag (h : HdT w mg K base) {fd : FuncData} (D : FunD K "_law_bag" "_law_bag" (defArgs (top 66)) (defBody (top 66)) (defScope (top 66)) [] [] ((fun K => He.ga K "_law_bag") K) fd) : FnB P w K mg base 1 ((fun K => He.ga K "_law_bag") K) fd ["_law_script", "_law_spot"] (spD ⟨K, Γ K⟩ (F_law_bag U)) :=
  def_ok D sc_law_bag _ fun cdv A outer s H E G =>
    (pssd_cons (psd_set sc_law_bag.nd (pd_if (pt_cmp opd_lt (pdb (pd_var 1)) (pdb (pd_call1 cd_len h.b_len (pdb (pd_var 0))))) (pd_ix (pdb (pd_var 0)) (pdb (pd_var 1))) (pd_op opd_add (pdb (pd_op opd_mul (pdb pd_int) (pdb (pd_var 1)))) (pdb pd_int)))) (pssd_cons (psd_for G.po G.calm (pid_seq (pd_if (pt_cmp opd_ge (pdb (pd_var 1)) (pdb (pd_call1 cd_len h.b_len (pdb (pd_var 0))))) (pd_slice (pdb (pd_var 0)) pod_none (pod_some pd_int)) (pd_lst pad_nil))) (pgd_name sc_law_bag.nd) (pssd_one (psd_set sc_law_bag.nd (pd_op opd_mod (pdb (pd_callT1 cd_int h.b_int (pdb (pd_op opd_add (pdb (pd_op opd_mul (pdb (pd_var 2)) (pdb pd_int))) (pdb (pd_var 3)))))) (pdb pd_int))))) (pssd_one (psd_ret (pd_new (pf_lst (pad_cons (pd_op opd_mod (pdb (pd_callT1 cd_int h.b_int (pdb (pd_var 2)))) (pdb pd_int)) (pad_cons (pd_if (PW.pt (pwd_or (pt_cmp opd_lt (pdb (pd_var 2)) (pdb pd_int)) (pwd1 (pt_cmp opd_ge (pdb (pd_var 2)) (pdb (pd_op opd_pow (pdb pd_int) (pdb pd_int)))) _))) (pd_call1 cd_abs h.b_abs (pdb (pd_var 2))) pd_int) (pad_cons pd_int pad_nil)))))))))
theorem v_law_bag (h : HdT w mg K base) : FnV P w K mg base 1 ((fun K => He.ga K "_law_bag") K) (spD ⟨K, Γ K⟩ (F_law_bag U)) := by
  obtain ⟨fd, D⟩ := h.d_law_bag
  exact (b_law_bag h D).v D (fun _ _ _ _ _ _ us hl => match us, hl with | [_, _], _ => rfl)
theorem k_law_bag (h : HdT w mg K base) : Kn P w K mg base (Γ K) 1 "_law_bag" [] (F_law_bag U) := by
  obtain ⟨fd, D⟩ := h.d_law_bag
  exact ⟨_, h.g_law_bag, D.kp, Cal.fn0 (v_law_bag h)⟩
theorem sc_law_menu : FnScope ["_law_first", "_law_some", "_law_row"] [] (defScope (top 69)) := ⟨rfl, rfl, rfl, by decide +kernel, rfl, by decide +kernel, by decide +kernel⟩
theorem b_law_menu (h : HdT w mg K base) {fd : FuncData} (D : FunD K "_law_menu" "_law_menu" (defArgs (top 69)) (defBody (top 69)) (defScope (top 69)) [] [] ((fun K => He.ga K "_law_menu") K) fd) : FnB P w K mg base 1 ((fun K => He.ga K "_law_menu") K) fd [] (spD ⟨K, Γ K⟩ (F_law_menu U)) :=
  def_ok D sc_law_menu _ fun cdv A outer s H E G =>
    (pssd_cons (psd_set sc_law_menu.nd (pd_tup (pad_cons (pd_tup (pad_cons pd_str (pad_cons pd_int pad_nil))) (pad_cons (pd_tup (pad_cons pd_str (pad_cons pd_int pad_nil))) (pad_cons (pd_tup (pad_cons pd_str (pad_cons pd_int pad_nil))) pad_nil))))) (pssd_cons (psd_own sc_law_menu.nd (pf_lst (pad_cons (pd_tup (pad_cons (pd_tup (pad_cons pd_str (pad_cons (pd_tup (pad_cons (pd_tup (pad_cons pd_str (pad_cons pd_int (pad_cons (pd_neg pd_int) pad_nil)))) (pad_cons (pd_tup (pad_cons pd_str (pad_cons pd_int (pad_cons (pd_neg pd_int) pad_nil)))) pad_nil))) pad_nil))) (pad_cons (pd_var 0) pad_nil))) (pad_cons (pd_tup (pad_cons (pd_tup (pad_cons pd_str (pad_cons (pd_tup (pad_cons (pd_tup (pad_cons pd_str (pad_cons pd_int (pad_cons (pd_neg pd_int) pad_nil)))) pad_nil)) (pad_cons pd_int pad_nil)))) (pad_cons (pd_tup (pad_cons (pd_tup (pad_cons pd_str (pad_cons pd_int pad_nil))) pad_nil)) pad_nil))) pad_nil)))) (pssd_cons (psd_own sc_law_menu.nd (pf_cat (pd_own 1) (pdb (pd_lst (pad_cons (pd_tup (pad_cons (pd_tup (pad_cons pd_str (pad_cons (pd_tup (pad_cons (pd_tup (pad_cons pd_str (pad_cons pd_int (pad_cons (pd_neg pd_int) pad_nil)))) pad_nil)) (pad_cons pd_int pad_nil)))) (pad_cons (pd_tup (pad_cons (pd_tup (pad_cons pd_str (pad_cons pd_int pad_nil))) pad_nil)) pad_nil))) pad_nil))))) (pssd_cons (psd_app 1 (pd_tup (pad_cons (pd_tup (pad_cons pd_str (pad_cons (pd_tup (pad_cons (pd_tup (pad_cons pd_str (pad_cons pd_int (pad_cons (pd_neg pd_int) pad_nil)))) (pad_cons (pd_tup (pad_cons pd_str (pad_cons pd_int (pad_cons pd_int pad_nil)))) pad_nil))) (pad_cons pd_int pad_nil)))) (pad_cons (pd_tup (pad_cons pd_int (pad_cons (pd_tup pad_nil) (pad_cons (pd_tup (pad_cons (pd_tup (pad_cons (pd_tup (pad_cons pd_str (pad_cons pd_int pad_nil))) pad_nil)) (pad_cons (pd_tup (pad_cons (pd_tup (pad_cons pd_str (pad_cons pd_int pad_nil))) pad_nil)) pad_nil))) pad_nil)))) pad_nil)))) (pssd_cons (psd_app 1 (pd_tup (pad_cons (pd_tup (pad_cons pd_str (pad_cons (pd_tup (pad_cons (pd_tup (pad_cons pd_str (pad_cons pd_int (pad_cons pd_int pad_nil)))) (pad_cons (pd_tup (pad_cons pd_str (pad_cons pd_int (pad_cons pd_int pad_nil)))) pad_nil))) (pad_cons pd_int (pad_cons pd_int pad_nil))))) (pad_cons (pd_tup (pad_cons (pd_tup (pad_cons pd_str (pad_cons pd_int pad_nil))) pad_nil)) pad_nil)))) (pssd_cons (psd_app 1 (pd_tup (pad_cons (pd_tup (pad_cons pd_str (pad_cons (pd_tup (pad_cons (pd_tup (pad_cons pd_str (pad_cons pd_int (pad_cons pd_int pad_nil)))) pad_nil)) (pad_cons (pd_tup (pad_cons (pd_tup (pad_cons pd_str (pad_cons (pd_neg pd_int) (pad_cons pd_int pad_nil)))) pad_nil)) pad_nil)))) (pad_cons (pd_tup (pad_cons (pd_tup (pad_cons pd_str (pad_cons pd_int pad_nil))) (pad_cons (pd_tup (pad_cons pd_str (pad_cons pd_int pad_nil))) (pad_cons (pd_tup (pad_cons pd_str (pad_cons pd_int pad_nil))) pad_nil)))) pad_nil)))) (pssd_cons (psd_set sc_law_menu.nd (pd_tup (pad_cons (pd_tup (pad_cons pd_str (pad_cons pd_int (pad_cons (pd_neg pd_int) pad_nil)))) (pad_cons (pd_tup (pad_cons pd_str (pad_cons pd_int (pad_cons pd_int pad_nil)))) (pad_cons (pd_tup (pad_cons pd_str (pad_cons pd_int (pad_cons (pd_neg pd_int) pad_nil)))) (pad_cons (pd_tup (pad_cons pd_str (pad_cons pd_int (pad_cons pd_int pad_nil)))) pad_nil)))))) (pssd_one (psd_ret (pd_op opd_add (pd_own 1) (pdb (pd_lst (pad_cons (pd_tup (pad_cons (pd_tup (pad_cons pd_str (pad_cons (pd_var 2) (pad_cons pd_int (pad_cons (pd_tup (pad_cons pd_str pad_nil)) pad_nil))))) (pad_cons (pd_tup (pad_cons (pd_tup (pad_cons (pd_tup pad_nil) pad_nil)) (pad_cons (pd_tup (pad_cons (pd_var 0) (pad_cons (pd_var 0) pad_nil))) pad_nil))) pad_nil))) pad_nil)))))))))))))
theorem v_law_menu (h : HdT w mg K base) : FnV P w K mg base 1 ((fun K => He.ga K "_law_menu") K) (spD ⟨K, Γ K⟩ (F_law_menu U)) := by
  obtain ⟨fd, D⟩ := h.d_law_menu
  exact (b_law_menu h D).v D (fun _ _ _ _ _ _ us hl => match us, hl with | [], _ => rfl)
theorem k_law_menu (h : HdT w mg K base) : Kn P w K mg base (Γ K) 1 "_law_menu" [] (F_law_menu U) := by
  obtain ⟨fd, D⟩ := h.d_law_menu
  exact ⟨_, h.g_law_menu, D.kp, Cal.fn0 (v_law_menu h)⟩
theorem sc_law_take : FnScope ["_law_bag_here", "_law_many", "_law_seed", "_law_high", "_law_digit"] ["_law_bag_here", "_law_many"] (defScope (top 67)) := ⟨rfl, rfl, rfl, by decide +kernel, rfl, by decide +kernel, by decide +kernel⟩
theorem b_law_take (h : HdT w mg K base) {fd : FuncData} (D : FunD K "_law_take" "_law_take" (defArgs (top 67)) (defBody (top 67)) (defScope (top 67)) [] [] ((fun K => He.ga K "_law_take") K) fd) : FnB P w K mg base 1 ((fun K => He.ga K "_law_take") K) fd ["_law_bag_here", "_law_many"] (spD ⟨K, Γ K⟩ (F_law_take U)) :=
  def_ok D sc_law_take _ fun cdv A outer s H E G =>
    (pssd_cons (psd_asg (pd_op opd_add (pdb (pd_ix (pdb (pd_var 0)) (pdb pd_int))) (pdb pd_int)) (pgd_ix (pd_var 0) pd_int)) (pssd_cons (psd_set sc_law_take.nd (pd_callT1 cd_int h.b_int (pdb (pd_ix (pdb (pd_var 0)) (pdb pd_int))))) (pssd_cons (psd_set sc_law_take.nd (pd_op opd_div (pdb (pd_var 2)) (pdb pd_int))) (pssd_cons (psd_asg (pd_op opd_mod (pdb (pd_callT1 cd_int h.b_int (pdb (pd_op opd_add (pdb (pd_op opd_add (pdb (pd_op opd_add (pdb (pd_op opd_mul (pdb (pd_var 2)) (pdb pd_int))) (pdb (pd_op opd_mul (pdb (pd_var 3)) (pdb (pd_var 3)))))) (pdb (pd_op opd_mul (pdb pd_int) (pdb (pd_ix (pdb (pd_var 0)) (pdb pd_int))))))) (pdb pd_int))))) (pdb pd_int)) (pgd_ix (pd_var 0) pd_int)) (pssd_cons (psd_if (pt_cmp opd_gt (pdb (pd_ix (pdb (pd_var 0)) (pdb pd_int))) (pdb pd_int)) (pssd_cons (psd_asg (pd_call2 cd_divmod h.b_divmod (pdb (pd_ix (pdb (pd_var 0)) (pdb pd_int))) (pdb (pd_var 1))) (pgd_tup G.calm (pgsd_cons (pgd_ix (pd_var 0) pd_int) (pgsd_cons (pgd_name sc_law_take.nd) pgsd_nil)))) (pssd_one (psd_ret (pd_var 4)))) pssd_nil) (pssd_one (psd_ret (pd_op opd_mod (pdb (pd_callT1 cd_int h.b_int (pdb (pd_op opd_div (pdb (pd_ix (pdb (pd_var 0)) (pdb pd_int))) (pdb pd_int))))) (pdb (pd_var 1))))))))))
theorem v_law_take (h : HdT w mg K base) : FnV P w K mg base 1 ((fun K => He.ga K "_law_take") K) (spD ⟨K, Γ K⟩ (F_law_take U)) := by
  obtain ⟨fd, D⟩ := h.d_law_take
  exact (b_law_take h D).v D (fun _ _ _ _ _ _ us hl => match us, hl with | [_, _], _ => rfl)
theorem k_law_take (h : HdT w mg K base) : Kn P w K mg base (Γ K) 1 "_law_take" [] (F_law_take U) := by
  obtain ⟨fd, D⟩ := h.d_law_take
  exact ⟨_, h.g_law_take, D.kp, Cal.fn0 (v_law_take h)⟩
theorem sc_law_of : FnScope ["_law_bag_here", "_law_things"] ["_law_bag_here", "_law_things"] (defScope (top 68)) := ⟨rfl, rfl, rfl, by decide +kernel, rfl, by decide +kernel, by decide +kernel⟩
theorem b_law_of (h : HdT w mg K base) {fd : FuncData} (D : FunD K "_law_of" "_law_of" (defArgs (top 68)) (defBody (top 68)) (defScope (top 68)) [] [] ((fun K => He.ga K "_law_of") K) fd) : FnB P w K mg base 2 ((fun K => He.ga K "_law_of") K) fd ["_law_bag_here", "_law_things"] (spD ⟨K, Γ K⟩ (F_law_of U)) :=
  def_ok D sc_law_of _ fun cdv A outer s H E G =>
    (pssd_one (psd_ret (pd_ix (pdb (pd_var 1)) (pdb (pd_call G (k_law_take h) (pad_cons (pd_var 0) (pad_cons (pd_call1 cd_len h.b_len (pdb (pd_var 1))) pad_nil)))))))
theorem v_law_of (h : HdT w mg K base) : FnV P w K mg base 2 ((fun K => He.ga K "_law_of") K) (spD ⟨K, Γ K⟩ (F_law_of U)) := by
  obtain ⟨fd, D⟩ := h.d_law_of
  exact (b_law_of h D).v D (fun _ _ _ _ _ _ us hl => match us, hl with | [_, _], _ => rfl)
theorem k_law_of (h : HdT w mg K base) : Kn P w K mg base (Γ K) 2 "_law_of" [] (F_law_of U) := by
  obtain ⟨fd, D⟩ := h.d_law_of
  exact ⟨_, h.g_law_of, D.kp, Cal.fn0 (v_law_of h)⟩
theorem k_law_with__0 (h : HdT w mg K base) : Kn P w K mg base (Γ K) 1 "_law_with" [] (F_law_with__0 U) := by
  obtain ⟨fd, D⟩ := h.d_law_with__0
  exact ⟨_, h.g_law_with__0, D.kp, Cal.never⟩
theorem sc_law_with__1 : FnScope ["_law_bag_here", "_law_thing", "_law_odd", "_law_deep", "_law_at"] ["_law_bag_here", "_law_thing", "_law_odd", "_law_deep"] (defScope (top 70)) := ⟨rfl, rfl, rfl, by decide +kernel, rfl, by decide +kernel, by decide +kernel⟩
theorem b_law_with__1 (h : HdT w mg K base) {fd : FuncData} (D : FunD K "_law_with" "_law_with" (defArgs (top 70)) (defBody (top 70)) (defScope (top 70)) [] [] ((fun K => He.ga K "_law_with") K) fd) : FnB P w K mg base 2 ((fun K => He.ga K "_law_with") K) fd ["_law_bag_here", "_law_thing", "_law_odd", "_law_deep"] (spD ⟨K, Γ K⟩ (F_law_with__1 U)) :=
  def_ok D sc_law_with__1 _ fun cdv A outer s H E G =>
    (pssd_cons (psd_if (PW.pt (pwd_and (pt_tru (pdb (pd_isi h.is_tuple (.ty "tuple") (pdb (pd_var 1)) (pe_bltn (v := .ty "tuple") (by rfl) h.b_tuple (by decide +kernel) rfl (by decide)) h.b_isinstance))) (pwd_and (pt_cmp (opd_ne G.rm.units) (pdb (pd_var 1)) (pdb (pd_tup pad_nil))) (pwd_and (pt_cmp opd_gt (pdb (pd_var 3)) (pdb pd_int)) (pwd1 (pt_cmp opd_gt (pdb (pd_call G (k_law_take h) (pad_cons (pd_var 0) (pad_cons pd_int pad_nil)))) (pdb pd_int)) _))))) (pssd_cons (psd_set sc_law_with__1.nd (pd_call G (k_law_take h) (pad_cons (pd_var 0) (pad_cons (pd_call1 cd_len h.b_len (pdb (pd_var 1))) pad_nil)))) (pssd_one (psd_ret (pd_op opd_add (pdb (pd_op opd_add (pdb (pd_slice (pdb (pd_var 1)) pod_none (pod_some (pd_var 4)))) (pdb (pd_tup (pad_cons (pd_call G (k_law_with__0 h) (pad_cons (pd_var 0) (pad_cons (pd_ix (pdb (pd_var 1)) (pdb (pd_var 4))) (pad_cons (pd_var 2) (pad_cons (pd_op opd_sub (pdb (pd_var 3)) (pdb pd_int)) pad_nil))))) pad_nil))))) (pdb (pd_slice (pdb (pd_var 1)) (pod_some (pd_op opd_add (pdb (pd_var 4)) (pdb pd_int))) pod_none)))))) pssd_nil) (pssd_one (psd_ret (pd_var 2))))
theorem v_law_with__1 (h : HdT w mg K base) : FnV P w K mg base 2 ((fun K => He.ga K "_law_with") K) (spD ⟨K, Γ K⟩ (F_law_with__1 U)) := by
  obtain ⟨fd, D⟩ := h.d_law_with__1
  exact (b_law_with__1 h D).v D (fun _ _ _ _ _ _ us hl => match us, hl with | [_, _, _, _], _ => rfl)
theorem k_law_with__1 (h : HdT w mg K base) : Kn P w K mg base (Γ K) 2 "_law_with" [] (F_law_with__1 U) := by
  obtain ⟨fd, D⟩ := h.d_law_with__1
  exact ⟨_, h.g_law_with__1, D.kp, Cal.fn0 (v_law_with__1 h)⟩
theorem sc_law_with__2 : FnScope ["_law_bag_here", "_law_thing", "_law_odd", "_law_deep", "_law_at"] ["_law_bag_here", "_law_thing", "_law_odd", "_law_deep"] (defScope (top 70)) := ⟨rfl, rfl, rfl, by decide +kernel, rfl, by decide +kernel, by decide +kernel⟩
theorem b_law_with__2 (h : HdT w mg K base) {fd : FuncData} (D : FunD K "_law_with" "_law_with" (defArgs (top 70)) (defBody (top 70)) (defScope (top 70)) [] [] ((fun K => He.ga K "_law_with") K) fd) : FnB P w K mg base 3 ((fun K => He.ga K "_law_with") K) fd ["_law_bag_here", "_law_thing", "_law_odd", "_law_deep"] (spD ⟨K, Γ K⟩ (F_law_with__2 U)) :=
  def_ok D sc_law_with__2 _ fun cdv A outer s H E G =>
    (pssd_cons (psd_if (PW.pt (pwd_and (pt_tru (pdb (pd_isi h.is_tuple (.ty "tuple") (pdb (pd_var 1)) (pe_bltn (v := .ty "tuple") (by rfl) h.b_tuple (by decide +kernel) rfl (by decide)) h.b_isinstance))) (pwd_and (pt_cmp (opd_ne G.rm.units) (pdb (pd_var 1)) (pdb (pd_tup pad_nil))) (pwd_and (pt_cmp opd_gt (pdb (pd_var 3)) (pdb pd_int)) (pwd1 (pt_cmp opd_gt (pdb (pd_call G (k_law_take h) (pad_cons (pd_var 0) (pad_cons pd_int pad_nil)))) (pdb pd_int)) _))))) (pssd_cons (psd_set sc_law_with__2.nd (pd_call G (k_law_take h) (pad_cons (pd_var 0) (pad_cons (pd_call1 cd_len h.b_len (pdb (pd_var 1))) pad_nil)))) (pssd_one (psd_ret (pd_op opd_add (pdb (pd_op opd_add (pdb (pd_slice (pdb (pd_var 1)) pod_none (pod_some (pd_var 4)))) (pdb (pd_tup (pad_cons (pd_call G (k_law_with__1 h) (pad_cons (pd_var 0) (pad_cons (pd_ix (pdb (pd_var 1)) (pdb (pd_var 4))) (pad_cons (pd_var 2) (pad_cons (pd_op opd_sub (pdb (pd_var 3)) (pdb pd_int)) pad_nil))))) pad_nil))))) (pdb (pd_slice (pdb (pd_var 1)) (pod_some (pd_op opd_add (pdb (pd_var 4)) (pdb pd_int))) pod_none)))))) pssd_nil) (pssd_one (psd_ret (pd_var 2))))
theorem v_law_with__2 (h : HdT w mg K base) : FnV P w K mg base 3 ((fun K => He.ga K "_law_with") K) (spD ⟨K, Γ K⟩ (F_law_with__2 U)) := by
  obtain ⟨fd, D⟩ := h.d_law_with__2
  exact (b_law_with__2 h D).v D (fun _ _ _ _ _ _ us hl => match us, hl with | [_, _, _, _], _ => rfl)
theorem k_law_with__2 (h : HdT w mg K base) : Kn P w K mg base (Γ K) 3 "_law_with" [] (F_law_with__2 U) := by
  obtain ⟨fd, D⟩ := h.d_law_with__2
  exact ⟨_, h.g_law_with__2, D.kp, Cal.fn0 (v_law_with__2 h)⟩
theorem sc_law_with__3 : FnScope ["_law_bag_here", "_law_thing", "_law_odd", "_law_deep", "_law_at"] ["_law_bag_here", "_law_thing", "_law_odd", "_law_deep"] (defScope (top 70)) := ⟨rfl, rfl, rfl, by decide +kernel, rfl, by decide +kernel, by decide +kernel⟩
theorem b_law_with__3 (h : HdT w mg K base) {fd : FuncData} (D : FunD K "_law_with" "_law_with" (defArgs (top 70)) (defBody (top 70)) (defScope (top 70)) [] [] ((fun K => He.ga K "_law_with") K) fd) : FnB P w K mg base 4 ((fun K => He.ga K "_law_with") K) fd ["_law_bag_here", "_law_thing", "_law_odd", "_law_deep"] (spD ⟨K, Γ K⟩ (F_law_with__3 U)) :=
  def_ok D sc_law_with__3 _ fun cdv A outer s H E G =>
    (pssd_cons (psd_if (PW.pt (pwd_and (pt_tru (pdb (pd_isi h.is_tuple (.ty "tuple") (pdb (pd_var 1)) (pe_bltn (v := .ty "tuple") (by rfl) h.b_tuple (by decide +kernel) rfl (by decide)) h.b_isinstance))) (pwd_and (pt_cmp (opd_ne G.rm.units) (pdb (pd_var 1)) (pdb (pd_tup pad_nil))) (pwd_and (pt_cmp opd_gt (pdb (pd_var 3)) (pdb pd_int)) (pwd1 (pt_cmp opd_gt (pdb (pd_call G (k_law_take h) (pad_cons (pd_var 0) (pad_cons pd_int pad_nil)))) (pdb pd_int)) _))))) (pssd_cons (psd_set sc_law_with__3.nd (pd_call G (k_law_take h) (pad_cons (pd_var 0) (pad_cons (pd_call1 cd_len h.b_len (pdb (pd_var 1))) pad_nil)))) (pssd_one (psd_ret (pd_op opd_add (pdb (pd_op opd_add (pdb (pd_slice (pdb (pd_var 1)) pod_none (pod_some (pd_var 4)))) (pdb (pd_tup (pad_cons (pd_call G (k_law_with__2 h) (pad_cons (pd_var 0) (pad_cons (pd_ix (pdb (pd_var 1)) (pdb (pd_var 4))) (pad_cons (pd_var 2) (pad_cons (pd_op opd_sub (pdb (pd_var 3)) (pdb pd_int)) pad_nil))))) pad_nil))))) (pdb (pd_slice (pdb (pd_var 1)) (pod_some (pd_op opd_add (pdb (pd_var 4)) (pdb pd_int))) pod_none)))))) pssd_nil) (pssd_one (psd_ret (pd_var 2))))
theorem v_law_with__3 (h : HdT w mg K base) : FnV P w K mg base 4 ((fun K => He.ga K "_law_with") K) (spD ⟨K, Γ K⟩ (F_law_with__3 U)) := by
  obtain ⟨fd, D⟩ := h.d_law_with__3
  exact (b_law_with__3 h D).v D (fun _ _ _ _ _ _ us hl => match us, hl with | [_, _, _, _], _ => rfl)
theorem k_law_with__3 (h : HdT w mg K base) : Kn P w K mg base (Γ K) 4 "_law_with" [] (F_law_with__3 U) := by
  obtain ⟨fd, D⟩ := h.d_law_with__3
  exact ⟨_, h.g_law_with__3, D.kp, Cal.fn0 (v_law_with__3 h)⟩
theorem sc_law_with__4 : FnScope ["_law_bag_here", "_law_thing", "_law_odd", "_law_deep", "_law_at"] ["_law_bag_here", "_law_thing", "_law_odd", "_law_deep"] (defScope (top 70)) := ⟨rfl, rfl, rfl, by decide +kernel, rfl, by decide +kernel, by decide +kernel⟩
theorem b_law_with__4 (h : HdT w mg K base) {fd : FuncData} (D : FunD K "_law_with" "_law_with" (defArgs (top 70)) (defBody (top 70)) (defScope (top 70)) [] [] ((fun K => He.ga K "_law_with") K) fd) : FnB P w K mg base 5 ((fun K => He.ga K "_law_with") K) fd ["_law_bag_here", "_law_thing", "_law_odd", "_law_deep"] (spD ⟨K, Γ K⟩ (F_law_with__4 U)) :=
  def_ok D sc_law_with__4 _ fun cdv A outer s H E G =>
    (pssd_cons (psd_if (PW.pt (pwd_and (pt_tru (pdb (pd_isi h.is_tuple (.ty "tuple") (pdb (pd_var 1)) (pe_bltn (v := .ty "tuple") (by rfl) h.b_tuple (by decide +kernel) rfl (by decide)) h.b_isinstance))) (pwd_and (pt_cmp (opd_ne G.rm.units) (pdb (pd_var 1)) (pdb (pd_tup pad_nil))) (pwd_and (pt_cmp opd_gt (pdb (pd_var 3)) (pdb pd_int)) (pwd1 (pt_cmp opd_gt (pdb (pd_call G (k_law_take h) (pad_cons (pd_var 0) (pad_cons pd_int pad_nil)))) (pdb pd_int)) _))))) (pssd_cons (psd_set sc_law_with__4.nd (pd_call G (k_law_take h) (pad_cons (pd_var 0) (pad_cons (pd_call1 cd_len h.b_len (pdb (pd_var 1))) pad_nil)))) (pssd_one (psd_ret (pd_op opd_add (pdb (pd_op opd_add (pdb (pd_slice (pdb (pd_var 1)) pod_none (pod_some (pd_var 4)))) (pdb (pd_tup (pad_cons (pd_call G (k_law_with__3 h) (pad_cons (pd_var 0) (pad_cons (pd_ix (pdb (pd_var 1)) (pdb (pd_var 4))) (pad_cons (pd_var 2) (pad_cons (pd_op opd_sub (pdb (pd_var 3)) (pdb pd_int)) pad_nil))))) pad_nil))))) (pdb (pd_slice (pdb (pd_var 1)) (pod_some (pd_op opd_add (pdb (pd_var 4)) (pdb pd_int))) pod_none)))))) pssd_nil) (pssd_one (psd_ret (pd_var 2))))
theorem v_law_with__4 (h : HdT w mg K base) : FnV P w K mg base 5 ((fun K => He.ga K "_law_with") K) (spD ⟨K, Γ K⟩ (F_law_with__4 U)) := by
  obtain ⟨fd, D⟩ := h.d_law_with__4
  exact (b_law_with__4 h D).v D (fun _ _ _ _ _ _ us hl => match us, hl with | [_, _, _, _], _ => rfl)
theorem k_law_with__4 (h : HdT w mg K base) : Kn P w K mg base (Γ K) 5 "_law_with" [] (F_law_with__4 U) := by
  obtain ⟨fd, D⟩ := h.d_law_with__4
  exact ⟨_, h.g_law_with__4, D.kp, Cal.fn0 (v_law_with__4 h)⟩
theorem sc_law_with__5 : FnScope ["_law_bag_here", "_law_thing", "_law_odd", "_law_deep", "_law_at"] ["_law_bag_here", "_law_thing", "_law_odd", "_law_deep"] (defScope (top 70)) := ⟨rfl, rfl, rfl, by decide +kernel, rfl, by decide +kernel, by decide +kernel⟩
theorem b_law_with__5 (h : HdT w mg K base) {fd : FuncData} (D : FunD K "_law_with" "_law_with" (defArgs (top 70)) (defBody (top 70)) (defScope (top 70)) [] [] ((fun K => He.ga K "_law_with") K) fd) : FnB P w K mg base 6 ((fun K => He.ga K "_law_with") K) fd ["_law_bag_here", "_law_thing", "_law_odd", "_law_deep"] (spD ⟨K, Γ K⟩ (F_law_with__5 U)) :=
  def_ok D sc_law_with__5 _ fun cdv A outer s H E G =>
    (pssd_cons (psd_if (PW.pt (pwd_and (pt_tru (pdb (pd_isi h.is_tuple (.ty "tuple") (pdb (pd_var 1)) (pe_bltn (v := .ty "tuple") (by rfl) h.b_tuple (by decide +kernel) rfl (by decide)) h.b_isinstance))) (pwd_and (pt_cmp (opd_ne G.rm.units) (pdb (pd_var 1)) (pdb (pd_tup pad_nil))) (pwd_and (pt_cmp opd_gt (pdb (pd_var 3)) (pdb pd_int)) (pwd1 (pt_cmp opd_gt (pdb (pd_call G (k_law_take h) (pad_cons (pd_var 0) (pad_cons pd_int pad_nil)))) (pdb pd_int)) _))))) (pssd_cons (psd_set sc_law_with__5.nd (pd_call G (k_law_take h) (pad_cons (pd_var 0) (pad_cons (pd_call1 cd_len h.b_len (pdb (pd_var 1))) pad_nil)))) (pssd_one (psd_ret (pd_op opd_add (pdb (pd_op opd_add (pdb (pd_slice (pdb (pd_var 1)) pod_none (pod_some (pd_var 4)))) (pdb (pd_tup (pad_cons (pd_call G (k_law_with__4 h) (pad_cons (pd_var 0) (pad_cons (pd_ix (pdb (pd_var 1)) (pdb (pd_var 4))) (pad_cons (pd_var 2) (pad_cons (pd_op opd_sub (pdb (pd_var 3)) (pdb pd_int)) pad_nil))))) pad_nil))))) (pdb (pd_slice (pdb (pd_var 1)) (pod_some (pd_op opd_add (pdb (pd_var 4)) (pdb pd_int))) pod_none)))))) pssd_nil) (pssd_one (psd_ret (pd_var 2))))
theorem v_law_with__5 (h : HdT w mg K base) : FnV P w K mg base 6 ((fun K => He.ga K "_law_with") K) (spD ⟨K, Γ K⟩ (F_law_with__5 U)) := by
  obtain ⟨fd, D⟩ := h.d_law_with__5
  exact (b_law_with__5 h D).v D (fun _ _ _ _ _ _ us hl => match us, hl with | [_, _, _, _], _ => rfl)
theorem k_law_with__5 (h : HdT w mg K base) : Kn P w K mg base (Γ K) 6 "_law_with" [] (F_law_with__5 U) := by
  obtain ⟨fd, D⟩ := h.d_law_with__5
  exact ⟨_, h.g_law_with__5, D.kp, Cal.fn0 (v_law_with__5 h)⟩
theorem sc_law_with__6 : FnScope ["_law_bag_here", "_law_thing", "_law_odd", "_law_deep", "_law_at"] ["_law_bag_here", "_law_thing", "_law_odd", "_law_deep"] (defScope (top 70)) := ⟨rfl, rfl, rfl, by decide +kernel, rfl, by decide +kernel, by decide +kernel⟩
theorem b_law_with__6 (h : HdT w mg K base) {fd : FuncData} (D : FunD K "_law_with" "_law_with" (defArgs (top 70)) (defBody (top 70)) (defScope (top 70)) [] [] ((fun K => He.ga K "_law_with") K) fd) : FnB P w K mg base 7 ((fun K => He.ga K "_law_with") K) fd ["_law_bag_here", "_law_thing", "_law_odd", "_law_deep"] (spD ⟨K, Γ K⟩ (F_law_with__6 U)) :=
  def_ok D sc_law_with__6 _ fun cdv A outer s H E G =>
    (pssd_cons (psd_if (PW.pt (pwd_and (pt_tru (pdb (pd_isi h.is_tuple (.ty "tuple") (pdb (pd_var 1)) (pe_bltn (v := .ty "tuple") (by rfl) h.b_tuple (by decide +kernel) rfl (by decide)) h.b_isinstance))) (pwd_and (pt_cmp (opd_ne G.rm.units) (pdb (pd_var 1)) (pdb (pd_tup pad_nil))) (pwd_and (pt_cmp opd_gt (pdb (pd_var 3)) (pdb pd_int)) (pwd1 (pt_cmp opd_gt (pdb (pd_call G (k_law_take h) (pad_cons (pd_var 0) (pad_cons pd_int pad_nil)))) (pdb pd_int)) _))))) (pssd_cons (psd_set sc_law_with__6.nd (pd_call G (k_law_take h) (pad_cons (pd_var 0) (pad_cons (pd_call1 cd_len h.b_len (pdb (pd_var 1))) pad_nil)))) (pssd_one (psd_ret (pd_op opd_add (pdb (pd_op opd_add (pdb (pd_slice (pdb (pd_var 1)) pod_none (pod_some (pd_var 4)))) (pdb (pd_tup (pad_cons (pd_call G (k_law_with__5 h) (pad_cons (pd_var 0) (pad_cons (pd_ix (pdb (pd_var 1)) (pdb (pd_var 4))) (pad_cons (pd_var 2) (pad_cons (pd_op opd_sub (pdb (pd_var 3)) (pdb pd_int)) pad_nil))))) pad_nil))))) (pdb (pd_slice (pdb (pd_var 1)) (pod_some (pd_op opd_add (pdb (pd_var 4)) (pdb pd_int))) pod_none)))))) pssd_nil) (pssd_one (psd_ret (pd_var 2))))
theorem v_law_with__6 (h : HdT w mg K base) : FnV P w K mg base 7 ((fun K => He.ga K "_law_with") K) (spD ⟨K, Γ K⟩ (F_law_with__6 U)) := by
  obtain ⟨fd, D⟩ := h.d_law_with__6
  exact (b_law_with__6 h D).v D (fun _ _ _ _ _ _ us hl => match us, hl with | [_, _, _, _], _ => rfl)
theorem k_law_with__6 (h : HdT w mg K base) : Kn P w K mg base (Γ K) 7 "_law_with" [] (F_law_with__6 U) := by
  obtain ⟨fd, D⟩ := h.d_law_with__6
  exact ⟨_, h.g_law_with__6, D.kp, Cal.fn0 (v_law_with__6 h)⟩
theorem sc_law_wrong : FnScope ["_law_bag_here", "_law_asked", "_law_kind", "_law_far", "_law_some", "_law_words", "_law_wide", "_law_blocks_here"] ["_law_bag_here", "_law_asked"] (defScope (top 71)) := ⟨rfl, rfl, rfl, by decide +kernel, rfl, by decide +kernel, by decide +kernel⟩
theorem b_law_wrong (h : HdT w mg K base) {fd : FuncData} (D : FunD K "_law_wrong" "_law_wrong" (defArgs (top 71)) (defBody (top 71)) (defScope (top 71)) [] [] ((fun K => He.ga K "_law_wrong") K) fd) : FnB P w K mg base 3 ((fun K => He.ga K "_law_wrong") K) fd ["_law_bag_here", "_law_asked"] (spD ⟨K, Γ K⟩ (F_law_wrong U)) :=
  def_ok D sc_law_wrong _ fun cdv A outer s H E G =>
    (pssd_cons (psd_set sc_law_wrong.nd (pd_call G (k_law_take h) (pad_cons (pd_var 0) (pad_cons pd_int pad_nil)))) (pssd_cons (psd_if (pt_cmp (opd_eq G.rm.units) (pdb (pd_var 2)) (pdb pd_int)) (pssd_one (psd_ret (pd_call G (k_law_of h) (pad_cons (pd_var 0) (pad_cons (pd_lst (pad_cons (pd_callT1 (cd_list G.calm) h.b_list (pdb (pd_var 1))) (pad_cons (pd_op opd_add (pdb (pd_var 1)) (pdb (pd_tup (pad_cons pd_non pad_nil)))) (pad_cons (pd_slice (pdb (pd_var 1)) pod_none (pod_some (pd_neg pd_int))) (pad_cons (pd_slice (pdb (pd_var 1)) pod_none (pod_some pd_int)) (pad_cons (pd_tup pad_nil) (pad_cons pd_non (pad_cons pd_str (pad_cons pd_int (pad_cons pd_dic0 pad_nil)))))))))) pad_nil))))) pssd_nil) (pssd_cons (psd_if (pt_cmp (opd_eq G.rm.units) (pdb (pd_var 2)) (pdb pd_int)) (pssd_cons (psd_set sc_law_wrong.nd (pd_lst (pad_cons pd_non (pad_cons pd_int (pad_cons pd_str (pad_cons pd_str (pad_cons (pd_tup (pad_cons pd_str pad_nil)) (pad_cons pd_bl (pad_cons (pd_lst pad_nil) (pad_cons pd_dic0 (pad_cons pd_str (pad_cons pd_str (pad_cons pd_str (pad_cons pd_str pad_nil)))))))))))))) (pssd_one (psd_ret (pd_op opd_add (pdb (pd_tup (pad_cons (pd_call G (k_law_of h) (pad_cons (pd_var 0) (pad_cons (pd_var 5) pad_nil))) pad_nil))) (pdb (pd_slice (pdb (pd_var 1)) (pod_some pd_int) pod_none)))))) pssd_nil) (pssd_cons (psd_if (pt_cmp (opd_eq G.rm.units) (pdb (pd_var 2)) (pdb pd_int)) (pssd_cons (psd_set sc_law_wrong.nd (pd_lst (pad_cons (pd_tup (pad_cons (pd_op opd_mulT (pdb pd_str) (pdb pd_int)) (pad_cons pd_int (pad_cons pd_int pad_nil)))) (pad_cons (pd_tup (pad_cons pd_str (pad_cons pd_int (pad_cons pd_int pad_nil)))) (pad_cons (pd_tup (pad_cons pd_str (pad_cons pd_int (pad_cons pd_int pad_nil)))) (pad_cons (pd_tup (pad_cons pd_str (pad_cons pd_int (pad_cons pd_int pad_nil)))) (pad_cons (pd_tup (pad_cons pd_str (pad_cons pd_int (pad_cons pd_int pad_nil)))) (pad_cons (pd_tup (pad_cons pd_str (pad_cons pd_int pad_nil))) (pad_cons (pd_lst (pad_cons pd_str (pad_cons pd_int (pad_cons pd_int pad_nil)))) (pad_cons pd_str (pad_cons pd_non pad_nil))))))))))) (pssd_one (psd_ret (pd_op opd_add (pdb (pd_op opd_add (pdb (pd_slice (pdb (pd_var 1)) pod_none (pod_some pd_int))) (pdb (pd_tup (pad_cons (pd_op opd_add (pdb (pd_ix (pdb (pd_var 1)) (pdb pd_int))) (pdb (pd_tup (pad_cons (pd_call G (k_law_of h) (pad_cons (pd_var 0) (pad_cons (pd_var 6) pad_nil))) pad_nil)))) pad_nil))))) (pdb (pd_slice (pdb (pd_var 1)) (pod_some pd_int) pod_none)))))) pssd_nil) (pssd_cons (psd_if (pt_cmp (opd_eq G.rm.units) (pdb (pd_var 2)) (pdb pd_int)) (pssd_cons (psd_set sc_law_wrong.nd (pd_lst (pad_cons (pd_op opd_add (pdb (pd_ix (pdb (pd_var 1)) (pdb pd_int))) (pdb (pd_op opd_mulT (pdb (pd_tup (pad_cons (pd_tup (pad_cons pd_str (pad_cons pd_int (pad_cons pd_int pad_nil)))) pad_nil))) (pdb pd_int)))) (pad_cons (pd_callT1 (cd_list G.calm) h.b_list (pdb (pd_ix (pdb (pd_var 1)) (pdb pd_int)))) (pad_cons (pd_ix (pdb (pd_ix (pdb (pd_var 1)) (pdb pd_int))) (pdb pd_int)) (pad_cons pd_str (pad_cons pd_non (pad_cons pd_dic0 (pad_cons pd_int (pad_cons (pd_tup (pad_cons (pd_tup pad_nil) pad_nil)) (pad_cons (pd_op opd_add (pdb (pd_ix (pdb (pd_var 1)) (pdb pd_int))) (pdb (pd_tup (pad_cons pd_str pad_nil)))) pad_nil))))))))))) (pssd_one (psd_ret (pd_op opd_add (pdb (pd_op opd_add (pdb (pd_slice (pdb (pd_var 1)) pod_none (pod_some pd_int))) (pdb (pd_tup (pad_cons (pd_call G (k_law_of h) (pad_cons (pd_var 0) (pad_cons (pd_var 7) pad_nil))) pad_nil))))) (pdb (pd_slice (pdb (pd_var 1)) (pod_some pd_int) pod_none)))))) pssd_nil) (pssd_cons (psd_if (pt_cmp (opd_inO G) (pdb (pd_ix (pdb (pd_var 1)) (pdb pd_int))) (pdb (pd_lst (pad_cons pd_str (pad_cons pd_str pad_nil))))) (pssd_one (psd_ret (pd_op opd_add (pdb (pd_var 1)) (pdb (pd_tup (pad_cons pd_int pad_nil)))))) pssd_nil) (pssd_cons (psd_set sc_law_wrong.nd (pd_call G (k_law_of h) (pad_cons (pd_var 0) (pad_cons (pd_lst (pad_cons (pd_neg pd_int) (pad_cons (pd_op opd_add (pdb (pd_op opd_pow (pdb pd_int) (pdb pd_int))) (pdb pd_int)) (pad_cons pd_bl (pad_cons pd_bl (pad_cons pd_non (pad_cons pd_str (pad_cons (pd_tup (pad_cons pd_int pad_nil)) (pad_cons (pd_lst (pad_cons pd_int pad_nil)) (pad_cons (pd_op opd_pow (pdb pd_int) (pdb pd_int)) pad_nil)))))))))) pad_nil)))) (pssd_cons (psd_if (PW.pt (pwd_or (pt_cmp (opd_eq G.rm.units) (pdb (pd_var 2)) (pdb pd_int)) (pwd1 (pt_cmp (opd_eq G.rm.units) (pdb (pd_call1 cd_len h.b_len (pdb (pd_var 1)))) (pdb pd_int)) _))) (pssd_one (psd_ret (pd_op opd_add (pdb (pd_op opd_add (pdb (pd_slice (pdb (pd_var 1)) pod_none (pod_some pd_int))) (pdb (pd_tup (pad_cons (pd_var 3) pad_nil))))) (pdb (pd_slice (pdb (pd_var 1)) (pod_some pd_int) pod_none))))) pssd_nil) (pssd_cons (psd_set sc_law_wrong.nd (pd_lst (pad_cons pd_str (pad_cons (pd_lst (pad_cons pd_str pad_nil)) (pad_cons (pd_tup (pad_cons pd_str pad_nil)) (pad_cons (pd_tup (pad_cons pd_str (pad_cons pd_int pad_nil))) (pad_cons (pd_tup (pad_cons pd_str (pad_cons pd_non pad_nil))) (pad_cons (pd_tup (pad_cons (pd_lst (pad_cons pd_str pad_nil)) pad_nil)) (pad_cons (pd_neg pd_int) (pad_cons pd_bl (pad_cons pd_non (pad_cons pd_str (pad_cons (pd_tup (pad_cons pd_int pad_nil)) (pad_cons pd_dic0 (pad_cons (pd_tup (pad_cons pd_str pad_nil)) (pad_cons (pd_tup (pad_cons pd_str pad_nil)) pad_nil)))))))))))))))) (pssd_one (psd_ret (pd_op opd_add (pdb (pd_slice (pdb (pd_var 1)) pod_none (pod_some pd_int))) (pdb (pd_tup (pad_cons (pd_call G (k_law_of h) (pad_cons (pd_var 0) (pad_cons (pd_var 4) pad_nil))) pad_nil)))))))))))))))
theorem v_law_wrong (h : HdT w mg K base) : FnV P w K mg base 3 ((fun K => He.ga K "_law_wrong") K) (spD ⟨K, Γ K⟩ (F_law_wrong U)) := by
  obtain ⟨fd, D⟩ := h.d_law_wrong
  exact (b_law_wrong h D).v D (fun _ _ _ _ _ _ us hl => match us, hl with | [_, _], _ => rfl)
theorem k_law_wrong (h : HdT w mg K base) : Kn P w K mg base (Γ K) 3 "_law_wrong" [] (F_law_wrong U) := by
  obtain ⟨fd, D⟩ := h.d_law_wrong
  exact ⟨_, h.g_law_wrong, D.kp, Cal.fn0 (v_law_wrong h)⟩
theorem sc_law_right : FnScope ["_law_bag_here", "_law_some", "_law_step", "_law_odd", "_law_at", "_law_bent", "_law_asked", "_law_paper"] ["_law_bag_here"] (defScope (top 72)) := ⟨rfl, rfl, rfl, by decide +kernel, rfl, by decide +kernel, by decide +kernel⟩
theorem b_law_right (h : HdT w mg K base) {fd : FuncData} (D : FunD K "_law_right" "_law_right" (defArgs (top 72)) (defBody (top 72)) (defScope (top 72)) [] [] ((fun K => He.ga K "_law_right") K) fd) : FnB P w K mg base 9 ((fun K => He.ga K "_law_right") K) fd ["_law_bag_here"] (spD ⟨K, Γ K⟩ (F_law_right U)) :=
  def_ok D sc_law_right _ fun cdv A outer s H E G =>
    (pssd_cons (psd_set sc_law_right.nd (pd_call0 G (k_law_menu h))) (pssd_cons (psd_for G.po G.calm (pid_range1 h.b_range pd_int) (pgd_name sc_law_right.nd) (pssd_cons (psd_asg (pd_call G (k_law_of h) (pad_cons (pd_var 0) (pad_cons (pd_var 1) pad_nil))) (pgd_tup G.calm (pgsd_cons (pgd_name sc_law_right.nd) (pgsd_cons (pgd_name sc_law_right.nd) pgsd_nil)))) (pssd_cons (psd_if (pt_cmp opd_isNotX (pdb (pd_call G (k_accepts h) (pad_cons (pd_call G (k_law_wrong h) (pad_cons (pd_var 0) (pad_cons (pd_var 6) pad_nil))) (pad_cons (pd_var 7) pad_nil)))) (pdb pd_bl)) (pssd_one (psd_ret pd_bl)) pssd_nil) (pssd_cons (psd_set sc_law_right.nd (pd_call G (k_law_of h) (pad_cons (pd_var 0) (pad_cons (pd_lst (pad_cons pd_str (pad_cons pd_bl (pad_cons pd_dic0 (pad_cons (pd_lst (pad_cons pd_int (pad_cons pd_int pad_nil))) (pad_cons pd_str (pad_cons (pd_lst (pad_cons (pd_tup pad_nil) pad_nil)) (pad_cons (pd_dic (r := [(.inr "x", .int (1))]) (.cons (kk := .inr "x") (u := .int (1)) (by exact pe_str) (by exact pe_int) rfl .nil)) (pad_cons (pd_tup (pad_cons pd_str pad_nil)) (pad_cons (pd_op opd_pow (pdb pd_int) (pdb pd_int)) (pad_cons (pd_lst pad_nil) (pad_cons pd_str pad_nil)))))))))))) pad_nil)))) (pssd_cons (psd_set sc_law_right.nd (pd_op opd_add (pdb pd_int) (pdb (pd_call G (k_law_take h) (pad_cons (pd_var 0) (pad_cons (pd_op opd_sub (pdb (pd_call1 cd_len h.b_len (pdb (pd_var 6)))) (pdb pd_int)) pad_nil)))))) (pssd_cons (psd_set sc_law_right.nd (pd_call G (k_law_with__6 h) (pad_cons (pd_var 0) (pad_cons (pd_ix (pdb (pd_var 6)) (pdb (pd_var 4))) (pad_cons (pd_var 3) (pad_cons pd_int pad_nil)))))) (pssd_cons (psd_if (pt_cmp opd_isNotX (pdb (pd_call G (k_accepts h) (pad_cons (pd_op opd_add (pdb (pd_op opd_add (pdb (pd_slice (pdb (pd_var 6)) pod_none (pod_some (pd_var 4)))) (pdb (pd_tup (pad_cons (pd_var 5) pad_nil))))) (pdb (pd_slice (pdb (pd_var 6)) (pod_some (pd_op opd_add (pdb (pd_var 4)) (pdb pd_int))) pod_none))) (pad_cons (pd_var 7) pad_nil)))) (pdb pd_bl)) (pssd_one (psd_ret pd_bl)) pssd_nil) (pssd_one (psd_if (PW.pt (pwd_or (pt_cmp opd_isNotX (pdb (pd_call G (k_accepts h) (pad_cons (pd_var 6) (pad_cons (pd_call G (k_law_with__6 h) (pad_cons (pd_var 0) (pad_cons (pd_var 7) (pad_cons (pd_var 3) (pad_cons pd_int pad_nil))))) pad_nil)))) (pdb pd_bl)) (pwd1 (pt_cmp opd_isNotX (pdb (pd_call G (k_accepts h) (pad_cons (pd_var 6) (pad_cons (pd_var 7) pad_nil)))) (pdb pd_bl)) _))) (pssd_one (psd_ret pd_bl)) pssd_nil))))))))) (pssd_one (psd_ret pd_bl))))
theorem v_law_right (h : HdT w mg K base) : FnV P w K mg base 9 ((fun K => He.ga K "_law_right") K) (spD ⟨K, Γ K⟩ (F_law_right U)) := by
  obtain ⟨fd, D⟩ := h.d_law_right
  exact (b_law_right h D).v D (fun _ _ _ _ _ _ us hl => match us, hl with | [_], _ => rfl)
theorem k_law_right (h : HdT w mg K base) : Kn P w K mg base (Γ K) 9 "_law_right" [] (F_law_right U) := by
  obtain ⟨fd, D⟩ := h.d_law_right
  exact ⟨_, h.g_law_right, D.kp, Cal.fn0 (v_law_right h)⟩
theorem sc_law : FnScope ["_law_script", "_law_some", "_law_thing", "_law_asked", "_law_paper", "_law_spot"] ["_law_script"] (defScope (top 73)) := ⟨rfl, rfl, rfl, by decide +kernel, rfl, by decide +kernel, by decide +kernel⟩
theorem b_law (h : HdT w mg K base) {fd : FuncData} (D : FunD K "law" "law" (defArgs (top 73)) (defBody (top 73)) (defScope (top 73)) [] [] ((fun K => He.ga K "law") K) fd) : FnB P w K mg base 10 ((fun K => He.ga K "law") K) fd ["_law_script"] (spD ⟨K, Γ K⟩ (F_law U)) :=
  def_ok D sc_law _ fun cdv A outer s H E G =>
    (pssd_cons (psd_set sc_law.nd (pd_call0 G (k_law_menu h))) (pssd_cons (psd_if (ptd_not (pt_tru (pdb (pd_call1 (cd_all G.calm) h.b_all (pdb (pdf (pf_comp (own := [("_law_asked", 3), ("_law_paper", 4)]) (tup := true) (is := [3, 4]) G.calm sc_law.nd (pid_seq (pd_var 1)) ⟨rfl, of_decide_eq_true (by kernel_rfl), of_decide_eq_true (by kernel_rfl), of_decide_eq_true (by kernel_rfl), of_decide_eq_true (by kernel_rfl)⟩ (fun _ _ _ _ _ => (pgc_tup G.calm (pgsc_cons sc_law.nd (pgsc_cons sc_law.nd pgsc_nil)))) (fun _ _ _ _ _ => ptsd_nil) (fun _ _ _ _ _ => (pd_cmp opd_isX (pdb (pd_call (G.blk _ _ _ _ _) (k_accepts h) (pad_cons (pd_var 3) (pad_cons (pd_var 4) pad_nil)))) (pdb pd_bl)))))))))) (pssd_one (psd_ret pd_bl)) pssd_nil) (pssd_cons (psd_if (ptd_not (pt_tru (pdb (pd_call1 (cd_all G.calm) h.b_all (pdb (pdf (pf_comp (own := [("_law_asked", 3), ("_law_paper", 4)]) (tup := true) (is := [3, 4]) G.calm sc_law.nd (pid_seq (pd_var 1)) ⟨rfl, of_decide_eq_true (by kernel_rfl), of_decide_eq_true (by kernel_rfl), of_decide_eq_true (by kernel_rfl), of_decide_eq_true (by kernel_rfl)⟩ (fun _ _ _ _ _ => (pgc_tup G.calm (pgsc_cons sc_law.nd (pgsc_cons sc_law.nd pgsc_nil)))) (fun _ _ _ _ _ => ptsd_nil) (fun _ _ _ _ _ => (pd_cmp opd_isX (pdb (pd_callK0 (G.blk _ _ _ _ _) (k_accepts_kw_certificate_claim h) (pkd_cons (pd_var 4) (pkd_cons (pd_var 3) pkd_nil)) (by intro env st ds st' e; exact dCons_len2 e))) (pdb pd_bl)))))))))) (pssd_one (psd_ret pd_bl)) pssd_nil) (pssd_cons (psd_asg (pd_ix (pdb (pd_var 1)) (pdb pd_int)) (pgd_tup G.calm (pgsd_cons (pgd_name sc_law.nd) (pgsd_cons (pgd_name sc_law.nd) pgsd_nil)))) (pssd_cons (psd_for G.po G.calm (pid_seq (pd_lst (pad_cons (pd_lst pad_nil) (pad_cons pd_dic0 (pad_cons (pd_tup (pad_cons (pd_lst pad_nil) pad_nil)) (pad_cons (pd_tup (pad_cons (pd_tup (pad_cons (pd_lst pad_nil) pad_nil)) pad_nil)) (pad_cons (pd_tup (pad_cons (pd_tup (pad_cons pd_str (pad_cons (pd_lst pad_nil) pad_nil))) pad_nil)) (pad_cons (pd_tup (pad_cons (pd_tup (pad_cons (pd_lst pad_nil) (pad_cons pd_int pad_nil))) pad_nil)) (pad_cons (pd_tup (pad_cons (pd_tup (pad_cons pd_str (pad_cons pd_int pad_nil))) (pad_cons pd_non pad_nil))) (pad_cons pd_str (pad_cons pd_int (pad_cons pd_bl pad_nil)))))))))))) (pgd_name sc_law.nd) (pssd_one (psd_if (PW.pt (pwd_or (pt_cmp opd_isNotX (pdb (pd_call G (k_accepts h) (pad_cons (pd_var 3) (pad_cons (pd_var 2) pad_nil)))) (pdb pd_bl)) (pwd1 (pt_cmp opd_isNotX (pdb (pd_call G (k_accepts h) (pad_cons (pd_op opd_add (pdb (pd_tup (pad_cons (pd_var 2) pad_nil))) (pdb (pd_slice (pdb (pd_var 3)) (pod_some pd_int) pod_none))) (pad_cons (pd_var 4) pad_nil)))) (pdb pd_bl)) _))) (pssd_one (psd_ret pd_bl)) pssd_nil))) (pssd_one (psd_ret (pd_call1 (cd_all G.calm) h.b_all (pdb (pdf (pf_comp (own := [("_law_spot", 5)]) (tup := false) (is := [5]) G.calm sc_law.nd (pid_range1 h.b_range (pd_call2 (cd_max G.calm) h.b_max (pdb pd_int) (pdb (pd_call2 (cd_min G.calm) h.b_min (pdb (pd_call1 cd_len h.b_len (pdb (pd_var 0)))) (pdb pd_int))))) ⟨rfl, of_decide_eq_true (by kernel_rfl), of_decide_eq_true (by kernel_rfl), of_decide_eq_true (by kernel_rfl), of_decide_eq_true (by kernel_rfl)⟩ (fun _ _ _ _ _ => (pgc_name sc_law.nd)) (fun _ _ _ _ _ => ptsd_nil) (fun _ _ _ _ _ => (pd_call (G.blk _ _ _ _ _) (k_law_right h) (pad_cons (pd_call (G.blk _ _ _ _ _) (k_law_bag h) (pad_cons (pd_var 0) (pad_cons (pd_var 5) pad_nil))) pad_nil))))))))))))))
end
theorem hd_of {w : World} {mg : Str → Option Value} {K : PySem.W.Frag} {h : Heap} (Y : K.In h) (N : h.Ns mainGlobals mg) (c : SaysM fa fn ex K) (cx : SaysX fa fn ex Γ ts w K) : Hd w mg K where
  b_abs := He.free_ok Y N (c.fact 0 (f := .free "abs"))
  b_all := He.free_ok Y N (c.fact 1 (f := .free "all"))
  b_any := He.free_ok Y N (c.fact 2 (f := .free "any"))
  b_bool := He.free_ok Y N (c.fact 3 (f := .free "bool"))
  b_divmod := He.free_ok Y N (c.fact 4 (f := .free "divmod"))
  b_enumerate := He.free_ok Y N (c.fact 5 (f := .free "enumerate"))
  b_int := He.free_ok Y N (c.fact 6 (f := .free "int"))
  b_isinstance := He.free_ok Y N (c.fact 7 (f := .free "isinstance"))
  b_len := He.free_ok Y N (c.fact 8 (f := .free "len"))
  b_list := He.free_ok Y N (c.fact 9 (f := .free "list"))
  b_max := He.free_ok Y N (c.fact 10 (f := .free "max"))
  b_min := He.free_ok Y N (c.fact 11 (f := .free "min"))
  b_range := He.free_ok Y N (c.fact 12 (f := .free "range"))
  b_sorted := He.free_ok Y N (c.fact 13 (f := .free "sorted"))
  b_str := He.free_ok Y N (c.fact 14 (f := .free "str"))
  b_sum := He.free_ok Y N (c.fact 15 (f := .free "sum"))
  b_tuple := He.free_ok Y N (c.fact 16 (f := .free "tuple"))
  b_zip := He.free_ok Y N (c.fact 17 (f := .free "zip"))
  c_MOST_BLOCKS := He.int_ok Y N (c.fact 18 (f := .int "MOST_BLOCKS" 12))
  c_MOST_WORD := He.int_ok Y N (c.fact 19 (f := .int "MOST_WORD" 12))
  c_MOST_TIMES := He.int_ok Y N (c.fact 20 (f := .int "MOST_TIMES" 9))
  c_MOST_MORE := He.int_ok Y N (c.fact 21 (f := .int "MOST_MORE" 99))
  c_GREATEST := He.int_ok Y N (c.fact 22 (f := .int "GREATEST" 1000000000000000000000000000000))
  c_PEGS := He.str_ok Y N (c.fact 23 (f := .str "PEGS" "abcdef"))
  c_LETTERS := He.str_ok Y N (c.fact 24 (f := .str "LETTERS" "abcdefABCDEF"))
  c_PAIRS := tupS_ok Y N (c.more 0 (f := .tupS "PAIRS" ["join", "glue", "back"]))
  c_ITEMS := He.int_ok Y N (c.fact 25 (f := .int "ITEMS" 3))
  g_is_integer := He.glo_ok Y N (c.fact 26 (f := .glo "is_integer"))
  g_is_between := He.glo_ok Y N (c.fact 27 (f := .glo "is_between"))
  g_is_word := He.glo_ok Y N (c.fact 28 (f := .glo "is_word"))
  g_is_block := He.glo_ok Y N (c.fact 29 (f := .glo "is_block"))
  g_are_blocks := He.glo_ok Y N (c.fact 30 (f := .glo "are_blocks"))
  g_is_step := He.glo_ok Y N (c.fact 31 (f := .glo "is_step"))
  g_left_out := He.glo_ok Y N (c.fact 32 (f := .glo "left_out"))
  g_undone_word := He.glo_ok Y N (c.fact 33 (f := .glo "undone_word"))
  g_turned := He.glo_ok Y N (c.fact 34 (f := .glo "turned"))
  g_joined := He.glo_ok Y N (c.fact 35 (f := .glo "joined"))
  g_parted := He.glo_ok Y N (c.fact 36 (f := .glo "parted"))
  g_is_plain := He.glo_ok Y N (c.fact 37 (f := .glo "is_plain"))
  g_cut_at := He.glo_ok Y N (c.fact 38 (f := .glo "cut_at"))
  g_glued := He.glo_ok Y N (c.fact 39 (f := .glo "glued"))
  g_do_undo := He.glo_ok Y N (c.fact 40 (f := .glo "do_undo"))
  g_unpaired := He.glo_ok Y N (c.fact 41 (f := .glo "unpaired"))
  g_passed := He.glo_ok Y N (c.fact 42 (f := .glo "passed"))
  g_opened := He.glo_ok Y N (c.fact 43 (f := .glo "opened"))
  g_rooted := He.glo_ok Y N (c.fact 44 (f := .glo "rooted"))
  g_replaced := He.glo_ok Y N (c.fact 45 (f := .glo "replaced"))
  g_done := He.glo_ok Y N (c.fact 46 (f := .glo "done"))
  g_all_done := He.glo_ok Y N (c.fact 47 (f := .glo "all_done"))
  g_lead_to_nothing := He.glo_ok Y N (c.fact 48 (f := .glo "lead_to_nothing"))
  g_shows_free := He.glo_ok Y N (c.fact 49 (f := .glo "shows_free"))
  g_is_rounds := He.glo_ok Y N (c.fact 50 (f := .glo "is_rounds"))
  g_at_rounds := He.glo_ok Y N (c.fact 51 (f := .glo "at_rounds"))
  g_shows_free_at := He.glo_ok Y N (c.fact 52 (f := .glo "shows_free_at"))
  g_is_tight_item := He.glo_ok Y N (c.fact 53 (f := .glo "is_tight_item"))
  g_is_tight := He.glo_ok Y N (c.fact 54 (f := .glo "is_tight"))
  g_lead_to_tight := He.glo_ok Y N (c.fact 55 (f := .glo "lead_to_tight"))
  g_shows_held_at := He.glo_ok Y N (c.fact 56 (f := .glo "shows_held_at"))
  g_shows_held := He.glo_ok Y N (c.fact 57 (f := .glo "shows_held"))
  g_length_of := He.glo_ok Y N (c.fact 58 (f := .glo "length_of"))
  g_shows_length := He.glo_ok Y N (c.fact 59 (f := .glo "shows_length"))
  g_undone_row := He.glo_ok Y N (c.fact 60 (f := .glo "undone_row"))
  g_shows_same := He.glo_ok Y N (c.fact 61 (f := .glo "shows_same"))
  g_only := He.glo_ok Y N (c.fact 62 (f := .glo "only"))
  g_left_of := He.glo_ok Y N (c.fact 63 (f := .glo "left_of"))
  g_parts_of := He.glo_ok Y N (c.fact 64 (f := .glo "parts_of"))
  g_has_all := He.glo_ok Y N (c.fact 65 (f := .glo "has_all"))
  g_least := He.glo_ok Y N (c.fact 66 (f := .glo "least"))
  g_cuts_of := He.glo_ok Y N (c.fact 67 (f := .glo "cuts_of"))
  g_pegs_in := He.glo_ok Y N (c.fact 68 (f := .glo "pegs_in"))
  g_are_pegs := He.glo_ok Y N (c.fact 69 (f := .glo "are_pegs"))
  g_are_lots := He.glo_ok Y N (c.fact 70 (f := .glo "are_lots"))
  g_shows_lots := He.glo_ok Y N (c.fact 71 (f := .glo "shows_lots"))
  g_accepts := He.glo_ok Y N (c.fact 72 (f := .glo "accepts"))
  g_law_bag := He.glo_ok Y N (c.fact 73 (f := .glo "_law_bag"))
  g_law_menu := He.glo_ok Y N (c.fact 74 (f := .glo "_law_menu"))
  g_law_take := He.glo_ok Y N (c.fact 75 (f := .glo "_law_take"))
  g_law_of := He.glo_ok Y N (c.fact 76 (f := .glo "_law_of"))
  g_law_with__0 := He.glo_ok Y N (c.fact 77 (f := .glo "_law_with"))
  g_law_with__1 := He.glo_ok Y N (c.fact 77 (f := .glo "_law_with"))
  g_law_with__2 := He.glo_ok Y N (c.fact 77 (f := .glo "_law_with"))
  g_law_with__3 := He.glo_ok Y N (c.fact 77 (f := .glo "_law_with"))
  g_law_with__4 := He.glo_ok Y N (c.fact 77 (f := .glo "_law_with"))
  g_law_with__5 := He.glo_ok Y N (c.fact 77 (f := .glo "_law_with"))
  g_law_with__6 := He.glo_ok Y N (c.fact 77 (f := .glo "_law_with"))
  g_law_wrong := He.glo_ok Y N (c.fact 78 (f := .glo "_law_wrong"))
  g_law_right := He.glo_ok Y N (c.fact 79 (f := .glo "_law_right"))
  g_law := He.glo_ok Y N (c.fact 80 (f := .glo "law"))
  is_int := fun p hp => by
    rcases List.mem_cons.mp hp with e | hp
    · rw [e]; exact kit_ok (c.more 1 (f := .kit (.ty "NoneType") (.ty "int") false))
    rcases List.mem_cons.mp hp with e | hp
    · rw [e]; exact kit_ok (c.more 2 (f := .kit (.ty "bool") (.ty "int") true))
    rcases List.mem_cons.mp hp with e | hp
    · rw [e]; exact kit_ok (c.more 3 (f := .kit (.ty "int") (.ty "int") true))
    rcases List.mem_cons.mp hp with e | hp
    · rw [e]; exact kit_ok (c.more 4 (f := .kit (.ty "str") (.ty "int") false))
    rcases List.mem_cons.mp hp with e | hp
    · rw [e]; exact kit_ok (c.more 5 (f := .kit (.ty "tuple") (.ty "int") false))
    rcases List.mem_cons.mp hp with e | hp
    · rw [e]; exact kit_ok (c.more 6 (f := .kit (.ty "list") (.ty "int") false))
    rcases List.mem_cons.mp hp with e | hp
    · rw [e]; exact kit_ok (c.more 7 (f := .kit (.ty "dict") (.ty "int") false))
    cases hp
  is_bool := fun p hp => by
    rcases List.mem_cons.mp hp with e | hp
    · rw [e]; exact kit_ok (c.more 8 (f := .kit (.ty "NoneType") (.ty "bool") false))
    rcases List.mem_cons.mp hp with e | hp
    · rw [e]; exact kit_ok (c.more 9 (f := .kit (.ty "bool") (.ty "bool") true))
    rcases List.mem_cons.mp hp with e | hp
    · rw [e]; exact kit_ok (c.more 10 (f := .kit (.ty "int") (.ty "bool") false))
    rcases List.mem_cons.mp hp with e | hp
    · rw [e]; exact kit_ok (c.more 11 (f := .kit (.ty "str") (.ty "bool") false))
    rcases List.mem_cons.mp hp with e | hp
    · rw [e]; exact kit_ok (c.more 12 (f := .kit (.ty "tuple") (.ty "bool") false))
    rcases List.mem_cons.mp hp with e | hp
    · rw [e]; exact kit_ok (c.more 13 (f := .kit (.ty "list") (.ty "bool") false))
    rcases List.mem_cons.mp hp with e | hp
    · rw [e]; exact kit_ok (c.more 14 (f := .kit (.ty "dict") (.ty "bool") false))
    cases hp
  is_str := fun p hp => by
    rcases List.mem_cons.mp hp with e | hp
    · rw [e]; exact kit_ok (c.more 15 (f := .kit (.ty "NoneType") (.ty "str") false))
    rcases List.mem_cons.mp hp with e | hp
    · rw [e]; exact kit_ok (c.more 16 (f := .kit (.ty "bool") (.ty "str") false))
    rcases List.mem_cons.mp hp with e | hp
    · rw [e]; exact kit_ok (c.more 17 (f := .kit (.ty "int") (.ty "str") false))
    rcases List.mem_cons.mp hp with e | hp
    · rw [e]; exact kit_ok (c.more 18 (f := .kit (.ty "str") (.ty "str") true))
    rcases List.mem_cons.mp hp with e | hp
    · rw [e]; exact kit_ok (c.more 19 (f := .kit (.ty "tuple") (.ty "str") false))
    rcases List.mem_cons.mp hp with e | hp
    · rw [e]; exact kit_ok (c.more 20 (f := .kit (.ty "list") (.ty "str") false))
    rcases List.mem_cons.mp hp with e | hp
    · rw [e]; exact kit_ok (c.more 21 (f := .kit (.ty "dict") (.ty "str") false))
    cases hp
  is_tuple := fun p hp => by
    rcases List.mem_cons.mp hp with e | hp
    · rw [e]; exact kit_ok (c.more 22 (f := .kit (.ty "NoneType") (.ty "tuple") false))
    rcases List.mem_cons.mp hp with e | hp
    · rw [e]; exact kit_ok (c.more 23 (f := .kit (.ty "bool") (.ty "tuple") false))
    rcases List.mem_cons.mp hp with e | hp
    · rw [e]; exact kit_ok (c.more 24 (f := .kit (.ty "int") (.ty "tuple") false))
    rcases List.mem_cons.mp hp with e | hp
    · rw [e]; exact kit_ok (c.more 25 (f := .kit (.ty "str") (.ty "tuple") false))
    rcases List.mem_cons.mp hp with e | hp
    · rw [e]; exact kit_ok (c.more 26 (f := .kit (.ty "tuple") (.ty "tuple") true))
    rcases List.mem_cons.mp hp with e | hp
    · rw [e]; exact kit_ok (c.more 27 (f := .kit (.ty "list") (.ty "tuple") false))
    rcases List.mem_cons.mp hp with e | hp
    · rw [e]; exact kit_ok (c.more 28 (f := .kit (.ty "dict") (.ty "tuple") false))
    cases hp
  t_SIZES := cx.tab 0 Y N
  t_JUDGES := cx.tab 1 Y N
  d_is_integer := c.def_ 0
  d_is_between := c.def_ 1
  d_is_word := c.def_ 2
  d_is_block := c.def_ 3
  d_are_blocks := c.def_ 4
  d_is_step := c.def_ 5
  d_left_out := c.def_ 6
  d_undone_word := c.def_ 7
  d_turned := c.def_ 8
  d_joined := c.def_ 9
  d_parted := c.def_ 10
  d_is_plain := c.def_ 11
  d_cut_at := c.def_ 12
  d_glued := c.def_ 13
  d_do_undo := c.def_ 14
  d_unpaired := c.def_ 15
  d_passed := c.def_ 16
  d_opened := c.def_ 17
  d_rooted := c.def_ 18
  d_replaced := c.def_ 19
  d_done := c.def_ 20
  d_all_done := c.def_ 21
  d_lead_to_nothing := c.def_ 22
  d_shows_free := c.def_ 23
  d_is_rounds := c.def_ 24
  d_at_rounds := c.def_ 25
  d_shows_free_at := c.def_ 26
  d_is_tight_item := c.def_ 27
  d_is_tight := c.def_ 28
  d_lead_to_tight := c.def_ 29
  d_shows_held_at := c.def_ 30
  d_shows_held := c.def_ 31
  d_length_of := c.def_ 32
  d_shows_length := c.def_ 33
  d_undone_row := c.def_ 34
  d_shows_same := c.def_ 35
  d_only := c.def_ 36
  d_left_of := c.def_ 37
  d_parts_of := c.def_ 38
  d_has_all := c.def_ 39
  d_least := c.def_ 40
  d_cuts_of := c.def_ 41
  d_pegs_in := c.def_ 42
  d_are_pegs := c.def_ 43
  d_are_lots := c.def_ 44
  d_shows_lots := c.def_ 45
  d_accepts := c.def_ 46
  d_law_bag := c.def_ 47
  d_law_menu := c.def_ 48
  d_law_take := c.def_ 49
  d_law_of := c.def_ 50
  d_law_with__0 := c.def_ 51
  d_law_with__1 := c.def_ 52
  d_law_with__2 := c.def_ 53
  d_law_with__3 := c.def_ 54
  d_law_with__4 := c.def_ 55
  d_law_with__5 := c.def_ 56
  d_law_with__6 := c.def_ 57
  d_law_wrong := c.def_ 58
  d_law_right := c.def_ 59
  d_law := c.def_ 60
def st0q : List (Nat × Str) := [(1000, "parts_of.<locals>.<lambda>")]
def st0 : Sto := st0q.map fun u => .tab u.1 u.2
theorem st0_ok (K : PySem.W.Frag) : tabsSt ⟨K, Γ K⟩ (tabsOf tf K) st0 := tabsSt_of _ st0q rfl fun n p u h1 h2 => by
  match n with
  | 0 => cases h1; cases h2; rfl
  | _ + 1 => cases h2
end K74
open PySem PySem.W PySem.Calls PyProof.Rows
theorem PySem.Challenge.cw_knotspools_k74_values_of_any_kind_judged_holds : PySem.Challenge.rw_knotspools_k74_values_of_any_kind_judged.Holds := by
  refine K74.fin ?_
  intro w mg fa h Y N hmg
  obtain ⟨K, KX, c⟩ := Y
  have H := K74.hd_of (w := w) KX N c.x.m c.x
  obtain ⟨fd, D⟩ := H.d_law
  have e := hmg.symm.trans H.g_law
  cases e
  exact ⟨K, K74.Γ K, fd, (K74.F_law K74.U), AM.tabsOf K74.tf K, K74.st0, KX, c.t.s KX, K74.st0_ok K, fun s v => (L2.FunD.bindsA (ps := ["_law_script"]) D fun _ _ _ _ _ _ us hl => match us, hl with | [_], _ => rfl) s [v] rfl, K74.law_true, fun base _ _ hT => K74.b_law ⟨H, hT⟩ D⟩
