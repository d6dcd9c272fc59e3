import PyProof.Rows.All
import Wide.All
import OpenK.AllK
import Wide.FinOn
import HandS.Head2
import HandS.HeadHook4
import HandS.ForMost
import HandS.ForExc
import HandS.TryMany
import HandS.ExcField
import HandS.ExcInit
import HandS.OwnEq
import HandS.Lambda
import HandS.Wide
import HandS.TupMul
import HandS.TupAny
import HandS.Flow
import HandS.MakeKw
import HandS.CallSlots
import HandS.IsInst
import HandS.Defaults
import HandS.Walk
import HandS.Comp
import HandS.NoneIn
import HandS.MakeKwOnly
import HandS.SetFor
import HandS.Strs
import HandS.New0
import HandS.Style
import PyProof.NeKinds
import HandS.SlotsOwn
import HandS.Iter
import HandS.Dict
import HandS.HotCalls
import KE.KBoundM
import HandS.Zip
import KE.DataMinMax
import KE.GoesMore
import HandS.Conv
import HandS.SortInts
import KE.SortData
import PyProof.ListNew
import PyProof.Draws
import KE.DataEq
import HandS.TupLen
import HandS.Text
import HandS.FStr
import HandS.StrMore
import KE.KStateDown
import HandS.Ends
import HandS.More
import HandS.Words
import HandS.WordsExc
import HandS.Head0
import HandS.Head1
import HandS.HeadEnd
import HandS.EndTab
import HandS.Codes
import PySem.Challenge.RW_lateststore_k71_programs_written_and_rea
import HandS.HeadWalk
set_option Elab.async false
set_option linter.all false
set_option maxRecDepth 100000
set_option maxHeartbeats 0
/-! part DH1 -/
/-! DH1: the head in pieces; the facts are looked up among the text's own objects, the newest first. -/
namespace DL
open PySem PySem.W PySem.Calls PyProof.Rows HandSHeadRun He
def pairsF : Nat → List Obj → List (Addr × Obj)
  | _, [] => []
  | i, o :: r => match alive o with
    | some u => (match emptyTab u with
      | true => pairsF (i + 1) r
      | false => (i, u) :: pairsF (i + 1) r)
    | none => pairsF (i + 1) r
theorem pairsF_mem {a : Addr} {u : Obj} : ∀ {l : List Obj} {i : Nat}, (a, u) ∈ pairsF i l → ∃ j o, a = i + j ∧ l[j]? = some o ∧ alive o = some u ∧ emptyTab u = false
  | [], _, h => by cases h
  | o :: r, i, h => by
    have up : (a, u) ∈ pairsF (i + 1) r → ∃ j o', a = i + j ∧ (o :: r)[j]? = some o' ∧ alive o' = some u ∧ emptyTab u = false := fun z => by
      obtain ⟨j, o', e1, e2, e3⟩ := pairsF_mem z
      exact ⟨j + 1, o', e1.trans (by rw [Nat.add_assoc, Nat.add_comm 1 j]), by simpa using e2, e3⟩
    rw [pairsF] at h
    cases q : alive o with
    | none =>
      rw [q] at h
      exact up h
    | some v =>
      rw [q] at h
      cases t : emptyTab v with
      | true =>
        simp only [t] at h
        exact up h
      | false =>
        simp only [t] at h
        rcases List.mem_cons.mp h with z | z
        · cases z
          exact ⟨0, o, rfl, rfl, q, t⟩
        · exact up z
/-- the text's own objects, and the top's names ahead -/
def kF (lo : Nat) (h : Heap) : PySem.W.Frag := match h.objs.toList with
  | l => pairsF mainGlobals ((l.drop mainGlobals).take 1) ++ (pairsF lo (l.drop lo)).reverse
theorem kF_mem {lo : Nat} {h : Heap} {a : Addr} {o : Obj} (e : (kF lo h).lookup a = some o) : h.get? a = some o ∧ emptyTab o = false := by
  have key : ∀ (k : Nat) (l : List Obj) (n : Nat), (a, o) ∈ pairsF k l → (∀ (j : Nat) v, l[j]? = some v → h.objs.toList[k + j]? = some v) → h.get? a = some o ∧ emptyTab o = false := fun k l n hm hl => by
    obtain ⟨j, v, e1, e2, e3, e4⟩ := pairsF_mem hm
    refine ⟨?_, e4⟩
    have e5 := hl j v e2
    rw [Array.getElem?_toList] at e5
    unfold Heap.get?
    rw [e1, e5]
    exact (alive_eq v).trans e3
  have hm := He.lookup_mem e
  rcases List.mem_append.mp (show (a, o) ∈ pairsF mainGlobals ((h.objs.toList.drop mainGlobals).take 1) ++ (pairsF lo (h.objs.toList.drop lo)).reverse from hm) with z | z
  · exact key mainGlobals _ 1 z fun j v q => by
      rw [List.getElem?_take] at q
      split at q
      · rw [List.getElem?_drop] at q
        exact q
      · cases q
  · exact key lo _ 0 (List.mem_reverse.mp z) fun j v q => by
      rw [List.getElem?_drop] at q
      exact q
def obsF (lo : Nat) (fa : List Fa) (fn : List DefD) (ts : List Tab) (tf : List Defn) (ex : PySem.W.Frag → Bool) (h : Heap) : AlX := (obsT fa fn ts (kF lo h), ex (kF lo h) && tabsB h.get? tf (kF lo h))
theorem saysF_of {lo : Nat} {fa : List Fa} {fn : List DefD} {ts : List Tab} {tf : List Defn} {ex : PySem.W.Frag → Bool} {w : World} {h : Heap} (e : obsF lo fa fn ts tf ex h = valX fn ts w) : SaysX fa fn ts tf ex w h (kF lo h) := by
  have e1 : obsT fa fn ts (kF lo h) = valT fn ts w := congrArg (fun z : AlX => z.1) e
  have e2 : (ex (kF lo h) && tabsB h.get? tf (kF lo h)) = true := congrArg (fun z : AlX => z.2) e
  obtain ⟨h1, h2⟩ := ba e2
  have key : ∀ p ∈ tf, PySem.W.codeHdIn (kF lo h) (cT (kF lo h) p).1 (cT (kF lo h) p).2 = true ∧ ∃ o, h.get? (cT (kF lo h) p).2 = some o ∧ emptyTab o = true := fun p hp => by
    obtain ⟨h3, h4⟩ := ba (List.all_eq_true.mp h2 p hp)
    refine ⟨h3, ?_⟩
    cases q : h.get? (cT (kF lo h) p).2 with
    | none =>
      rw [q] at h4
      cases h4
    | some o =>
      rw [q] at h4
      exact ⟨o, rfl, h4⟩
  refine ⟨e1, h1, fun p hp => (key p hp).1, fun p hp => ?_, fun p hp => ?_⟩
  · obtain ⟨_, o, q, z⟩ := key p hp
    cases e3 : (kF lo h).lookup (cT (kF lo h) p).2 with
    | none => rfl
    | some u =>
      obtain ⟨h5, h6⟩ := kF_mem e3
      rw [q] at h5
      rw [← Option.some.inj h5, z] at h6
      cases h6
  · obtain ⟨_, o, q, z⟩ := key p hp
    rw [q, emptyTab_eq z]
def hookH (lo : Nat) (fa : List Fa) (fn : List DefD) (ts : List Tab) (tf : List Defn) (ex : PySem.W.Frag → Bool) : PySem.W.Hook where
  α := AlX
  obs := fun s => obsF lo fa fn ts tf ex s.heap
  val := fun w => valX fn ts w
  says := (hookX 0 fa fn ts tf ex).says
  of := fun w s e => ⟨_, fun _ _ q => (kF_mem q).1, saysF_of e⟩
  keeps := (hookX 0 fa fn ts tf ex).keeps
end DL

/-! part HEAD -/
namespace DL
open PySem PySem.Spec PyProof.Rows L2
def cn : Nat → Str
  | 0 => "Memory" | 1 => "Store" | 2 => "Flush" | 3 => "Fence" | 4 => "Program" | 5 => "Counter" | 6 => "Box" | 7 => "Parted" | 8 => "Fenced" | 9 => "Never"
  | 10 => "Is" | 11 => "Copy" | 12 => "Step" | 13 => "Recovery" | 14 => "Failed" | 15 => "Checker" | 16 => "Book" | 17 => "Desk"
  | _ => "?"
end DL
namespace DL
open PySem PySem.Spec PyProof.Rows L2
def fn : Nat → List Str
  | 0 => ["sizes"] | 1 => ["line", "word", "number"] | 2 => ["line"] | 3 => [] | 4 => ["memory", "commands"] | 5 => ["made", "flushed", "sure"] | 6 => ["time", "low", "high"]
  | 7 => ["image", "is_first"] | 8 => ["result", "apart"] | 9 => ["order"] | 10 => ["line", "word", "numbers"] | 11 => ["line", "word", "from_line", "from_word"]
  | 12 => ["conditions", "moves"] | 13 => ["memory", "steps"] | 14 => ["image", "second", "words"] | 15 => ["recovery", "good", "known"]
  | 16 => ["memory", "commands", "rules", "history"] | 17 => ["book"]
  | _ => []
end DL
namespace DL
open PySem PySem.Spec PyProof.Rows L2
def xn : Nat → Str
  | 0 => "StoreError" | 1 => "BadCount" | 2 => "NoLine" | 3 => "NoWord" | 4 => "NoTime" | 5 => "NoImage" | 6 => "NoPlace" | 7 => "OtherStores" | 8 => "NoStore" | 9 => "OtherMemory"
  | 10 => "Wide" | 11 => "NoName" | 12 => "NoRule" | 13 => "Empty" | 14 => "NoBack" | 15 => "BadText"
  | _ => "?"
end DL
namespace DL
open PySem PySem.Spec PyProof.Rows L2
def xf : Nat → List Str
  | 1 => ["what", "count"] | 2 => ["line"] | 3 => ["word"] | 4 => ["time"] | 6 => ["place"] | 8 => ["store"] | 10 => ["count"] | 11 => ["name"] | 12 => ["name"] | 15 => ["place"]
  | _ => []
end DL
namespace DQ
open PySem PySem.Spec PyProof.Rows L2 DL
def thg : Nat → Bool
  | 5 => false | 15 => false | 16 => false | 17 => false
  | n => decide (n < 18)
end DQ
namespace DQ
open PySem PySem.Spec PyProof.Rows L2 DL
def here (K : PySem.W.Frag) (c : Nat) : Bool := PySem.W.hasDictIn K (He.ga K (cn c))
end DQ
namespace DQ
open PySem PySem.Spec PyProof.Rows L2 DL
def eqAd (K : PySem.W.Frag) : Addr := He.ma K (He.ga K "Thing") "__eq__"
end DQ
namespace DQ
open PySem PySem.Spec PyProof.Rows L2 DL
def clsB (K : PySem.W.Frag) (c : Nat) : Bool := !here K c || (decide (PySem.W.mroIn K (He.ga K (cn c)) (.type "object") = some true) && (decide (PySem.W.findIn K (.ref (He.ga K (cn c))) "__class__" = some (some (.builtin "object.__class__"))) && (!thg c ||
  (decide (PySem.W.findIn K (.ref (He.ga K (cn c))) "__eq__" = some (some (.ref (eqAd K)))) && (decide (PySem.W.findIn K (.ref (He.ga K (cn c))) "__ne__" = some (some (.builtin "object.__ne__"))) && (List.range 18).all fun c' => !here K c' || (!thg c' ||
    (PySem.W.notFirst K (He.ga K (cn c)) (.ref (He.ga K (cn c'))) && (decide (He.ga K (cn c) = He.ga K (cn c') → c = c')))))))))
end DQ
namespace DQ
open PySem PySem.Spec PyProof.Rows L2 DL
def txtB (K : PySem.W.Frag) : Bool := (List.range 18).all (clsB K) && (PySem.W.isFn K (.ref (eqAd K)) && (decide (PySem.W.specialIn K (.builtin "object.__class__") "__get__" = some (some (.builtin "getset_descriptor.__get__"))) && decide (PySem.W.takesIn K (.builtin "object.__class__") = some true)))
end DQ
namespace DQ
open PySem PySem.Spec PyProof.Rows L2 DL
def isiB (K : PySem.W.Frag) (u : Value) (bt : String → Bool) (cl : Nat → Bool) : Bool := (["NoneType", "bool", "int", "str", "tuple", "list"].all fun t => decide (PySem.W.kitOne K (.type t) u = some (bt t))) && (List.range 18).all fun c => !here K c || decide (PySem.W.kitOne K (.ref (He.ga K (cn c))) u = some (cl c))
end DQ
namespace DQ
open PySem PySem.Spec PyProof.Rows L2 DL
def absB (K : PySem.W.Frag) (c : Nat) : Bool := !here K c
end DQ
namespace DQ
open PySem PySem.Spec PyProof.Rows L2 DL
def ckB (K : PySem.W.Frag) (c : Nat) : Bool := (He.Fa.cls (cn c)).ok K && (fn c).all fun f => (He.Fa.noat (cn c) f).ok K
end DQ
namespace DQ
open PySem PySem.Spec PyProof.Rows L2 DL
def mk0B (K : PySem.W.Frag) (c : Nat) : Bool := ckB K c && (PySem.W.makesIn K (He.ga K (cn c)) && (decide (PySem.W.findIn K (.ref (He.ga K (cn c))) "__init__" = some (some (.builtin "object.__init__"))) && (decide (PySem.W.mroIn K (He.ga K (cn c)) (.type "object") = some true) && PySem.W.keepIn K (.ref (He.ga K (cn c))))))
end DQ
namespace DQ
open PySem PySem.Spec PyProof.Rows L2 DL
def isTup : String → Bool := fun t => t == "tuple"
end DQ
namespace DQ
open PySem PySem.Spec PyProof.Rows L2 DL
def noTy : String → Bool := fun _ => false
end DQ
namespace DQ
open PySem PySem.Spec PyProof.Rows L2 DL
def noCl : Nat → Bool := fun _ => false
end DQ
namespace DX
open PySem PySem.Spec PyProof.Rows L2 DL DQ
def oexB (K : PySem.W.Frag) (C : Addr) : Bool := (match K.lookup C with
  | some ⟨.type "type", _, .cls cd, sl⟩ => (match cd.mro, sl.toList with
    | .ref C' :: bm, [_, _, _, _, some (.builtin n), _] => (C' == C && n == "ValueError.__new__") && (!cd.hasDel && (cd.hasDict && PySem.HandSPX.refsVE bm))
    | _, _ => false)
  | _ => false) && (decide (PySem.W.findIn K (.ref C) "__setattr__" = some (some (.builtin "object.__setattr__"))) && (decide (PySem.W.subIn K (.ref C) (.type "BaseException") = some true) && (decide (PySem.W.typeIn K (.ref C) = some (.type "type")) && PySem.W.keepIn K (.ref C))))
end DX
namespace DX
open PySem PySem.Spec PyProof.Rows L2 DL DQ
def xoB (K : PySem.W.Frag) (x : Nat) : Bool := oexB K (He.ga K (xn x)) && (decide (PySem.W.findIn K (.ref (He.ga K (xn x))) "__init__" = some (some (.ref (He.ma K (He.ga K (xn x)) "__init__")))) && (decide (PySem.W.typeIn K (.ref (He.ma K (He.ga K (xn x)) "__init__")) = some (.type "function")) && (xf x).all fun f => decide (PySem.W.findIn K (.ref (He.ga K (xn x))) f = some none)))
end DX
namespace DX
open PySem PySem.Spec PyProof.Rows L2 DL DQ
def xsub (x y : Nat) : Bool := y == 0 || x == y
end DX
namespace DX
open PySem PySem.Spec PyProof.Rows L2 DL DQ
def exmB (K : PySem.W.Frag) (es ys : List Nat) : Bool := es.all fun x => ys.all fun y => decide (PySem.W.exmOne K (.ref (He.ga K (xn x))) (.ref (He.ga K (xn y))) = some (xsub x y))
end DX
namespace DX
open PySem PySem.Spec PyProof.Rows L2 DL DQ
def xfB (K : PySem.W.Frag) (x : Nat) : Bool := decide (PySem.W.findIn K (.ref (He.ga K (xn x))) "__getattribute__" = some (some (.builtin "BaseException.__getattribute__"))) &&
  (decide (PySem.W.findIn K (.ref (He.ga K (xn x))) "__getattr__" = some none) && (decide (PySem.W.subIn K (.ref (He.ga K (xn x))) (.type "BaseException") = some true) && decide (PySem.W.hasDictIn K (He.ga K (xn x)) = true)))
end DX
namespace DX
open PySem PySem.Spec PyProof.Rows L2 DL DQ
def isLst : String → Bool := fun t => t == "list"
end DX
namespace DX
open PySem PySem.Spec PyProof.Rows L2 DL DQ
def isBoo : String → Bool := fun t => t == "bool"
end DX
namespace DX
open PySem PySem.Spec PyProof.Rows L2 DL DQ
def tolB (K : PySem.W.Frag) (x : Nat) (m : Str) : Bool := xfB K x && (decide (PySem.W.findIn K (.ref (He.ga K (xn x))) m = some (some (.ref (He.ma K (He.ga K (xn x)) m)))) && decide (PySem.W.typeIn K (.ref (He.ma K (He.ga K (xn x)) m)) = some (.type "function")))
end DX
namespace LW
open PySem PySem.Spec PyProof.Rows L2 DL DQ DX
def top (i : Nat) : Stmt := PySem.Challenge.pw_lateststore_k71_programs_written_and_rea.main.body.getD i (.Pass ⟨0, 0, 0, 0⟩)
def mth (i j : Nat) : Stmt := (C8.clsBody (top i)).getD j (.Pass ⟨0, 0, 0, 0⟩)
abbrev s_BadCount___init__ : Stmt := (mth 3 0)
abbrev s_NoLine___init__ : Stmt := (mth 4 0)
abbrev s_NoWord___init__ : Stmt := (mth 5 0)
abbrev s_BadText___init__ : Stmt := (mth 7 0)
abbrev s_Thing_facts : Stmt := (mth 13 0)
abbrev s_Thing_kind : Stmt := (mth 13 1)
abbrev s_Thing___eq__ : Stmt := (mth 13 2)
abbrev s_Memory___init__ : Stmt := (mth 14 0)
abbrev s_Memory_kind : Stmt := (mth 14 1)
abbrev s_Memory_facts : Stmt := (mth 14 2)
abbrev s_Memory_check_line : Stmt := (mth 14 3)
abbrev s_Memory_check_word : Stmt := (mth 14 4)
abbrev s_Command_check : Stmt := (mth 15 0)
abbrev s_Store___init__ : Stmt := (mth 16 0)
abbrev s_Store_kind : Stmt := (mth 16 1)
abbrev s_Store_facts : Stmt := (mth 16 2)
abbrev s_Store_check : Stmt := (mth 16 3)
abbrev s_Flush___init__ : Stmt := (mth 17 0)
abbrev s_Flush_kind : Stmt := (mth 17 1)
abbrev s_Flush_facts : Stmt := (mth 17 2)
abbrev s_Flush_check : Stmt := (mth 17 3)
abbrev s_Fence_kind : Stmt := (mth 18 0)
abbrev s_check_commands : Stmt := (top 19)
abbrev s_Program___init__ : Stmt := (mth 20 0)
abbrev s_Program_kind : Stmt := (mth 20 1)
abbrev s_Program_facts : Stmt := (mth 20 2)
abbrev s_Program___add__ : Stmt := (mth 20 3)
abbrev s_read_number : Stmt := (top 25)
abbrev s_command_text : Stmt := (top 26)
abbrev s_read_command : Stmt := (top 27)
abbrev s_program_text : Stmt := (top 28)
abbrev s_read_program : Stmt := (top 29)
abbrev s__law_source : Stmt := (top 31)
abbrev s__law_draw : Stmt := (top 32)
abbrev s__law_pick : Stmt := (top 33)
abbrev s__law_sizes : Stmt := (top 34)
abbrev s__law_number : Stmt := (top 35)
abbrev s__law_specs : Stmt := (top 36)
abbrev s__law_command : Stmt := (top 37)
abbrev s__law_program : Stmt := (top 38)
abbrev s__law_text : Stmt := (top 39)
abbrev s__law_shown : Stmt := (top 40)
abbrev s__law_due : Stmt := (top 41)
abbrev s__law_right : Stmt := (top 42)
abbrev s_law : Stmt := (top 43)
def d_BadCount___init__ : He.DefD := ⟨("BadCount", some "__init__"), "__init__", "BadCount.__init__", defArgs s_BadCount___init__, defBody s_BadCount___init__, defScope s_BadCount___init__, [], []⟩
def d_NoLine___init__ : He.DefD := ⟨("NoLine", some "__init__"), "__init__", "NoLine.__init__", defArgs s_NoLine___init__, defBody s_NoLine___init__, defScope s_NoLine___init__, [], []⟩
def d_NoWord___init__ : He.DefD := ⟨("NoWord", some "__init__"), "__init__", "NoWord.__init__", defArgs s_NoWord___init__, defBody s_NoWord___init__, defScope s_NoWord___init__, [], []⟩
def d_BadText___init__ : He.DefD := ⟨("BadText", some "__init__"), "__init__", "BadText.__init__", defArgs s_BadText___init__, defBody s_BadText___init__, defScope s_BadText___init__, [], []⟩
def d_Thing_facts : He.DefD := ⟨("Thing", some "facts"), "facts", "Thing.facts", defArgs s_Thing_facts, defBody s_Thing_facts, defScope s_Thing_facts, [], []⟩
def d_Thing_kind : He.DefD := ⟨("Thing", some "kind"), "kind", "Thing.kind", defArgs s_Thing_kind, defBody s_Thing_kind, defScope s_Thing_kind, [], []⟩
def d_Thing___eq__ : He.DefD := ⟨("Thing", some "__eq__"), "__eq__", "Thing.__eq__", defArgs s_Thing___eq__, defBody s_Thing___eq__, defScope s_Thing___eq__, [], []⟩
def d_Memory___init__ : He.DefD := ⟨("Memory", some "__init__"), "__init__", "Memory.__init__", defArgs s_Memory___init__, defBody s_Memory___init__, defScope s_Memory___init__, [], []⟩
def d_Memory_kind : He.DefD := ⟨("Memory", some "kind"), "kind", "Memory.kind", defArgs s_Memory_kind, defBody s_Memory_kind, defScope s_Memory_kind, [], []⟩
def d_Memory_facts : He.DefD := ⟨("Memory", some "facts"), "facts", "Memory.facts", defArgs s_Memory_facts, defBody s_Memory_facts, defScope s_Memory_facts, [], []⟩
def d_Memory_check_line : He.DefD := ⟨("Memory", some "check_line"), "check_line", "Memory.check_line", defArgs s_Memory_check_line, defBody s_Memory_check_line, defScope s_Memory_check_line, [], []⟩
def d_Memory_check_word : He.DefD := ⟨("Memory", some "check_word"), "check_word", "Memory.check_word", defArgs s_Memory_check_word, defBody s_Memory_check_word, defScope s_Memory_check_word, [], []⟩
def d_Command_check : He.DefD := ⟨("Command", some "check"), "check", "Command.check", defArgs s_Command_check, defBody s_Command_check, defScope s_Command_check, [], []⟩
def d_Store___init__ : He.DefD := ⟨("Store", some "__init__"), "__init__", "Store.__init__", defArgs s_Store___init__, defBody s_Store___init__, defScope s_Store___init__, [], []⟩
def d_Store_kind : He.DefD := ⟨("Store", some "kind"), "kind", "Store.kind", defArgs s_Store_kind, defBody s_Store_kind, defScope s_Store_kind, [], []⟩
def d_Store_facts : He.DefD := ⟨("Store", some "facts"), "facts", "Store.facts", defArgs s_Store_facts, defBody s_Store_facts, defScope s_Store_facts, [], []⟩
def d_Store_check : He.DefD := ⟨("Store", some "check"), "check", "Store.check", defArgs s_Store_check, defBody s_Store_check, defScope s_Store_check, [], []⟩
def d_Flush___init__ : He.DefD := ⟨("Flush", some "__init__"), "__init__", "Flush.__init__", defArgs s_Flush___init__, defBody s_Flush___init__, defScope s_Flush___init__, [], []⟩
def d_Flush_kind : He.DefD := ⟨("Flush", some "kind"), "kind", "Flush.kind", defArgs s_Flush_kind, defBody s_Flush_kind, defScope s_Flush_kind, [], []⟩
def d_Flush_facts : He.DefD := ⟨("Flush", some "facts"), "facts", "Flush.facts", defArgs s_Flush_facts, defBody s_Flush_facts, defScope s_Flush_facts, [], []⟩
def d_Flush_check : He.DefD := ⟨("Flush", some "check"), "check", "Flush.check", defArgs s_Flush_check, defBody s_Flush_check, defScope s_Flush_check, [], []⟩
def d_Fence_kind : He.DefD := ⟨("Fence", some "kind"), "kind", "Fence.kind", defArgs s_Fence_kind, defBody s_Fence_kind, defScope s_Fence_kind, [], []⟩
def d_check_commands : He.DefD := ⟨("check_commands", none), "check_commands", "check_commands", defArgs s_check_commands, defBody s_check_commands, defScope s_check_commands, [], []⟩
def d_Program___init__ : He.DefD := ⟨("Program", some "__init__"), "__init__", "Program.__init__", defArgs s_Program___init__, defBody s_Program___init__, defScope s_Program___init__, [], []⟩
def d_Program_kind : He.DefD := ⟨("Program", some "kind"), "kind", "Program.kind", defArgs s_Program_kind, defBody s_Program_kind, defScope s_Program_kind, [], []⟩
def d_Program_facts : He.DefD := ⟨("Program", some "facts"), "facts", "Program.facts", defArgs s_Program_facts, defBody s_Program_facts, defScope s_Program_facts, [], []⟩
def d_Program___add__ : He.DefD := ⟨("Program", some "__add__"), "__add__", "Program.__add__", defArgs s_Program___add__, defBody s_Program___add__, defScope s_Program___add__, [], []⟩
def d_read_number : He.DefD := ⟨("read_number", none), "read_number", "read_number", defArgs s_read_number, defBody s_read_number, defScope s_read_number, [], []⟩
def d_command_text : He.DefD := ⟨("command_text", none), "command_text", "command_text", defArgs s_command_text, defBody s_command_text, defScope s_command_text, [], []⟩
def d_read_command : He.DefD := ⟨("read_command", none), "read_command", "read_command", defArgs s_read_command, defBody s_read_command, defScope s_read_command, [], []⟩
def d_program_text : He.DefD := ⟨("program_text", none), "program_text", "program_text", defArgs s_program_text, defBody s_program_text, defScope s_program_text, [], []⟩
def d_read_program : He.DefD := ⟨("read_program", none), "read_program", "read_program", defArgs s_read_program, defBody s_read_program, defScope s_read_program, [], []⟩
def d__law_source : He.DefD := ⟨("_law_source", none), "_law_source", "_law_source", defArgs s__law_source, defBody s__law_source, defScope s__law_source, [], []⟩
def d__law_draw : He.DefD := ⟨("_law_draw", none), "_law_draw", "_law_draw", defArgs s__law_draw, defBody s__law_draw, defScope s__law_draw, [], []⟩
def d__law_pick : He.DefD := ⟨("_law_pick", none), "_law_pick", "_law_pick", defArgs s__law_pick, defBody s__law_pick, defScope s__law_pick, [], []⟩
def d__law_sizes : He.DefD := ⟨("_law_sizes", none), "_law_sizes", "_law_sizes", defArgs s__law_sizes, defBody s__law_sizes, defScope s__law_sizes, [], []⟩
def d__law_number : He.DefD := ⟨("_law_number", none), "_law_number", "_law_number", defArgs s__law_number, defBody s__law_number, defScope s__law_number, [], []⟩
def d__law_specs : He.DefD := ⟨("_law_specs", none), "_law_specs", "_law_specs", defArgs s__law_specs, defBody s__law_specs, defScope s__law_specs, [], []⟩
def d__law_command : He.DefD := ⟨("_law_command", none), "_law_command", "_law_command", defArgs s__law_command, defBody s__law_command, defScope s__law_command, [], []⟩
def d__law_program : He.DefD := ⟨("_law_program", none), "_law_program", "_law_program", defArgs s__law_program, defBody s__law_program, defScope s__law_program, [], []⟩
def d__law_text : He.DefD := ⟨("_law_text", none), "_law_text", "_law_text", defArgs s__law_text, defBody s__law_text, defScope s__law_text, [], []⟩
def d__law_shown : He.DefD := ⟨("_law_shown", none), "_law_shown", "_law_shown", defArgs s__law_shown, defBody s__law_shown, defScope s__law_shown, [], []⟩
def d__law_due : He.DefD := ⟨("_law_due", none), "_law_due", "_law_due", defArgs s__law_due, defBody s__law_due, defScope s__law_due, [], []⟩
def d__law_right : He.DefD := ⟨("_law_right", none), "_law_right", "_law_right", defArgs s__law_right, defBody s__law_right, defScope s__law_right, [], []⟩
def d_law : He.DefD := ⟨("law", none), "law", "law", defArgs s_law, defBody s_law, defScope s_law, [], []⟩
def d_Command_check_of_Fence : He.DefD := ⟨("Fence", some "check"), "check", "Command.check", defArgs s_Command_check, defBody s_Command_check, defScope s_Command_check, [], []⟩
def d_Thing_facts_of_Fence : He.DefD := ⟨("Fence", some "facts"), "facts", "Thing.facts", defArgs s_Thing_facts, defBody s_Thing_facts, defScope s_Thing_facts, [], []⟩
def fnL : List He.DefD := [d_BadCount___init__, d_NoLine___init__, d_NoWord___init__, d_BadText___init__, d_Thing_facts, d_Thing_kind, d_Thing___eq__, d_Memory___init__, d_Memory_kind, d_Memory_facts, d_Memory_check_line, d_Memory_check_word, d_Command_check, d_Store___init__, d_Store_kind, d_Store_facts, d_Store_check, d_Flush___init__, d_Flush_kind, d_Flush_facts, d_Flush_check, d_Fence_kind, d_check_commands, d_Program___init__, d_Program_kind, d_Program_facts, d_Program___add__, d_read_number, d_command_text, d_read_command, d_program_text, d_read_program, d__law_source, d__law_draw, d__law_pick, d__law_sizes, d__law_number, d__law_specs, d__law_command, d__law_program, d__law_text, d__law_shown, d__law_due, d__law_right, d_law, d_Command_check_of_Fence, d_Thing_facts_of_Fence]
/-! ### the head -/
def faL : List He.Fa := [.glo "law", .str "BETWEEN" ", ", .glo "BadCount", .glo "BadText", .str "FIGURES" "0123456789", .glo "Fence", .glo "Flush", .int "MOST_COMMANDS" 200, .int "MOST_FIGURES" 31, .int "MOST_LINES" 6, .int "MOST_WORDS" 4, .glo "Memory", .str "NONE" "none", .glo "NoLine", .glo "NoWord", .glo "OtherMemory", .glo "Program", .glo "Store", .glo "Thing", .glo "_law_command", .glo "_law_draw", .glo "_law_due", .glo "_law_number", .glo "_law_pick", .glo "_law_program", .glo "_law_right", .glo "_law_shown", .glo "_law_sizes", .glo "_law_source", .glo "_law_specs", .glo "_law_text", .free "abs", .free "all", .glo "check_commands", .glo "command_text", .free "enumerate", .free "int", .free "isinstance", .free "len", .glo "program_text", .free "range", .glo "read_command", .glo "read_number", .glo "read_program", .free "str", .free "tuple", .mkr "Memory", .meth "Memory" "kind", .meth "Memory" "facts", .meth "Memory" "check_line", .meth "Memory" "check_word", .meth "Memory" "__eq__", .mkr "Store", .meth "Store" "kind", .meth "Store" "facts", .meth "Store" "check", .meth "Store" "__eq__", .mkr "Flush", .meth "Flush" "kind", .meth "Flush" "facts", .meth "Flush" "check", .meth "Flush" "__eq__", .meth "Fence" "kind", .meth "Fence" "check", .meth "Fence" "facts", .meth "Fence" "__eq__", .mkr "Program", .meth "Program" "kind", .meth "Program" "facts", .meth "Program" "__add__", .meth "Program" "__eq__"]
def exL : PySem.W.Frag → Bool := fun K => (txtB K && (ckB K 0 && (ckB K 1 && (ckB K 2 && (mk0B K 3 && (ckB K 4 && (absB K 5 && (absB K 6 && (absB K 7 && (absB K 8 && (absB K 9 && (absB K 10 && (absB K 11 && (absB K 12 && (absB K 13 && (absB K 14 && (absB K 15 && (absB K 16 && (absB K 17 && (isiB K (.ref (He.ga K "Flush")) noTy (fun c => c == 2) && (isiB K (.ref (He.ga K "Store")) noTy (fun c => c == 1) && (isiB K (.ref (He.ga K "Thing")) noTy thg && (xoB K 1 && (DX.xfB K 1 && (xoB K 2 && (DX.xfB K 2 && (xoB K 3 && (DX.xfB K 3 && (xoB K 15 && (DX.xfB K 15 && (exmB K [0, 1, 2, 3, 9, 15] [0, 1, 2, 3, 9, 15] && PySem.W.selfFirst K (He.ga K (cn 4)))))))))))))))))))))))))))))))))
def tfL : List He.Defn := []
abbrev R : PySem.W.OpenRow := PySem.W.OpenLaw.row PySem.Challenge.rw_lateststore_k71_programs_written_and_rea
abbrev hk : PySem.W.Hook := DL.hookH 11 faL fnL [] tfL exL
def ob (s : PySem.W.SharedT) : He.AlX := DL.obsF 11 faL fnL [] tfL exL s.abs.heap
theorem ob_eq (s : PySem.W.SharedT) : ob s = hk.obs s.abs := rfl
theorem hrun (w : World) : HandSHeadRun.RunEq R (PySem.W.view R.prog [43]) hk ob 8000 [("_wall" : PySem.Str), ("__name__" : PySem.Str), ("StoreError" : PySem.Str), ("BadCount" : PySem.Str), ("NoLine" : PySem.Str), ("NoWord" : PySem.Str), ("OtherMemory" : PySem.Str), ("BadText" : PySem.Str), ("FIGURES" : PySem.Str), ("MOST_LINES" : PySem.Str), ("MOST_WORDS" : PySem.Str), ("MOST_COMMANDS" : PySem.Str), ("Thing" : PySem.Str), ("Memory" : PySem.Str), ("Command" : PySem.Str), ("Store" : PySem.Str), ("Flush" : PySem.Str), ("Fence" : PySem.Str), ("check_commands" : PySem.Str), ("Program" : PySem.Str), ("NONE" : PySem.Str), ("BETWEEN" : PySem.Str), ("MOST_FIGURES" : PySem.Str), ("read_number" : PySem.Str), ("command_text" : PySem.Str), ("read_command" : PySem.Str), ("program_text" : PySem.Str), ("read_program" : PySem.Str), ("_law_source" : PySem.Str), ("_law_draw" : PySem.Str), ("_law_pick" : PySem.Str), ("_law_sizes" : PySem.Str), ("_law_number" : PySem.Str), ("_law_specs" : PySem.Str), ("_law_command" : PySem.Str), ("_law_program" : PySem.Str), ("_law_text" : PySem.Str), ("_law_shown" : PySem.Str), ("_law_due" : PySem.Str), ("_law_right" : PySem.Str)] w := by
  intro os
  kernel_rfl

end LW
/-! part DL1 -/
/-! DL1: data, the store of mutable cells, how they stand in the abstract heap. -/
namespace DL
open PySem PySem.Spec PyProof.Rows L2

inductive D where
  | non | bl (b : Bool) | int (i : Int) | str (x : Str) | adr (a : Addr)
  | ptr (n : Nat)
  | tup (l : List D) | lst (l : List D)
  | obj (c : Nat) (l : List D)
  | err (a : Addr) (d : Option Addr) (c : Nat) (l : List D)
instance : Inhabited D := ⟨.non⟩

inductive MO where
  | lst (l : List D)
  | lsp (l : List D)
  | ins (c : Nat) (l : List D)
  | dic (l : List (Key × D))
  | dit (l : List (List Key × D))
  | dlk (o : Obj) (vs : List (List Key × V)) (l : List (List Key × D))
  | dlc (o : Obj) (vs : List (Key × V)) (l : List (Key × D))
  | tab (P : Addr) (q : Str)
  | tpl (l : List D)
abbrev Sto := List MO
abbrev Exn := Nat × List D

def fz (c : Nat) (xs : List V) : List (Str × V) := (fn c).zip xs

/-- the class stands in the text, its fields are no names of the class -/
def ClsOk (K : PySem.W.Frag) (c : Nat) : Prop := Cls K (He.ga K (cn c)) ∧ ∀ f, f ∈ fn c → NoAttr K (He.ga K (cn c)) f
def FzT (al : List Addr) (H : Hp) (a : Addr) (xs : List V) : Prop := ¬ a ∈ al ∧ H a = some (.tup xs)
def FzL (al : List Addr) (H : Hp) (a : Addr) (xs : List V) : Prop := ¬ a ∈ al ∧ Rd H a (.lst xs)

/-- nothing, or a def made on the way whose code object is at d -/
def Cod (al : List Addr) (H : Hp) (d : Option Addr) (c : Nat) (l : List D) : Prop := (l = [] ∧ d = none) ∨ ∃ q e, l = [.str q] ∧ c = 100 ∧ d = some e ∧ ¬ e ∈ al ∧ H e = some (LamX.CodeO e q)
mutual
/-- pt: the addresses of the cells that a pointer may name; within frozen things there are no pointers -/
inductive Rep (K : PySem.W.Frag) (al : List Addr) (H : Hp) : List Addr → D → V → Prop
  | non {pt : List Addr} : Rep K al H pt .non .non
  | bl {pt : List Addr} {b : Bool} : Rep K al H pt (.bl b) (.bl b)
  | int {pt : List Addr} {i : Int} : Rep K al H pt (.int i) (.int i)
  | str {pt : List Addr} {x : Str} : Rep K al H pt (.str x) (.str x)
  | adr {pt : List Addr} {a : Addr} : Rep K al H pt (.adr a) (.ref a)
  | ptr {pt : List Addr} {n : Nat} {a : Addr} : pt[n]? = some a → Rep K al H pt (.ptr n) (.ref a)
  | tup {pt : List Addr} {l : List D} {a : Addr} {xs : List V} : FzT al H a xs → RepL K al H [] l xs → Rep K al H pt (.tup l) (.ref a)
  | lst {pt : List Addr} {l : List D} {a : Addr} {xs : List V} : FzL al H a xs → RepL K al H [] l xs → Rep K al H pt (.lst l) (.ref a)
  | obj {pt : List Addr} {c : Nat} {l : List D} {a dx : Addr} {xs : List V} : ¬ a ∈ al → H a = some (.ins (He.ga K (cn c)) dx (fz c xs)) → (l.length = (fn c).length ∧ ClsOk K c) → RepL K al H [] l xs → Rep K al H pt (.obj c l) (.ref a)
  | err0 {pt : List Addr} {c : Nat} {a : Addr} {d : Option Addr} {l : List D} : Cod al H d c l → Rep K al H pt (.err a d c l) (.ref a)
  | err {pt : List Addr} {c : Nat} {l : List D} {a dd : Addr} {fs : List (Str × V)} {xs : List V} : ¬ dd ∈ al → H dd = some (.xd fs) → (∀ (i : Nat) (f : Str), (xf c)[i]? = some f → fs.lookup f = xs[i]?) → RepL K al H [] l xs → Rep K al H pt (.err a (some dd) c l) (.ref a)
inductive RepL (K : PySem.W.Frag) (al : List Addr) (H : Hp) : List Addr → List D → List V → Prop
  | nil {pt : List Addr} : RepL K al H pt [] []
  | cons {pt : List Addr} {d : D} {v : V} {l : List D} {xs : List V} : Rep K al H pt d v → RepL K al H pt l xs → RepL K al H pt (d :: l) (v :: xs)
end

/-- frozen things stand -/
def notT : HO → Bool
  | .tbl _ => false
  | _ => true
def Fz (H : Hp) (al : List Addr) (H' : Hp) (al' : List Addr) : Prop := ∀ (a : Addr) (o : HO), ¬ a ∈ al → H a = some o → notT o = true → H' a = some o ∧ ¬ a ∈ al'
/-- from one state to a later one: cells keep their numbers, frozen things stand -/
structure Go (hd : List Addr) (H : Hp) (al : List Addr) (H' : Hp) (al' : List Addr) : Prop where
  pre : ∀ (n : Nat) (a : Addr), al[n]? = some a → al'[n]? = some a
  frz : Fz H (al ++ hd) H' (al' ++ hd)
  hid : ∀ (a : Addr), a ∈ hd → H' a = H a
theorem Go.refl {hd : List Addr} (H : Hp) (al : List Addr) : Go hd H al H al := ⟨fun _ _ h => h, fun _ _ n h _ => ⟨h, n⟩, fun _ _ => rfl⟩
theorem Go.trans {hd : List Addr} {H H1 H2 : Hp} {al al1 al2 : List Addr} (a : Go hd H al H1 al1) (b : Go hd H1 al1 H2 al2) : Go hd H al H2 al2 :=
  ⟨fun n x h => b.pre n x (a.pre n x h), fun x o n h t => b.frz x o (a.frz x o n h t).2 (a.frz x o n h t).1 t, fun x h => (b.hid x h).trans (a.hid x h)⟩
theorem Fz.rd {H H1 : Hp} {al al1 : List Addr} (g : Fz H al H1 al1) {a : Addr} {u : HO} (n : ¬ a ∈ al) (h : Rd H a u) (t : notT u = true) : ¬ a ∈ al1 ∧ Rd H1 a u := by
  rcases h with h | ⟨o, h⟩
  · exact ⟨(g a _ n h t).2, .inl (g a _ n h t).1⟩
  · exact ⟨(g a _ n h rfl).2, .inr ⟨o, (g a _ n h rfl).1⟩⟩
theorem Fz.fzT {H H1 : Hp} {al al1 : List Addr} (g : Fz H al H1 al1) {a : Addr} {xs : List V} (h : FzT al H a xs) : FzT al1 H1 a xs := ⟨(g a _ h.1 h.2 rfl).2, (g a _ h.1 h.2 rfl).1⟩
theorem Fz.fzL {H H1 : Hp} {al al1 : List Addr} (g : Fz H al H1 al1) {a : Addr} {xs : List V} (h : FzL al H a xs) : FzL al1 H1 a xs := g.rd h.1 h.2 rfl
theorem Cod.fz {H H1 : Hp} {al al1 : List Addr} {d : Option Addr} {c : Nat} {l : List D} (g : Fz H al H1 al1) (h : Cod al H d c l) : Cod al1 H1 d c l := by
  rcases h with h | ⟨q, e, h1, h2, h3, n, e1⟩
  · exact .inl h
  · exact .inr ⟨q, e, h1, h2, h3, (g _ _ n e1 rfl).2, (g _ _ n e1 rfl).1⟩
/-- pointers keep what they name -/
def Pre (pt pt' : List Addr) : Prop := ∀ (n : Nat) (a : Addr), pt[n]? = some a → pt'[n]? = some a
theorem Pre.refl (pt : List Addr) : Pre pt pt := fun _ _ h => h
theorem Pre.nil (pt : List Addr) : Pre [] pt := fun n a h => by simp at h
mutual
theorem Rep.fz {K : PySem.W.Frag} {H H1 : Hp} {al al1 : List Addr} (g : Fz H al H1 al1) : ∀ {pt pt' : List Addr} {d : D} {v : V}, Pre pt pt' → Rep K al H pt d v → Rep K al1 H1 pt' d v
  | _, _, _, _, _, .non => .non
  | _, _, _, _, _, .bl => .bl
  | _, _, _, _, _, .int => .int
  | _, _, _, _, _, .str => .str
  | _, _, _, _, _, .adr => .adr
  | _, _, _, _, p, .ptr h => .ptr (p _ _ h)
  | _, _, _, _, _, .tup h r => .tup (g.fzT h) (RepL.fz g (Pre.refl _) r)
  | _, _, _, _, _, .lst h r => .lst (g.fzL h) (RepL.fz g (Pre.refl _) r)
  | _, _, _, _, _, .obj n h e r => .obj (g _ _ n h rfl).2 (g _ _ n h rfl).1 e (RepL.fz g (Pre.refl _) r)
  | _, _, _, _, _, .err0 h => .err0 (h.fz g)
  | _, _, _, _, _, .err n h e r => .err (g _ _ n h rfl).2 (g _ _ n h rfl).1 e (RepL.fz g (Pre.refl _) r)
theorem RepL.fz {K : PySem.W.Frag} {H H1 : Hp} {al al1 : List Addr} (g : Fz H al H1 al1) : ∀ {pt pt' : List Addr} {l : List D} {xs : List V}, Pre pt pt' → RepL K al H pt l xs → RepL K al1 H1 pt' l xs
  | _, _, _, _, _, .nil => .nil
  | _, _, _, _, p, .cons h r => .cons (Rep.fz g p h) (RepL.fz g p r)
end
theorem Rep.go {K : PySem.W.Frag} {hd : List Addr} {H H1 : Hp} {al al1 pt pt' : List Addr} {d : D} {v : V} (r : Rep K (al ++ hd) H pt d v) (g : Go hd H al H1 al1) (p : Pre pt pt') : Rep K (al1 ++ hd) H1 pt' d v := Rep.fz g.frz p r
theorem RepL.go {K : PySem.W.Frag} {hd : List Addr} {H H1 : Hp} {al al1 pt pt' : List Addr} {l : List D} {xs : List V} (r : RepL K (al ++ hd) H pt l xs) (g : Go hd H al H1 al1) (p : Pre pt pt') : RepL K (al1 ++ hd) H1 pt' l xs := RepL.fz g.frz p r
/-- no pointer -/
def np : D → Prop
  | .ptr _ => False
  | _ => True
theorem Rep.np {K : PySem.W.Frag} {al : List Addr} {H : Hp} {pt pt' : List Addr} {d : D} {v : V} (h : np d) (r : Rep K al H pt d v) : Rep K al H pt' d v := by
  cases r with
  | ptr e => exact h.elim
  | non => exact .non
  | bl => exact .bl
  | int => exact .int
  | str => exact .str
  | adr => exact .adr
  | tup a b => exact .tup a b
  | lst a b => exact .lst a b
  | obj a b c d => exact .obj a b c d
  | err0 z => exact .err0 z
  | err a b c d => exact .err a b c d
def npL : List D → Prop
  | [] => True
  | d :: l => np d ∧ npL l
theorem RepL.np {K : PySem.W.Frag} {al : List Addr} {H : Hp} {pt pt' : List Addr} : ∀ {l : List D} {xs : List V}, npL l → RepL K al H pt l xs → RepL K al H pt' l xs
  | _, _, _, .nil => .nil
  | _, _, h, .cons a r => .cons (a.np h.1) (r.np h.2)
section
variable {K : PySem.W.Frag} {al pt : List Addr} {H : Hp}
theorem RepL.len : ∀ {l : List D} {xs : List V}, RepL K al H pt l xs → l.length = xs.length
  | _, _, .nil => rfl
  | _, _, .cons _ r => congrArg Nat.succ r.len
theorem RepL.get : ∀ {l : List D} {xs : List V} {i : Nat} {x : V}, RepL K al H pt l xs → xs[i]? = some x → ∃ d, l[i]? = some d ∧ Rep K al H pt d x
  | _, _, _, _, .nil, e => by simp at e
  | _, _, 0, _, .cons h _, e => by
    simp at e
    subst e
    exact ⟨_, rfl, h⟩
  | _, _, i + 1, _, .cons _ r, e => by
    obtain ⟨d, e1, h⟩ := r.get (i := i) (by simpa using e)
    exact ⟨d, by simpa using e1, h⟩
theorem RepL.at_ : ∀ {l : List D} {xs : List V} {i : Nat} {d : D}, RepL K al H pt l xs → l[i]? = some d → ∃ x, xs[i]? = some x ∧ Rep K al H pt d x
  | _, _, _, _, .nil, e => by simp at e
  | _, _, 0, _, .cons h _, e => by
    simp at e
    subst e
    exact ⟨_, rfl, h⟩
  | _, _, i + 1, _, .cons _ r, e => by
    obtain ⟨d, e1, h⟩ := r.at_ (i := i) (by simpa using e)
    exact ⟨d, by simpa using e1, h⟩
theorem RepL.append : ∀ {l l' : List D} {xs xs' : List V}, RepL K al H pt l xs → RepL K al H pt l' xs' → RepL K al H pt (l ++ l') (xs ++ xs')
  | _, _, _, _, .nil, s => s
  | _, _, _, _, .cons h r, s => .cons h (r.append s)
theorem RepL.one {d : D} {x : V} (h : Rep K al H pt d x) : RepL K al H pt [d] [x] := .cons h .nil
theorem RepL.set {d : D} {x : V} (h : Rep K al H pt d x) : ∀ {l : List D} {xs : List V} (i : Nat), RepL K al H pt l xs → RepL K al H pt (l.set i d) (xs.set i x)
  | _, _, _, .nil => .nil
  | _, _, 0, .cons _ r => .cons h r
  | _, _, i + 1, .cons q r => .cons q (RepL.set h i r)
theorem RepL.take : ∀ {l : List D} {xs : List V} (n : Nat), RepL K al H pt l xs → RepL K al H pt (l.take n) (xs.take n)
  | _, _, 0, _ => .nil
  | _, _, _ + 1, .nil => .nil
  | _, _, n + 1, .cons h r => .cons h (r.take n)
theorem RepL.drop : ∀ {l : List D} {xs : List V} (n : Nat), RepL K al H pt l xs → RepL K al H pt (l.drop n) (xs.drop n)
  | _, _, 0, r => r
  | _, _, _ + 1, .nil => .nil
  | _, _, n + 1, .cons _ r => r.drop n
theorem RepL.reverse : ∀ {l : List D} {xs : List V}, RepL K al H pt l xs → RepL K al H pt l.reverse xs.reverse
  | _, _, .nil => .nil
  | _, _, .cons h r => by
    rw [List.reverse_cons, List.reverse_cons]
    exact r.reverse.append (.one h)
end
theorem FzT.sq {K : PySem.W.Frag} {al : List Addr} {H : Hp} {a : Addr} {xs : List V} (h : FzT al H a xs) : SqT K H a xs := .inl (.inl h.2)
theorem FzL.sq {K : PySem.W.Frag} {al : List Addr} {H : Hp} {a : Addr} {xs : List V} (h : FzL al H a xs) : SqL K H a xs := .inl h.2

def RepKV {κ : Type} (K : PySem.W.Frag) (al : List Addr) (H : Hp) : List (κ × D) → List (κ × V) → Prop
  | [], [] => True
  | (k, d) :: l, (j, v) :: xs => k = j ∧ Rep K al H [] d v ∧ RepKV K al H l xs
  | _, _ => False
theorem RepKV.go {κ : Type} {K : PySem.W.Frag} {hd : List Addr} {H H1 : Hp} {al al1 : List Addr} (g : Go hd H al H1 al1) : ∀ {l : List (κ × D)} {xs : List (κ × V)}, RepKV K (al ++ hd) H l xs → RepKV K (al1 ++ hd) H1 l xs
  | [], [], _ => trivial
  | (k, d) :: l, (j, v) :: xs, h => ⟨h.1, h.2.1.go g (Pre.refl _), RepKV.go g h.2.2⟩
  | [], _ :: _, h => h.elim
  | _ :: _, [], h => h.elim

/-- the cell at a -/
def MAt (K : PySem.W.Frag) (hd al : List Addr) (H : Hp) (a : Addr) : MO → Prop
  | .lst l => ∃ xs, H a = some (.lst xs) ∧ RepL K (al ++ hd) H [] l xs
  | .lsp l => ∃ xs, H a = some (.lst xs) ∧ RepL K (al ++ hd) H al l xs
  | .ins c l => ∃ dx xs, H a = some (.ins (He.ga K (cn c)) dx (fz c xs)) ∧ RepL K (al ++ hd) H al l xs ∧ (l.length ≤ (fn c).length ∧ ClsOk K c)
  | .dic kvs => ∃ vs, H a = some (.dK vs) ∧ RepKV K (al ++ hd) H kvs vs
  | .dit kvs => ∃ vs, H a = some (.dT vs) ∧ RepKV K (al ++ hd) H kvs vs
  | .dlk o vs kvs => ∃ _ : Unit, H a = some (.frz o (.dT vs)) ∧ RepKV K (al ++ hd) H kvs vs
  | .dlc o vs kvs => ∃ _ : Unit, H a = some (.frz o (.dK vs)) ∧ RepKV K (al ++ hd) H kvs vs
  | .tab P q => a = P ∧ ∃ ps, H a = some (.tbl ps) ∧ TriplesOk ps.toList ∧ ∀ (pos : Pos) (cv : Value), codeAmong pos ps.toList = some cv → ∃ c, cv = .ref c ∧ ¬ c ∈ al ++ hd ∧ H c = some (LamX.CodeO c q)
  | .tpl l => ∃ xs, H a = some (.tup xs) ∧ RepL K (al ++ hd) H al l xs
/-- no foreign thing -/
def notX : HO → Bool
  | .tup _ => false
  | .ext _ => false
  | .tbl _ => false
  | _ => true
structure Okay (K : PySem.W.Frag) (hd : List Addr) (H : Hp) (mu : Sto) (al : List Addr) : Prop where
  len : al.length = mu.length
  nd : al.Nodup
  hid : ∀ a, a ∈ hd → ¬ a ∈ al ∧ ∃ u, H a = some u
  hx : ∀ a, a ∈ hd → ∀ u, H a = some u → notX u = true
  at_ : ∀ (n : Nat) (mo : MO) (a : Addr), mu[n]? = some mo → al[n]? = some a → MAt K hd al H a mo
theorem MAt.some_ {K : PySem.W.Frag} {hd : List Addr} {al : List Addr} {H : Hp} {a : Addr} {mo : MO} (h : MAt K hd al H a mo) : ∃ o, H a = some o := by
  cases mo with
  | lst l => obtain ⟨xs, e, _⟩ := h; exact ⟨_, e⟩
  | lsp l => obtain ⟨xs, e, _⟩ := h; exact ⟨_, e⟩
  | ins c l => obtain ⟨dx, xs, e, _⟩ := h; exact ⟨_, e⟩
  | dic kvs => obtain ⟨vs, e, _⟩ := h; exact ⟨_, e⟩
  | dit kvs => obtain ⟨vs, e, _⟩ := h; exact ⟨_, e⟩
  | dlk od ws kvs => obtain ⟨vs, e, _⟩ := h; exact ⟨_, e⟩
  | dlc od ws kvs => obtain ⟨vs, e, _⟩ := h; exact ⟨_, e⟩
  | tab P q => obtain ⟨_, ps, e, _⟩ := h; exact ⟨_, e⟩
  | tpl l => obtain ⟨xs, e, _⟩ := h; exact ⟨_, e⟩
section
variable {K : PySem.W.Frag} {hd : List Addr} {al : List Addr} {H : Hp} {mu : Sto}
theorem Okay.some_ (o : Okay K hd H mu al) {a : Addr} (h : a ∈ al) : ∃ u, H a = some u := by
  obtain ⟨n, hn, e⟩ := List.mem_iff_getElem.mp h
  have hm : n < mu.length := by rw [← o.len]; exact hn
  exact (o.at_ n mu[n] a (List.getElem?_eq_getElem hm) (by rw [List.getElem?_eq_getElem hn, e])).some_
theorem Okay.all_ (o : Okay K hd H mu al) {a : Addr} (h : a ∈ al ++ hd) : ∃ u, H a = some u := by
  rcases List.mem_append.mp h with h | h
  · exact o.some_ h
  · exact (o.hid a h).2
theorem Okay.new (o : Okay K hd H mu al) {p : Addr} (h : H p = none) : ¬ p ∈ al ++ hd := fun z => by
  obtain ⟨u, e⟩ := o.all_ z
  rw [h] at e
  cases e
theorem Okay.newA (o : Okay K hd H mu al) {p : Addr} (h : H p = none) : ¬ p ∈ al := fun z => o.new h (List.mem_append_left _ z)
/-- a state in which no cell has changed -/
theorem Okay.keep {H' : Hp} {al' : List Addr} (o : Okay K hd H mu al) (e : al' = al) (g : Go hd H al H' al') (k : ∀ a, a ∈ al ++ hd → H' a = H a) : Okay K hd H' mu al' := by
  subst e
  refine ⟨o.len, o.nd, fun a ha => ⟨(o.hid a ha).1, by rw [k a (List.mem_append_right _ ha)]; exact (o.hid a ha).2⟩, fun a ha u e => o.hx a ha u ((k a (List.mem_append_right _ ha)).symm.trans e), fun n mo a h1 h2 => ?_⟩
  have h := o.at_ n mo a h1 h2
  have ka := k a (List.mem_append_left _ (List.mem_of_getElem? h2))
  cases mo with
  | lst l =>
    obtain ⟨xs, e, r⟩ := h
    exact ⟨xs, ka.trans e, r.go g (Pre.refl _)⟩
  | lsp l =>
    obtain ⟨xs, e, r⟩ := h
    exact ⟨xs, ka.trans e, r.go g g.pre⟩
  | ins c l =>
    obtain ⟨dx, xs, e, r, z⟩ := h
    exact ⟨dx, xs, ka.trans e, r.go g g.pre, z⟩
  | dic kvs =>
    obtain ⟨vs, e, r⟩ := h
    exact ⟨vs, ka.trans e, r.go g⟩
  | dit kvs =>
    obtain ⟨vs, e, r⟩ := h
    exact ⟨vs, ka.trans e, r.go g⟩
  | dlk od ws kvs =>
    obtain ⟨vs, e, r⟩ := h
    exact ⟨vs, ka.trans e, r.go g⟩
  | dlc od ws kvs =>
    obtain ⟨vs, e, r⟩ := h
    exact ⟨vs, ka.trans e, r.go g⟩
  | tab P q =>
    obtain ⟨e0, ps, e, t2, z2⟩ := h
    refine ⟨e0, ps, ka.trans e, t2, fun pos cv hc => ?_⟩
    obtain ⟨c2, e1, n2, e2⟩ := z2 pos cv hc
    exact ⟨c2, e1, (g.frz c2 _ n2 e2 rfl).2, (g.frz c2 _ n2 e2 rfl).1⟩
  | tpl l =>
    obtain ⟨xs, e, r⟩ := h
    exact ⟨xs, ka.trans e, r.go g g.pre⟩
/-- a new frozen thing -/
theorem Go.lay (o : Okay K hd H mu al) {p : Addr} {u : HO} (h : H p = none) : Go hd H al (upd H p u) al :=
  ⟨fun _ _ e => e, fun a v n e _ => ⟨by rw [upd_ne (ne_of_none e h)]; exact e, n⟩, fun a ha => by
    obtain ⟨_, u, e⟩ := o.hid a ha
    exact upd_ne (ne_of_none e h)⟩
theorem Okay.lay (o : Okay K hd H mu al) {p : Addr} {u : HO} (h : H p = none) : Okay K hd (upd H p u) mu al :=
  o.keep rfl (Go.lay o h) fun a ha => upd_ne fun z => o.new h (z ▸ ha)
/-- H' beside H: all that stood stands -/
theorem Go.ext {H' : Hp} (o : Okay K hd H mu al) (e : ∀ a u, H a = some u → H' a = some u) : Go hd H al H' al := ⟨fun _ _ h => h, fun a u n h _ => ⟨e a u h, n⟩, fun a ha => by
    obtain ⟨_, u, h⟩ := o.hid a ha
    rw [h, e a u h]⟩
theorem Okay.ext {H' : Hp} (o : Okay K hd H mu al) (e : ∀ a u, H a = some u → H' a = some u) : Okay K hd H' mu al :=
  o.keep rfl (Go.ext o e) fun a ha => by
    obtain ⟨u, h⟩ := o.all_ ha
    rw [h, e a u h]
/-- a new cell: H' holds it at p, all else as in H -/
theorem mem_cell {a p : Addr} (z : a ∈ (al ++ [p]) ++ hd) : a ∈ al ++ hd ∨ a = p := by
  rcases List.mem_append.mp z with z | z
  · rcases List.mem_append.mp z with z | z
    · exact .inl (List.mem_append_left _ z)
    · exact .inr (List.mem_singleton.mp z)
  · exact .inl (List.mem_append_right _ z)
theorem Go.cell {H' : Hp} (o : Okay K hd H mu al) {p : Addr} (h : H p = none) (e : ∀ a u, H a = some u → H' a = some u) : Go hd H al H' (al ++ [p]) :=
  ⟨fun n a q => by
    rw [List.getElem?_append_left (List.getElem?_eq_some_iff.mp q).1]
    exact q, fun a u n q _ => ⟨e a u q, fun z => by
    rcases mem_cell z with z | z
    · exact n z
    · rw [z, h] at q
      cases q⟩, fun a ha => by
    obtain ⟨_, u, q⟩ := o.hid a ha
    rw [q, e a u q]⟩
theorem Okay.cell {H' : Hp} (o : Okay K hd H mu al) {p : Addr} {mo : MO} (h : H p = none) (e : ∀ a u, H a = some u → H' a = some u) (hm : MAt K hd (al ++ [p]) H' p mo) : Okay K hd H' (mu ++ [mo]) (al ++ [p]) := by
  have g := Go.cell o h e
  refine ⟨by rw [List.length_append, List.length_append, o.len] <;> rfl, ?_, fun a ha => ?_, fun a ha u q => by
    obtain ⟨_, u', h2⟩ := o.hid a ha
    rw [e a u' h2] at q
    exact o.hx a ha u (h2.trans q), fun n m a h1 h2 => ?_⟩
  · rw [List.nodup_append]
    refine ⟨o.nd, by simp, fun a ha b hb => ?_⟩
    rw [List.mem_singleton.mp hb]
    exact fun z => o.newA h (z ▸ ha)
  · obtain ⟨h1, u, h2⟩ := o.hid a ha
    refine ⟨fun z => ?_, u, e a u h2⟩
    rcases List.mem_append.mp z with z | z
    · exact h1 z
    · rw [List.mem_singleton.mp z, h] at h2
      cases h2
  · rcases Nat.lt_or_ge n mu.length with hn | hn
    · rw [List.getElem?_append_left hn] at h1
      rw [List.getElem?_append_left (by rw [o.len]; exact hn)] at h2
      have q := o.at_ n m a h1 h2
      have ka : ∀ u, H a = some u → H' a = some u := fun u => e a u
      cases m with
      | lst l =>
        obtain ⟨xs, e, r⟩ := q
        exact ⟨xs, ka _ e, r.go g (Pre.refl _)⟩
      | lsp l =>
        obtain ⟨xs, e, r⟩ := q
        exact ⟨xs, ka _ e, r.go g g.pre⟩
      | ins c l =>
        obtain ⟨dx, xs, e, r, z⟩ := q
        exact ⟨dx, xs, ka _ e, r.go g g.pre, z⟩
      | dic kvs =>
        obtain ⟨vs, e, r⟩ := q
        exact ⟨vs, ka _ e, r.go g⟩
      | dit kvs =>
        obtain ⟨vs, e, r⟩ := q
        exact ⟨vs, ka _ e, r.go g⟩
      | dlk od ws kvs =>
        obtain ⟨vs, e, r⟩ := q
        exact ⟨vs, ka _ e, r.go g⟩
      | dlc od ws kvs =>
        obtain ⟨vs, e, r⟩ := q
        exact ⟨vs, ka _ e, r.go g⟩
      | tab P q =>
        obtain ⟨e0, ps, e, t2, z2⟩ := q
        refine ⟨e0, ps, ka _ e, t2, fun pos cv hc => ?_⟩
        obtain ⟨c2, e1, n2, e2⟩ := z2 pos cv hc
        exact ⟨c2, e1, (g.frz c2 _ n2 e2 rfl).2, (g.frz c2 _ n2 e2 rfl).1⟩
      | tpl l =>
        obtain ⟨xs, e, r⟩ := q
        exact ⟨xs, ka _ e, r.go g g.pre⟩
    · have hl := (List.getElem?_eq_some_iff.mp h1).1
      rw [List.length_append] at hl
      have hn' : n = mu.length := by simp at hl; omega
      subst hn'
      rw [List.getElem?_append_right (Nat.le_refl _), Nat.sub_self] at h1
      rw [List.getElem?_append_right (by rw [o.len]; exact Nat.le_refl _), o.len, Nat.sub_self] at h2
      simp at h1 h2
      subst h1 h2
      exact hm
/-- cell n is changed -/
theorem Go.write {H' : Hp} (o : Okay K hd H mu al) {n : Nat} {p : Addr} (hp : al[n]? = some p) (e : ∀ a, a ≠ p → H' a = H a) : Go hd H al H' al :=
  ⟨fun _ _ q => q, fun a u m q _ => ⟨by rw [e a (fun z => m (z ▸ List.mem_append_left _ (List.mem_of_getElem? hp)))]; exact q, m⟩, fun a ha => e a fun z => (o.hid a ha).1 (z ▸ List.mem_of_getElem? hp)⟩
theorem Okay.write {H' : Hp} (o : Okay K hd H mu al) {n : Nat} {p : Addr} {mo : MO} (hp : al[n]? = some p) (e : ∀ a, a ≠ p → H' a = H a) (hm : MAt K hd al H' p mo) : Okay K hd H' (mu.set n mo) al := by
  have g := Go.write o hp e
  refine ⟨by rw [List.length_set]; exact o.len, o.nd, fun a ha => ⟨(o.hid a ha).1, by rw [e a (fun z => (o.hid a ha).1 (z ▸ List.mem_of_getElem? hp))]; exact (o.hid a ha).2⟩, fun a ha u q => o.hx a ha u ((e a (fun z => (o.hid a ha).1 (z ▸ List.mem_of_getElem? hp))).symm.trans q), fun j m a h1 h2 => ?_⟩
  by_cases hj : j = n
  · subst hj
    have ea : a = p := Option.some.inj (h2.symm.trans hp)
    subst ea
    have hl : j < mu.length := by
      have := (List.getElem?_eq_some_iff.mp h1).1
      rw [List.length_set] at this
      exact this
    rw [List.getElem?_set_self hl] at h1
    cases h1
    exact hm
  · rw [List.getElem?_set_ne (fun z => hj z.symm)] at h1
    have hap : a ≠ p := fun z => by
      subst z
      exact hj (nd_ix o.nd h2 hp)
    have q := o.at_ j m a h1 h2
    have ka := e a hap
    cases m with
    | lst l =>
      obtain ⟨xs, e, r⟩ := q
      exact ⟨xs, ka.trans e, r.go g (Pre.refl _)⟩
    | lsp l =>
      obtain ⟨xs, e, r⟩ := q
      exact ⟨xs, ka.trans e, r.go g g.pre⟩
    | ins c l =>
      obtain ⟨dx, xs, e, r, z⟩ := q
      exact ⟨dx, xs, ka.trans e, r.go g g.pre, z⟩
    | dic kvs =>
      obtain ⟨vs, e, r⟩ := q
      exact ⟨vs, ka.trans e, r.go g⟩
    | dit kvs =>
      obtain ⟨vs, e, r⟩ := q
      exact ⟨vs, ka.trans e, r.go g⟩
    | dlk od ws kvs =>
      obtain ⟨vs, e, r⟩ := q
      exact ⟨vs, ka.trans e, r.go g⟩
    | dlc od ws kvs =>
      obtain ⟨vs, e, r⟩ := q
      exact ⟨vs, ka.trans e, r.go g⟩
    | tab P q =>
      obtain ⟨e0, ps, e, t2, z2⟩ := q
      refine ⟨e0, ps, ka.trans e, t2, fun pos cv hc => ?_⟩
      obtain ⟨c2, e1, n2, e2⟩ := z2 pos cv hc
      exact ⟨c2, e1, (g.frz c2 _ n2 e2 rfl).2, (g.frz c2 _ n2 e2 rfl).1⟩
    | tpl l =>
      obtain ⟨xs, e, r⟩ := q
      exact ⟨xs, ka.trans e, r.go g g.pre⟩
theorem Okay.cellAt (o : Okay K hd H mu al) {n : Nat} {mo : MO} (h : mu[n]? = some mo) : ∃ a, al[n]? = some a ∧ MAt K hd al H a mo := by
  have hn : n < al.length := by rw [o.len]; exact (List.getElem?_eq_some_iff.mp h).1
  exact ⟨al[n], List.getElem?_eq_getElem hn, o.at_ n mo _ h (List.getElem?_eq_getElem hn)⟩
end
/-! ### slots -/
abbrev Gam := List (Option D)
structure Slots (K : PySem.W.Frag) (hd al : List Addr) (H : Hp) (ga : Gam) (sg : L2.St) : Prop where
  len : ga.length = sg.length
  at_ : ∀ (i : Nat) (d : D), ga[i]? = some (some d) → ∃ v, sg[i]? = some (some v) ∧ Rep K (al ++ hd) H al d v
theorem Slots.go {K : PySem.W.Frag} {hd : List Addr} {H H1 : Hp} {al al1 : List Addr} {ga : Gam} {sg : L2.St} (g : Go hd H al H1 al1) (s : Slots K hd al H ga sg) : Slots K hd al1 H1 ga sg :=
  ⟨s.len, fun i d e => by
    obtain ⟨v, h, r⟩ := s.at_ i d e
    exact ⟨v, h, r.go g g.pre⟩⟩
theorem Slots.set {K : PySem.W.Frag} {hd : List Addr} {H : Hp} {al : List Addr} {ga : Gam} {sg : L2.St} {d : D} {v : V} (i : Nat) (s : Slots K hd al H ga sg) (r : Rep K (al ++ hd) H al d v) : Slots K hd al H (ga.set i (some d)) (sg.set i (some v)) := by
  refine ⟨by rw [List.length_set, List.length_set]; exact s.len, fun j e h => ?_⟩
  by_cases hj : j = i
  · subst hj
    have hl : j < ga.length := by
      have := (List.getElem?_eq_some_iff.mp h).1
      rw [List.length_set] at this
      exact this
    rw [List.getElem?_set_self hl] at h
    cases h
    exact ⟨v, List.getElem?_set_self (by rw [← s.len]; exact hl), r⟩
  · rw [List.getElem?_set_ne (fun z => hj z.symm)] at h
    rw [List.getElem?_set_ne (fun z => hj z.symm)]
    exact s.at_ j e h
/-! ### leaving: the cells that were made on the way are dropped -/
def noptr : MO → Prop
  | .lst _ => True
  | .dic _ => True
  | .tab _ _ => True
  | _ => False
/-- mu2: the first cells of mu', as many as mu has; each without pointers, or as in mu -/
structure Trim (mu mu' mu2 : Sto) : Prop where
  len : mu2.length = mu.length
  pre : ∀ (j : Nat) (mo : MO), mu2[j]? = some mo → mu'[j]? = some mo
  ok : ∀ (j : Nat) (mo : MO), mu2[j]? = some mo → noptr mo ∨ mu[j]? = some mo
theorem Trim.same (mu ext : Sto) : Trim mu (mu ++ ext) mu :=
  ⟨rfl, fun j mo h => by rw [List.getElem?_append_left (List.getElem?_eq_some_iff.mp h).1]; exact h, fun _ _ h => .inr h⟩
theorem Trim.refl (mu : Sto) : Trim mu mu mu := ⟨rfl, fun _ _ h => h, fun _ _ h => .inr h⟩
theorem Trim.set (mu ext : Sto) (n : Nat) (mo : MO) (h : noptr mo) : Trim mu (mu.set n mo ++ ext) (mu.set n mo) := by
  refine ⟨List.length_set, fun j mo h => by rw [List.getElem?_append_left (List.getElem?_eq_some_iff.mp h).1]; exact h, fun j m e => ?_⟩
  by_cases hj : j = n
  · subst hj
    have hl : j < mu.length := by
      have := (List.getElem?_eq_some_iff.mp e).1
      rw [List.length_set] at this
      exact this
    rw [List.getElem?_set_self hl] at e
    cases e
    exact .inl h
  · rw [List.getElem?_set_ne (fun z => hj z.symm)] at e
    exact .inr e
/-- each pointer of what was told over al stays below al's length -/
theorem Rep.back {K : PySem.W.Frag} {H H1 : Hp} {al al1 pt pt1 : List Addr} {d : D} {v v1 : V} (g : Fz H1 al1 H1 al) (p : Pre pt pt1) (r : Rep K al H pt d v) (r1 : Rep K al1 H1 pt1 d v1) : Rep K al H1 pt d v1 := by
  cases r1 with
  | ptr e1 =>
    cases r with
    | ptr e => exact .ptr (e.trans ((p _ _ e).symm.trans e1))
  | non => exact .non
  | bl => exact .bl
  | int => exact .int
  | str => exact .str
  | adr => exact .adr
  | tup a b => exact .tup (g.fzT a) (b.fz g (Pre.refl _))
  | lst a b => exact .lst (g.fzL a) (b.fz g (Pre.refl _))
  | obj a b c d => exact .obj (g _ _ a b rfl).2 b c (d.fz g (Pre.refl _))
  | err0 h => exact .err0 (h.fz g)
  | err a b c d => exact .err (g _ _ a b rfl).2 b c (d.fz g (Pre.refl _))
theorem RepL.back {K : PySem.W.Frag} {H H1 : Hp} {al al1 pt pt1 : List Addr} (g : Fz H1 al1 H1 al) (p : Pre pt pt1) : ∀ {l : List D} {xs xs1 : List V}, RepL K al H pt l xs → RepL K al1 H1 pt1 l xs1 → RepL K al H1 pt l xs1
  | _, _, _, .nil, .nil => .nil
  | _, _, _, .cons a r, .cons b r1 => .cons (Rep.back g p a b) (RepL.back g p r r1)
theorem RepKV.fz {κ : Type} {K : PySem.W.Frag} {H H1 : Hp} {al al1 : List Addr} (g : Fz H al H1 al1) : ∀ {l : List (κ × D)} {xs : List (κ × V)}, RepKV K al H l xs → RepKV K al1 H1 l xs
  | [], [], _ => trivial
  | (k, d) :: l, (j, v) :: xs, h => ⟨h.1, h.2.1.fz g (Pre.refl _), RepKV.fz g h.2.2⟩
  | [], _ :: _, h => h.elim
  | _ :: _, [], h => h.elim
section
variable {K : PySem.W.Frag} {hd : List Addr} {H H1 : Hp} {al al1 : List Addr} {mu mu1 mu2 : Sto}
theorem Go.sub (g : Go hd H al H1 al1) : ∀ a, a ∈ al → a ∈ al1 := fun a h => by
  obtain ⟨n, hn, e⟩ := List.mem_iff_getElem.mp h
  exact List.mem_of_getElem? (g.pre n a (by rw [List.getElem?_eq_getElem hn, e]))
theorem Go.subH (g : Go hd H al H1 al1) : ∀ a, a ∈ al ++ hd → a ∈ al1 ++ hd := fun a h => by
  rcases List.mem_append.mp h with h | h
  · exact List.mem_append_left _ (g.sub a h)
  · exact List.mem_append_right _ h
theorem Go.back (g : Go hd H al H1 al1) : Fz H1 (al1 ++ hd) H1 (al ++ hd) := fun a o n h _ => ⟨h, fun z => n (g.subH a z)⟩
theorem Go.home (g : Go hd H al H1 al1) : Go hd H al H1 al := ⟨fun _ _ h => h, fun a o n h t => ⟨(g.frz a o n h t).1, n⟩, g.hid⟩
theorem Okay.trim (o : Okay K hd H mu al) (o1 : Okay K hd H1 mu1 al1) (g : Go hd H al H1 al1) (t : Trim mu mu1 mu2) : Okay K hd H1 mu2 al := by
  refine ⟨o.len.trans t.len.symm, o.nd, fun a ha => ⟨(o.hid a ha).1, (o1.hid a ha).2⟩, o1.hx, fun n mo a h1 h2 => ?_⟩
  have q := o1.at_ n mo a (t.pre n mo h1) (g.pre n a h2)
  rcases t.ok n mo h1 with z | z
  · cases mo with
    | lst l =>
      obtain ⟨xs, e, r⟩ := q
      exact ⟨xs, e, r.fz g.back (Pre.refl _)⟩
    | dic kvs =>
      obtain ⟨vs, e, r⟩ := q
      exact ⟨vs, e, r.fz g.back⟩
    | dit kvs =>
      obtain ⟨vs, e, r⟩ := q
      exact ⟨vs, e, r.fz g.back⟩
    | dlk od ws kvs =>
      obtain ⟨vs, e, r⟩ := q
      exact ⟨vs, e, r.fz g.back⟩
    | dlc od ws kvs =>
      obtain ⟨vs, e, r⟩ := q
      exact ⟨vs, e, r.fz g.back⟩
    | tab P q =>
      obtain ⟨e0, ps, e, t2, z2⟩ := q
      refine ⟨e0, ps, e, t2, fun pos cv hc => ?_⟩
      obtain ⟨c2, e1, n2, e2⟩ := z2 pos cv hc
      exact ⟨c2, e1, (g.back c2 _ n2 e2 rfl).2, (g.back c2 _ n2 e2 rfl).1⟩
    | _ => exact z.elim
  · have q0 := o.at_ n mo a z h2
    cases mo with
    | lst l =>
      obtain ⟨xs, e, r⟩ := q
      exact ⟨xs, e, r.fz g.back (Pre.refl _)⟩
    | dic kvs =>
      obtain ⟨vs, e, r⟩ := q
      exact ⟨vs, e, r.fz g.back⟩
    | dit kvs =>
      obtain ⟨vs, e, r⟩ := q
      exact ⟨vs, e, r.fz g.back⟩
    | dlk od ws kvs =>
      obtain ⟨vs, e, r⟩ := q
      exact ⟨vs, e, r.fz g.back⟩
    | dlc od ws kvs =>
      obtain ⟨vs, e, r⟩ := q
      exact ⟨vs, e, r.fz g.back⟩
    | tab P q =>
      obtain ⟨e0, ps, e, t2, z2⟩ := q
      refine ⟨e0, ps, e, t2, fun pos cv hc => ?_⟩
      obtain ⟨c2, e1, n2, e2⟩ := z2 pos cv hc
      exact ⟨c2, e1, (g.back c2 _ n2 e2 rfl).2, (g.back c2 _ n2 e2 rfl).1⟩
    | tpl l =>
      obtain ⟨xs, e, r⟩ := q
      obtain ⟨xs0, e0, r0⟩ := q0
      exact ⟨xs, e, RepL.back g.back g.pre r0 r⟩
    | lsp l =>
      obtain ⟨xs, e, r⟩ := q
      obtain ⟨xs0, e0, r0⟩ := q0
      exact ⟨xs, e, RepL.back g.back g.pre r0 r⟩
    | ins c l =>
      obtain ⟨dx, xs, e, r, y⟩ := q
      obtain ⟨dx0, xs0, e0, r0, y0⟩ := q0
      exact ⟨dx, xs, e, RepL.back g.back g.pre r0 r, y⟩
/-- what is held, let go frozen: no pointers are left in it -/
def isPtr : D → Bool
  | .ptr _ => true
  | _ => false
def frzLW (f : D → Option D) : List D → Option (List D)
  | [] => some []
  | d :: l => match f d, frzLW f l with
    | some e, some r => if isPtr e = true then none else some (e :: r)
    | _, _ => none
def frzC (f : D → Option D) (n : Nat) (mu : Sto) : D → Option D
  | .ptr j => if j < n then some (.ptr j) else (match mu[j]? with
    | some (.lst l) => some (.lst l)
    | some (.lsp l) => (frzLW f l).map .lst
    | some (.tpl l) => (frzLW f l).map .tup
    | some (.ins c l) => if l.length = (fn c).length then (frzLW f l).map (.obj c) else none
    | _ => none)
  | d => some d
def frzK : Nat → Nat → Sto → D → Option D
  | 0, n, _, .ptr j => if j < n then some (.ptr j) else none
  | k + 1, n, mu, d => frzC (frzK k n mu) n mu d
  | 0, _, _, d => some d
/-- a value at the end: a list of one's own is let go frozen -/
def frz (n : Nat) (mu : Sto) : D → Option D
  | .ptr j => if j < n then some (.ptr j) else (match mu[j]? with
    | some (.lst l) => some (.lst l)
    | some (.lsp l) => (frzLW (frzK 3 n mu) l).map .lst
    | some (.tpl l) => (frzLW (frzK 3 n mu) l).map .tup
    | some (.ins c l) => if l.length = (fn c).length then (frzLW (frzK 3 n mu) l).map (.obj c) else none
    | _ => none)
  | d => some d
theorem frz_C (n : Nat) (mu : Sto) (d : D) : frz n mu d = frzC (frzK 3 n mu) n mu d := by cases d <;> rfl
theorem np_isPtr {d : D} (h : ¬ isPtr d = true) : np d := by cases d <;> first | trivial | exact (h rfl).elim
theorem RepL.frzLW {f : D → Option D} (hf : ∀ (d d2 : D) (v : V), Rep K (al1 ++ hd) H1 al1 d v → f d = some d2 → Rep K (al ++ hd) H1 al d2 v) : ∀ {l l2 : List D} {vs : List V}, RepL K (al1 ++ hd) H1 al1 l vs → DL.frzLW f l = some l2 → RepL K (al ++ hd) H1 [] l2 vs ∧ l2.length = l.length
  | [], l2, _, .nil, h => by
    cases h
    exact ⟨.nil, rfl⟩
  | d :: l, l2, _, .cons r rs, h => by
    unfold DL.frzLW at h
    cases q : f d with
    | none => rw [q] at h; cases h
    | some e =>
      cases q2 : DL.frzLW f l with
      | none => rw [q, q2] at h; cases h
      | some r2 =>
        rw [q, q2] at h
        have h' : (if isPtr e = true then none else some (e :: r2)) = some l2 := h
        by_cases hp : isPtr e = true
        · rw [if_pos hp] at h'
          cases h'
        · rw [if_neg hp] at h'
          cases h'
          obtain ⟨i1, i2⟩ := RepL.frzLW hf rs q2
          exact ⟨.cons ((hf d e _ r q).np (np_isPtr hp)) i1, by rw [List.length_cons, List.length_cons, i2]⟩
theorem Rep.frzC {d d2 : D} {v : V} {f : D → Option D} (o : Okay K hd H mu al) (o1 : Okay K hd H1 mu1 al1) (g : Go hd H al H1 al1) (hf : ∀ (d d2 : D) (v : V), Rep K (al1 ++ hd) H1 al1 d v → f d = some d2 → Rep K (al ++ hd) H1 al d2 v) (r : Rep K (al1 ++ hd) H1 al1 d v) (h : DL.frzC f mu.length mu1 d = some d2) : Rep K (al ++ hd) H1 al d2 v := by
  cases r with
  | ptr e =>
    rename_i j a
    have h' : (if j < mu.length then some (D.ptr j) else (match mu1[j]? with
      | some (.lst l) => some (.lst l)
      | some (.lsp l) => (DL.frzLW f l).map .lst
      | some (.tpl l) => (DL.frzLW f l).map .tup
      | some (.ins c l) => if l.length = (fn c).length then (DL.frzLW f l).map (.obj c) else none
      | _ => none)) = some d2 := h
    by_cases hj : j < mu.length
    · rw [if_pos hj] at h'
      cases h'
      have hj' : j < al.length := by rw [o.len]; exact hj
      have q := g.pre j al[j] (List.getElem?_eq_getElem hj')
      rw [e] at q
      cases q
      exact .ptr (List.getElem?_eq_getElem hj')
    · rw [if_neg hj] at h'
      have na : ¬ a ∈ al ++ hd := fun z => by
        rcases List.mem_append.mp z with z | z
        case inr => exact (o1.hid a z).1 (List.mem_of_getElem? e)
        obtain ⟨i, hi, ei⟩ := List.mem_iff_getElem.mp z
        have q2 := g.pre i a (by rw [List.getElem?_eq_getElem hi, ei])
        have ej : i = j := nd_ix o1.nd q2 e
        subst ej
        exact hj (by rw [← o.len]; exact hi)
      cases q : mu1[j]? with
      | none =>
        rw [q] at h'
        cases h'
      | some mo =>
        rw [q] at h'
        cases mo with
        | lst l =>
          cases h'
          obtain ⟨xs, e1, r1⟩ := o1.at_ j _ a q e
          exact .lst ⟨na, .inl e1⟩ (r1.fz g.back (Pre.refl _))
        | lsp l =>
          have h2 : (DL.frzLW f l).map D.lst = some d2 := h'
          obtain ⟨l2, q2, e2⟩ := Option.map_eq_some_iff.mp h2
          subst e2
          obtain ⟨xs, e1, r1⟩ := o1.at_ j _ a q e
          exact .lst ⟨na, .inl e1⟩ (RepL.frzLW hf r1 q2).1
        | tpl l =>
          have h2 : (DL.frzLW f l).map D.tup = some d2 := h'
          obtain ⟨l2, q2, e2⟩ := Option.map_eq_some_iff.mp h2
          subst e2
          obtain ⟨xs, e1, r1⟩ := o1.at_ j _ a q e
          exact .tup ⟨na, e1⟩ (RepL.frzLW hf r1 q2).1
        | ins c l =>
          have h2 : (if l.length = (fn c).length then (DL.frzLW f l).map (D.obj c) else none) = some d2 := h'
          by_cases hc : l.length = (fn c).length
          · rw [if_pos hc] at h2
            obtain ⟨l2, q2, e2⟩ := Option.map_eq_some_iff.mp h2
            subst e2
            obtain ⟨dx, xs, e1, r1, y⟩ := o1.at_ j _ a q e
            obtain ⟨r2, n2⟩ := RepL.frzLW hf r1 q2
            exact .obj na e1 ⟨n2.trans hc, y.2⟩ r2
          · rw [if_neg hc] at h2
            cases h2
        | _ => cases h'
  | non => cases h; exact .non
  | bl => cases h; exact .bl
  | int => cases h; exact .int
  | str => cases h; exact .str
  | adr => cases h; exact .adr
  | tup a b => cases h; exact .tup (g.back.fzT a) (b.fz g.back (Pre.refl _))
  | lst a b => cases h; exact .lst (g.back.fzL a) (b.fz g.back (Pre.refl _))
  | obj a b c d => cases h; exact .obj (g.back _ _ a b rfl).2 b c (d.fz g.back (Pre.refl _))
  | err0 z => cases h; exact .err0 (z.fz g.back)
  | err a b c d => cases h; exact .err (g.back _ _ a b rfl).2 b c (d.fz g.back (Pre.refl _))
theorem Rep.frzK (o : Okay K hd H mu al) (o1 : Okay K hd H1 mu1 al1) (g : Go hd H al H1 al1) : ∀ (k : Nat) (d d2 : D) (v : V), Rep K (al1 ++ hd) H1 al1 d v → DL.frzK k mu.length mu1 d = some d2 → Rep K (al ++ hd) H1 al d2 v
  | 0, d, d2, v, r, h => by
    refine Rep.frzC (f := fun _ => none) o o1 g (fun _ _ _ _ z => by cases z) r ?_
    cases d with
    | ptr j =>
      have h' : (if j < mu.length then some (D.ptr j) else none) = some d2 := h
      show (if j < mu.length then some (D.ptr j) else _) = some d2
      by_cases hj : j < mu.length
      · rw [if_pos hj] at h' ⊢
        exact h'
      · rw [if_neg hj] at h'
        cases h'
    | _ => exact h
  | k + 1, d, d2, v, r, h => Rep.frzC o o1 g (fun d d2 v => Rep.frzK o o1 g k d d2 v) r h
theorem Rep.frz {d d2 : D} {v : V} (o : Okay K hd H mu al) (o1 : Okay K hd H1 mu1 al1) (g : Go hd H al H1 al1) (r : Rep K (al1 ++ hd) H1 al1 d v) (h : frz mu.length mu1 d = some d2) : Rep K (al ++ hd) H1 al d2 v := by
  rw [frz_C] at h
  exact Rep.frzC o o1 g (fun d d2 v => Rep.frzK o o1 g 3 d d2 v) r h
end
/-! ### hidden cells -/
theorem Fz.refl (H : Hp) (al : List Addr) : Fz H al H al := fun _ _ n h _ => ⟨h, n⟩
theorem Fz.trans {H H1 H2 : Hp} {al al1 al2 : List Addr} (a : Fz H al H1 al1) (b : Fz H1 al1 H2 al2) : Fz H al H2 al2 := fun x o n h t => b x o (a x o n h t).2 (a x o n h t).1 t
section
variable {K : PySem.W.Frag} {hd hd' : List Addr} {H H' : Hp} {al : List Addr} {mu : Sto}
theorem Okay.mv (o : Okay K hd H mu al) (g : Fz H (al ++ hd) H' (al ++ hd')) (k : ∀ a, a ∈ al → H' a = H a) (z : ∀ a, a ∈ hd' → ¬ a ∈ al ∧ ∃ u, H' a = some u) (zx : ∀ a, a ∈ hd' → ∀ u, H' a = some u → notX u = true) : Okay K hd' H' mu al := by
  refine ⟨o.len, o.nd, z, zx, fun n mo a h1 h2 => ?_⟩
  have h := o.at_ n mo a h1 h2
  have ka := k a (List.mem_of_getElem? h2)
  cases mo with
  | lst l =>
    obtain ⟨xs, e, r⟩ := h
    exact ⟨xs, ka.trans e, r.fz g (Pre.refl _)⟩
  | lsp l =>
    obtain ⟨xs, e, r⟩ := h
    exact ⟨xs, ka.trans e, r.fz g (Pre.refl _)⟩
  | ins c l =>
    obtain ⟨dx, xs, e, r, z⟩ := h
    exact ⟨dx, xs, ka.trans e, r.fz g (Pre.refl _), z⟩
  | dic kvs =>
    obtain ⟨vs, e, r⟩ := h
    exact ⟨vs, ka.trans e, r.fz g⟩
  | dit kvs =>
    obtain ⟨vs, e, r⟩ := h
    exact ⟨vs, ka.trans e, r.fz g⟩
  | dlk od ws kvs =>
    obtain ⟨vs, e, r⟩ := h
    exact ⟨vs, ka.trans e, r.fz g⟩
  | dlc od ws kvs =>
    obtain ⟨vs, e, r⟩ := h
    exact ⟨vs, ka.trans e, r.fz g⟩
  | tab P q =>
    obtain ⟨e0, ps, e, t2, z2⟩ := h
    refine ⟨e0, ps, ka.trans e, t2, fun pos cv hc => ?_⟩
    obtain ⟨c2, e1, n2, e2⟩ := z2 pos cv hc
    exact ⟨c2, e1, (g c2 _ n2 e2 rfl).2, (g c2 _ n2 e2 rfl).1⟩
  | tpl l =>
    obtain ⟨xs, e, r⟩ := h
    exact ⟨xs, ka.trans e, r.fz g (Pre.refl _)⟩
theorem Slots.fz {ga : Gam} {sg : L2.St} {al' : List Addr} (s : Slots K hd al H ga sg) (g : Fz H (al ++ hd) H' (al' ++ hd')) (p : Pre al al') : Slots K hd' al' H' ga sg := ⟨s.len, fun i d e => by
  obtain ⟨v, h, r⟩ := s.at_ i d e
  exact ⟨v, h, r.fz g p⟩⟩
/-- D is new: it is laid and hidden -/
theorem Fz.hide (o : Okay K hd H mu al) {D : Addr} {u : HO} (hD : H D = none) : Fz H (al ++ hd) (upd H D u) (al ++ D :: hd) := fun a v n e _ => by
  have ne := ne_of_none e hD
  refine ⟨by rw [upd_ne ne]; exact e, fun z => ?_⟩
  rcases List.mem_append.mp z with z | z
  · exact n (List.mem_append_left _ z)
  · rcases List.mem_cons.mp z with z | z
    · exact ne z
    · exact n (List.mem_append_right _ z)
theorem Okay.hide (o : Okay K hd H mu al) {D : Addr} {u : HO} (hD : H D = none) (hu : notX u = true := by rfl) : Okay K (D :: hd) (upd H D u) mu al :=
  o.mv (Fz.hide o hD) (fun a ha => upd_ne fun z => o.newA hD (z ▸ ha)) (fun a ha => by
    rcases List.mem_cons.mp ha with z | z
    · subst z
      exact ⟨o.newA hD, _, upd_same⟩
    · obtain ⟨h1, v, h2⟩ := o.hid a z
      exact ⟨h1, v, by rw [upd_ne (ne_of_none h2 hD)]; exact h2⟩) fun a ha w q => by
    rcases List.mem_cons.mp ha with z | z
    · subst z
      rw [upd_same] at q
      cases q
      exact hu
    · obtain ⟨h1, v, h2⟩ := o.hid a z
      rw [upd_ne (ne_of_none h2 hD)] at q
      exact o.hx a z w q
/-- the hidden D is changed -/
theorem Fz.hid {D : Addr} {u : HO} (al hd : List Addr) : Fz H (al ++ D :: hd) (upd H D u) (al ++ D :: hd) := fun a v n e _ => by
  have ne : a ≠ D := fun z => n (z ▸ List.mem_append_right _ List.mem_cons_self)
  exact ⟨by rw [upd_ne ne]; exact e, n⟩
theorem Okay.hidSet {D : Addr} {u : HO} (o : Okay K (D :: hd) H mu al) (hu : notX u = true := by rfl) : Okay K (D :: hd) (upd H D u) mu al :=
  o.mv (Fz.hid al hd) (fun a ha => upd_ne fun z => (o.hid D List.mem_cons_self).1 (z ▸ ha)) (fun a ha => ⟨(o.hid a ha).1, by
    by_cases h : a = D
    · exact ⟨u, by rw [h, upd_same]⟩
    · rw [upd_ne h]
      exact (o.hid a ha).2⟩) fun a ha w q => by
    by_cases h : a = D
    · rw [h, upd_same] at q
      cases q
      exact hu
    · rw [upd_ne h] at q
      exact o.hx a ha w q
/-- D is hidden no longer -/
theorem Fz.show_ {D : Addr} (al hd : List Addr) : Fz H (al ++ D :: hd) H (al ++ hd) := fun a v n e _ => ⟨e, fun z => n (by
  rcases List.mem_append.mp z with z | z
  · exact List.mem_append_left _ z
  · exact List.mem_append_right _ (List.mem_cons_of_mem _ z))⟩
theorem Okay.show_ {D : Addr} (o : Okay K (D :: hd) H mu al) : Okay K hd H mu al :=
  o.mv (Fz.show_ al hd) (fun _ _ => rfl) (fun a ha => o.hid a (List.mem_cons_of_mem _ ha)) fun a ha => o.hx a (List.mem_cons_of_mem _ ha)
theorem mem_turn {D a : Addr} {al hd : List Addr} (z : a ∈ (al ++ [D]) ++ hd) : a ∈ al ++ D :: hd := by
  rw [List.append_assoc] at z
  exact z
theorem Fz.turn {D : Addr} (al hd : List Addr) : Fz H (al ++ D :: hd) H ((al ++ [D]) ++ hd) := fun a v n e _ => ⟨e, fun z => n (mem_turn z)⟩
theorem Pre.app (al : List Addr) (l : List Addr) : Pre al (al ++ l) := fun n a h => by
  rw [List.getElem?_append_left (List.getElem?_eq_some_iff.mp h).1]
  exact h
theorem Okay.turn {D : Addr} {mo : MO} (o : Okay K (D :: hd) H mu al) (hn : ¬ D ∈ hd) (hm : MAt K hd (al ++ [D]) H D mo) : Okay K hd H (mu ++ [mo]) (al ++ [D]) := by
  have g : Fz H (al ++ D :: hd) H ((al ++ [D]) ++ hd) := Fz.turn al hd
  refine ⟨by rw [List.length_append, List.length_append, o.len] <;> rfl, ?_, fun a ha => ?_, fun a ha => o.hx a (List.mem_cons_of_mem _ ha), fun n m a h1 h2 => ?_⟩
  · rw [List.nodup_append]
    refine ⟨o.nd, by simp, fun a ha b hb => ?_⟩
    rw [List.mem_singleton.mp hb]
    exact fun z => (o.hid D List.mem_cons_self).1 (z ▸ ha)
  · obtain ⟨h1, h2⟩ := o.hid a (List.mem_cons_of_mem _ ha)
    refine ⟨fun z => ?_, h2⟩
    rcases List.mem_append.mp z with z | z
    · exact h1 z
    · rw [List.mem_singleton.mp z] at ha
      exact hn ha
  · rcases Nat.lt_or_ge n mu.length with h | h
    · rw [List.getElem?_append_left h] at h1
      rw [List.getElem?_append_left (by rw [o.len]; exact h)] at h2
      have q := o.at_ n m a h1 h2
      cases m with
      | lst l =>
        obtain ⟨xs, e, r⟩ := q
        exact ⟨xs, e, r.fz g (Pre.refl _)⟩
      | lsp l =>
        obtain ⟨xs, e, r⟩ := q
        exact ⟨xs, e, r.fz g (Pre.app _ _)⟩
      | ins c l =>
        obtain ⟨dx, xs, e, r, z⟩ := q
        exact ⟨dx, xs, e, r.fz g (Pre.app _ _), z⟩
      | dic kvs =>
        obtain ⟨vs, e, r⟩ := q
        exact ⟨vs, e, r.fz g⟩
      | dit kvs =>
        obtain ⟨vs, e, r⟩ := q
        exact ⟨vs, e, r.fz g⟩
      | dlk od ws kvs =>
        obtain ⟨vs, e, r⟩ := q
        exact ⟨vs, e, r.fz g⟩
      | dlc od ws kvs =>
        obtain ⟨vs, e, r⟩ := q
        exact ⟨vs, e, r.fz g⟩
      | tab P q =>
        obtain ⟨e0, ps, e, t2, z2⟩ := q
        refine ⟨e0, ps, e, t2, fun pos cv hc => ?_⟩
        obtain ⟨c2, e1, n2, e2⟩ := z2 pos cv hc
        exact ⟨c2, e1, (g c2 _ n2 e2 rfl).2, (g c2 _ n2 e2 rfl).1⟩
      | tpl l =>
        obtain ⟨xs, e, r⟩ := q
        exact ⟨xs, e, r.fz g (Pre.app _ _)⟩
    · have hl := (List.getElem?_eq_some_iff.mp h1).1
      rw [List.length_append] at hl
      have hn' : n = mu.length := by simp at hl; omega
      subst hn'
      rw [List.getElem?_append_right (Nat.le_refl _), Nat.sub_self] at h1
      rw [List.getElem?_append_right (by rw [o.len]; exact Nat.le_refl _), o.len, Nat.sub_self] at h2
      simp at h1 h2
      subst h1 h2
      exact hm
end
end DL

/-! part DL2 -/
/-! DL2: readings over data: lifts, expressions. -/
namespace DL
open PySem PySem.Spec PyProof.Rows L2

abbrev KD := D → Sto → Prop
abbrev KX := Exn → Sto → Prop
abbrev DE := Gam → Sto → KX → KD → Prop
abbrev DB := Gam → Sto → KX → (Bool → Sto → Prop) → Prop
abbrev DA := Gam → Sto → KX → (List D → Sto → Prop) → Prop

/-- an exception as data -/
def RepX (K : PySem.W.Frag) (hd al : List Addr) (H : Hp) (cls : Value) (dd : Option Addr) (x : Exn) : Prop :=
  cls = .ref (He.ga K (xn x.1)) ∧ x.2.length = (xf x.1).length ∧
    (x.2 ≠ [] → ∃ (d : Addr) (fs : List (Str × V)) (xs : List V), dd = some d ∧ ¬ d ∈ al ++ hd ∧ H d = some (.xd fs) ∧ RepL K (al ++ hd) H [] x.2 xs ∧ ∀ (i : Nat) (f : Str), (xf x.1)[i]? = some f → fs.lookup f = xs[i]?) ∧ (x.2 = [] → dd = none)
section
variable (K : PySem.W.Frag) (hd : List Addr)
structure Kv (H : Hp) (al : List Addr) (F : KD) (Q : VK) : Prop where
  go : ∀ (d : D) (mu' : Sto) (v : V) (H' : Hp) (al' : List Addr), F d mu' → Okay K hd H' mu' al' → Go hd H al H' al' → Rep K (al' ++ hd) H' al' d v → Q v H'
structure Kb (H : Hp) (al : List Addr) (F : Bool → Sto → Prop) (Q : Bool → Hp → Prop) : Prop where
  go : ∀ (b : Bool) (mu' : Sto) (H' : Hp) (al' : List Addr), F b mu' → Okay K hd H' mu' al' → Go hd H al H' al' → Q b H'
structure Kl (H : Hp) (al : List Addr) (F : List D → Sto → Prop) (Q : List V → Hp → Prop) : Prop where
  go : ∀ (ds : List D) (mu' : Sto) (vs : List V) (H' : Hp) (al' : List Addr), F ds mu' → Okay K hd H' mu' al' → Go hd H al H' al' → RepL K (al' ++ hd) H' al' ds vs → Q vs H'
structure Kx (W : Value → Option Addr → Hp → Prop) (H : Hp) (al : List Addr) (P : KX) : Prop where
  go : ∀ (x : Exn) (mu' : Sto) (cls : Value) (dd : Option Addr) (H' : Hp) (al' : List Addr), P x mu' → Okay K hd H' mu' al' → Go hd H al H' al' → RepX K hd al' H' cls dd x → W cls dd H'
/-- the start of a reading: the store and the slots as data -/
structure At (ga : Gam) (mu : Sto) (al : List Addr) (sg : L2.St) (H : Hp) : Prop where
  ok : Okay K hd H mu al
  sl : Slots K hd al H ga sg
end
section
variable (K : PySem.W.Frag)
def liftE (W : WX) (de : DE) : TE := fun sg H Q => ∃ (ga : Gam) (mu : Sto) (al hd : List Addr) (P : KX) (F : KD), At K hd ga mu al sg H ∧ de ga mu P F ∧ Kv K hd H al F Q ∧ Kx K hd (fun c d h => W c d sg h) H al P
def liftB (W : WX) (de : DB) : TT := fun sg H Q => ∃ (ga : Gam) (mu : Sto) (al hd : List Addr) (P : KX) (F : Bool → Sto → Prop), At K hd ga mu al sg H ∧ de ga mu P F ∧ Kb K hd H al F Q ∧ Kx K hd (fun c d h => W c d sg h) H al P
def liftA (W : WX) (de : DA) : TA := fun sg H Q => ∃ (ga : Gam) (mu : Sto) (al hd : List Addr) (P : KX) (F : List D → Sto → Prop), At K hd ga mu al sg H ∧ de ga mu P F ∧ Kl K hd H al F Q ∧ Kx K hd (fun c d h => W c d sg h) H al P
end
section
variable {K : PySem.W.Frag} {hd : List Addr} {H H1 : Hp} {al al1 : List Addr} {W : Value → Option Addr → Hp → Prop} {ga : Gam} {mu mu1 : Sto} {sg : L2.St}
theorem Kv.to {F : KD} {Q : VK} (k : Kv K hd H al F Q) (g : Go hd H al H1 al1) : Kv K hd H1 al1 F Q := ⟨fun d mu' v H' al' h o g' r => k.go d mu' v H' al' h o (g.trans g') r⟩
theorem Kb.to {F : Bool → Sto → Prop} {Q : Bool → Hp → Prop} (k : Kb K hd H al F Q) (g : Go hd H al H1 al1) : Kb K hd H1 al1 F Q := ⟨fun b mu' H' al' h o g' => k.go b mu' H' al' h o (g.trans g')⟩
theorem Kl.to {F : List D → Sto → Prop} {Q : List V → Hp → Prop} (k : Kl K hd H al F Q) (g : Go hd H al H1 al1) : Kl K hd H1 al1 F Q := ⟨fun ds mu' vs H' al' h o g' r => k.go ds mu' vs H' al' h o (g.trans g') r⟩
theorem Kx.to {P : KX} (k : Kx K hd W H al P) (g : Go hd H al H1 al1) : Kx K hd W H1 al1 P := ⟨fun x mu' c d H' al' h o g' r => k.go x mu' c d H' al' h o (g.trans g') r⟩
theorem At.to (a : At K hd ga mu al sg H) (o : Okay K hd H1 mu1 al1) (g : Go hd H al H1 al1) : At K hd ga mu1 al1 sg H1 := ⟨o, a.sl.go g⟩
/-- a value without a change -/
theorem Kv.now {F : KD} {Q : VK} {d : D} {v : V} (k : Kv K hd H al F Q) (a : Okay K hd H mu al) (h : F d mu) (r : Rep K (al ++ hd) H al d v) : Q v H := k.go d mu v H al h a (Go.refl _ _) r
/-- a new frozen thing at p -/
theorem Kv.lay {F : KD} {Q : VK} {d : D} {p : Addr} {u : HO} (k : Kv K hd H al F Q) (a : Okay K hd H mu al) (hp : H p = none) (h : F d mu) (r : ¬ p ∈ al ++ hd → Go hd H al (upd H p u) al → Rep K (al ++ hd) (upd H p u) al d (.ref p)) : Q (.ref p) (upd H p u) :=
  k.go d mu _ _ al h (a.lay hp) (Go.lay a hp) (r (a.new hp) (Go.lay a hp))
/-- a list as a result: 0 frozen, 1 a cell of its own, 2 a cell that may hold pointers -/
def retN (m : Nat) (l : List D) (mu : Sto) (F : KD) : Prop := match m with
  | 0 => F (.lst l) mu
  | 1 => F (.ptr mu.length) (mu ++ [.lst l])
  | _ => F (.ptr mu.length) (mu ++ [.lsp l])
def retL (m : Nat) (l : List D) (mu : Sto) (F : KD) : Prop := match m with
  | 0 => npL l ∧ F (.lst l) mu
  | 1 => npL l ∧ F (.ptr mu.length) (mu ++ [.lst l])
  | _ => F (.ptr mu.length) (mu ++ [.lsp l])
theorem Kv.cel {F : KD} {Q : VK} {mo : MO} {p : Addr} {H' : Hp} (k : Kv K hd H al F Q) (a : Okay K hd H mu al) (hp : H p = none) (e : ∀ b u, H b = some u → H' b = some u) (h : F (.ptr mu.length) (mu ++ [mo])) (hm : Go hd H al H' (al ++ [p]) → MAt K hd (al ++ [p]) H' p mo) : Q (.ref p) H' := by
  have g := Go.cell a hp e
  refine k.go _ _ _ _ _ h (a.cell hp e (hm g)) g (.ptr ?_)
  rw [List.getElem?_append_right (by rw [a.len]; exact Nat.le_refl _), a.len, Nat.sub_self]
  rfl
theorem upd_keep {p : Addr} {o : HO} (hp : H p = none) : ∀ b u, H b = some u → upd H p o b = some u := fun b u q => by
  rw [upd_ne (ne_of_none q hp)]
  exact q
theorem Kv.listN {F : KD} {Q : VK} {l : List D} {xs : List V} {p : Addr} {m : Nat} (k : Kv K hd H al F Q) (a : Okay K hd H mu al) (hp : H p = none) (r : RepL K (al ++ hd) H [] l xs) (h : retN m l mu F) : Q (.ref p) (upd H p (.lst xs)) := by
  match m, h with
  | 0, h => exact k.lay a hp h fun n g => .lst ⟨n, .inl upd_same⟩ (r.go g (Pre.refl _))
  | 1, h => exact k.cel a hp (upd_keep hp) h fun g => ⟨xs, upd_same, r.go g (Pre.refl _)⟩
  | _ + 2, h => exact k.cel a hp (upd_keep hp) h fun g => ⟨xs, upd_same, r.go g (Pre.nil _)⟩
theorem Kv.list {F : KD} {Q : VK} {l : List D} {xs : List V} {p : Addr} {m : Nat} (k : Kv K hd H al F Q) (a : Okay K hd H mu al) (hp : H p = none) (r : RepL K (al ++ hd) H al l xs) (h : retL m l mu F) : Q (.ref p) (upd H p (.lst xs)) := by
  match m, h with
  | 0, h => exact k.listN (m := 0) a hp (r.np h.1) h.2
  | 1, h => exact k.listN (m := 1) a hp (r.np h.1) h.2
  | _ + 2, h => exact k.cel a hp (upd_keep hp) h fun g => ⟨xs, upd_same, r.go g g.pre⟩
theorem Kv.tupleN {F : KD} {Q : VK} {l : List D} {xs : List V} {p : Addr} (k : Kv K hd H al F Q) (a : Okay K hd H mu al) (hp : H p = none) (r : RepL K (al ++ hd) H [] l xs) (h : F (.tup l) mu) : Q (.ref p) (upd H p (.tup xs)) :=
  k.lay a hp h fun n g => .tup ⟨n, upd_same⟩ (r.go g (Pre.refl _))
/-- what a value is as a list, as a tuple, as either -/
def lv (mu : Sto) : D → Option (List D)
  | .lst l => some l
  | .ptr n => (match mu[n]? with
    | some (.lst l) => some l
    | _ => none)
  | _ => none
def tv : D → Option (List D)
  | .tup l => some l
  | _ => none
def sv (mu : Sto) : D → Option (List D)
  | .tup l => some l
  | .lst l => some l
  | .ptr n => (match mu[n]? with
    | some (.lst l) => some l
    | _ => none)
  | _ => none
theorem Rep.lv {d : D} {v : V} {l : List D} (a : Okay K hd H mu al) (r : Rep K (al ++ hd) H al d v) (h : lv mu d = some l) : ∃ p xs, v = .ref p ∧ Rd H p (.lst xs) ∧ RepL K (al ++ hd) H [] l xs := by
  cases r with
  | lst z r =>
    cases h
    exact ⟨_, _, rfl, z.2, r⟩
  | ptr e =>
    rename_i n p
    have h' : (match mu[n]? with
      | some (.lst l) => some l
      | _ => none) = some l := h
    cases q : mu[n]? with
    | none =>
      rw [q] at h'
      cases h'
    | some mo =>
      rw [q] at h'
      cases mo with
      | lst l' =>
        cases h'
        obtain ⟨xs, e1, r⟩ := a.at_ n _ _ q e
        exact ⟨_, xs, rfl, .inl e1, r⟩
      | _ => cases h'
  | _ => cases h
theorem Rep.tv {d : D} {v : V} {l : List D} (r : Rep K (al ++ hd) H al d v) (h : tv d = some l) : ∃ p xs, v = .ref p ∧ ¬ p ∈ al ++ hd ∧ H p = some (.tup xs) ∧ RepL K (al ++ hd) H [] l xs := by
  cases r with
  | tup z r =>
    cases h
    exact ⟨_, _, rfl, z.1, z.2, r⟩
  | _ => cases h
theorem Rep.sv {d : D} {v : V} {l : List D} (a : Okay K hd H mu al) (r : Rep K (al ++ hd) H al d v) (h : sv mu d = some l) : ∃ p xs, v = .ref p ∧ (SqL K H p xs ∨ SqT K H p xs) ∧ RepL K (al ++ hd) H [] l xs := by
  cases r with
  | tup z r =>
    cases h
    exact ⟨_, _, rfl, .inr z.sq, r⟩
  | lst z r =>
    cases h
    exact ⟨_, _, rfl, .inl z.sq, r⟩
  | ptr e =>
    obtain ⟨p, xs, e1, z, r⟩ := Rep.lv a (.ptr e) h
    exact ⟨p, xs, e1, .inl (.inl z), r⟩
  | _ => cases h
theorem Rep.int_ {i : Int} {v : V} (r : Rep K (al ++ hd) H al (.int i) v) : v = .int i := by
  cases r
  rfl
theorem Rep.str_ {x : Str} {v : V} (r : Rep K (al ++ hd) H al (.str x) v) : v = .str x := by
  cases r
  rfl
theorem Rep.bl_ {b : Bool} {v : V} (r : Rep K (al ++ hd) H al (.bl b) v) : v = .bl b := by
  cases r
  rfl
theorem Rep.non_ {v : V} (r : Rep K (al ++ hd) H al .non v) : v = .non := by
  cases r
  rfl
theorem RepL.nil_ {xs : List V} (r : RepL K (al ++ hd) H al [] xs) : xs = [] := by
  cases r
  rfl
theorem RepL.cons_ {d : D} {l : List D} {xs : List V} (r : RepL K (al ++ hd) H al (d :: l) xs) : ∃ v ys, xs = v :: ys ∧ Rep K (al ++ hd) H al d v ∧ RepL K (al ++ hd) H al l ys := by
  cases r with
  | cons h r => exact ⟨_, _, rfl, h, r⟩
end

section
variable {X : Cx} {W : WX}
theorem pe_wk {e : Expr} {t t' : TE} (h : PE X e t) (k : ∀ sg H Q, t' sg H Q → t sg H Q) : PE X e t' := ⟨fun pins s sg H Q I q => h.run pins s sg H Q I (k _ _ _ q)⟩
theorem pt_wk {e : Expr} {t t' : TT} (h : PT X e t) (k : ∀ sg H Q, t' sg H Q → t sg H Q) : PT X e t' := ⟨fun pins s sg H Q I q => h.run pins s sg H Q I (k _ _ _ q)⟩
theorem pw_wk {e : Expr} {t t' : TT} (h : PW X e t) (k : ∀ sg H Q, t' sg H Q → t sg H Q) : PW X e t' := ⟨fun w pins s sg H Q I q => h.run w pins s sg H Q I (k _ _ _ q)⟩
theorem pa_wk {e : List Expr} {t t' : TA} (h : PA X e t) (k : ∀ sg H Q, t' sg H Q → t sg H Q) : PA X e t' := ⟨fun pos pins s sg H Q I q => h.run pos pins s sg H Q I (k _ _ _ q)⟩
theorem pe_orr {e : Expr} {t t' : TE} (h : PE X e t) (h' : PE X e t') : PE X e (fun sg H Q => t sg H Q ∨ t' sg H Q) := ⟨fun pins s sg H Q I q => q.elim (h.run pins s sg H Q I) (h'.run pins s sg H Q I)⟩

/-! ### names, constants -/
def dVar (i : Nat) : DE := fun ga mu _ F => match ga[i]? with
  | some (some d) => F d mu
  | _ => False
theorem d_var (i : Nat) {x : Str} {pos : Pos} (hN : X.N[i]? = some x := by rfl) (hv : Vis X.env.scope x := by first | exact Or.inl rfl | exact Or.inr (Or.inl rfl) | exact Or.inr (Or.inr rfl)) (hd : (x == ("__debug__" : Str)) = false := by decide)
    (hcd : (x == ("__classdict__" : Str)) = false := by decide) : PE X (.Name x pos) (liftE X.K W (dVar i)) := by
  refine pe_wk (pe_var hN hv hd hcd) fun sg H Q ⟨ga, mu, al, hd, P, F, a, h, kv, kx⟩ => ?_
  unfold dVar at h
  split at h
  · rename_i d e
    obtain ⟨v, hv, r⟩ := a.sl.at_ i d e
    exact ⟨v, hv, kv.now a.ok h r⟩
  · exact h.elim
def dC (d : D) : DE := fun _ mu _ F => F d mu
theorem d_c {e : Expr} {d : D} {v : V} (h : PE X e (tC v)) (r : ∀ fb H pt, Rep X.K fb H pt d v) : PE X e (liftE X.K W (dC d)) :=
  pe_wk h fun sg H Q ⟨ga, mu, al, hd, P, F, a, h, kv, kx⟩ => kv.now a.ok h (r _ _ _)
theorem d_int {i j pos} : PE X (.Constant (.int i) j pos) (liftE X.K W (dC (.int i))) := d_c pe_int fun _ _ _ => .int
theorem d_bl {i j pos} : PE X (.Constant (.bool i) j pos) (liftE X.K W (dC (.bl i))) := d_c pe_bl fun _ _ _ => .bl
theorem d_non {j pos} : PE X (.Constant .none j pos) (liftE X.K W (dC .non)) := d_c pe_non fun _ _ _ => .non
theorem d_str {i j pos} : PE X (.Constant (.str i) j pos) (liftE X.K W (dC (.str i))) := d_c pe_str fun _ _ _ => .str
theorem d_gint {x : Str} {i : Int} {pos : Pos} (hm : ∃ t, X.mg x = some (.int i t)) (hg : Gl X x := by rfl) (hd : (x == ("__debug__" : Str)) = false := by decide) : PE X (.Name x pos) (liftE X.K W (dC (.int i))) := by
  obtain ⟨t, hm⟩ := hm
  exact d_c (pe_glob (v := .int i) hg hm ⟨t, rfl⟩ hd) fun _ _ _ => .int
theorem d_gstr {x : Str} {i : Str} {pos : Pos} (hm : ∃ t, X.mg x = some (.str i t)) (hg : Gl X x := by rfl) (hd : (x == ("__debug__" : Str)) = false := by decide) : PE X (.Name x pos) (liftE X.K W (dC (.str i))) := by
  obtain ⟨t, hm⟩ := hm
  exact d_c (pe_glob (v := .str i) hg hm ⟨t, rfl⟩ hd) fun _ _ _ => .str

/-! ### operators -/
abbrev G2 := D → D → Sto → KX → KD → Prop
def OpS (X : Cx) (f : Value → Value → Sem Value) (r : L2.St → R2) : Prop :=
  ∀ (pins : List (Addr × Obj)) (s : Shared) (sg : L2.St) (H : Hp) (x y : V) (v u : Value) (Q : VK), Inv X pins sg H s → RelV x v → RelV y u → r sg x y H Q →
    wpAny (model X.prog X.w) X.A (f v u) (EP X pins sg Q) X.xe s
theorem opr_s {f : Value → Value → Sem Value} {r : R2} (h : OpR X f r) : OpS X f (fun _ => r) := h
theorem ops_wk {f : Value → Value → Sem Value} {r r' : L2.St → R2} (h : OpS X f r) (k : ∀ sg x y H Q, r' sg x y H Q → r sg x y H Q) : OpS X f r' := fun pins s sg H x y v u Q I rx ry q => h pins s sg H x y v u Q I rx ry (k _ _ _ _ _ q)
theorem ops_orr {f : Value → Value → Sem Value} {r r' : L2.St → R2} (h : OpS X f r) (h' : OpS X f r') : OpS X f (fun sg x y H Q => r sg x y H Q ∨ r' sg x y H Q) :=
  fun pins s sg H x y v u Q I rx ry q => q.elim (h pins s sg H x y v u Q I rx ry) (h' pins s sg H x y v u Q I rx ry)
def liftR (K : PySem.W.Frag) (W : WX) (g : G2) : L2.St → R2 := fun sg x y H Q => ∃ (mu : Sto) (al hd : List Addr) (d e : D) (P : KX) (F : KD), Okay K hd H mu al ∧ Rep K (al ++ hd) H al d x ∧ Rep K (al ++ hd) H al e y ∧ g d e mu P F ∧ Kv K hd H al F Q ∧ Kx K hd (fun c d h => W c d sg h) H al P
def dBin (g : G2) (da db : DE) : DE := fun ga mu P F => da ga mu P fun x mu1 => db ga mu1 P fun y mu2 => g x y mu2 P F
theorem bin_ok {K : PySem.W.Frag} {g : G2} {da db : DE} {sg : L2.St} {H : Hp} {Q : VK} (h : liftE K W (dBin g da db) sg H Q) : liftE K W da sg H fun x H1 => liftE K W db sg H1 fun y H2 => liftR K W g sg x y H2 Q := by
  obtain ⟨ga, mu, al, hd, P, F, a, h, kv, kx⟩ := h
  exact ⟨ga, mu, al, hd, P, _, a, h, ⟨fun d mu1 v H1 al1 h1 o1 g1 r1 => ⟨ga, mu1, al1, hd, P, _, a.to o1 g1, h1, ⟨fun e mu2 u H2 al2 h2 o2 g2 r2 => ⟨mu2, al2, hd, d, e, P, F, o2, r1.go g2 g2.pre, r2, h2, kv.to (g1.trans g2), kx.to (g1.trans g2)⟩⟩, kx.to g1⟩⟩, kx⟩
theorem d_bin {op : Operator} {g : G2} {a b : Expr} {da db : DE} {pos : Pos} (ho : OpS X (binaryOp op) (liftR X.K W g)) (ha : PE X a (liftE X.K W da)) (hb : PE X b (liftE X.K W db)) : PE X (.BinOp a op b pos) (liftE X.K W (dBin g da db)) := by
  refine ⟨fun pins s sg H Q I h => ?_⟩
  exact wpAny_BinOp (binT ha hb I (bin_ok h) fun v u s2 x y H2 I2 rx ry q => ho pins s2 sg H2 x y v u Q I2 rx ry q)
theorem d_cmp {op : CmpOp} {g : G2} {a b : Expr} {da db : DE} {pos : Pos} (ho : OpS X (compareOp op) (liftR X.K W g)) (ha : PE X a (liftE X.K W da)) (hb : PE X b (liftE X.K W db)) (hm : behindInMarks op b = false := by first | exact nomark _ | with_unfolding_all rfl) : PE X (.Compare a [op] [b] pos) (liftE X.K W (dBin g da db)) := by
  refine ⟨fun pins s sg H Q I h => ?_⟩
  exact wpAny_Compare1 (binT ha hb I (bin_ok h) fun v u s2 x y H2 I2 rx ry q => ho pins s2 sg H2 x y v u Q I2 rx ry q) hm
end
end DL

/-! part DL3 -/
/-! DL3: operators, tests, attributes, items, displays, calls. -/
namespace DL
open PySem PySem.Spec PyProof.Rows L2
section
variable {X : Cx} {W : WX}
/-! ### numbers -/
def gI (C : Int → Int → Prop) (g : Int → Int → Int) : G2 := fun x y mu _ F => match x, y with
  | .int i, .int j => C i j ∧ F (.int (g i j)) mu
  | _, _ => False
theorem o_int {f : Value → Value → Sem Value} {C : Int → Int → Prop} {g : Int → Int → Int} (h : OpR X f (rI C fun i j => .int (g i j))) : OpS X f (liftR X.K W (gI C g)) := by
  refine ops_wk (opr_s h) fun sg x y H Q ⟨mu, al, hd, d, e, P, F, o, r1, r2, hg, kv, kx⟩ => ?_
  cases d <;> cases e <;> try exact hg.elim
  rename_i i j
  exact ⟨i, j, r1.int_, r2.int_, hg.1, kv.now o hg.2 .int⟩
def gI0 (g : Int → Int → Int) : G2 := fun x y mu _ F => match x, y with
  | .int i, .int j => F (.int (g i j)) mu
  | _, _ => False
theorem o_int0 {f : Value → Value → Sem Value} {g : Int → Int → Int} (h : OpR X f (rI0 fun i j => .int (g i j))) : OpS X f (liftR X.K W (gI0 g)) := by
  refine ops_wk (opr_s h) fun sg x y H Q ⟨mu, al, hd, d, e, P, F, o, r1, r2, hg, kv, kx⟩ => ?_
  cases d <;> cases e <;> try exact hg.elim
  rename_i i j
  exact ⟨i, j, r1.int_, r2.int_, kv.now o hg .int⟩
def gSub : G2 := gI0 fun i j => i - j
theorem o_sub : OpS X (binaryOp .Sub) (liftR X.K W gSub) := o_int0 op_sub
def gMod : G2 := gI (fun _ j => 0 < j) fun i j => i % j
theorem o_mod : OpS X (binaryOp .Mod) (liftR X.K W gMod) := o_int op_mod
def gDiv : G2 := gI (fun _ j => 0 < j ∧ j.natAbs.log2 < 9000) fun i j => i / j
theorem o_div : OpS X (binaryOp .FloorDiv) (liftR X.K W gDiv) := o_int op_fdivW
def gPow : G2 := gI CPow fun i j => i ^ j.toNat
theorem o_pow : OpS X (binaryOp .Pow) (liftR X.K W gPow) := o_int op_pow
def gCmp (p : Int → Int → Bool) : G2 := fun x y mu _ F => match x, y with
  | .int i, .int j => F (.bl (p i j)) mu
  | _, _ => False
theorem o_cmp {f : Value → Value → Sem Value} {p : Int → Int → Bool} (h : OpR X f (rI0 fun i j => .bl (p i j))) : OpS X f (liftR X.K W (gCmp p)) := by
  refine ops_wk (opr_s h) fun sg x y H Q ⟨mu, al, hd, d, e, P, F, o, r1, r2, hg, kv, kx⟩ => ?_
  cases d <;> cases e <;> try exact hg.elim
  rename_i i j
  exact ⟨i, j, r1.int_, r2.int_, kv.now o hg .bl⟩
def gLt : G2 := gCmp fun i j => decide (i < j)
def gLe : G2 := gCmp fun i j => decide (i ≤ j)
def gGt : G2 := gCmp fun i j => decide (j < i)
def gGe : G2 := gCmp fun i j => decide (j ≤ i)
theorem o_lt : OpS X (compareOp .Lt) (liftR X.K W gLt) := o_cmp op_lt
theorem o_le : OpS X (compareOp .LtE) (liftR X.K W gLe) := o_cmp op_le
theorem o_gt : OpS X (compareOp .Gt) (liftR X.K W gGt) := o_cmp op_gt
theorem o_ge : OpS X (compareOp .GtE) (liftR X.K W gGe) := o_cmp op_ge
/-! ### +, * -/
theorem Rd.lst {H : Hp} {a : Addr} {xs : List V} {pins : List (Addr × Obj)} {sg : L2.St} {s : Shared} (I : Inv X pins sg H s) (h : Rd H a (.lst xs)) : xs.length ≤ sizeLine ∧ ∃ (its : List Value) (n : Nat), Vals xs its ∧ its.length = xs.length ∧ s.heap.get? a = some { cls := .type "list", data := .seq its.toArray n } := by
  obtain ⟨z, its, n, r, e⟩ := h.ok I.hok
  exact ⟨z, its, n, r, r.length.symm, e⟩
def rCatR : R2 := fun x y H Q => ∃ l b xs zs, x = .ref l ∧ y = .ref b ∧ Rd H l (.lst xs) ∧ Rd H b (.lst zs) ∧ xs.length + zs.length ≤ sizeLine ∧ ∀ p, H p = none → Q (.ref p) (upd H p (.lst (xs ++ zs)))
theorem op_catR : OpR X (binaryOp .Add) rCatR := by
  intro pins s σ H x y v u Q I rx ry h
  obtain ⟨l, b, xs, zs, rfl, rfl, hH, hB, hz, q⟩ := h
  cases rx
  cases ry
  obtain ⟨z, its, n, r, hl, e⟩ := Rd.lst I hH
  obtain ⟨z2, its2, n2, r2, hl2, e2⟩ := Rd.lst I hB
  refine PySem.P.add_list e e2 ?_ (by rw [List.size_toArray, List.size_toArray]; omega)
  have ea : its.toArray ++ its2.toArray = (its ++ its2).toArray := by simp
  rw [ea]
  exact ⟨.ref _, _, I.lnew (t' := s.toks) (r.append r2) (by rw [List.length_append]; omega), rfl, q _ I.fresh⟩
/-- a list as a list of which no cell is one -/
def gAdd (m : Nat) : G2 := fun x y mu _ F => match x with
  | .int i => (match y with
    | .int j => F (.int (i + j)) mu
    | _ => False)
  | .str a => (match y with
    | .str b => a.length + b.length ≤ 16777216 ∧ F (.str (a ++ b)) mu
    | _ => False)
  | .tup l => (match y with
    | .tup k => l.length + k.length ≤ 16777216 ∧ F (.tup (l ++ k)) mu
    | _ => False)
  | x => ∃ l k, lv mu x = some l ∧ lv mu y = some k ∧ l.length + k.length ≤ 16777216 ∧ retN m (l ++ k) mu F
theorem add_lists {K : PySem.W.Frag} {hd : List Addr} {H : Hp} {mu : Sto} {al : List Addr} {d e : D} {x y : V} {F : KD} {Q : VK} {m : Nat} (o : Okay K hd H mu al) (r1 : Rep K (al ++ hd) H al d x) (r2 : Rep K (al ++ hd) H al e y) (kv : Kv K hd H al F Q)
    (h : ∃ l k, lv mu d = some l ∧ lv mu e = some k ∧ l.length + k.length ≤ 16777216 ∧ retN m (l ++ k) mu F) : rCatR x y H Q := by
  obtain ⟨l, k, h1, h2, hz, q⟩ := h
  obtain ⟨p, xs, rfl, e1, s1⟩ := r1.lv o h1
  obtain ⟨p2, ys, rfl, e2, s2⟩ := r2.lv o h2
  refine ⟨p, p2, xs, ys, rfl, rfl, e1, e2, ?_, fun b hb => kv.listN o hb (s1.append s2) q⟩
  rw [← s1.len, ← s2.len, sizeLine_eq]
  exact hz
theorem o_add {m : Nat} : OpS X (binaryOp .Add) (liftR X.K W (gAdd m)) := by
  refine ops_wk (ops_orr (opr_s op_add) (ops_orr (opr_s op_add_str) (ops_orr (opr_s op_catR) (opr_s op_catA)))) fun sg x y H Q ⟨mu, al, hd, d, e, P, F, o, r1, r2, hg, kv, kx⟩ => ?_
  unfold gAdd at hg
  split at hg
  · rename_i i
    cases e <;> try exact hg.elim
    rename_i j
    exact .inl ⟨i, j, r1.int_, r2.int_, kv.now o hg .int⟩
  · rename_i a
    cases e <;> try exact hg.elim
    rename_i b
    exact .inr (.inl ⟨a, b, r1.str_, r2.str_, by rw [sizeLine_eq]; exact hg.1, kv.now o hg.2 .str⟩)
  · rename_i l
    cases e <;> try exact hg.elim
    rename_i k
    obtain ⟨p, xs, rfl, n1, e1, s1⟩ := r1.tv rfl
    obtain ⟨p2, ys, rfl, n2, e2, s2⟩ := r2.tv rfl
    refine .inr (.inr (.inr ⟨p, p2, xs, ys, rfl, rfl, .inl (.inl e1), .inl (.inl e2), by rw [← s1.len, ← s2.len, sizeLine_eq]; exact hg.1, fun ex => ?_, fun _ ey => ?_, fun _ _ b hb => ?_⟩))
    · subst ex
      have hl : l = [] := List.length_eq_zero_iff.mp (by rw [s1.len] <;> rfl)
      subst hl
      exact kv.now o hg.2 (.tup ⟨n2, e2⟩ s2)
    · subst ey
      have hl : k = [] := List.length_eq_zero_iff.mp (by rw [s2.len] <;> rfl)
      subst hl
      have q := hg.2
      rw [List.append_nil] at q
      exact kv.now o q (.tup ⟨n1, e1⟩ s1)
    · exact kv.tupleN o hb (s1.append s2) hg.2
  · exact .inr (.inr (.inl (add_lists o r1 r2 kv hg)))
def rRepR : R2 := fun x y H Q => ∃ l k xs, x = .ref l ∧ y = .int k ∧ Rd H l (.lst xs) ∧ -(2 ^ 63) ≤ k ∧ k < 2 ^ 63 ∧ xs.length * k.toNat ≤ sizeLine ∧ ∀ p, H p = none → Q (.ref p) (upd H p (.lst (List.replicate k.toNat xs).flatten))
theorem op_repR : OpR X (binaryOp .Mult) rRepR := by
  intro pins s σ H x y v u Q I rx ry h
  obtain ⟨l, k, xs, rfl, rfl, hH, h1, h2, hz, q⟩ := h
  cases rx
  obtain ⟨t, rfl⟩ := ry
  obtain ⟨z, its, n, r, hl, e⟩ := Rd.lst I hH
  have hlen : its.toArray.size * k.toNat ≤ sizeLine := by rw [List.size_toArray, hl]; exact hz
  have hcap : ¬ its.toArray.size * k.toNat > (2 ^ 63 - 1) / 8 := by
    have hq : (sizeLine : Nat) ≤ (2 ^ 63 - 1) / 8 := by decide
    exact Nat.not_lt.mpr (Nat.le_trans hlen hq)
  have hfit : ¬ (!Builtin.List.listFitsIndex k) = true := by
    rw [fitsIndex_both h1 h2]
    exact Bool.false_ne_true
  have hlong : ¬ Builtin.List.listTooLong (its.toArray.size * k.toNat) = true := by
    rw [notLongL hlen]
    exact Bool.false_ne_true
  have f0 : ∀ m : Nat, List.foldl (fun x1 x2 => x1 ++ x2) #[] (List.replicate m its.toArray) = (List.replicate m its).flatten.toArray := fun m => by
    have := foldl_rep its m []
    rw [List.nil_append] at this
    exact this
  have hnew : List.foldl (fun x1 x2 => x1 ++ x2) #[] (List.replicate (if its.toArray.isEmpty = true then 0 else k.toNat) its.toArray) = (List.replicate k.toNat its).flatten.toArray := by
    rw [f0]
    cases its with
    | nil => simp
    | cons a b => rw [if_neg (by simp)]
  refine wpAny_binaryOp_repeat_ref (T := "list") (U := "int") (by decide) ⟨_, e, rfl⟩ (fun s' => typeIs_int s' k t) noFill_list_mul F.fills_int_mul F.slot_int_rmul repeat_list F.slot_int_index.lookup
    (call_meets F.slot_int_rmul (typeIs_int s k t) F.entry_int_rmul (F.args_int_rmul_2 _ _) (int___rmul___int_list k t l its.toArray n)
      ⟨e, rfl, ⟨_, e, rfl⟩, call_meets F.slot_list_mul ⟨_, e, rfl⟩ F.entry_list_mul (F.args_list_mul_2 _ _) (AutoListH.list___mul___list_int_3 l its.toArray n k t hfit hcap hlong) ⟨e, ?_⟩⟩)
  rw [hnew]
  exact ⟨.ref _, _, I.lnew (t' := s.toks) (r.rep k.toNat) (by rw [PyProof.Rows.lm_len_rep_flat, Nat.mul_comm]; exact hz), rfl, q _ I.fresh⟩
open AutoSeq1 (wpAny_loadPart') in
theorem tuple_mul1 (l : Addr) (items : Array Value) (n : Nat) (dd : Option Addr) (sl : Array (Option Value)) (u : Tok) :
    Meets (Builtin.«tuple.__mul__» ⟨[.ref l, .int 1 u], []⟩) (fun _ R s => s.heap.get? l = some { cls := .type "tuple", dict := dd, data := .seq items n, slots := sl } ∧ R (.ok (.ret (Value.ref l))) s) :=
  .of_wp fun prog w A R s h => by
    obtain ⟨hp, g, d, tk, os⟩ := s
    obtain ⟨hl, h⟩ := h
    have f1 := AutoSeq1.idx_int
    have c1 : (items.isEmpty || (1 : Int) == 1) = true := by simp
    wp_walk using wpAny_loadPart' hl
    exact ⟨_, rfl, h⟩
def rRep1 (K : PySem.W.Frag) : R2 := fun x y H Q => ∃ l xs, x = .ref l ∧ y = .int 1 ∧ SqT K H l xs ∧ Q (.ref l) H
theorem op_rep1 : OpR X (binaryOp .Mult) (rRep1 X.K) := by
  intro pins s σ H x y v u Q I rx ry h
  obtain ⟨l, xs, rfl, rfl, hT, q⟩ := h
  cases rx
  obtain ⟨t, rfl⟩ := ry
  obtain ⟨its, r, ⟨⟨cls, dd, data, sl⟩, ho, hc, n, hd⟩, hs⟩ := I.tuple hT
  simp only at hc hd
  subst hc hd
  exact wpAny_binaryOp_repeat_ref (T := "tuple") (U := "int") (by decide) ⟨_, ho, rfl⟩ (fun s' => typeIs_int s' 1 t) noFill_tuple_mul F.fills_int_mul F.slot_int_rmul repeat_tuple F.slot_int_index.lookup
    (call_meets F.slot_int_rmul (typeIs_int s 1 t) F.entry_int_rmul (F.args_int_rmul_2 _ _) (int_rmul_tuple 1 t l its.toArray n dd sl)
      ⟨ho, rfl, ⟨_, ho, rfl⟩, call_meets F.slot_tuple_mul ⟨_, ho, rfl⟩ F.entry_tuple_mul (F.args_tuple_mul_2 _ _) (tuple_mul1 l its.toArray n dd sl t) ⟨ho, .ref l, H, I, rfl, q⟩⟩)
def gMul (m : Nat) : G2 := fun x y mu _ F => match y with
  | .int j => (match x with
    | .int i => (((-(2 ^ 64) < i ∧ i < 2 ^ 64) ∨ (-(2 ^ 64) < j ∧ j < 2 ^ 64)) ∨ i.natAbs.log2 + j.natAbs.log2 < 1000000) ∧ F (.int (i * j)) mu
    | .tup l => l ≠ [] ∧ 1 ≤ j ∧ j ≤ 1000 ∧ l.length ≤ 1000 ∧ F (.tup (List.replicate j.toNat l).flatten) mu
    | x => ∃ l, lv mu x = some l ∧ -(2 ^ 63) ≤ j ∧ j < 2 ^ 63 ∧ l.length * j.toNat ≤ 16777216 ∧ retN m (List.replicate j.toNat l).flatten mu F)
  | _ => False
theorem RepL.rep {K : PySem.W.Frag} {al pt : List Addr} {H : Hp} {l : List D} {xs : List V} (r : RepL K al H pt l xs) : ∀ n : Nat, RepL K al H pt (List.replicate n l).flatten (List.replicate n xs).flatten
  | 0 => .nil
  | n + 1 => by
    rw [List.replicate_succ, List.replicate_succ, List.flatten_cons, List.flatten_cons]
    exact r.append (RepL.rep r n)
theorem o_mul {m : Nat} : OpS X (binaryOp .Mult) (liftR X.K W (gMul m)) := by
  refine ops_wk (ops_orr (opr_s op_mul) (ops_orr (opr_s op_mulW) (ops_orr (opr_s op_repR) (ops_orr (opr_s op_repT) (opr_s op_rep1))))) fun sg x y H Q ⟨mu, al, hd, d, e, P, F, o, r1, r2, hg, kv, kx⟩ => ?_
  unfold gMul at hg
  split at hg
  · rename_i j
    cases r2.int_
    split at hg
    · rename_i i
      rcases hg.1 with h | h
      · exact .inl ⟨i, j, r1.int_, rfl, h, kv.now o hg.2 .int⟩
      · exact .inr (.inl ⟨i, j, r1.int_, rfl, h, kv.now o hg.2 .int⟩)
    · rename_i l
      obtain ⟨h1, h2, h3, h4, h5⟩ := hg
      obtain ⟨p, xs, rfl, n1, e1, s1⟩ := r1.tv rfl
      by_cases hj : j = 1
      · subst hj
        refine .inr (.inr (.inr (.inr ⟨p, xs, rfl, rfl, .inl (.inl e1), ?_⟩)))
        have q : F (.tup l) mu := by
          have e : (List.replicate (1 : Int).toNat l).flatten = l := by simp
          rw [e] at h5
          exact h5
        exact kv.now o q (.tup ⟨n1, e1⟩ s1)
      · refine .inr (.inr (.inr (.inl ⟨p, j, xs, rfl, rfl, .inl (.inl e1), fun ex => h1 ?_, by omega, h3, by rw [← s1.len]; exact h4, fun b hb => kv.tupleN o hb (s1.rep _) h5⟩)))
        subst ex
        exact List.length_eq_zero_iff.mp (by rw [s1.len] <;> rfl)
    · obtain ⟨l, h1, h2, h3, h4, h5⟩ := hg
      obtain ⟨p, xs, rfl, e1, s1⟩ := r1.lv o h1
      exact .inr (.inr (.inl ⟨p, j, xs, rfl, rfl, e1, h2, h3, by rw [← s1.len, sizeLine_eq]; exact h4, fun b hb => kv.listN o hb (s1.rep _) h5⟩))
  · exact hg.elim
def dNeg (da : DE) : DE := fun ga mu P F => da ga mu P fun x mu1 => match x with
  | .int i => F (.int (-i)) mu1
  | _ => False
theorem d_neg {a : Expr} {da : DE} {pos : Pos} (ha : PE X a (liftE X.K W da)) : PE X (.UnaryOp .USub a pos) (liftE X.K W (dNeg da)) := by
  refine pe_wk (pe_un un_neg ha) fun sg H Q ⟨ga, mu, al, hd, P, F, a, h, kv, kx⟩ => ?_
  refine ⟨ga, mu, al, hd, P, _, a, h, ⟨fun d mu1 v H1 al1 h1 o1 g1 r1 => ?_⟩, kx⟩
  cases d <;> try exact h1.elim
  exact ⟨_, r1.int_, kv.go _ _ _ _ _ h1 o1 g1 .int⟩
end
end DL

/-! part DL4 -/
/-! DL4: tests, attributes, items, displays, calls of the text's own defs. -/
namespace DL
open PySem PySem.Spec PyProof.Rows L2
section
variable {X : Cx} {W : WX}
/-! ### tests -/
def szD (mu : Sto) : D → Option Nat
  | .tup l => some l.length
  | .lst l => some l.length
  | .ptr n => (match mu[n]? with
    | some (.lst l) => some l.length
    | some (.lsp l) => some l.length
    | some (.dic l) => some l.length
    | _ => none)
  | _ => none
theorem RepKV.len {κ : Type} {K : PySem.W.Frag} {hd : List Addr} {al : List Addr} {H : Hp} : ∀ {l : List (κ × D)} {xs : List (κ × V)}, RepKV K (al ++ hd) H l xs → l.length = xs.length
  | [], [], _ => rfl
  | (_, _) :: l, (_, _) :: xs, h => congrArg Nat.succ (RepKV.len h.2.2)
  | [], _ :: _, h => h.elim
  | _ :: _, [], h => h.elim
theorem Rep.sz {K : PySem.W.Frag} {hd : List Addr} {H : Hp} {mu : Sto} {al : List Addr} {d : D} {v : V} {n : Nat} (o : Okay K hd H mu al) (r : Rep K (al ++ hd) H al d v) (h : szD mu d = some n) :
    ∃ p, v = .ref p ∧ ((∃ xs, SqL K H p xs ∧ xs.length = n) ∨ (∃ xs, SqT K H p xs ∧ xs.length = n) ∨ ∃ kvs, H p = some (.dK kvs) ∧ kvs.length = n) := by
  cases r with
  | tup z r =>
    cases h
    exact ⟨_, rfl, .inr (.inl ⟨_, z.sq, r.len.symm⟩)⟩
  | lst z r =>
    cases h
    exact ⟨_, rfl, .inl ⟨_, z.sq, r.len.symm⟩⟩
  | ptr e =>
    rename_i j p
    refine ⟨_, rfl, ?_⟩
    unfold szD at h
    dsimp only at h
    cases q : mu[j]? with
    | none =>
      rw [q] at h
      cases h
    | some mo =>
      rw [q] at h
      cases mo with
      | lst l =>
        cases h
        obtain ⟨xs, e1, r⟩ := o.at_ j _ _ q e
        exact .inl ⟨xs, .inl (.inl e1), r.len.symm⟩
      | lsp l =>
        cases h
        obtain ⟨xs, e1, r⟩ := o.at_ j _ _ q e
        exact .inl ⟨xs, .inl (.inl e1), r.len.symm⟩
      | dic l =>
        cases h
        obtain ⟨xs, e1, r⟩ := o.at_ j _ _ q e
        exact .inr (.inr ⟨xs, e1, r.len.symm⟩)
      | _ => cases h
  | _ => cases h
theorem isEmpty_len {α : Type} (l : List α) : (!l.isEmpty) = (l.length != 0) := by cases l <;> rfl
def truK (x : D) (mu : Sto) (F : Bool → Sto → Prop) : Prop := match x with
  | .non => F false mu
  | .bl b => F b mu
  | .int i => F (i != 0) mu
  | .str y => y.length ≤ 16777216 ∧ F ((y.length : Int) != 0) mu
  | x => ∃ n, szD mu x = some n ∧ F (n != 0) mu
theorem tru_at {K : PySem.W.Frag} {hd : List Addr} {H : Hp} {mu : Sto} {al : List Addr} {d : D} {v : V} {F : Bool → Sto → Prop} (o : Okay K hd H mu al) (r : Rep K (al ++ hd) H al d v) (h : truK d mu F) : ∃ k, TruV K v H k ∧ F k mu := by
  unfold truK at h
  split at h
  · cases r.non_
    exact ⟨_, rfl, h⟩
  · cases r.bl_
    exact ⟨_, rfl, h⟩
  · cases r.int_
    exact ⟨_, rfl, h⟩
  · cases r.str_
    exact ⟨_, ⟨by rw [sizeLine_eq]; exact h.1, rfl⟩, h.2⟩
  · obtain ⟨n, h1, h2⟩ := h
    obtain ⟨p, rfl, q⟩ := r.sz o h1
    refine ⟨_, ?_, h2⟩
    rcases q with ⟨xs, s, e⟩ | ⟨xs, s, e⟩ | ⟨xs, s, e⟩
    · exact .inl ⟨xs, s, by rw [isEmpty_len, e]⟩
    · exact .inr (.inl ⟨xs, s, by rw [isEmpty_len, e]⟩)
    · exact .inr (.inr ⟨xs, s, by rw [isEmpty_len, e]⟩)
def dTru (de : DE) : DB := fun ga mu P F => de ga mu P fun x mu1 => truK x mu1 F
theorem d_tru {e : Expr} {de : DE} (h : PE X e (liftE X.K W de)) (he : ∀ whole, isTrue e X.env whole = (do let v ← whole; standAt e.pos; holding [v] (truthy v)) := by intro _; rfl) : PT X e (liftB X.K W (dTru de)) := by
  refine pt_wk (pt_truth h he) fun sg H Q ⟨ga, mu, al, hd, P, F, a, h, kb, kx⟩ => ?_
  exact ⟨ga, mu, al, hd, P, _, a, h, ⟨fun d mu1 v H1 al1 h1 o1 g1 r1 => by
    obtain ⟨k, t, q⟩ := tru_at o1 r1 h1
    exact ⟨k, t, kb.go _ _ _ _ q o1 g1⟩⟩, kx⟩
/-- a comparison as a test -/
def dCT (g : G2) (da db : DE) : DB := fun ga mu P F => dBin g da db ga mu P fun x mu1 => match x with
  | .bl b => F b mu1
  | _ => False
theorem d_cmpT {op : CmpOp} {g : G2} {a b : Expr} {da db : DE} {pos : Pos} (ho : OpS X (compareOp op) (liftR X.K W g)) (ha : PE X a (liftE X.K W da)) (hb : PE X b (liftE X.K W db)) (hm : behindInMarks op b = false := by first | exact nomark _ | with_unfolding_all rfl) : PT X (.Compare a [op] [b] pos) (liftB X.K W (dCT g da db)) := by
  refine ⟨fun pins s sg H Q I ⟨ga, mu, al, hd, P, F, at_, h, kb, kx⟩ => ?_⟩
  have h' : liftE X.K W (dBin g da db) sg H (fun x H1 => ∃ k, x = .bl k ∧ Q k H1) := ⟨ga, mu, al, hd, P, _, at_, h, ⟨fun d mu1 v H1 al1 h1 o1 g1 r1 => by
    cases d <;> try exact h1.elim
    exact ⟨_, r1.bl_, kb.go _ _ _ _ h1 o1 g1⟩⟩, kx⟩
  refine wpAny_isTrue_Compare1 (thn (ha.run pins s sg H _ I (bin_ok h')) fun v s1 ⟨x, H1, I1, r1, q1⟩ => thn (hb.run pins s1 sg H1 _ I1 q1) fun u s2 ⟨y, H2, I2, r2, q2⟩ =>
    thn (ho pins s2 sg H2 x y v u _ I2 r1 r2 q2) fun c s3 ⟨z, H3, I3, r3, k, e, q3⟩ => ?_) hm
  subst e
  cases r3
  exact wpAny_truthy_bool ⟨H3, I3, q3⟩
def dNot (t : DB) : DB := fun ga mu P F => t ga mu P fun b mu1 => F (!b) mu1
theorem d_not {a : Expr} {t : DB} {pos : Pos} (h : PT X a (liftB X.K W t)) : PT X (.UnaryOp .Not a pos) (liftB X.K W (dNot t)) :=
  pt_wk (pt_not h) fun sg H Q ⟨ga, mu, al, hd, P, F, a, h, kb, kx⟩ => ⟨ga, mu, al, hd, P, _, a, h, ⟨fun b mu1 H1 al1 h1 o1 g1 => kb.go _ _ _ _ h1 o1 g1⟩, kx⟩
def dAnd (t u : DB) : DB := fun ga mu P F => t ga mu P fun b mu1 => if b = true then u ga mu1 P F else F false mu1
def dOr (t u : DB) : DB := fun ga mu P F => t ga mu P fun b mu1 => if b = true then F true mu1 else u ga mu1 P F
theorem d_and1 {a : Expr} {t : DB} {pos : Pos} (h : PT X a (liftB X.K W t)) : PW X (.BoolOp .And [a] pos) (liftB X.K W t) := pw_and1 h
theorem d_or1 {a : Expr} {t : DB} {pos : Pos} (h : PT X a (liftB X.K W t)) : PW X (.BoolOp .Or [a] pos) (liftB X.K W t) := pw_or1 h
theorem d_and {a b : Expr} {rest : List Expr} {t u : DB} {pos : Pos} (h : PT X a (liftB X.K W t)) (h2 : PW X (.BoolOp .And (b :: rest) pos) (liftB X.K W u)) : PW X (.BoolOp .And (a :: b :: rest) pos) (liftB X.K W (dAnd t u)) :=
  pw_wk (pw_and h h2) fun sg H Q ⟨ga, mu, al, hd, P, F, a, h, kb, kx⟩ => ⟨ga, mu, al, hd, P, _, a, h, ⟨fun b mu1 H1 al1 h1 o1 g1 => by
    cases b with
    | true => exact ⟨ga, mu1, al1, hd, P, F, a.to o1 g1, h1, kb.to g1, kx.to g1⟩
    | false => exact kb.go _ _ _ _ h1 o1 g1⟩, kx⟩
theorem d_or {a b : Expr} {rest : List Expr} {t u : DB} {pos : Pos} (h : PT X a (liftB X.K W t)) (h2 : PW X (.BoolOp .Or (b :: rest) pos) (liftB X.K W u)) : PW X (.BoolOp .Or (a :: b :: rest) pos) (liftB X.K W (dOr t u)) :=
  pw_wk (pw_or h h2) fun sg H Q ⟨ga, mu, al, hd, P, F, a, h, kb, kx⟩ => ⟨ga, mu, al, hd, P, _, a, h, ⟨fun b mu1 H1 al1 h1 o1 g1 => by
    cases b with
    | false => exact ⟨ga, mu1, al1, hd, P, F, a.to o1 g1, h1, kb.to g1, kx.to g1⟩
    | true => exact kb.go _ _ _ _ h1 o1 g1⟩, kx⟩
/-- and, or as values -/
def dAndV (da db : DE) : DE := fun ga mu P F => da ga mu P fun x mu1 => truK x mu1 fun k mu2 => if k = true then db ga mu2 P F else F x mu2
def dOrV (da db : DE) : DE := fun ga mu P F => da ga mu P fun x mu1 => truK x mu1 fun k mu2 => if k = true then F x mu2 else db ga mu2 P F
theorem d_andV {a b : Expr} {rest : List Expr} {da db : DE} {pos : Pos} (h : PE X a (liftE X.K W da)) (h2 : PE X (.BoolOp .And (b :: rest) pos) (liftE X.K W db)) : PE X (.BoolOp .And (a :: b :: rest) pos) (liftE X.K W (dAndV da db)) :=
  pe_wk (pe_andT h h2) fun sg H Q ⟨ga, mu, al, hd, P, F, a, h, kv, kx⟩ => ⟨ga, mu, al, hd, P, _, a, h, ⟨fun d mu1 v H1 al1 h1 o1 g1 r1 => by
    obtain ⟨k, t, q⟩ := tru_at o1 r1 h1
    refine ⟨k, t, ?_⟩
    cases k with
    | true => exact ⟨ga, mu1, al1, hd, P, F, a.to o1 g1, q, kv.to g1, kx.to g1⟩
    | false => exact kv.go _ _ _ _ _ q o1 g1 r1⟩, kx⟩
theorem d_orV {a b : Expr} {rest : List Expr} {da db : DE} {pos : Pos} (h : PE X a (liftE X.K W da)) (h2 : PE X (.BoolOp .Or (b :: rest) pos) (liftE X.K W db)) : PE X (.BoolOp .Or (a :: b :: rest) pos) (liftE X.K W (dOrV da db)) :=
  pe_wk (pe_orT h h2) fun sg H Q ⟨ga, mu, al, hd, P, F, a, h, kv, kx⟩ => ⟨ga, mu, al, hd, P, _, a, h, ⟨fun d mu1 v H1 al1 h1 o1 g1 r1 => by
    obtain ⟨k, t, q⟩ := tru_at o1 r1 h1
    refine ⟨k, t, ?_⟩
    cases k with
    | false => exact ⟨ga, mu1, al1, hd, P, F, a.to o1 g1, q, kv.to g1, kx.to g1⟩
    | true => exact kv.go _ _ _ _ _ q o1 g1 r1⟩, kx⟩
theorem d_one {op : BoolOp} {a : Expr} {da : DE} {pos : Pos} (h : PE X a (liftE X.K W da)) : PE X (.BoolOp op [a] pos) (liftE X.K W da) := pe_one h
def dNotV (da : DE) : DE := fun ga mu P F => da ga mu P fun x mu1 => truK x mu1 fun k mu2 => F (.bl (!k)) mu2
theorem d_notV {a : Expr} {da : DE} {pos : Pos} (h : PE X a (liftE X.K W da)) : PE X (.UnaryOp .Not a pos) (liftE X.K W (dNotV da)) :=
  pe_wk (pe_notT h) fun sg H Q ⟨ga, mu, al, hd, P, F, a, h, kv, kx⟩ => ⟨ga, mu, al, hd, P, _, a, h, ⟨fun d mu1 v H1 al1 h1 o1 g1 r1 => by
    obtain ⟨k, t, q⟩ := tru_at o1 r1 h1
    exact ⟨k, t, kv.go _ _ _ _ _ q o1 g1 .bl⟩⟩, kx⟩
def dIf (t : DB) (da db : DE) : DE := fun ga mu P F => t ga mu P fun b mu1 => if b = true then da ga mu1 P F else db ga mu1 P F
theorem d_ifExp {c a b : Expr} {t : DB} {da db : DE} {pos : Pos} (h : PT X c (liftB X.K W t)) (ha : PE X a (liftE X.K W da)) (hb : PE X b (liftE X.K W db)) : PE X (.IfExp c a b pos) (liftE X.K W (dIf t da db)) :=
  pe_wk (pe_ifExp h ha hb) fun sg H Q ⟨ga, mu, al, hd, P, F, a, h, kv, kx⟩ => ⟨ga, mu, al, hd, P, _, a, h, ⟨fun b mu1 H1 al1 h1 o1 g1 => by
    cases b with
    | true => exact ⟨ga, mu1, al1, hd, P, F, a.to o1 g1, h1, kv.to g1, kx.to g1⟩
    | false => exact ⟨ga, mu1, al1, hd, P, F, a.to o1 g1, h1, kv.to g1, kx.to g1⟩⟩, kx⟩
/-- a op b op' c -/
def dChain (g g' : G2) (da db dc : DE) : DE := fun ga mu P F => da ga mu P fun x mu1 => db ga mu1 P fun y mu2 => g x y mu2 P fun z mu3 => match z with
  | .bl k => if k = true then dc ga mu3 P fun w mu4 => g' y w mu4 P F else F (.bl false) mu3
  | _ => False
def tChainS (r r' : L2.St → R2) (ta tb tc : TE) : TE := fun sg H Q => ta sg H fun x H1 => tb sg H1 fun y H2 => r sg x y H2 fun z H3 => ∃ k, z = .bl k ∧ (if k = true then tc sg H3 fun w' H4 => r' sg y w' H4 Q else Q (.bl false) H3)
theorem pe_chainS {op op' : CmpOp} {r r' : L2.St → R2} {a b c : Expr} {ta tb tc : TE} {pos : Pos} (ho : OpS X (compareOp op) r) (ho' : OpS X (compareOp op') r') (ha : PE X a ta) (hb : PE X b tb) (hc : PE X c tc)
    (hm : lastMarks [op, op'] [b, c] = false := by with_unfolding_all rfl) : PE X (.Compare a [op, op'] [b, c] pos) (tChainS r r' ta tb tc) := by
  refine ⟨fun pins s σ H Q I h => ?_⟩
  refine Compare_chain (thn (ha.run pins s σ H _ I h) fun v s1 ⟨x, H1, I1, r1, q1⟩ => chain_link (thn (hb.run pins s1 σ H1 _ I1 q1) fun u s2 ⟨y, H2, I2, r2, q2⟩ =>
    thn (ho pins s2 σ H2 x y v u _ I2 r1 r2 q2) fun d s3 ⟨z, H3, I3, r3, k, e, q3⟩ => ?_)) hm
  subst e
  cases r3
  refine wpAny_truthy_bool ?_
  cases k with
  | false => exact ite_ff ⟨.bl false, H3, I3, rfl, q3⟩
  | true => exact ite_tt (chain_last (thn (hc.run pins s3 σ H3 _ I3 q3) fun w' s4 ⟨z', H4, I4, r4, q4⟩ => ho' pins s4 σ H4 y z' u w' Q I4 r2 r4 q4))
theorem pt_chainS {op op' : CmpOp} {r r' : L2.St → R2} {a b c : Expr} {ta tb tc : TE} {pos : Pos} (ho : OpS X (compareOp op) r) (ho' : OpS X (compareOp op') r') (ha : PE X a ta) (hb : PE X b tb) (hc : PE X c tc)
    (hm : lastMarks [op, op'] [b, c] = false := by with_unfolding_all rfl) : PT X (.Compare a [op, op'] [b, c] pos) (tTest (tChainS r r' ta tb tc)) := by
  refine ⟨fun pins s σ H Q I h => ?_⟩
  refine isTrue_chain (thn (ha.run pins s σ H _ I h) fun v s1 ⟨x, H1, I1, r1, q1⟩ => test_link (thn (hb.run pins s1 σ H1 _ I1 q1) fun u s2 ⟨y, H2, I2, r2, q2⟩ =>
    thn (ho pins s2 σ H2 x y v u _ I2 r1 r2 q2) fun d s3 ⟨z, H3, I3, r3, k, e, q3⟩ => ?_)) hm
  subst e
  cases r3
  refine wpAny_truthy_bool ?_
  cases k with
  | false =>
    obtain ⟨k', e', q'⟩ := q3
    cases e'
    exact ite_ff ⟨H3, I3, q'⟩
  | true =>
    refine ite_tt (test_last (thn (hc.run pins s3 σ H3 _ I3 q3) fun w' s4 ⟨z', H4, I4, r4, q4⟩ => thn (ho' pins s4 σ H4 y z' u w' _ I4 r2 r4 q4) fun c' s5 ⟨z2, H5, I5, r5, k2, e2, q5⟩ => ?_))
    subst e2
    cases r5
    exact wpAny_truthy_bool ⟨H5, I5, q5⟩
theorem chain_ok {K : PySem.W.Frag} {g g' : G2} {da db dc : DE} {sg : L2.St} {H : Hp} {Q : VK} (h : liftE K W (dChain g g' da db dc) sg H Q) : tChainS (liftR K W g) (liftR K W g') (liftE K W da) (liftE K W db) (liftE K W dc) sg H Q := by
  obtain ⟨ga, mu, al, hd, P, F, a, h, kv, kx⟩ := h
  exact ⟨ga, mu, al, hd, P, _, a, h, ⟨fun d mu1 v H1 al1 h1 o1 g1 r1 => ⟨ga, mu1, al1, hd, P, _, a.to o1 g1, h1, ⟨fun e mu2 u H2 al2 h2 o2 g2 r2 => ⟨mu2, al2, hd, d, e, P, _, o2, r1.go g2 g2.pre, r2, h2, ⟨fun z mu3 w H3 al3 h3 o3 g3 r3 => by
    cases z <;> try exact h3.elim
    rename_i k
    refine ⟨k, r3.bl_, ?_⟩
    have g13 := (g1.trans g2).trans g3
    cases k with
    | false => exact kv.go _ _ _ _ _ h3 o3 g13 .bl
    | true => exact ⟨ga, mu3, al3, hd, P, _, a.to o3 g13, h3, ⟨fun f mu4 t H4 al4 h4 o4 g4 r4 => ⟨mu4, al4, hd, e, f, P, F, o4, (r2.go g3 g3.pre).go g4 g4.pre, r4, h4, kv.to (g13.trans g4), kx.to (g13.trans g4)⟩⟩, kx.to g13⟩⟩, kx.to (g1.trans g2)⟩⟩, kx.to g1⟩⟩, kx⟩
theorem d_chain {op op' : CmpOp} {g g' : G2} {a b c : Expr} {da db dc : DE} {pos : Pos} (ho : OpS X (compareOp op) (liftR X.K W g)) (ho' : OpS X (compareOp op') (liftR X.K W g')) (ha : PE X a (liftE X.K W da)) (hb : PE X b (liftE X.K W db)) (hc : PE X c (liftE X.K W dc))
    (hm : lastMarks [op, op'] [b, c] = false := by with_unfolding_all rfl) : PE X (.Compare a [op, op'] [b, c] pos) (liftE X.K W (dChain g g' da db dc)) :=
  pe_wk (pe_chainS ho ho' ha hb hc hm) fun _ _ _ h => chain_ok h
def dTest (de : DE) : DB := fun ga mu P F => de ga mu P fun x mu1 => match x with
  | .bl b => F b mu1
  | _ => False
theorem d_chainT {op op' : CmpOp} {g g' : G2} {a b c : Expr} {da db dc : DE} {pos : Pos} (ho : OpS X (compareOp op) (liftR X.K W g)) (ho' : OpS X (compareOp op') (liftR X.K W g')) (ha : PE X a (liftE X.K W da)) (hb : PE X b (liftE X.K W db)) (hc : PE X c (liftE X.K W dc))
    (hm : lastMarks [op, op'] [b, c] = false := by with_unfolding_all rfl) : PT X (.Compare a [op, op'] [b, c] pos) (liftB X.K W (dTest (dChain g g' da db dc))) :=
  pt_wk (pt_chainS ho ho' ha hb hc hm) fun sg H Q ⟨ga, mu, al, hd, P, F, a, h, kb, kx⟩ => chain_ok (⟨ga, mu, al, hd, P, _, a, h, ⟨fun d mu1 v H1 al1 h1 o1 g1 r1 => by
    cases d <;> try exact h1.elim
    exact ⟨_, r1.bl_, kb.go _ _ _ _ h1 o1 g1⟩⟩, kx⟩ : liftE X.K W (dChain g g' da db dc) sg H fun x H1 => ∃ k, x = .bl k ∧ Q k H1)
/-! ### attributes -/
/-- where a field stands among a class's fields -/
structure FldT (f : Str) (ix : Nat → Option Nat) : Prop where
  ok : ∀ c k, ix c = some k → (fn c)[k]? = some f ∧ (fn c).Nodup
theorem zip_lookup {f : Str} : ∀ {ns : List Str} {xs : List V} {k : Nat} {v : V}, ns.Nodup → ns[k]? = some f → xs[k]? = some v → (ns.zip xs).lookup f = some v
  | [], _, k, _, _, h, _ => by simp at h
  | _ :: _, [], k, _, _, _, h => by simp at h
  | n :: ns, x :: xs, 0, v, hn, h, e => by
    simp at h e
    subst h e
    rw [List.zip_cons_cons, lookup_put, if_pos rfl]
  | n :: ns, x :: xs, k + 1, v, hn, h, e => by
    have h' : ns[k]? = some f := by simpa using h
    have hne : f ≠ n := fun z => by
      subst z
      exact (List.nodup_cons.mp hn).1 (List.mem_of_getElem? h')
    rw [List.zip_cons_cons, lookup_put, if_neg hne]
    exact zip_lookup (List.nodup_cons.mp hn).2 h' (by simpa using e)
def fldK (ix : Nat → Option Nat) (c : Nat) (l : List D) (mu : Sto) (F : KD) : Prop := match ix c with
  | some k => (match l[k]? with
    | some d => F d mu
    | none => False)
  | none => False
def dFld (ix : Nat → Option Nat) (de : DE) : DE := fun ga mu P F => de ga mu P fun x mu1 => match x with
  | .obj c l => fldK ix c l mu1 F
  | .ptr n => (match mu1[n]? with
    | some (.ins c l) => fldK ix c l mu1 F
    | _ => False)
  | _ => False
theorem d_fld {ix : Nat → Option Nat} {e : Expr} {f : Str} {de : DE} {pos : Pos} (T : FldT f ix) (he : PE X e (liftE X.K W de)) (hb : attributeBase e f X.env (eval e X.env) = eval e X.env := by rfl) : PE X (.Attribute e f pos) (liftE X.K W (dFld ix de)) := by
  refine pe_wk (pe_fld he hb) fun sg H Q ⟨ga, mu, al, hd, P, F, a, h, kv, kx⟩ => ?_
  have key : ∀ {c : Nat} {l : List D} {xs : List V} {pt : List Addr} {mu1 : Sto} {H1 : Hp} {al1 : List Addr} {p dx : Addr}, Okay X.K hd H1 mu1 al1 → Go hd H al H1 al1 → fldK ix c l mu1 F → Pre pt al1 → RepL X.K (al1 ++ hd) H1 pt l xs → ClsOk X.K c → H1 p = some (.ins (He.ga X.K (cn c)) dx (fz c xs)) →
      ∃ a C dx fs v, V.ref p = .ref a ∧ H1 a = some (.ins C dx fs) ∧ Cls X.K C ∧ NoAttr X.K C f ∧ fs.lookup f = some v ∧ Q v H1 := fun {c l xs pt mu1 H1 al1 p dx} o1 g1 h1 hp r ck e => by
    unfold fldK at h1
    cases q : ix c with
    | none =>
      rw [q] at h1
      exact h1.elim
    | some k =>
      rw [q] at h1
      obtain ⟨t3, t4⟩ := T.ok c k q
      have t1 := ck.1
      have t2 := ck.2 f (List.mem_of_getElem? t3)
      cases q2 : l[k]? with
      | none =>
        simp only [q2] at h1
      | some d =>
        simp only [q2] at h1
        obtain ⟨v, hv, rv⟩ := r.at_ q2
        exact ⟨p, _, dx, _, v, rfl, e, t1, t2, zip_lookup t4 t3 hv, kv.go _ _ _ _ _ h1 o1 g1 (Rep.fz (Go.refl _ _).frz hp rv)⟩
  refine ⟨ga, mu, al, hd, P, _, a, h, ⟨fun d mu1 v H1 al1 h1 o1 g1 r1 => ?_⟩, kx⟩
  cases r1 with
  | obj n e z r => exact key o1 g1 h1 (Pre.nil _) r z.2 e
  | ptr e =>
    rename_i j p
    have h2 : (match mu1[j]? with
      | some (.ins c l) => fldK ix c l mu1 F
      | _ => False) := h1
    cases q : mu1[j]? with
    | none =>
      rw [q] at h2
      exact h2.elim
    | some mo =>
      rw [q] at h2
      cases mo with
      | ins c l =>
        obtain ⟨dx, xs, e1, r, z⟩ := o1.at_ j _ _ q e
        exact key o1 g1 h2 (Pre.refl _) r z.2 e1
      | _ => exact h2.elim
  | _ => exact h1.elim
end
end DL

/-! part DL5 -/
/-! DL5: displays, items, slices, calls. -/
namespace DL
open PySem PySem.Spec PyProof.Rows L2
section
variable {K : PySem.W.Frag} {hd : List Addr} {W : WX} {sg : L2.St} {H : Hp} {Q Q' : VK}
theorem liftE_mono {de : DE} (h : liftE K W de sg H Q) (k : ∀ v H', Q v H' → Q' v H') : liftE K W de sg H Q' := by
  obtain ⟨ga, mu, al, hd, P, F, a, h, kv, kx⟩ := h
  exact ⟨ga, mu, al, hd, P, F, a, h, ⟨fun d mu' v H' al' e o g r => k _ _ (kv.go d mu' v H' al' e o g r)⟩, kx⟩
theorem op_wk {g : G2} {r : R2} {da db : DE} (k : ∀ x y H', liftR K W g sg x y H' Q → r x y H' Q) (h : liftE K W (dBin g da db) sg H Q) : tOp r (liftE K W da) (liftE K W db) sg H Q :=
  liftE_mono (bin_ok h) fun x H1 h1 => liftE_mono h1 fun y H2 h2 => k x y H2 h2
end
section
variable {X : Cx} {W : WX}
/-! ### argument lists, displays -/
def dNil : DA := fun _ mu _ F => F [] mu
def dCons (da : DE) (dr : DA) : DA := fun ga mu P F => da ga mu P fun x mu1 => dr ga mu1 P fun xs mu2 => F (x :: xs) mu2
theorem da_nil : PA X [] (liftA X.K W dNil) := pa_wk pa_nil fun sg H Q ⟨ga, mu, al, hd, P, F, a, h, kl, kx⟩ => kl.go _ _ _ _ _ h a.ok (Go.refl _ _) .nil
theorem da_cons {e : Expr} {es : List Expr} {da : DE} {dr : DA} (ha : PE X e (liftE X.K W da)) (hr : PA X es (liftA X.K W dr)) (hs : starEach (e :: es) X.env = (false, eval e X.env) :: starEach es X.env := by rfl) : PA X (e :: es) (liftA X.K W (dCons da dr)) :=
  pa_wk (pa_cons ha hr hs) fun sg H Q ⟨ga, mu, al, hd, P, F, a, h, kl, kx⟩ => ⟨ga, mu, al, hd, P, _, a, h, ⟨fun d mu1 v H1 al1 h1 o1 g1 r1 => ⟨ga, mu1, al1, hd, P, _, a.to o1 g1, h1, ⟨fun ds mu2 vs H2 al2 h2 o2 g2 r2 =>
    kl.go _ _ _ _ _ h2 o2 (g1.trans g2) (.cons (r1.go g2 g2.pre) r2)⟩, kx.to g1⟩⟩, kx⟩
def dTup (da : DA) : DE := fun ga mu P F => da ga mu P fun xs mu1 => (xs.length ≤ 16777216 ∧ npL xs) ∧ F (.tup xs) mu1
theorem d_tup {es : List Expr} {x1} {da : DA} {pos : Pos} (h : PA X es (liftA X.K W da)) : PE X (.Tuple es x1 pos) (liftE X.K W (dTup da)) :=
  pe_wk (pe_tup h) fun sg H Q ⟨ga, mu, al, hd, P, F, a, h, kv, kx⟩ => ⟨ga, mu, al, hd, P, _, a, h, ⟨fun ds mu1 vs H1 al1 h1 o1 g1 r1 => ⟨by rw [← r1.len, sizeLine_eq]; exact h1.1.1, fun p hp => (kv.to g1).tupleN o1 hp (r1.np h1.1.2) h1.2⟩⟩, kx⟩
def dLst (m : Nat) (da : DA) : DE := fun ga mu P F => da ga mu P fun xs mu1 => xs.length ≤ 16777216 ∧ retL m xs mu1 F
theorem d_lst (m : Nat) {es : List Expr} {da : DA} {pos : Pos} (h : PA X es (liftA X.K W da)) : PE X (.List es pos) (liftE X.K W (dLst m da)) :=
  pe_wk (pe_lst h) fun sg H Q ⟨ga, mu, al, hd, P, F, a, h, kv, kx⟩ => ⟨ga, mu, al, hd, P, _, a, h, ⟨fun ds mu1 vs H1 al1 h1 o1 g1 r1 => ⟨by rw [← r1.len, sizeLine_eq]; exact h1.1, fun p hp => (kv.to g1).list o1 hp r1 h1.2⟩⟩, kx⟩
/-! ### items -/
theorem RepL.atI {K : PySem.W.Frag} {al pt : List Addr} {H : Hp} {l : List D} {xs : List V} {i : Int} {d : D} (r : RepL K al H pt l xs) (h : L2.atI l i = some d) : ∃ v, L2.atI xs i = some v ∧ Rep K al H pt d v := by
  unfold L2.atI at h ⊢
  rw [r.len] at h
  cases q : ixN xs.length i with
  | none =>
    rw [q] at h
    cases h
  | some j =>
    rw [q] at h
    exact r.at_ h
/-- the items of a list or tuple, pointers too -/
def pv_ (mu : Sto) : D → Option (List D)
  | .tup l => some l
  | .lst l => some l
  | .ptr n => (match mu[n]? with
    | some (.lst l) => some l
    | some (.lsp l) => some l
    | _ => none)
  | _ => none
theorem Rep.pv_ {K : PySem.W.Frag} {hd : List Addr} {H : Hp} {mu : Sto} {al : List Addr} {d : D} {v : V} {l : List D} (o : Okay K hd H mu al) (r : Rep K (al ++ hd) H al d v) (h : pv_ mu d = some l) : ∃ p xs, v = .ref p ∧ (SqL K H p xs ∨ SqT K H p xs) ∧ RepL K (al ++ hd) H al l xs := by
  cases r with
  | tup z r =>
    cases h
    exact ⟨_, _, rfl, .inr z.sq, r.fz (Go.refl _ _).frz (Pre.nil _)⟩
  | lst z r =>
    cases h
    exact ⟨_, _, rfl, .inl z.sq, r.fz (Go.refl _ _).frz (Pre.nil _)⟩
  | ptr e =>
    rename_i j p
    unfold DL.pv_ at h
    dsimp only at h
    cases q : mu[j]? with
    | none =>
      rw [q] at h
      cases h
    | some mo =>
      rw [q] at h
      cases mo with
      | lst l =>
        cases h
        obtain ⟨xs, e1, r⟩ := o.at_ j _ _ q e
        exact ⟨p, xs, rfl, .inl (.inl (.inl e1)), r.fz (Go.refl _ _).frz (Pre.nil _)⟩
      | lsp l =>
        cases h
        obtain ⟨xs, e1, r⟩ := o.at_ j _ _ q e
        exact ⟨p, xs, rfl, .inl (.inl (.inl e1)), r⟩
      | _ => cases h
  | _ => cases h
def gIx : G2 := fun x y mu _ F => match y with
  | .int i => (match x with
    | .str z => z.length ≤ 16777216 ∧ (match L2.atI z.cps.toList i with
      | some c => F (.str ⟨#[c]⟩) mu
      | none => False)
    | x => (match pv_ mu x with
      | some l => (match L2.atI l i with
        | some d => F d mu
        | none => False)
      | none => False))
  | _ => False
theorem d_ix {a b : Expr} {da db : DE} {pos : Pos} (ha : PE X a (liftE X.K W da)) (hb : PE X b (liftE X.K W db)) (hs : PlainIx b := by exact fun _ _ => rfl) : PE X (.Subscript a b pos) (liftE X.K W (dBin gIx da db)) := by
  refine pe_wk (pe_ix ix_seq ha hb hs) fun sg H Q h => op_wk (fun x y H' ⟨mu, al, hd, d, e, P, F, o, r1, r2, hg, kv, kx⟩ => ?_) h
  unfold gIx at hg
  split at hg
  · rename_i i
    have e2 := r2.int_
    subst e2
    split at hg
    · rename_i z
      have e1 := r1.str_
      subst e1
      obtain ⟨hz, hg⟩ := hg
      cases q : L2.atI z.cps.toList i with
      | none => simp only [q] at hg
      | some c =>
        simp only [q] at hg
        exact .inr (.inr ⟨z, i, c, rfl, rfl, by rw [sizeLine_eq]; exact hz, q, kv.now o hg .str⟩)
    · cases q : pv_ mu d with
      | none => simp only [q] at hg
      | some l =>
        simp only [q] at hg
        cases q2 : L2.atI l i with
        | none => simp only [q2] at hg
        | some c =>
          simp only [q2] at hg
          obtain ⟨p, xs, rfl, s, r⟩ := r1.pv_ o q
          obtain ⟨v, ev, rv⟩ := r.atI q2
          rcases s with s | s
          · exact .inl ⟨p, xs, i, v, rfl, rfl, s, ev, kv.now o hg rv⟩
          · exact .inr (.inl ⟨p, xs, i, v, rfl, rfl, s, ev, kv.now o hg rv⟩)
  · exact hg.elim
/-! ### slices -/
abbrev DO := Gam → Sto → KX → (Option Int → Sto → Prop) → Prop
def liftO (K : PySem.W.Frag) (W : WX) (de : DO) : TO := fun sg H Q => ∃ (ga : Gam) (mu : Sto) (al hd : List Addr) (P : KX) (F : Option Int → Sto → Prop), At K hd ga mu al sg H ∧ de ga mu P F ∧ (∀ o mu' H' al', F o mu' → Okay K hd H' mu' al' → Go hd H al H' al' → Q o H') ∧ Kx K hd (fun c d h => W c d sg h) H al P
theorem po_wk {e : Option Expr} {t t' : TO} (h : PO X e t) (k : ∀ sg H Q, t' sg H Q → t sg H Q) : PO X e t' := ⟨fun pins s sg H Q I q => h.run pins s sg H Q I (k _ _ _ q)⟩
def dNoPart : DO := fun _ mu _ F => F none mu
def dPart (de : DE) : DO := fun ga mu P F => de ga mu P fun x mu1 => match x with
  | .int i => F (some i) mu1
  | _ => False
theorem do_none : PO X none (liftO X.K W dNoPart) := po_wk po_none fun sg H Q ⟨ga, mu, al, hd, P, F, a, h, kv, kx⟩ => kv _ _ _ _ h a.ok (Go.refl _ _)
theorem do_some {e : Expr} {de : DE} (h : PE X e (liftE X.K W de)) : PO X (some e) (liftO X.K W (dPart de)) := po_wk (po_some h) fun sg H Q ⟨ga, mu, al, hd, P, F, a, h, kv, kx⟩ => ⟨ga, mu, al, hd, P, _, a, h, ⟨fun d mu1 v H1 al1 h1 o1 g1 r1 => by
  cases d <;> try exact h1.elim
  exact ⟨_, r1.int_, kv _ _ _ _ h1 o1 g1⟩⟩, kx⟩
def cutD (xs : List D) (lo hi : Option Int) : List D := (xs.drop (HT.sIx xs.length 0 lo)).take (HT.sIx xs.length xs.length hi - HT.sIx xs.length 0 lo)
theorem RepL.cut {K : PySem.W.Frag} {al pt : List Addr} {H : Hp} {l : List D} {xs : List V} (r : RepL K al H pt l xs) (lo hi : Option Int) : RepL K al H pt (cutD l lo hi) (cutV xs lo hi) := by
  unfold cutD cutV
  rw [r.len]
  exact (r.drop _).take _
def dSlice (m : Nat) (de : DE) (dl dh : DO) : DE := fun ga mu P F => de ga mu P fun x mu1 => dl ga mu1 P fun lo mu2 => dh ga mu2 P fun hi mu3 => match x with
  | .str z => z.length ≤ 16777216 ∧ F (.str (cutS z lo hi)) mu3
  | .tup l => F (.tup (cutD l lo hi)) mu3
  | x => ∃ l, lv mu3 x = some l ∧ retN m (cutD l lo hi) mu3 F
theorem SlR.orr {r r' : V → Option Int → Option Int → Hp → VK → Prop} (h : SlR X r) (h' : SlR X r') : SlR X (fun x lo hi H Q => r x lo hi H Q ∨ r' x lo hi H Q) := fun pins s sg H x v vl vu lo hi sl Q I rx hs pl pu q =>
  q.elim (h pins s sg H x v vl vu lo hi sl Q I rx hs pl pu) (h' pins s sg H x v vl vu lo hi sl Q I rx hs pl pu)
theorem d_slice (m : Nat) {e : Expr} {lo hi : Option Expr} {de : DE} {dl dh : DO} {pos p2 : Pos} (he : PE X e (liftE X.K W de)) (hl : PO X lo (liftO X.K W dl)) (hu : PO X hi (liftO X.K W dh)) : PE X (.Subscript e (.Slice lo hi none p2) pos) (liftE X.K W (dSlice m de dl dh)) := by
  refine pe_wk (pe_slice (SlR.orr sl_str (SlR.orr sl_tupA sl_list)) he hl hu) fun sg H Q ⟨ga, mu, al, hd, P, F, a, h, kv, kx⟩ => ?_
  refine ⟨ga, mu, al, hd, P, _, a, h, ⟨fun d mu1 v H1 al1 h1 o1 g1 r1 => ⟨ga, mu1, al1, hd, P, _, a.to o1 g1, h1, fun o mu2 H2 al2 h2 o2 g2 => ⟨ga, mu2, al2, hd, P, _, a.to o2 (g1.trans g2), h2, fun u mu3 H3 al3 h3 o3 g3 => ?_, kx.to (g1.trans g2)⟩, kx.to g1⟩⟩, kx⟩
  have g13 := (g1.trans g2).trans g3
  have r3 := (r1.go g2 g2.pre).go g3 g3.pre
  have kv3 := kv.to g13
  split at h3
  · rename_i z
    cases r3.str_
    exact .inl ⟨z, rfl, by rw [sizeLine_eq]; exact h3.1, kv3.now o3 h3.2 .str⟩
  · rename_i l
    obtain ⟨p, xs, rfl, n1, e1, s1⟩ := r3.tv rfl
    refine .inr (.inl ⟨p, xs, rfl, .inl (.inl e1), fun hw => ?_, fun _ b hb => kv3.tupleN o3 hb (s1.cut o u) h3⟩)
    have hc : cutD l o u = l := by
      unfold cutD
      rw [s1.len, hw.1, hw.2, List.drop_zero, Nat.sub_zero, ← s1.len, List.take_length]
    rw [hc] at h3
    exact kv3.now o3 h3 (.tup ⟨n1, e1⟩ s1)
  · obtain ⟨l, h4, h5⟩ := h3
    obtain ⟨p, xs, rfl, e1, s1⟩ := r3.lv o3 h4
    exact .inr (.inr ⟨p, xs, rfl, .inl e1, fun b hb => kv3.listN o3 hb (s1.cut o u) h5⟩)
/-! ### built-in calls -/
abbrev GL := List D → Sto → KD → Prop
def dCB (g : GL) (da : DA) : DE := fun ga mu P F => da ga mu P fun ds mu1 => g ds mu1 F
def CbS (X : Cx) (f : Value) (g : GL) : Prop := ∃ r, CallR X f r ∧ ∀ (H : Hp) (mu : Sto) (al hd : List Addr) (ds : List D) (vs : List V) (F : KD) (Q : VK), Okay X.K hd H mu al → RepL X.K (al ++ hd) H al ds vs → g ds mu F → Kv X.K hd H al F Q → r vs H Q
theorem d_callB {x : Str} {id : String} {p pos : Pos} {e : Expr} {es : List Expr} {g : GL} {da : DA} (hc : CbS X (.builtin id) g) (hm : X.mg x = none) (hv : bootBuiltins x = some (.builtin id)) (ha : PA X (e :: es) (liftA X.K W da)) (hg : Gl X x := by rfl) (hn : x ≠ "__name__" := by decide) (hdb : (x == ("__debug__" : Str)) = false := by decide)
    (hs : starEach (e :: es) X.env = (false, eval e X.env) :: starEach es X.env := by rfl) (hp : (backTo pos (starEach es X.env)).any (·.1) = false := by rfl) : PE X (.Call (.Name x p) (e :: es) [] pos) (liftE X.K W (dCB g da)) := by
  obtain ⟨r, hr, k⟩ := hc
  refine pe_wk (pe_callB hr hg hm hv ha hn hdb hs hp) fun sg H Q ⟨ga, mu, al, hd, P, F, a, h, kv, kx⟩ => ?_
  exact ⟨ga, mu, al, hd, P, _, a, h, ⟨fun ds mu1 vs H1 al1 h1 o1 g1 r1 => k _ _ _ _ _ _ _ _ o1 r1 h1 (kv.to g1)⟩, kx⟩
theorem d_callT {x : Str} {T : String} {p pos : Pos} {e : Expr} {es : List Expr} {g : GL} {da : DA} (hc : CbS X (.type T) g) (hm : X.mg x = none) (hv : bootBuiltins x = some (.type T)) (ha : PA X (e :: es) (liftA X.K W da)) (hg : Gl X x := by rfl) (hn : x ≠ "__name__" := by decide) (hdb : (x == ("__debug__" : Str)) = false := by decide)
    (hs : starEach (e :: es) X.env = (false, eval e X.env) :: starEach es X.env := by rfl) (hp : (backTo pos (starEach es X.env)).any (·.1) = false := by rfl) : PE X (.Call (.Name x p) (e :: es) [] pos) (liftE X.K W (dCB g da)) := by
  obtain ⟨r, hr, k⟩ := hc
  refine pe_wk (pe_callTy hr hg hm hv ha hn hdb hs hp) fun sg H Q ⟨ga, mu, al, hd, P, F, a, h, kv, kx⟩ => ?_
  exact ⟨ga, mu, al, hd, P, _, a, h, ⟨fun ds mu1 vs H1 al1 h1 o1 g1 r1 => k _ _ _ _ _ _ _ _ o1 r1 h1 (kv.to g1)⟩, kx⟩
def bLen : GL := fun ds mu F => match ds with
  | [.str z] => z.length ≤ 16777216 ∧ F (.int z.length) mu
  | [x] => (match szD mu x with
    | some n => F (.int n) mu
    | none => False)
  | _ => False
theorem CallR.orr {f : Value} {r r' : List V → Hp → VK → Prop} (h : CallR X f r) (h' : CallR X f r') : CallR X f (fun xs H Q => r xs H Q ∨ r' xs H Q) := fun pins s sg H xs us Q I rx q => q.elim (h pins s sg H xs us Q I rx) (h' pins s sg H xs us Q I rx)
theorem b_len : CbS X (.builtin "len") bLen := by
  refine ⟨_, CallR.orr call_len call_lenD, fun H mu al hd ds vs F Q o r hg kv => ?_⟩
  unfold bLen at hg
  split at hg
  · rename_i z
    obtain ⟨v, ys, rfl, r1, r2⟩ := r.cons_
    cases r2.nil_
    cases r1.str_
    exact .inl ⟨_, z.length, rfl, ⟨by rw [sizeLine_eq]; exact hg.1, rfl⟩, kv.now o hg.2 .int⟩
  · rename_i x _
    obtain ⟨v, ys, rfl, r1, r2⟩ := r.cons_
    cases r2.nil_
    cases q : szD mu x with
    | none => simp only [q] at hg
    | some n =>
      simp only [q] at hg
      obtain ⟨p, rfl, z⟩ := r1.sz o q
      rcases z with ⟨xs, s, e⟩ | ⟨xs, s, e⟩ | ⟨xs, s, e⟩
      · exact .inl ⟨_, n, rfl, .inl ⟨xs, s, e.symm⟩, kv.now o hg .int⟩
      · exact .inl ⟨_, n, rfl, .inr ⟨xs, s, e.symm⟩, kv.now o hg .int⟩
      · refine .inr ⟨_, xs, rfl, s, ?_⟩
        rw [e]
        exact kv.now o hg .int
  · exact hg.elim
/-- list(x), tuple(x) of a list, a tuple -/
def bList (m : Nat) : GL := fun ds mu F => match ds with
  | [x] => (match sv mu x with
    | some l => retN m l mu F
    | none => False)
  | _ => False
theorem b_list (m : Nat) : CbS X (.type "list") (bList m) := by
  refine ⟨_, call_list_of, fun H mu al hd ds vs F Q o r hg kv => ?_⟩
  unfold bList at hg
  split at hg
  · rename_i x
    obtain ⟨v, ys, rfl, r1, r2⟩ := r.cons_
    cases r2.nil_
    cases q : sv mu x with
    | none => simp only [q] at hg
    | some l =>
      simp only [q] at hg
      obtain ⟨p, xs, rfl, s, r3⟩ := r1.sv o q
      exact ⟨p, xs, rfl, s, fun b hb => kv.listN o hb r3 hg⟩
  · exact hg.elim
def bTuple : GL := fun ds mu F => match ds with
  | [x] => (match sv mu x with
    | some l => F (.tup l) mu
    | none => False)
  | _ => False
theorem b_tuple : CbS X (.type "tuple") bTuple := by
  refine ⟨_, call_tuple_of, fun H mu al hd ds vs F Q o r hg kv => ?_⟩
  unfold bTuple at hg
  split at hg
  · rename_i x
    obtain ⟨v, ys, rfl, r1, r2⟩ := r.cons_
    cases r2.nil_
    cases q : sv mu x with
    | none => simp only [q] at hg
    | some l =>
      simp only [q] at hg
      cases r1 with
      | tup z r3 =>
        cases q
        exact ⟨_, _, rfl, .inr ⟨z.sq, kv.now o hg (.tup z r3)⟩⟩
      | lst z r3 =>
        cases q
        exact ⟨_, _, rfl, .inl ⟨z.sq, fun b hb => kv.tupleN o hb r3 hg⟩⟩
      | ptr e =>
        obtain ⟨p, xs, e1, z, r3⟩ := Rep.lv o (.ptr e) q
        cases e1
        exact ⟨_, xs, rfl, .inl ⟨.inl z, fun b hb => kv.tupleN o hb r3 hg⟩⟩
      | _ => cases q
  · exact hg.elim
def bAbs : GL := fun ds mu F => match ds with
  | [.int i] => F (.int (if i < 0 then -i else i)) mu
  | _ => False
theorem b_abs : CbS X (.builtin "abs") bAbs := by
  refine ⟨_, call_abs, fun H mu al hd ds vs F Q o r hg kv => ?_⟩
  unfold bAbs at hg
  split at hg
  · obtain ⟨v, ys, rfl, r1, r2⟩ := r.cons_
    cases r2.nil_
    exact ⟨_, by rw [r1.int_], kv.now o hg .int⟩
  · exact hg.elim
def bMax2 : GL := fun ds mu F => match ds with
  | [.int i, .int j] => F (.int (if j > i then j else i)) mu
  | _ => False
theorem b_max2 (hc : X.calm = true) : CbS X (.builtin "max") bMax2 := by
  refine ⟨_, call_max2 hc, fun H mu al hd ds vs F Q o r hg kv => ?_⟩
  unfold bMax2 at hg
  split at hg
  · obtain ⟨v, ys, rfl, r1, r2⟩ := r.cons_
    obtain ⟨v2, ys2, rfl, r3, r4⟩ := r2.cons_
    cases r4.nil_
    exact ⟨_, _, by rw [r1.int_, r3.int_], kv.now o hg .int⟩
  · exact hg.elim
def bMin2 : GL := fun ds mu F => match ds with
  | [.int i, .int j] => F (.int (if j < i then j else i)) mu
  | _ => False
theorem b_min2 (hc : X.calm = true) : CbS X (.builtin "min") bMin2 := by
  refine ⟨_, call_min2 hc, fun H mu al hd ds vs F Q o r hg kv => ?_⟩
  unfold bMin2 at hg
  split at hg
  · obtain ⟨v, ys, rfl, r1, r2⟩ := r.cons_
    obtain ⟨v2, ys2, rfl, r3, r4⟩ := r2.cons_
    cases r4.nil_
    exact ⟨_, _, by rw [r1.int_, r3.int_], kv.now o hg .int⟩
  · exact hg.elim
end
end DL

/-! part DL6 -/
/-! DL6: promises over data, calls of defs, methods, classes; statements. -/
namespace DL
open PySem PySem.Spec PyProof.Rows L2
abbrev DSp := List D → Sto → KX → KD → Prop
def spD (K : PySem.W.Frag) (n : Nat) (f : DSp) : Sp := fun vs H Q E => vs.length = n ∧ ∃ (mu : Sto) (al hd : List Addr) (ds : List D) (P : KX) (F : KD), Okay K hd H mu al ∧ RepL K (al ++ hd) H al ds vs ∧ f ds mu P F ∧ Kv K hd H al F Q ∧ Kx K hd E H al P
structure Prom (P : Program) (w : World) (K : PySem.W.Frag) (mg : Str → Option Value) (base : Heap) (k : Nat) (f : Addr) (n : Nat) (sp : DSp) : Prop where
  ok : ∃ fd ps, ps.length = n ∧ FnOk P w K mg base (L2.CX P w) k f fd ps (spD K n sp) ∧ Binds K fd ps []
  kw : ∀ fd oc od osl, K.lookup f = some ⟨oc, od, .func fd, osl⟩ → (fd.params.args.map (·.arg)).length = n ∧ FnOk P w K mg base (L2.CX P w) k f fd (fd.params.args.map (·.arg)) (spD K n sp)
  kp : PySem.W.keepIn K (.ref f) = true
  ar : ∀ ds mu P F, sp ds mu P F → ds.length = n
section
variable {X : Cx} {W : WX}
theorem args_in {K : PySem.W.Frag} {hd : List Addr} {sp : DSp} {n : Nat} {W : WX} {sg : L2.St} {H H1 : Hp} {Q : VK} {al al1 : List Addr} {ds : List D} {vs : List V} {mu1 : Sto} {P : KX} {F : KD} (ar : ∀ ds mu P F, sp ds mu P F → ds.length = n)
    (h : sp ds mu1 P F) (o : Okay K hd H1 mu1 al1) (g : Go hd H al H1 al1) (r : RepL K (al1 ++ hd) H1 al1 ds vs) (kv : Kv K hd H al F Q) (kx : Kx K hd (fun c d h => W c d sg h) H al P) : spD K n sp vs H1 Q (WE W sg) :=
  ⟨by rw [← r.len]; exact ar _ _ _ _ h, mu1, al1, hd, ds, P, F, o, r, h, kv.to g, kx.to g⟩
def dCall (sp : DSp) (da : DA) : DE := fun ga mu P F => da ga mu P fun ds mu1 => sp ds mu1 P F
theorem d_call {k n : Nat} {f : Addr} {sp : DSp} {x : Str} {p pos : Pos} {e : Expr} {es : List Expr} {da : DA} (F : Prom X.prog X.w X.K X.mg X.base k f n sp) (hr : Room k X.A) (hm : X.mg x = some (.ref f)) (tk : Takes X W) (ha : PA X (e :: es) (liftA X.K W da)) (hg : Gl X x := by rfl) (hdb : (x == ("__debug__" : Str)) = false := by decide)
    (he : starEach (e :: es) X.env = (false, eval e X.env) :: starEach es X.env := by rfl) (hpl : (backTo pos (starEach es X.env)).any (·.1) = false := by rfl) : PE X (.Call (.Name x p) (e :: es) [] pos) (liftE X.K W (dCall sp da)) := by
  obtain ⟨fd, ps, hn, G, b⟩ := F.ok
  refine pe_wk (pe_callS G hr hg hm F.kp b (fun σ => passAt tk σ) ha hdb he hpl) fun sg H Q ⟨ga, mu, al, hd, P, F', a, h, kv, kx⟩ => ?_
  exact ⟨ga, mu, al, hd, P, _, a, h, ⟨fun ds mu1 vs H1 al1 h1 o1 g1 r1 => args_in F.ar h1 o1 g1 r1 kv kx⟩, kx⟩
theorem d_call0 {k n : Nat} {f : Addr} {sp : DSp} {x : Str} {p pos : Pos} (F : Prom X.prog X.w X.K X.mg X.base k f n sp) (hr : Room k X.A) (hm : X.mg x = some (.ref f)) (tk : Takes X W) (hg : Gl X x := by rfl) (hdb : (x == ("__debug__" : Str)) = false := by decide) :
    PE X (.Call (.Name x p) [] [] pos) (liftE X.K W (dCall sp dNil)) := by
  obtain ⟨fd, ps, hn, G, b⟩ := F.ok
  refine ⟨fun pins s sg H Q I ⟨ga, mu, al, hd, P, F', a, h, kv, kx⟩ => ?_⟩
  refine wpAny_Call_Name_kw (ld_glob I hg hm ?_ hdb)
  exact PySem.W.callWith_K0 I.kIn F.kp (run_fnS (us := []) G hr b (passAt tk sg) I .nil (args_in F.ar h a.ok (Go.refl _ _) .nil kv kx))
/-! ### methods -/
def clsD (mu : Sto) : D → Option Nat
  | .obj c _ => some c
  | .ptr n => (match mu[n]? with
    | some (.ins c _) => some c
    | _ => none)
  | _ => none
structure MethT (X : Cx) (m : Str) (tab : Nat → Option DSp) : Prop where
  ok : ∀ c sp, tab c = some sp → ClsOk X.K c → ¬ m ∈ fn c ∧ ∃ f k n, Meth X.K (He.ga X.K (cn c)) m f ∧ Prom X.prog X.w X.K X.mg X.base k f n sp ∧ Room k X.A
def dMeth (tab : Nat → Option DSp) (do_ : DE) (da : DA) : DE := fun ga mu P F => do_ ga mu P fun x mu1 => match clsD mu1 x with
  | some c => (match tab c with
    | some sp => da ga mu1 P fun ds mu2 => sp (x :: ds) mu2 P F
    | none => False)
  | none => False
theorem Rep.cls {K : PySem.W.Frag} {hd : List Addr} {H : Hp} {mu : Sto} {al : List Addr} {d : D} {v : V} {c : Nat} (o : Okay K hd H mu al) (r : Rep K (al ++ hd) H al d v) (h : clsD mu d = some c) : ∃ a dx xs, v = .ref a ∧ ClsOk K c ∧ H a = some (.ins (He.ga K (cn c)) dx (DL.fz c xs)) := by
  cases r with
  | obj a b e r =>
    cases h
    exact ⟨_, _, _, rfl, e.2, b⟩
  | ptr e =>
    rename_i j p
    unfold clsD at h
    dsimp only at h
    cases q : mu[j]? with
    | none =>
      rw [q] at h
      cases h
    | some mo =>
      rw [q] at h
      cases mo with
      | ins c' l =>
        cases h
        obtain ⟨dx, xs, e1, _, z⟩ := o.at_ j _ _ q e
        exact ⟨p, dx, xs, rfl, z.2, e1⟩
      | _ => cases h
  | _ => cases h
theorem lookup_no {m : Str} : ∀ {ns : List Str} {xs : List V}, ¬ m ∈ ns → (ns.zip xs).lookup m = none
  | [], _, _ => rfl
  | _ :: _, [], _ => rfl
  | n :: ns, x :: xs, h => by
    rw [List.zip_cons_cons, lookup_put, if_neg (show ¬ m = n from fun z => h (by rw [z]; exact List.mem_cons_self))]
    exact lookup_no fun z => h (List.mem_cons_of_mem _ z)
theorem d_meth {m : Str} {tab : Nat → Option DSp} {o e : Expr} {es : List Expr} {do_ : DE} {da : DA} {apos pos : Pos} {pl : Sem Bool} (T : MethT X m tab) (tk : Takes X W) (ho : PE X o (liftE X.K W do_)) (ha : PA X (e :: es) (liftA X.K W da))
    (hst : starEach (e :: es) X.env = (false, eval e X.env) :: starEach es X.env := by rfl) (hpl : (backTo pos (starEach es X.env)).any (·.1) = false := by rfl)
    (ht : eval (.Call (.Attribute o m apos) (e :: es) [] pos) X.env = (do
      let ov ← eval o X.env
      standAt apos.atName
      let (f, first) ← holding [ov] (getMethod ov m pl)
      callWith pos f first (backTo pos (starEach (e :: es) X.env)) (backToKw pos (keywordEach [] X.env))) := by rfl) :
    PE X (.Call (.Attribute o m apos) (e :: es) [] pos) (liftE X.K W (dMeth tab do_ da)) := by
  refine ⟨fun pins s sg H Q I ⟨ga, mu, al, hd, P, F, a, h, kv, kx⟩ => ?_⟩
  have h' : liftE X.K W do_ sg H (fun x H1 => ∃ (d : D) (mu1 : Sto) (al1 : List Addr) (c : Nat) (sp : DSp), Okay X.K hd H1 mu1 al1 ∧ Go hd H al H1 al1 ∧ Rep X.K (al1 ++ hd) H1 al1 d x ∧ clsD mu1 d = some c ∧ tab c = some sp ∧ da ga mu1 P fun ds mu2 => sp (d :: ds) mu2 P F) :=
    ⟨ga, mu, al, hd, P, _, a, h, ⟨fun d mu1 v H1 al1 h1 o1 g1 r1 => by
      cases q : clsD mu1 d with
      | none => simp only [q] at h1
      | some c =>
        simp only [q] at h1
        cases q2 : tab c with
        | none => simp only [q2] at h1
        | some sp =>
          simp only [q2] at h1
          exact ⟨d, mu1, al1, c, sp, o1, g1, r1, q, q2, h1⟩⟩, kx⟩
  refine PySem.W.methodCall_KW (pl := pl) (thn (ho.run pins s sg H _ I h') fun u s1 ⟨x, H1, I1, rx, d, mu1, al1, c, sp, o1, g1, r1, q1, q2, h1⟩ => ?_) ht
  obtain ⟨b, dx, xs, rfl, ck, ea⟩ := r1.cls o1 q1
  obtain rfl : u = Value.ref b := rx
  obtain ⟨c2, f, k, n, c3, c4, c5⟩ := T.ok c sp q2 ck
  have c1 := ck.1
  obtain ⟨fd, ps, hn, G, bb⟩ := c4.ok
  refine getmeth_ok I1 ea c1 c3 (lookup_no c2) ?_
  have ha' : liftA X.K W da sg H1 (fun vs H2 => spD X.K n sp (.ref b :: vs) H2 Q (WE W sg)) := ⟨ga, mu1, al1, hd, P, _, a.to o1 g1, h1, ⟨fun ds mu2 vs H2 al2 h2 o2 g2 r2 => args_in c4.ar h2 o2 (g1.trans g2) (.cons (r1.go g2 g2.pre) r2) kv kx⟩, kx.to g1⟩
  refine PySem.W.callWith_K (first := [.ref b]) (h₀ := X.base) I.ok.mod.kin c3.kp (thn (ha.run pos pins s1 sg H1 _ I1 ha') fun us s2 ⟨vs, H2, I2, r, q⟩ => ⟨I2.kIn, ?_⟩) hst hpl
  exact run_fnS (us := .ref b :: us) (vs := .ref b :: vs) G c5 bb (passAt tk sg) I2 (.cons rfl r) q
theorem d_meth0 {m : Str} {tab : Nat → Option DSp} {o : Expr} {do_ : DE} {apos pos : Pos} {pl : Sem Bool} (T : MethT X m tab) (tk : Takes X W) (ho : PE X o (liftE X.K W do_))
    (ht : eval (.Call (.Attribute o m apos) [] [] pos) X.env = (do
      let ov ← eval o X.env
      standAt apos.atName
      let (f, first) ← holding [ov] (getMethod ov m pl)
      callWith pos f first (backTo pos (starEach [] X.env)) (backToKw pos (keywordEach [] X.env))) := by rfl) :
    PE X (.Call (.Attribute o m apos) [] [] pos) (liftE X.K W (dMeth tab do_ dNil)) := by
  refine ⟨fun pins s sg H Q I ⟨ga, mu, al, hd, P, F, a, h, kv, kx⟩ => ?_⟩
  have h' : liftE X.K W do_ sg H (fun x H1 => ∃ (d : D) (mu1 : Sto) (al1 : List Addr) (c : Nat) (sp : DSp), Okay X.K hd H1 mu1 al1 ∧ Go hd H al H1 al1 ∧ Rep X.K (al1 ++ hd) H1 al1 d x ∧ clsD mu1 d = some c ∧ tab c = some sp ∧ sp [d] mu1 P F) :=
    ⟨ga, mu, al, hd, P, _, a, h, ⟨fun d mu1 v H1 al1 h1 o1 g1 r1 => by
      cases q : clsD mu1 d with
      | none => simp only [q] at h1
      | some c =>
        simp only [q] at h1
        cases q2 : tab c with
        | none => simp only [q2] at h1
        | some sp =>
          simp only [q2] at h1
          exact ⟨d, mu1, al1, c, sp, o1, g1, r1, q, q2, h1⟩⟩, kx⟩
  refine PySem.W.methodCall_KW (pl := pl) (thn (ho.run pins s sg H _ I h') fun u s1 ⟨x, H1, I1, rx, d, mu1, al1, c, sp, o1, g1, r1, q1, q2, h1⟩ => ?_) ht
  obtain ⟨b, dx, xs, rfl, ck, ea⟩ := r1.cls o1 q1
  obtain rfl : u = Value.ref b := rx
  obtain ⟨c2, f, k, n, c3, c4, c5⟩ := T.ok c sp q2 ck
  have c1 := ck.1
  obtain ⟨fd, ps, hn, G, bb⟩ := c4.ok
  refine getmeth_ok I1 ea c1 c3 (lookup_no c2) ?_
  exact PySem.W.callWith_K0 (first := [.ref b]) I1.kIn c3.kp (run_fnS (us := [.ref b]) (vs := [.ref b]) G c5 bb (passAt tk sg) I1 (.cons rfl .nil) (args_in c4.ar h1 o1 g1 (.cons r1 .nil) kv kx))
/-! ### classes called -/
def endX (mu : Sto) (P : KX) : KX := fun x mu' => ∃ mu2, Trim mu mu' mu2 ∧ P x mu2
def endI (fr : Bool) (c : Nat) (mu : Sto) (F : KD) : KD := fun d mu' => d = .non ∧ match fr with
  | true => ∃ mu2 l, Trim mu mu' mu2 ∧ mu'[mu.length]? = some (.ins c l) ∧ npL l ∧ l.length = (fn c).length ∧ F (.obj c l) mu2
  | false => F (.ptr mu.length) mu'
structure MkOk (P : Program) (w : World) (K : PySem.W.Frag) (mg : Str → Option Value) (base : Heap) (k : Nat) (c n : Nat) (g : DSp) : Prop where
  ok : ∃ f sp fr, Mk K (He.ga K (cn c)) f ∧ ClsOk K c ∧ Prom P w K mg base k f (n + 1) sp ∧ ∀ ds mu P F, g ds mu P F → sp (.ptr mu.length :: ds) (mu ++ [.ins c []]) (endX mu P) (endI fr c mu F)
theorem RepX.home {K : PySem.W.Frag} {hd : List Addr} {H H1 : Hp} {al al1 : List Addr} {cls : Value} {dd : Option Addr} {x : Exn} (g : Go hd H al H1 al1) (r : RepX K hd al1 H1 cls dd x) : RepX K hd al H1 cls dd x := by
  obtain ⟨r1, r2, r3, r4⟩ := r
  refine ⟨r1, r2, fun hn => ?_, r4⟩
  obtain ⟨d, fs, xs, e1, e2, e3, e4, e5⟩ := r3 hn
  exact ⟨d, fs, xs, e1, fun z => e2 (g.subH d z), e3, e4.fz g.back (Pre.refl _), e5⟩
theorem mk_in {K : PySem.W.Frag} {hd : List Addr} {c n : Nat} (ck : ClsOk K c) {sp g : DSp} {fr : Bool} {sg : L2.St} {H : Hp} {Q : VK} {vs : List V} {mu : Sto} {al : List Addr} {ds : List D} {P : KX} {F : KD} {x dx : Addr} (hx0 : H x = none) (hd0 : H dx = none)
    (M3 : ∀ ds mu P F, g ds mu P F → sp (.ptr mu.length :: ds) (mu ++ [.ins c []]) (endX mu P) (endI fr c mu F)) (ar : ∀ ds mu P F, sp ds mu P F → ds.length = n)
    (o : Okay K hd H mu al) (rd : RepL K (al ++ hd) H al ds vs) (h : g ds mu P F) (kv : Kv K hd H al F Q) (kx : Kx K hd (fun c d h => W c d sg h) H al P) :
    spD K n sp (.ref x :: vs) (upd (upd H dx (.own x)) x (.ins (He.ga K (cn c)) dx [])) (fun v H2 => v = .non ∧ Q (.ref x) H2) (WE W sg) := by
  have keep : ∀ a u, H a = some u → (upd (upd H dx (.own x)) x (.ins (He.ga K (cn c)) dx [])) a = some u := fun a u e => by
    rw [upd_ne (ne_of_none e hx0), upd_ne (ne_of_none e hd0)]
    exact e
  have gc := Go.cell o hx0 keep
  have o2 : Okay K hd (upd (upd H dx (.own x)) x (.ins (He.ga K (cn c)) dx [])) (mu ++ [.ins c []]) (al ++ [x]) := o.cell hx0 keep ⟨dx, [], by rw [upd_same]; unfold fz; rw [List.zip_nil_right], .nil, Nat.zero_le _, ck⟩
  have ax : (al ++ [x])[mu.length]? = some x := by rw [List.getElem?_append_right (by rw [o.len]; exact Nat.le_refl _), o.len, Nat.sub_self] <;> rfl
  have hs := M3 ds mu P F h
  refine ⟨?_, _, _, hd, _, endX mu P, endI fr c mu F, o2, .cons (.ptr ax) (rd.go gc gc.pre), hs, ⟨fun d mu' v H' al' h' o' g' r' => ?_⟩, ⟨fun e mu' cls dd H' al' h' o' g' r' => ?_⟩⟩
  · have e := ar _ _ _ _ hs
    rw [List.length_cons, rd.len] at e
    exact e
  · obtain ⟨rfl, h'⟩ := h'
    have gg := gc.trans g'
    refine ⟨r'.non_, ?_⟩
    cases fr with
    | true =>
      obtain ⟨mu2, l, t, e, hp, hl, h'⟩ := h'
      refine kv.go _ _ _ _ _ h' (o.trim o' gg t) gg.home ?_
      obtain ⟨dx', xs, e1, r1, _⟩ := o'.at_ _ _ _ e (g'.pre _ _ ax)
      exact .obj (o.new hx0) e1 ⟨hl, ck⟩ ((r1.np hp).fz gg.back (Pre.refl _))
    | false => exact kv.go _ _ _ _ _ h' o' gg (.ptr (g'.pre _ _ ax))
  · obtain ⟨mu2, t, h'⟩ := h'
    have gg := gc.trans g'
    exact kx.go _ _ _ _ _ _ h' (o.trim o' gg t) gg.home (r'.home gg)
theorem run_mk {k c n : Nat} {g : DSp} (M : MkOk X.prog X.w X.K X.mg X.base k c n g) (hr : Room (k + 1) X.A) (tk : Takes X W) {pins : List (Addr × Obj)} {sg : L2.St} {H : Hp} {s : Shared} {Q : VK} {us : List Value} {vs : List V} {mu : Sto} {al : List Addr} {ds : List D} {P : KX} {F : KD}
    (I : Inv X pins sg H s) (r : Vals vs us) (o : Okay X.K hd H mu al) (rd : RepL X.K (al ++ hd) H al ds vs) (h : g ds mu P F) (kv : Kv X.K hd H al F Q) (kx : Kx X.K hd (fun c d h => W c d sg h) H al P) : wpAny (model X.prog X.w) X.A (call (.ref (He.ga X.K (cn c))) us) (EP X pins sg Q) X.xe s := by
  obtain ⟨f, sp, fr, M1, ck, M2, M3⟩ := M.ok
  obtain ⟨fd, ps, hn, G, b⟩ := M2.ok
  have hq := mk_in ck (I.hok.fresh (Nat.le_succ _)) (I.hok.fresh (Nat.le_refl s.heap.objs.size)) M3 M2.ar o rd h kv kx
  have I2 := Inv.made (C := He.ga X.K (cn c)) I
  have r2 : Vals (V.ref (s.heap.objs.size + 1) :: vs) (Value.ref (s.heap.objs.size + 1) :: us) := .cons rfl r
  have hl : (Value.ref (s.heap.objs.size + 1) :: us).length = ps.length := by
    have e := r2.length
    rw [← e, hn]
    exact hq.1
  have bb := b _ (Value.ref (s.heap.objs.size + 1) :: us) I2.kIn (by rw [List.append_nil]; exact hl)
  rw [List.append_nil] at bb
  refine wpAny_call (make_map (f := f) I.kIn M1.makes M1.init (beq_iff_eq.mp M1.fn) (codeAny_mono (G.run _ X.stack _ _ ⟨Value.ref (s.heap.objs.size + 1) :: us, []⟩ (Value.ref (s.heap.objs.size + 1) :: us) _ _ (WE W sg) (hr.make _ us []) (I2.env0.make _ us []) bb r2 hq) fun r s' hq' => ?_))
  cases r with
  | error e => exact passAt tk sg pins _ _ e s' I2 hq'
  | ok fl =>
    cases fl with
    | ret u =>
      obtain ⟨v, H', I3, rv, ev, q3⟩ := I2.after hq'
      subst ev
      exact ⟨rv, ⟨V.ref (s.heap.objs.size + 1), H', I3, rfl, q3⟩⟩
    | next => exact False.elim hq'
    | brk => exact False.elim hq'
    | cont => exact False.elim hq'
theorem d_make {k c n : Nat} {g : DSp} {x : Str} {p pos : Pos} {e : Expr} {es : List Expr} {da : DA} (M : MkOk X.prog X.w X.K X.mg X.base k c n g) (hr : Room (k + 1) X.A) (hm : X.mg x = some (.ref (He.ga X.K (cn c)))) (tk : Takes X W) (ha : PA X (e :: es) (liftA X.K W da)) (hg : Gl X x := by rfl)
    (hdb : (x == ("__debug__" : Str)) = false := by decide) (he : starEach (e :: es) X.env = (false, eval e X.env) :: starEach es X.env := by rfl) (hpl : (backTo pos (starEach es X.env)).any (·.1) = false := by rfl) : PE X (.Call (.Name x p) (e :: es) [] pos) (liftE X.K W (dCall g da)) := by
  refine ⟨fun pins s sg H Q I ⟨ga, mu, al, hd, P, F, a, h, kv, kx⟩ => ?_⟩
  have kp : PySem.W.keepIn X.K (.ref (He.ga X.K (cn c))) = true := by
    obtain ⟨f, sp, fr, M1, _⟩ := M.ok
    exact M1.kp
  have h' : liftA X.K W da sg H (fun vs H1 => ∃ ds mu1 al1, Okay X.K hd H1 mu1 al1 ∧ Go hd H al H1 al1 ∧ RepL X.K (al1 ++ hd) H1 al1 ds vs ∧ g ds mu1 P F) := ⟨ga, mu, al, hd, P, _, a, h, ⟨fun ds mu1 vs H1 al1 h1 o1 g1 r1 => ⟨ds, mu1, al1, o1, g1, r1, h1⟩⟩, kx⟩
  refine wpAny_Call_Name_kw (ld_glob I hg hm ?_ hdb)
  refine PySem.W.callWith_K (h₀ := X.base) I.ok.mod.kin kp (thn (ha.run pos pins s sg H _ I h') fun us s1 ⟨vs, H1, I1, r, ds, mu1, al1, o1, g1, r1, h1⟩ => ⟨I1.kIn, ?_⟩) he hpl
  exact run_mk M hr tk I1 r o1 r1 h1 (kv.to g1) (kx.to g1)
theorem d_make0 {k c n : Nat} {g : DSp} {x : Str} {p pos : Pos} (M : MkOk X.prog X.w X.K X.mg X.base k c n g) (hr : Room (k + 1) X.A) (hm : X.mg x = some (.ref (He.ga X.K (cn c)))) (tk : Takes X W) (hg : Gl X x := by rfl)
    (hdb : (x == ("__debug__" : Str)) = false := by decide) : PE X (.Call (.Name x p) [] [] pos) (liftE X.K W (dCall g dNil)) := by
  refine ⟨fun pins s sg H Q I ⟨ga, mu, al, hd, P, F, a, h, kv, kx⟩ => ?_⟩
  have kp : PySem.W.keepIn X.K (.ref (He.ga X.K (cn c))) = true := by
    obtain ⟨f, sp, fr, M1, _⟩ := M.ok
    exact M1.kp
  refine wpAny_Call_Name_kw (ld_glob I hg hm ?_ hdb)
  exact PySem.W.callWith_K0 I.kIn kp (run_mk (us := []) M hr tk I .nil a.ok .nil h kv kx)
end
/-! ### statements -/
structure DEnds where
  nx : Gam → Sto → Prop
  rt : KD
  ex : KX
  bk : Gam → Sto → Prop := fun _ _ => False
  ct : Gam → Sto → Prop := fun _ _ => False
abbrev DS := DEnds → Gam → Sto → Prop
/-- what follows a block: from a state over al -/
def Kn (K : PySem.W.Frag) (hd : List Addr) (H : Hp) (al : List Addr) (N : Gam → Sto → Prop) (Q : L2.St → Hp → Prop) : Prop := ∀ ga mu sg H' al', N ga mu → At K hd ga mu al' sg H' → Go hd H al H' al' → Q sg H'
structure KE (K : PySem.W.Frag) (hd : List Addr) (W : WX) (H : Hp) (al : List Addr) (E : DEnds) (Q : Ends) : Prop where
  nx : Kn K hd H al E.nx Q.nx
  rt : Kv K hd H al E.rt Q.rt
  ex : ∀ sg, Kx K hd (fun c d h => W c d sg h) H al E.ex
  bk : Kn K hd H al E.bk Q.bk
  ct : Kn K hd H al E.ct Q.ct
def liftS (K : PySem.W.Frag) (W : WX) (ds : DS) : TS := fun Q sg H => ∃ (ga : Gam) (mu : Sto) (al hd : List Addr) (E : DEnds), At K hd ga mu al sg H ∧ ds E ga mu ∧ KE K hd W H al E Q
section
variable {K : PySem.W.Frag} {hd : List Addr} {W : WX} {H H1 : Hp} {al al1 : List Addr}
theorem Kn.to {N : Gam → Sto → Prop} {Q : L2.St → Hp → Prop} (k : Kn K hd H al N Q) (g : Go hd H al H1 al1) : Kn K hd H1 al1 N Q := fun ga mu sg H' al' h a g' => k ga mu sg H' al' h a (g.trans g')
theorem KE.to {E : DEnds} {Q : Ends} (k : KE K hd W H al E Q) (g : Go hd H al H1 al1) : KE K hd W H1 al1 E Q := ⟨k.nx.to g, k.rt.to g, fun sg => (k.ex sg).to g, k.bk.to g, k.ct.to g⟩
end
section
variable {X : Cx} {W : WX}
theorem ps_wk {s : Stmt} {t t' : TS} (h : PS X s t) (k : ∀ Q sg H, t' Q sg H → t Q sg H) : PS X s t' := ⟨fun pins s sg H D I q => h.run pins s sg H D I (k _ _ _ q)⟩
theorem pss_wk {s : List Stmt} {t t' : TS} (h : PSs X s t) (k : ∀ Q sg H, t' Q sg H → t Q sg H) : PSs X s t' := ⟨fun pins s sg H D I q => h.run pins s sg H D I (k _ _ _ q)⟩
def dNext : DS := fun E ga mu => E.nx ga mu
def dSeq (t u : DS) : DS := fun E ga mu => t { E with nx := fun ga' mu' => u E ga' mu' } ga mu
theorem ds_nil : PSs X [] (liftS X.K W dNext) := pss_wk pss_nil fun Q sg H ⟨ga, mu, al, hd, E, a, h, k⟩ => k.nx _ _ _ _ _ h a (Go.refl _ _)
theorem ds_cons {s : Stmt} {r : List Stmt} {t u : DS} (h1 : PS X s (liftS X.K W t)) (h2 : PSs X r (liftS X.K W u)) : PSs X (s :: r) (liftS X.K W (dSeq t u)) :=
  pss_wk (pss_cons h1 h2) fun Q sg H ⟨ga, mu, al, hd, E, a, h, k⟩ => ⟨ga, mu, al, hd, _, a, h, ⟨fun ga' mu' sg' H' al' h' a' g' => ⟨ga', mu', al', hd, E, a', h', k.to g'⟩, k.rt, k.ex, k.bk, k.ct⟩⟩
theorem ds_one {s : Stmt} {t : DS} (h1 : PS X s (liftS X.K W t)) : PSs X [s] (liftS X.K W t) := pss_one h1
def dRet (de : DE) : DS := fun E ga mu => de ga mu E.ex E.rt
theorem ds_ret {e : Expr} {de : DE} {pos : Pos} (h : PE X e (liftE X.K W de)) : PS X (.Return (some e) pos) (liftS X.K W (dRet de)) :=
  ps_wk (ps_ret h) fun Q sg H ⟨ga, mu, al, hd, E, a, h, k⟩ => ⟨ga, mu, al, hd, E.ex, E.rt, a, h, k.rt, k.ex sg⟩
def dRetN : DS := fun E ga mu => E.rt .non mu
theorem ds_retN {pos : Pos} : PS X (.Return none pos) (liftS X.K W dRetN) := ps_wk ps_retN fun Q sg H ⟨ga, mu, al, hd, E, a, h, k⟩ => k.rt.now a.ok h .non
def dDrop (de : DE) : DS := fun E ga mu => de ga mu E.ex fun _ mu1 => E.nx ga mu1
theorem ds_expr {e : Expr} {de : DE} {pos : Pos} (h : PE X e (liftE X.K W de)) (hs : swapsWith e none pos.line X.env = pure false := by rfl) : PS X (.Expr e pos) (liftS X.K W (dDrop de)) :=
  ps_wk (ps_expr h hs) fun Q sg H ⟨ga, mu, al, hd, E, a, h, k⟩ => ⟨ga, mu, al, hd, E.ex, _, a, h, ⟨fun d mu1 v H1 al1 h1 o1 g1 r1 => k.nx _ _ _ _ _ h1 (a.to o1 g1) g1⟩, k.ex sg⟩
def dIfS (t : DB) (u v : DS) : DS := fun E ga mu => t ga mu E.ex fun b mu1 => if b = true then u E ga mu1 else v E ga mu1
theorem ds_if {c : Expr} {p q : List Stmt} {t : DB} {u v : DS} {pos : Pos} (h : PT X c (liftB X.K W t)) (hp : PSs X p (liftS X.K W u)) (hq : PSs X q (liftS X.K W v)) : PS X (.If c p q pos) (liftS X.K W (dIfS t u v)) :=
  ps_wk (ps_if h hp hq) fun Q sg H ⟨ga, mu, al, hd, E, a, h, k⟩ => ⟨ga, mu, al, hd, E.ex, _, a, h, ⟨fun b mu1 H1 al1 h1 o1 g1 => by
    cases b with
    | true => exact ⟨ga, mu1, al1, hd, E, a.to o1 g1, h1, k.to g1⟩
    | false => exact ⟨ga, mu1, al1, hd, E, a.to o1 g1, h1, k.to g1⟩⟩, k.ex sg⟩
theorem ds_pass {pos : Pos} : PS X (.Pass pos) (liftS X.K W dNext) := ps_wk ps_pass fun Q sg H ⟨ga, mu, al, hd, E, a, h, k⟩ => k.nx _ _ _ _ _ h a (Go.refl _ _)
def dBrk : DS := fun E ga mu => E.bk ga mu
theorem ds_brk {pos : Pos} : PS X (.Break pos) (liftS X.K W dBrk) := ps_wk ps_break fun Q sg H ⟨ga, mu, al, hd, E, a, h, k⟩ => k.bk _ _ _ _ _ h a (Go.refl _ _)
/-! ### targets -/
abbrev DG := D → Gam → Sto → KX → (Gam → Sto → Prop) → Prop
def liftG (K : PySem.W.Frag) (W : WX) (g : DG) : TG := fun v sg H Q => ∃ (d : D) (ga : Gam) (mu : Sto) (al hd : List Addr) (P : KX) (N : Gam → Sto → Prop), At K hd ga mu al sg H ∧ Rep K (al ++ hd) H al d v ∧ g d ga mu P N ∧ Kn K hd H al N Q ∧ ∀ sg, Kx K hd (fun c d h => W c d sg h) H al P
theorem pg_wk {e : Expr} {t t' : TG} (h : PG X e t) (k : ∀ v sg H Q, t' v sg H Q → t v sg H Q) : PG X e t' := ⟨fun pins s sg H v u Q I r q => h.run pins s sg H v u Q I r (k _ _ _ _ q)⟩
def dName (i : Nat) : DG := fun d ga mu _ N => N (ga.set i (some d)) mu
theorem dg_name (i : Nat) {x : Str} {pos : Pos} (hN : X.N.Nodup) (hi : X.N[i]? = some x := by rfl) (hx : Loc X.env.scope x := by first | exact .inl rfl | exact .inr rfl) (hf : X.fn x = true ∨ X.env.scope.names.lookup x = some .local := by first | exact .inl rfl | exact .inr rfl | assumption) : PG X (.Name x pos) (liftG X.K W (dName i)) :=
  pg_wk (pg_name hN hi hx hf) fun v sg H Q ⟨d, ga, mu, al, hd, P, N, a, r, h, k, kx⟩ => k _ _ _ _ _ h ⟨a.ok, a.sl.set i r⟩ (Go.refl _ _)
def dAsg (de : DE) (g : DG) : DS := fun E ga mu => de ga mu E.ex fun x mu1 => g x ga mu1 E.ex E.nx
theorem ds_asg {tg e : Expr} {de : DE} {g : DG} {pos : Pos} (he : PE X e (liftE X.K W de)) (hg : PG X tg (liftG X.K W g)) (hs : swapsWithSole [tg] e pos.line X.env = pure false := by rfl) (hw : swappedStores [tg] e X.env = pure none := by rfl) (h1 : (assignEach [tg] X.env).map (·.2) = [assign tg X.env] := by rfl) : PS X (.Assign [tg] e pos) (liftS X.K W (dAsg de g)) :=
  ps_wk (ps_asg he hg hs hw h1) fun Q sg H ⟨ga, mu, al, hd, E, a, h, k⟩ => ⟨ga, mu, al, hd, E.ex, _, a, h, ⟨fun d mu1 v H1 al1 h1 o1 g1 r1 => ⟨d, ga, mu1, al1, hd, E.ex, E.nx, a.to o1 g1, r1, h1, k.nx.to g1, fun sg => (k.ex sg).to g1⟩⟩, k.ex sg⟩
def dSet (i : Nat) (de : DE) : DS := fun E ga mu => de ga mu E.ex fun d mu1 => E.nx (ga.set i (some d)) mu1
theorem ds_set (i : Nat) {x : Str} {e : Expr} {de : DE} {pos pos' : Pos} (hN : X.N.Nodup) (he : PE X e (liftE X.K W de)) (hi : X.N[i]? = some x := by rfl) (hx : Loc X.env.scope x := by first | exact .inl rfl | exact .inr rfl) (hs : swapsWith e (some (.Name x pos')) pos.line X.env = pure false := by rfl) (hf : X.fn x = true ∨ X.env.scope.names.lookup x = some .local := by first | exact .inl rfl | exact .inr rfl | assumption) :
    PS X (.Assign [.Name x pos'] e pos) (liftS X.K W (dSet i de)) :=
  ps_wk (ps_set hN hi hx he hs hf) fun Q sg H ⟨ga, mu, al, hd, E, a, h, k⟩ => ⟨ga, mu, al, hd, E.ex, _, a, h, ⟨fun d mu1 v H1 al1 h1 o1 g1 r1 => k.nx _ _ _ _ _ h1 ⟨o1, (a.sl.go g1).set i r1⟩ g1⟩, k.ex sg⟩
end
end DL

/-! part DL7 -/
/-! DL7: targets, loops, comprehensions, a def's promise by its body. -/
namespace DL
open PySem PySem.Spec PyProof.Rows L2
section
variable {X : Cx} {W : WX}
/-! ### targets -/
abbrev DGs := List D → Gam → Sto → KX → (Gam → Sto → Prop) → Prop
def liftGs (K : PySem.W.Frag) (W : WX) (g : DGs) : TGs := fun vs sg H Q => ∃ (ds : List D) (ga : Gam) (mu : Sto) (al hd : List Addr) (P : KX) (N : Gam → Sto → Prop), At K hd ga mu al sg H ∧ RepL K (al ++ hd) H [] ds vs ∧ g ds ga mu P N ∧ Kn K hd H al N Q ∧ ∀ sg, Kx K hd (fun c d h => W c d sg h) H al P
theorem pgs_wk {e : List Expr} {t t' : TGs} (h : PGs X e t) (k : ∀ v sg H Q, t' v sg H Q → t v sg H Q) : PGs X e t' := ⟨fun pins s sg H vs us Q I r q => h.run pins s sg H vs us Q I r (k _ _ _ _ q)⟩
def gsNil : DGs := fun ds ga mu _ N => match ds with
  | [] => N ga mu
  | _ => False
def gsCons (g : DG) (h : DGs) : DGs := fun ds ga mu P N => match ds with
  | d :: ds => g d ga mu P fun ga1 mu1 => h ds ga1 mu1 P N
  | [] => False
theorem dgs_nil : PGs X [] (liftGs X.K W gsNil) := pgs_wk pgs_nil fun v sg H Q ⟨ds, ga, mu, al, hd, P, N, a, r, h, k, kx⟩ => by
  cases r with
  | nil => exact ⟨rfl, k _ _ _ _ _ h a (Go.refl _ _)⟩
  | cons _ _ => exact h.elim
theorem dgs_cons {e : Expr} {es : List Expr} {g : DG} {h : DGs} (h1 : PG X e (liftG X.K W g)) (h2 : PGs X es (liftGs X.K W h)) (hs : (assignEach (e :: es) X.env).map (·.2) = assign e X.env :: (assignEach es X.env).map (·.2) := by rfl) : PGs X (e :: es) (liftGs X.K W (gsCons g h)) :=
  pgs_wk (pgs_cons h1 h2 hs) fun v sg H Q ⟨ds, ga, mu, al, hd, P, N, a, r, h, k, kx⟩ => by
    cases r with
    | nil => exact h.elim
    | cons r1 r2 =>
      exact ⟨_, _, rfl, _, ga, mu, al, hd, P, _, a, r1.fz (Fz.refl _ _) (Pre.nil _), h, fun ga1 mu1 sg1 H1 al1 h1 a1 g1 => ⟨_, ga1, mu1, al1, hd, P, N, a1, r2.go g1 (Pre.refl _), h1, k.to g1, fun sg => (kx sg).to g1⟩, kx⟩
def dTupG (n : Nat) (g : DGs) : DG := fun d ga mu P N => match tv d with
  | some l => l.length = n ∧ g l ga mu P N
  | none => False
theorem dg_tup {es : List Expr} {k n : Nat} {g : DGs} {pos : Pos} (hc : X.calm = true) (h : PGs X es (liftGs X.K W g)) (hn : (assignEach es X.env).length = n := by rfl) (hst : (assignEach es X.env).findIdx? (·.1) = none := by rfl) : PG X (.Tuple es k pos) (liftG X.K W (dTupG n g)) :=
  pg_wk (pg_tup hc h hn hst) fun v sg H Q ⟨d, ga, mu, al, hd, P, N, a, r, h, k, kx⟩ => by
    unfold dTupG at h
    cases q : tv d with
    | none => simp only [q] at h
    | some l =>
      simp only [q] at h
      obtain ⟨p, xs, rfl, n1, e1, s1⟩ := r.tv q
      exact ⟨p, xs, rfl, .inl (.inl e1), s1.len.symm.trans h.1, l, ga, mu, al, hd, P, N, a, s1, h.2, k, kx⟩
/-- o[i] = e, o a cell -/
def dSub (do_ di : DE) : DG := fun d ga mu P N => do_ ga mu P fun x mu1 => di ga mu1 P fun y mu2 => match x, y with
  | .ptr n, .int i => (match mu2[n]? with
    | some (.lst l) => np d ∧ ∃ j, ixN l.length i = some j ∧ N ga (mu2.set n (.lst (l.set j d)))
    | some (.lsp l) => ∃ j, ixN l.length i = some j ∧ N ga (mu2.set n (.lsp (l.set j d)))
    | _ => False)
  | _, _ => False
theorem dg_sub {o i : Expr} {do_ di : DE} {pos : Pos} (ho : PE X o (liftE X.K W do_)) (hi : PE X i (liftE X.K W di)) (ha : ∀ v, assign (.Subscript o i pos) X.env v = (do
      let ov ← holding [v] (eval o X.env)
      let iv ← holding [v, ov] (eval i X.env)
      standAt pos
      holding [v, ov, iv] (setItem ov iv v)
      release [v, ov, iv] []) := by intro _; rfl) : PG X (.Subscript o i pos) (liftG X.K W (dSub do_ di)) := by
  refine pg_wk (pg_sub ho hi set_list ha) fun v sg H Q ⟨d, ga, mu, al, hd, P, N, a, r, h, k, kx⟩ => ?_
  refine ⟨ga, mu, al, hd, P, _, a, h, ⟨fun x mu1 xv H1 al1 h1 o1 g1 r1 => ⟨ga, mu1, al1, hd, P, _, a.to o1 g1, h1, ⟨fun y mu2 yv H2 al2 h2 o2 g2 r2 => ?_⟩, (kx sg).to g1⟩⟩, kx sg⟩
  have g12 := g1.trans g2
  have rd := r.go g12 g12.pre
  have rx := r1.go g2 g2.pre
  cases x <;> try exact h2.elim
  cases y <;> try exact h2.elim
  rename_i n i
  cases rx with
  | ptr e =>
    rename_i p
    have h3 : (match mu2[n]? with
      | some (.lst l) => np d ∧ ∃ j, ixN l.length i = some j ∧ N ga (mu2.set n (.lst (l.set j d)))
      | some (.lsp l) => ∃ j, ixN l.length i = some j ∧ N ga (mu2.set n (.lsp (l.set j d)))
      | _ => False) := h2
    cases q : mu2[n]? with
    | none => simp only [q] at h3
    | some mo =>
      simp only [q] at h3
      cases mo with
      | lst l =>
        obtain ⟨hnp, j, hj, h4⟩ := h3
        obtain ⟨xs, e1, s1⟩ := o2.at_ n _ p q e
        have gw := Go.write (hd := hd) (H' := upd H2 p (.lst (xs.set j v))) o2 e fun b hb => upd_ne hb
        refine ⟨p, xs, i, j, rfl, r2.int_, e1, by rw [← s1.len]; exact hj, ?_⟩
        exact k _ _ _ _ _ h4 ⟨o2.write e (fun b hb => upd_ne hb) ⟨_, upd_same, RepL.set ((rd.np hnp).go gw (Pre.refl _)) j (s1.go gw (Pre.refl _))⟩, a.sl.go (g12.trans gw)⟩ (g12.trans gw)
      | lsp l =>
        obtain ⟨j, hj, h4⟩ := h3
        obtain ⟨xs, e1, s1⟩ := o2.at_ n _ p q e
        have gw := Go.write (hd := hd) (H' := upd H2 p (.lst (xs.set j v))) o2 e fun b hb => upd_ne hb
        refine ⟨p, xs, i, j, rfl, r2.int_, e1, by rw [← s1.len]; exact hj, ?_⟩
        exact k _ _ _ _ _ h4 ⟨o2.write e (fun b hb => upd_ne hb) ⟨_, upd_same, RepL.set (rd.go gw gw.pre) j (s1.go gw gw.pre)⟩, a.sl.go (g12.trans gw)⟩ (g12.trans gw)
      | _ => exact h3.elim
/-- o.f = e, o an instance that is a cell; the field is there, or it is the next one -/
def dPut (ix : Nat → Option Nat) (do_ de : DE) : DS := fun E ga mu => de ga mu E.ex fun y mu1 => do_ ga mu1 E.ex fun x mu2 => match x with
  | .ptr n => (match mu2[n]? with
    | some (.ins c l) => (match ix c with
      | some k => if k = l.length then E.nx ga (mu2.set n (.ins c (l ++ [y]))) else k < l.length ∧ E.nx ga (mu2.set n (.ins c (l.set k y)))
      | none => False)
    | _ => False)
  | _ => False
theorem putF_zip : ∀ {ns : List Str} {xs : List V} {f : Str} {v : V} {k : Nat}, ns.Nodup → ns[k]? = some f → k < xs.length → putF f v (ns.zip xs) = ns.zip (xs.set k v)
  | [], _, _, _, k, _, h, _ => by simp at h
  | _ :: _, [], _, _, k, _, _, h => by simp at h
  | n :: ns, x :: xs, f, v, 0, hn, h, _ => by
    simp at h
    subst h
    rw [List.zip_cons_cons, List.set_cons_zero, List.zip_cons_cons]
    show (if n = n then (n, v) :: ns.zip xs else (n, x) :: putF n v (ns.zip xs)) = _
    rw [if_pos rfl]
  | n :: ns, x :: xs, f, v, k + 1, hn, h, hk => by
    have h' : ns[k]? = some f := by simpa using h
    have hne : ¬ n = f := fun z => by
      subst z
      exact (List.nodup_cons.mp hn).1 (List.mem_of_getElem? h')
    rw [List.zip_cons_cons, List.set_cons_succ, List.zip_cons_cons]
    show (if n = f then (n, v) :: ns.zip xs else (n, x) :: putF f v (ns.zip xs)) = _
    rw [if_neg hne, putF_zip (List.nodup_cons.mp hn).2 h' (by simpa using hk)]
theorem putF_zip_new : ∀ {ns : List Str} {xs : List V} {f : Str} {v : V}, ns.Nodup → ns[xs.length]? = some f → putF f v (ns.zip xs) = ns.zip (xs ++ [v])
  | [], xs, _, _, _, h => by simp at h
  | n :: ns, [], f, v, hn, h => by
    simp at h
    subst h
    cases ns <;> rfl
  | n :: ns, x :: xs, f, v, hn, h => by
    have h' : ns[xs.length]? = some f := by simpa using h
    have hne : ¬ n = f := fun z => by
      subst z
      exact (List.nodup_cons.mp hn).1 (List.mem_of_getElem? h')
    rw [List.zip_cons_cons, List.cons_append, List.zip_cons_cons]
    show (if n = f then (n, v) :: ns.zip xs else (n, x) :: putF f v (ns.zip xs)) = _
    rw [if_neg hne, putF_zip_new (List.nodup_cons.mp hn).2 h']
theorem fn_len : ∀ c, (fn c).length < 1000
  | 0 | 1 | 2 | 3 | 4 | 5 | 6 | 7 | 8 | 9 | 10 | 11 | 12 | 13 | 14 | 15 | 16 | 17 => by decide
  | n + 18 => by show (0 : Nat) < 1000; decide
theorem ds_fld {ix : Nat → Option Nat} {o e : Expr} {f : Str} {do_ de : DE} {pos pos' : Pos} (T : FldT f ix) (ho : PE X o (liftE X.K W do_)) (he : PE X e (liftE X.K W de)) (hs : swapsWith e (some (.Attribute o f pos')) pos.line X.env = pure false := by rfl) : PS X (.Assign [.Attribute o f pos'] e pos) (liftS X.K W (dPut ix do_ de)) := by
  refine ps_wk (ps_fld ho he hs) fun Q sg H ⟨ga, mu, al, hd, E, a, h, k⟩ => ?_
  refine ⟨ga, mu, al, hd, E.ex, _, a, h, ⟨fun y mu1 yv H1 al1 h1 o1 g1 r1 => ⟨ga, mu1, al1, hd, E.ex, _, a.to o1 g1, h1, ⟨fun x mu2 xv H2 al2 h2 o2 g2 r2 => ?_⟩, (k.ex sg).to g1⟩⟩, k.ex sg⟩
  have g12 := g1.trans g2
  have ry := r1.go g2 g2.pre
  cases r2 with
  | ptr e =>
    rename_i n p
    have h3 : (match mu2[n]? with
      | some (.ins c l) => (match ix c with
        | some k => if k = l.length then E.nx ga (mu2.set n (.ins c (l ++ [y]))) else k < l.length ∧ E.nx ga (mu2.set n (.ins c (l.set k y)))
        | none => False)
      | _ => False) := h2
    cases q : mu2[n]? with
    | none => simp only [q] at h3
    | some mo =>
      simp only [q] at h3
      cases mo with
      | ins c l =>
        dsimp only at h3
        cases q2 : ix c with
        | none => simp only [q2] at h3
        | some j =>
          simp only [q2] at h3
          obtain ⟨t3, t4⟩ := T.ok c j q2
          obtain ⟨dx, xs, e1, s1, z1, ck⟩ := o2.at_ n _ p q e
          have t1 := ck.1
          have t2 := ck.2 f (List.mem_of_getElem? t3)
          refine ⟨p, _, dx, _, rfl, e1, t1, t2, ?_, ?_⟩
          · have e := fn_len c
            have e' : (fz c xs).length ≤ (fn c).length := by
              unfold fz
              rw [List.length_zip]
              exact Nat.min_le_left _ _
            omega
          have gw := fun (ys : List V) => Go.write (hd := hd) (H' := upd H2 p (.ins (He.ga X.K (cn c)) dx (fz c ys))) o2 e fun b hb => upd_ne hb
          by_cases hj : j = l.length
          · rw [if_pos hj] at h3
            have e2 : putF f yv (fz c xs) = fz c (xs ++ [yv]) := putF_zip_new t4 (by rw [← s1.len, ← hj]; exact t3)
            rw [e2]
            refine k.nx _ _ _ _ _ h3 ⟨o2.write e (fun b hb => upd_ne hb) ⟨dx, _, upd_same, (s1.go (gw _) (gw (xs ++ [yv])).pre).append (.one (ry.go (gw _) (gw (xs ++ [yv])).pre)), ?_, ck⟩, a.sl.go (g12.trans (gw _))⟩ (g12.trans (gw _))
            rw [List.length_append, ← hj]
            exact (List.getElem?_eq_some_iff.mp t3).1
          · rw [if_neg hj] at h3
            have e2 : putF f yv (fz c xs) = fz c (xs.set j yv) := putF_zip t4 t3 (by rw [← s1.len]; exact h3.1)
            rw [e2]
            refine k.nx _ _ _ _ _ h3.2 ⟨o2.write e (fun b hb => upd_ne hb) ⟨dx, _, upd_same, RepL.set (ry.go (gw _) (gw (xs.set j yv)).pre) j (s1.go (gw _) (gw (xs.set j yv)).pre), ?_, ck⟩, a.sl.go (g12.trans (gw _))⟩ (g12.trans (gw _))
            rw [List.length_set]
            exact z1
      | _ => exact h3.elim
  | _ => exact h2.elim
end
end DL

/-! part DL8 -/
/-! DL8: what is walked, loops, comprehensions, a def's promise by its body. -/
namespace DL
open PySem PySem.Spec PyProof.Rows L2
/-- J walks the items ds, while ok holds of the store -/
structure WkOk (K : PySem.W.Frag) (J : It) (ds : List D) (ok : Sto → Prop) (hd0 : List Addr) (H0 : Hp) (al0 : List Addr) : Prop where
  stop : ∀ hd H mu al, Fz H0 (al0 ++ hd0) H (al ++ hd) → Pre al0 al → Okay K hd H mu al → ok mu → J.stop ds.length H
  go : ∀ hd H mu al i, Fz H0 (al0 ++ hd0) H (al ++ hd) → Pre al0 al → Okay K hd H mu al → ok mu → i < ds.length → J.go i H
  yld : ∀ hd H mu al i x H', Fz H0 (al0 ++ hd0) H (al ++ hd) → Pre al0 al → Okay K hd H mu al → ok mu → i < ds.length → J.yld i H x H' →
    ∃ d, ds[i]? = some d ∧ Okay K hd H' mu al ∧ Go hd H al H' al ∧ Rep K (al ++ hd) H' al d x
abbrev DI := Gam → Sto → KX → (List D → (Sto → Prop) → Sto → Prop) → Prop
def liftI (K : PySem.W.Frag) (W : WX) (di : DI) : TI := fun sg H R => ∃ (ga : Gam) (mu : Sto) (al hd : List Addr) (P : KX) (F : List D → (Sto → Prop) → Sto → Prop), At K hd ga mu al sg H ∧ di ga mu P F ∧
  (∀ ds ok mu' J H' al', F ds ok mu' → Okay K hd H' mu' al' → Go hd H al H' al' → WkOk K J ds ok hd H' al' → R J H') ∧ Kx K hd (fun c d h => W c d sg h) H al P
section
variable {X : Cx} {W : WX}
theorem pi_wk {tg e : Expr} {t t' : TI} (h : PI X tg e t) (k : ∀ sg H R, t' sg H R → t sg H R) : PI X tg e t' := ⟨fun pins s sg H R I q => h.run pins s sg H R I (k _ _ _ q)⟩
theorem pi_orr {tg e : Expr} {t t' : TI} (h : PI X tg e t) (h' : PI X tg e t') : PI X tg e (fun sg H R => t sg H R ∨ t' sg H R) := ⟨fun pins s sg H R I q => q.elim (h.run pins s sg H R I) (h'.run pins s sg H R I)⟩
/-- what a list or tuple is at each turn -/
def okS (x : D) (l : List D) : Sto → Prop := fun mu => pv_ mu x = some l
theorem at_list {K : PySem.W.Frag} {hd hd0 : List Addr} {H H0 : Hp} {mu : Sto} {al al0 : List Addr} {x : D} {p : Addr} {l : List D} (r : Rep K (al0 ++ hd0) H0 al0 x (.ref p)) (g : Fz H0 (al0 ++ hd0) H (al ++ hd)) (pr : Pre al0 al) (o : Okay K hd H mu al) (h : okS x l mu) :
    (∃ xs, (SqL K H p xs ∨ SqT K H p xs) ∧ RepL K (al ++ hd) H al l xs) := by
  obtain ⟨q, xs, e, s, r2⟩ := Rep.pv_ o (r.fz g pr) h
  cases e
  exact ⟨xs, s, r2⟩
theorem seqKind {K : PySem.W.Frag} {x : D} {l : List D} {hd hd0 : List Addr} {H H0 : Hp} {mu : Sto} {al al0 : List Addr} {p : Addr} (r : Rep K (al0 ++ hd0) H0 al0 x (.ref p)) (g : Fz H0 (al0 ++ hd0) H (al ++ hd)) (pr : Pre al0 al) (o : Okay K hd H mu al) (h : okS x l mu) :
    (∃ t, x = .tup t) ∧ (∃ xs, SqT K H p xs ∧ RepL K (al ++ hd) H al l xs) ∨ (∀ t, x ≠ .tup t) ∧ ∃ xs, SqL K H p xs ∧ RepL K (al ++ hd) H al l xs := by
  have r' := r.fz g pr
  cases r' with
  | tup z r1 =>
    cases h
    exact .inl ⟨⟨_, rfl⟩, _, z.sq, r1.fz (Fz.refl _ _) (Pre.nil _)⟩
  | lst z r1 =>
    cases h
    exact .inr ⟨(fun t e => nomatch e), _, z.sq, r1.fz (Fz.refl _ _) (Pre.nil _)⟩
  | ptr e =>
    rename_i j
    refine .inr ⟨(fun t e => nomatch e), ?_⟩
    unfold okS DL.pv_ at h
    dsimp only at h
    cases q : mu[j]? with
    | none =>
      rw [q] at h
      cases h
    | some mo =>
      rw [q] at h
      cases mo with
      | lst l =>
        cases h
        obtain ⟨xs, e1, r⟩ := o.at_ j _ _ q e
        exact ⟨xs, .inl (.inl e1), r.fz (Fz.refl _ _) (Pre.nil _)⟩
      | lsp l =>
        cases h
        obtain ⟨xs, e1, r⟩ := o.at_ j _ _ q e
        exact ⟨xs, .inl (.inl e1), r⟩
      | _ => cases h
  | _ => cases h
/-- for x in a list | in a tuple -/
def iSeq (de : DE) : DI := fun ga mu P F => de ga mu P fun x mu1 => ∃ l, pv_ mu1 x = some l ∧ F l (okS x l) mu1
theorem wk_list {K : PySem.W.Frag} {hd0 : List Addr} {H0 : Hp} {al0 : List Addr} {x : D} {p : Addr} {l : List D} (r : Rep K (al0 ++ hd0) H0 al0 x (.ref p)) (hx : ∀ t, x ≠ .tup t) : WkOk K (Itl K p) l (okS x l) hd0 H0 al0 := by
  have key : ∀ hd H mu al, Fz H0 (al0 ++ hd0) H (al ++ hd) → Pre al0 al → Okay K hd H mu al → okS x l mu → ∃ xs, SqL K H p xs ∧ RepL K (al ++ hd) H al l xs := fun hd H mu al g pr o h => by
    rcases seqKind r g pr o h with ⟨⟨t, e⟩, _⟩ | ⟨_, q⟩
    · exact (hx t e).elim
    · exact q
  refine ⟨fun hd H mu al g pr o h => ?_, fun hd H mu al i g pr o h hi => ?_, fun hd H mu al i v H' g pr o h hi y => ?_⟩
  · obtain ⟨xs, s, r1⟩ := key hd H mu al g pr o h
    exact ⟨xs, s, by rw [r1.len]; exact Nat.le_refl _⟩
  · obtain ⟨xs, s, r1⟩ := key hd H mu al g pr o h
    rw [r1.len] at hi
    exact ⟨xs, xs[i], s, List.getElem?_eq_getElem hi⟩
  · obtain ⟨xs, s, r1⟩ := key hd H mu al g pr o h
    obtain ⟨e, q⟩ := y
    subst e
    obtain ⟨d, e1, r2⟩ := r1.get (q xs s)
    exact ⟨d, e1, o, Go.refl _ _, r2⟩
theorem wk_tup {K : PySem.W.Frag} {hd0 : List Addr} {H0 : Hp} {al0 : List Addr} {x : D} {p : Addr} {l : List D} (r : Rep K (al0 ++ hd0) H0 al0 x (.ref p)) (hx : ∃ t, x = .tup t) : WkOk K (Itt K p) l (okS x l) hd0 H0 al0 := by
  have key : ∀ hd H mu al, Fz H0 (al0 ++ hd0) H (al ++ hd) → Pre al0 al → Okay K hd H mu al → okS x l mu → ∃ xs, SqT K H p xs ∧ RepL K (al ++ hd) H al l xs := fun hd H mu al g pr o h => by
    rcases seqKind r g pr o h with ⟨_, q⟩ | ⟨hn, _⟩
    · exact q
    · obtain ⟨t, e⟩ := hx
      exact (hn t e).elim
  refine ⟨fun hd H mu al g pr o h => ?_, fun hd H mu al i g pr o h hi => ?_, fun hd H mu al i v H' g pr o h hi y => ?_⟩
  · obtain ⟨xs, s, r1⟩ := key hd H mu al g pr o h
    exact ⟨xs, s, by rw [r1.len]; exact Nat.le_refl _⟩
  · obtain ⟨xs, s, r1⟩ := key hd H mu al g pr o h
    rw [r1.len] at hi
    exact ⟨xs, xs[i], s, List.getElem?_eq_getElem hi⟩
  · obtain ⟨xs, s, r1⟩ := key hd H mu al g pr o h
    obtain ⟨e, q⟩ := y
    subst e
    obtain ⟨d, e1, r2⟩ := r1.get (q xs s)
    exact ⟨d, e1, o, Go.refl _ _, r2⟩
theorem pi_seqV {tg e : Expr} {te : TE} (h : PE X e te) : PI X tg e (fun sg H R => te sg H fun x H1 => ∃ a, x = .ref a ∧ ((∃ xs, SqL X.K H1 a xs) ∧ R (Itl X.K a) H1 ∨ (∃ xs, SqT X.K H1 a xs) ∧ R (Itt X.K a) H1)) := by
  refine ⟨fun pins s sg H R I q => ?_⟩
  refine thn (h.run pins s sg H _ I q) fun v s1 ⟨x, H1, I1, r1, a, e, q1⟩ => ?_
  subst e
  cases r1
  rcases q1 with ⟨⟨xs, hq⟩, q1⟩ | ⟨⟨xs, hq⟩, q1⟩
  · obtain ⟨its, rv, p, hz⟩ := I1.list hq
    refine wpAny_pyIter_list p.isList ?_
    refine ⟨s1.heap.objs.size, [s1.heap.objs.size], _, _, H1, rfl, I1.kept (t' := s1.toks) fun b o e => Heap.get?_push_of_some _ e, turn_list a _, ⟨_, Heap.get?_push_size _ rfl, rfl, rfl⟩, fun b hb => ?_, q1⟩
    have e : b = s1.heap.objs.size := by simpa using hb
    subst e
    exact I1.fpOk (Nat.le_refl _) (I1.hok.fresh (Nat.le_refl _))
  · obtain ⟨its, rv, p, hz⟩ := I1.tuple hq
    refine wpAny_pyIter_tuple (show s1.heap.IsTuple a its.toArray from p) ?_
    refine ⟨s1.heap.objs.size, [s1.heap.objs.size], _, _, H1, rfl, I1.kept (t' := s1.toks) fun b o e => Heap.get?_push_of_some _ e, turn_tuple a _, ⟨_, Heap.get?_push_size _ rfl, rfl, rfl⟩, fun b hb => ?_, q1⟩
    have e : b = s1.heap.objs.size := by simpa using hb
    subst e
    exact I1.fpOk (Nat.le_refl _) (I1.hok.fresh (Nat.le_refl _))
theorem di_seq {tg e : Expr} {de : DE} (h : PE X e (liftE X.K W de)) : PI X tg e (liftI X.K W (iSeq de)) := by
  refine pi_wk (pi_seqV h) fun sg H R ⟨ga, mu, al, hd, P, F, a, h, k, kx⟩ => ?_
  refine ⟨ga, mu, al, hd, P, _, a, h, ⟨fun d mu1 v H1 al1 h1 o1 g1 r1 => ?_⟩, kx⟩
  obtain ⟨l, e1, h2⟩ := h1
  obtain ⟨p, xs, rfl, s, r2⟩ := r1.pv_ o1 e1
  refine ⟨p, rfl, ?_⟩
  rcases seqKind (hd0 := hd) (H0 := H1) (al0 := al1) r1 (Fz.refl _ _) (Pre.refl _) o1 e1 with ⟨hx, ys, q, _⟩ | ⟨hx, ys, q, _⟩
  · exact .inr ⟨⟨ys, q⟩, k _ _ _ _ _ _ h2 o1 g1 (wk_tup r1 hx)⟩
  · exact .inl ⟨⟨ys, q⟩, k _ _ _ _ _ _ h2 o1 g1 (wk_list r1 hx)⟩
/-- range -/
def rngL (lo : Int) (n : Nat) : List D := (List.range n).map fun (i : Nat) => D.int (lo + (i : Int))
def iR1 (da : DA) : DI := fun ga mu P F => da ga mu P fun ds mu1 => match ds with
  | [.int j] => (-(2 ^ 62) ≤ j ∧ j < 2 ^ 62) ∧ F (rngL 0 j.toNat) (fun _ => True) mu1
  | _ => False
def iR2 (da : DA) : DI := fun ga mu P F => da ga mu P fun ds mu1 => match ds with
  | [.int i, .int j] => (-(2 ^ 62) ≤ i ∧ i < 2 ^ 62 ∧ -(2 ^ 62) ≤ j ∧ j < 2 ^ 62) ∧ F (rngL i (j - i).toNat) (fun _ => True) mu1
  | _ => False
theorem rngL_len (lo : Int) (n : Nat) : (rngL lo n).length = n := by unfold rngL; rw [List.length_map, List.length_range]
theorem rngL_get {lo : Int} {n i : Nat} (h : i < n) : (rngL lo n)[i]? = some (.int (lo + (i : Int))) := by
  unfold rngL
  rw [List.getElem?_map, List.getElem?_range h]
  rfl
theorem wk_range {K : PySem.W.Frag} {lo : Int} {n : Nat} {hd0 : List Addr} {H0 : Hp} {al0 : List Addr} : WkOk K (Itr lo n) (rngL lo n) (fun _ => True) hd0 H0 al0 := by
  refine ⟨fun hd H mu al g pr o h => ?_, fun hd H mu al i g pr o h hi => ?_, fun hd H mu al i v H' g pr o h hi y => ?_⟩
  · rw [rngL_len]
    exact Nat.le_refl _
  · rw [rngL_len] at hi
    exact hi
  · rw [rngL_len] at hi
    obtain ⟨e, q⟩ := y
    subst e q
    exact ⟨_, rngL_get hi, o, Go.refl _ _, .int⟩
theorem di_range1 {tg a : Expr} {da : DA} {p pos : Pos} (hm : X.mg "range" = none) (ha : PA X [a] (liftA X.K W da)) (hg : Gl X "range" := by rfl) (hs : starEach [a] X.env = [(false, eval a X.env)] := by rfl) : PI X tg (.Call (.Name "range" p) [a] [] pos) (liftI X.K W (iR1 da)) := by
  refine pi_wk (pi_range1 hg hm ha hs) fun sg H R ⟨ga, mu, al, hd, P, F, a, h, k, kx⟩ => ?_
  refine ⟨ga, mu, al, hd, P, _, a, h, ⟨fun ds mu1 vs H1 al1 h1 o1 g1 r1 => ?_⟩, kx⟩
  split at h1
  · obtain ⟨v, ys, rfl, r2, r3⟩ := r1.cons_
    cases r3.nil_
    cases r2.int_
    exact ⟨_, rfl, h1.1.1, h1.1.2, k _ _ _ _ _ _ h1.2 o1 g1 wk_range⟩
  · exact h1.elim
theorem di_range2 {tg a b : Expr} {da : DA} {p pos : Pos} (hm : X.mg "range" = none) (ha : PA X [a, b] (liftA X.K W da)) (hg : Gl X "range" := by rfl) (hs : starEach [a, b] X.env = [(false, eval a X.env), (false, eval b X.env)] := by rfl) (hs2 : starEach [b] X.env = [(false, eval b X.env)] := by rfl) : PI X tg (.Call (.Name "range" p) [a, b] [] pos) (liftI X.K W (iR2 da)) := by
  refine pi_wk (pi_range2 hg hm ha hs hs2) fun sg H R ⟨ga, mu, al, hd, P, F, a, h, k, kx⟩ => ?_
  refine ⟨ga, mu, al, hd, P, _, a, h, ⟨fun ds mu1 vs H1 al1 h1 o1 g1 r1 => ?_⟩, kx⟩
  split at h1
  · obtain ⟨v, ys, rfl, r2, r3⟩ := r1.cons_
    obtain ⟨v2, ys2, rfl, r4, r5⟩ := r3.cons_
    cases r5.nil_
    cases r2.int_
    cases r4.int_
    exact ⟨_, _, rfl, h1.1, k _ _ _ _ _ _ h1.2 o1 g1 wk_range⟩
  · exact h1.elim
/-! ### for -/
def forL (g : DG) (b : DS) (E : DEnds) (ok : Sto → Prop) : List D → Gam → Sto → Prop
  | [], ga, mu => ok mu ∧ E.nx ga mu
  | d :: ds, ga, mu => ok mu ∧ g d ga mu E.ex fun ga1 mu1 => b { E with nx := forL g b E ok ds, ct := forL g b E ok ds, bk := E.nx } ga1 mu1
def dFor (di : DI) (g : DG) (b : DS) : DS := fun E ga mu => di ga mu E.ex fun ds ok mu1 => forL g b E ok ds ga mu1
theorem ds_for {tg iter : Expr} {body : List Stmt} {di : DI} {g : DG} {b : DS} {pos : Pos} (hp : PassesOwn (model X.prog X.w) X.A X.env X.xe) (hc : X.calm = true) (hi : PI X tg iter (liftI X.K W di)) (hg : PG X tg (liftG X.K W g)) (hb : PSs X body (liftS X.K W b))
    (hs : ∀ x, foldedSetIterable iter X.env x = pure x := by intro _; rfl) : PS X (.For tg iter body [] pos) (liftS X.K W (dFor di g b)) := by
  refine ps_wk (ps_for hp hc hi hg hb hs) fun Q sg H ⟨ga, mu, al, hd, E, a, h, k⟩ => ?_
  refine ⟨ga, mu, al, hd, E.ex, _, a, h, fun ds ok mu1 J H1 al1 h1 o1 g1 wk => ?_, k.ex sg⟩
  refine ⟨fun i m sg' H' => m = ds.length - i ∧ i ≤ ds.length ∧ ∃ ga' mu' al', At X.K hd ga' mu' al' sg' H' ∧ Go hd H1 al1 H' al' ∧ forL g b E ok (ds.drop i) ga' mu', ⟨ds.length, by omega, Nat.zero_le _, ga, mu1, al1, a.to o1 g1, Go.refl _ _, h1⟩, ?_⟩
  rintro i m sg' H' ⟨rfl, hi, ga', mu', al', a', g', f⟩
  have gg := g1.trans g'
  by_cases hlt : i < ds.length
  · rw [List.drop_eq_getElem_cons hlt] at f
    obtain ⟨okm, f⟩ := f
    refine .inr ⟨wk.go hd H' mu' al' i g'.frz g'.pre a'.ok okm hlt, fun s2 H2 => ds.length - (i + 1) = ds.length - (i + 1) ∧ i + 1 ≤ ds.length ∧ ∃ ga' mu' al', At X.K hd ga' mu' al' s2 H2 ∧ Go hd H1 al1 H2 al' ∧ forL g b E ok (ds.drop (i + 1)) ga' mu', fun s2 H2 q => ⟨ds.length - (i + 1), by omega, q⟩, fun x H2 y => ?_⟩
    obtain ⟨d, ed, o2, g2, r2⟩ := wk.yld hd H' mu' al' i x H2 g'.frz g'.pre a'.ok okm hlt y
    have e : d = ds[i] := by
      rw [List.getElem?_eq_getElem hlt] at ed
      exact (Option.some.inj ed).symm
    subst e
    have gg2 := gg.trans g2
    refine ⟨_, ga', mu', al', hd, E.ex, _, a'.to o2 g2, r2, f, fun ga3 mu3 sg3 H3 al3 h3 a3 g3 => ?_, fun sg => (k.ex sg).to gg2⟩
    have gg3 := gg2.trans g3
    have back : Kn X.K hd H3 al3 (forL g b E ok (ds.drop (i + 1))) (fun s2 H2 => ds.length - (i + 1) = ds.length - (i + 1) ∧ i + 1 ≤ ds.length ∧ ∃ ga' mu' al', At X.K hd ga' mu' al' s2 H2 ∧ Go hd H1 al1 H2 al' ∧ forL g b E ok (ds.drop (i + 1)) ga' mu') :=
      fun ga4 mu4 sg4 H4 al4 h4 a4 g4 => ⟨rfl, hlt, ga4, mu4, al4, a4, ((g'.trans g2).trans g3).trans g4, h4⟩
    exact ⟨ga3, mu3, al3, hd, _, a3, h3, ⟨back, k.rt.to gg3, fun sg => (k.ex sg).to gg3, k.nx.to gg3, back⟩⟩
  · have e : i = ds.length := by omega
    subst e
    rw [List.drop_length] at f
    exact .inl ⟨wk.stop hd H' mu' al' g'.frz g'.pre a'.ok f.1, k.nx _ _ _ _ _ f.2 a' gg⟩
def dWhile (t : DB) (b : DS) : DS := fun E ga mu => ∃ I : Nat → Gam → Sto → Prop, (∃ m, I m ga mu) ∧ ∀ m ga mu, I m ga mu → t ga mu E.ex fun c mu1 => if c = true then b { E with nx := fun ga' mu' => ∃ m', m' < m ∧ I m' ga' mu', ct := fun ga' mu' => ∃ m', m' < m ∧ I m' ga' mu', bk := E.nx } ga mu1 else E.nx ga mu1
theorem ds_while {c : Expr} {body : List Stmt} {t : DB} {b : DS} {pos : Pos} (hp : PassesOwn (model X.prog X.w) X.A X.env X.xe) (hc : PT X c (liftB X.K W t)) (hb : PSs X body (liftS X.K W b)) : PS X (.While c body [] pos) (liftS X.K W (dWhile t b)) := by
  refine ps_wk (ps_while hp hc hb) fun Q sg H ⟨ga, mu, al, hd, E, a, h, k⟩ => ?_
  obtain ⟨I, ⟨m0, i0⟩, turn⟩ := h
  refine ⟨fun m sg' H' => ∃ ga' mu' al', At X.K hd ga' mu' al' sg' H' ∧ Go hd H al H' al' ∧ I m ga' mu', ⟨m0, ga, mu, al, a, Go.refl _ _, i0⟩, ?_⟩
  rintro m sg' H' ⟨ga', mu', al', a', g', i'⟩
  refine ⟨ga', mu', al', hd, E.ex, _, a', turn m ga' mu' i', ⟨fun c mu1 H1 al1 h1 o1 g1 => ?_⟩, (k.ex sg').to g'⟩
  have gg := g'.trans g1
  cases c with
  | true =>
    have back : Kn X.K hd H1 al1 (fun ga' mu' => ∃ m', m' < m ∧ I m' ga' mu') (fun s2 H2 => ∃ m', m' < m ∧ ∃ ga' mu' al', At X.K hd ga' mu' al' s2 H2 ∧ Go hd H al H2 al' ∧ I m' ga' mu') :=
      fun ga4 mu4 sg4 H4 al4 ⟨m', hm, h4⟩ a4 g4 => ⟨m', hm, ga4, mu4, al4, a4, gg.trans g4, h4⟩
    exact ⟨_, fun s2 H2 q => q, ga', mu1, al1, hd, _, a'.to o1 g1, h1, ⟨back, k.rt.to gg, fun sg => (k.ex sg).to gg, k.nx.to gg, back⟩⟩
  | false => exact k.nx _ _ _ _ _ h1 (a'.to o1 g1) gg
/-! ### a def's promise -/
def endF (P : KX) (F : KD) : DEnds := { nx := fun _ mu' => F .non mu', rt := F, ex := P }
def endT (mu : Sto) (P : KX) (F : KD) : DEnds := { nx := fun _ mu' => ∃ mu2, Trim mu mu' mu2 ∧ F .non mu2, rt := fun d mu' => ∃ mu2 d2, Trim mu mu' mu2 ∧ frz mu.length mu' d = some d2 ∧ F d2 mu2, ex := endX mu P }
def gam0 (n : Nat) (ds : List D) : Gam := ds.map some ++ List.replicate (n - ds.length) none
theorem slots0 {K : PySem.W.Frag} {hd al : List Addr} {H : Hp} {ds : List D} {vs : List V} {N : List Str} (r : RepL K (al ++ hd) H al ds vs) : Slots K hd al H (gam0 N.length ds) (L2.start N vs) := by
  unfold gam0 L2.start
  refine ⟨by rw [List.length_append, List.length_append, List.length_map, List.length_map, List.length_replicate, List.length_replicate, r.len], fun i d e => ?_⟩
  rcases Nat.lt_or_ge i ds.length with h | h
  · rw [List.getElem?_append_left (by rw [List.length_map]; exact h), List.getElem?_map] at e
    cases q : ds[i]? with
    | none =>
      rw [q] at e
      cases e
    | some d' =>
      rw [q] at e
      cases e
      obtain ⟨v, hv, rv⟩ := r.at_ q
      exact ⟨v, by rw [List.getElem?_append_left (by rw [List.length_map, ← r.len]; exact h), List.getElem?_map, hv] <;> rfl, rv⟩
  · rw [List.getElem?_append_right (by rw [List.length_map]; exact h)] at e
    have := List.mem_of_getElem? e
    have := (List.mem_replicate.mp this).2
    cases this
section
variable {P : Program} {w : World} {K : PySem.W.Frag} {mg : Str → Option Value} {base : Heap} {x qual : Str} {params : Arguments} {body : List Stmt} {scope : Scope} {f : Addr} {fd : FuncData} {N ps : List Str} {k n : Nat} {sp : DSp} {dt : DS}
theorem prom_of {sp : DSp} (F : FunD K x qual params body scope [] [] f fd) (hps : params.args.map (·.arg) = ps) (hn : ps.length = n) (G : FnOk P w K mg base (L2.CX P w) k f fd ps (spD K n sp)) (b : Binds K fd ps []) (ar : ∀ ds mu P F, sp ds mu P F → ds.length = n) : Prom P w K mg base k f n sp := by
  refine ⟨⟨fd, ps, hn, G, b⟩, fun fd' oc od osl e => ?_, F.kp, ar⟩
  obtain ⟨oc1, od1, dV, kV, doc, pm, an, cdv, ct, osl1, hfd, lk, _⟩ := F.ex
  rw [lk] at e
  have e1 := Option.some.inj e
  injection e1 with _ _ e1 _
  injection e1 with e1
  subst e1
  have e2 : fd.params.args.map (·.arg) = ps := by
    rw [hfd]
    exact hps
  rw [e2]
  exact ⟨hn, G⟩
theorem fn_dl (F : FunD K x qual params body scope [] [] f fd) (S : FnScope N ps scope) (hps : params.args.map (·.arg) = ps) (hn : ps.length = n)
    (hb : ∀ (kV doc pm : Value) (an : Option Addr) (cdv ct : Value) (us : List Value), us.length = ps.length → bindArgs (PySem.W.fnOf x qual params body scope .none kV doc pm an cdv ct) ⟨us, []⟩ = pure (ps.zip us))
    (ar : ∀ ds mu P F, sp ds mu P F → ds.length = n)
    (der : ∀ (cdv : Value) (A : Around) (outer : List Env) (s : Shared) (H : Hp) (E : XK), Room k (A.deeper (envOfC qual scope s.heap.objs.size f cdv)) → PSs (cxOf (L2.CX P w) P w K mg base N qual scope f cdv A outer s H E) body (liftS K (fun cls d _ H => E cls d H) dt))
    (pure : ∀ ds mu P F, sp ds mu P F → dt (endF P F) (gam0 N.length ds) mu) : Prom P w K mg base (k + 1) f n sp := by
  refine prom_of F hps hn (F.ok S (fun vs H Q E h => h.1.trans hn.symm) (fun cdv A outer s H vs Q E hr h => ?_)) (F.bindsN hb) ar
  obtain ⟨_, mu, al, hd, ds, P', F', o, r, h, kv, kx⟩ := h
  refine ⟨_, der cdv A outer s H E hr, _, mu, al, hd, _, ⟨o, slots0 r⟩, pure ds mu P' F' h, ⟨?_, kv, fun sg => kx, fun _ _ _ _ _ h _ _ => h.elim, fun _ _ _ _ _ h _ _ => h.elim⟩⟩
  exact fun ga mu' sg H' al' h a g => kv.go _ _ _ _ _ h a.ok g .non
theorem fn_dlT (F : FunD K x qual params body scope [] [] f fd) (S : FnScope N ps scope) (hps : params.args.map (·.arg) = ps) (hn : ps.length = n)
    (hb : ∀ (kV doc pm : Value) (an : Option Addr) (cdv ct : Value) (us : List Value), us.length = ps.length → bindArgs (PySem.W.fnOf x qual params body scope .none kV doc pm an cdv ct) ⟨us, []⟩ = pure (ps.zip us))
    (ar : ∀ ds mu P F, sp ds mu P F → ds.length = n)
    (der : ∀ (cdv : Value) (A : Around) (outer : List Env) (s : Shared) (H : Hp) (E : XK), Room k (A.deeper (envOfC qual scope s.heap.objs.size f cdv)) → PSs (cxOf (L2.CX P w) P w K mg base N qual scope f cdv A outer s H E) body (liftS K (fun cls d _ H => E cls d H) dt))
    (pure : ∀ ds mu P F, sp ds mu P F → dt (endT mu P F) (gam0 N.length ds) mu) : Prom P w K mg base (k + 1) f n sp := by
  refine prom_of F hps hn (F.ok S (fun vs H Q E h => h.1.trans hn.symm) (fun cdv A outer s H vs Q E hr h => ?_)) (F.bindsN hb) ar
  obtain ⟨_, mu, al, hd, ds, P', F', o, r, h, kv, kx⟩ := h
  refine ⟨_, der cdv A outer s H E hr, _, mu, al, hd, _, ⟨o, slots0 r⟩, pure ds mu P' F' h, ⟨?_, ⟨?_⟩, fun sg => ⟨?_⟩, fun _ _ _ _ _ h _ _ => h.elim, fun _ _ _ _ _ h _ _ => h.elim⟩⟩
  · rintro ga mu' sg H' al' ⟨mu2, t, h⟩ a g
    exact kv.go _ _ _ _ _ h (o.trim a.ok g t) g.home .non
  · rintro d mu' v H' al' ⟨mu2, d2, t, e, h⟩ o' g r'
    exact kv.go _ _ _ _ _ h (o.trim o' g t) g.home (Rep.frz o o' g r' e)
  · rintro y mu' cls dd H' al' ⟨mu2, t, h⟩ o' g r'
    exact kx.go _ _ _ _ _ _ h (o.trim o' g t) g.home (r'.home g)
end
end
end DL

/-! part DL9 -/
/-! DL9: comprehensions. -/
namespace DL
open PySem PySem.Spec PyProof.Rows L2
abbrev W0 : WX := fun _ _ _ _ => False
/-- the comprehension's own slots are empty at its start -/
def wip (ga : Gam) : List Nat → Gam
  | [] => ga
  | v :: vs => (wip ga vs).set v none
theorem Slots.setN {K : PySem.W.Frag} {hd : List Addr} {H : Hp} {al : List Addr} {ga : Gam} {sg : L2.St} (i : Nat) (s : Slots K hd al H ga sg) : Slots K hd al H (ga.set i none) (sg.set i none) := by
  refine ⟨by rw [List.length_set, List.length_set]; exact s.len, fun j e h => ?_⟩
  by_cases hj : j = i
  · subst hj
    have hl : j < ga.length := by
      have := (List.getElem?_eq_some_iff.mp h).1
      rw [List.length_set] at this
      exact this
    rw [List.getElem?_set_self hl] at h
    cases h
  · rw [List.getElem?_set_ne (fun z => hj z.symm)] at h
    rw [List.getElem?_set_ne (fun z => hj z.symm)]
    exact s.at_ j e h
theorem Slots.wip {K : PySem.W.Frag} {hd : List Addr} {H : Hp} {al : List Addr} {ga : Gam} {sg : L2.St} (s : Slots K hd al H ga sg) : ∀ vs : List Nat, Slots K hd al H (DL.wip ga vs) (wipe sg vs)
  | [] => s
  | v :: vs => (Slots.wip s vs).setN v
theorem wipe_set {sg : L2.St} {i : Nat} {x : Option V} : ∀ {vs : List Nat}, wipe (sg.set i x) vs = if i ∈ vs then wipe sg vs else (wipe sg vs).set i x
  | [] => by rw [if_neg (by simp)] <;> rfl
  | v :: vs => by
    show (wipe (sg.set i x) vs).set v none = _
    rw [wipe_set (vs := vs)]
    by_cases h : i ∈ vs
    · rw [if_pos h, if_pos (List.mem_cons_of_mem _ h)]
      rfl
    · rw [if_neg h]
      by_cases e : i = v
      · subst e
        rw [if_pos List.mem_cons_self, List.set_set]
        rfl
      · rw [if_neg (by simp [h, e]), List.set_comm _ _ (fun z => e z)]
        rfl
theorem wipe_own {sg : L2.St} {i : Nat} {x : Option V} {vs : List Nat} (h : i ∈ vs) : wipe (sg.set i x) vs = wipe sg vs := by rw [wipe_set, if_pos h]
section
variable {X : Cx}
def liftGw (K : PySem.W.Frag) (vs : List Nat) (g : DG) : TG := fun v sg H Q => ∃ (d : D) (ga : Gam) (mu : Sto) (al hd : List Addr) (P : KX) (N : Gam → Sto → Prop), At K hd ga mu al sg H ∧ Rep K (al ++ hd) H al d v ∧ g d ga mu P N ∧
  ∀ ga' mu' sg' H' al', N ga' mu' → At K hd ga' mu' al' sg' H' → Go hd H al H' al' → wipe sg' vs = wipe sg vs → Q sg' H'
def liftGsw (K : PySem.W.Frag) (vs : List Nat) (g : DGs) : TGs := fun us sg H Q => ∃ (ds : List D) (ga : Gam) (mu : Sto) (al hd : List Addr) (P : KX) (N : Gam → Sto → Prop), At K hd ga mu al sg H ∧ RepL K (al ++ hd) H [] ds us ∧ g ds ga mu P N ∧
  ∀ ga' mu' sg' H' al', N ga' mu' → At K hd ga' mu' al' sg' H' → Go hd H al H' al' → wipe sg' vs = wipe sg vs → Q sg' H'
theorem dw_name (i : Nat) {vs : List Nat} {x : Str} {pos : Pos} (hN : X.N.Nodup) (hi : X.N[i]? = some x := by rfl) (hv : i ∈ vs := by decide) (hx : Loc X.env.scope x := by first | exact .inl rfl | exact .inr rfl) (hf : X.fn x = true ∨ X.env.scope.names.lookup x = some .local := by first | exact .inl rfl | exact .inr rfl | assumption) : PG X (.Name x pos) (liftGw X.K vs (dName i)) :=
  pg_wk (pg_name hN hi hx hf) fun v sg H Q ⟨d, ga, mu, al, hd, P, N, a, r, h, k⟩ => k _ _ _ _ _ h ⟨a.ok, a.sl.set i r⟩ (Go.refl _ _) (wipe_own hv)
theorem dws_nil {vs : List Nat} : PGs X [] (liftGsw X.K vs gsNil) := pgs_wk pgs_nil fun v sg H Q ⟨ds, ga, mu, al, hd, P, N, a, r, h, k⟩ => by
  cases r with
  | nil => exact ⟨rfl, k _ _ _ _ _ h a (Go.refl _ _) rfl⟩
  | cons _ _ => exact h.elim
theorem dws_cons {vs : List Nat} {e : Expr} {es : List Expr} {g : DG} {h : DGs} (h1 : PG X e (liftGw X.K vs g)) (h2 : PGs X es (liftGsw X.K vs h)) (hs : (assignEach (e :: es) X.env).map (·.2) = assign e X.env :: (assignEach es X.env).map (·.2) := by rfl) : PGs X (e :: es) (liftGsw X.K vs (gsCons g h)) :=
  pgs_wk (pgs_cons h1 h2 hs) fun v sg H Q ⟨ds, ga, mu, al, hd, P, N, a, r, h, k⟩ => by
    cases r with
    | nil => exact h.elim
    | cons r1 r2 =>
      exact ⟨_, _, rfl, _, ga, mu, al, hd, P, _, a, r1.fz (Fz.refl _ _) (Pre.nil _), h, fun ga1 mu1 sg1 H1 al1 h1 a1 g1 w1 => ⟨_, ga1, mu1, al1, hd, P, N, a1, r2.go g1 (Pre.refl _), h1,
        fun ga2 mu2 sg2 H2 al2 h2 a2 g2 w2 => k _ _ _ _ _ h2 a2 (g1.trans g2) (w2.trans w1)⟩⟩
theorem dw_tup {vs : List Nat} {es : List Expr} {k n : Nat} {g : DGs} {pos : Pos} (hc : X.calm = true) (h : PGs X es (liftGsw X.K vs g)) (hn : (assignEach es X.env).length = n := by rfl) (hst : (assignEach es X.env).findIdx? (·.1) = none := by rfl) : PG X (.Tuple es k pos) (liftGw X.K vs (dTupG n g)) :=
  pg_wk (pg_tup hc h hn hst) fun v sg H Q ⟨d, ga, mu, al, hd, P, N, a, r, h, k⟩ => by
    unfold dTupG at h
    cases q : tv d with
    | none => simp only [q] at h
    | some l =>
      simp only [q] at h
      obtain ⟨p, xs, rfl, n1, e1, s1⟩ := r.tv q
      exact ⟨p, xs, rfl, .inl (.inl e1), s1.len.symm.trans h.1, l, ga, mu, al, hd, P, N, a, s1, h.2, k⟩
/-- the tests of a comprehension -/
theorem pts_wk {e : List Expr} {t t' : TT} (h : PTs X e t) (k : ∀ sg H Q, t' sg H Q → t sg H Q) : PTs X e t' := ⟨fun pins s sg H Q I q => h.run pins s sg H Q I (k _ _ _ q)⟩
def dYes : DB := fun _ mu _ F => F true mu
theorem dts_nil {W : WX} : PTs X [] (liftB X.K W dYes) := pts_wk pts_nil fun sg H Q ⟨ga, mu, al, hd, P, F, a, h, kb, kx⟩ => kb.go _ _ _ _ h a.ok (Go.refl _ _)
theorem dts_one {W : WX} {c : Expr} {t : DB} (h : PT X c (liftB X.K W t)) : PTs X [c] (liftB X.K W t) := pts_one h
def lcL (m : Nat) (g : DG) (t : DB) (e : DE) (ok : Sto → Prop) (ga : Gam) (F : List D → Sto → Prop) : List D → List D → Sto → Prop
  | [], acc, mu => ok mu ∧ F acc mu
  | d :: ds, acc, mu => ok mu ∧ g d ga mu (fun _ _ => False) fun ga1 mu1 => t ga1 mu1 (fun _ _ => False) fun b mu2 => if b = true then e ga1 mu2 (fun _ _ => False) fun y mu3 => (match m with
    | 0 => np y
    | 1 => np y
    | _ => True) ∧ lcL m g t e ok ga F ds (acc ++ [y]) mu3 else lcL m g t e ok ga F ds acc mu2
def dLc (m : Nat) (di : DI) (g : DG) (t : DB) (e : DE) (vs : List Nat) : DE := fun ga mu P F => di ga mu P fun ds ok mu1 => ds.length ≤ 16777216 ∧ lcL m g t e ok (wip ga vs) (fun acc mu2 => retN m acc mu2 F) ds [] mu1
/-- which pointers the items may be -/
def ptm (m : Nat) (al : List Addr) : List Addr := match m with
  | 0 => []
  | 1 => []
  | _ => al
theorem lc_sound {K : PySem.W.Frag} {W : WX} {di : DI} {m : Nat} {g : DG} {t : DB} {e : DE} {vs : List Nat} {sg : L2.St} {H : Hp} {Q : VK} (h : liftE K W (dLc m di g t e vs) sg H Q) : tLc (liftI K W di) (liftGw K vs g) (liftB K W0 t) (liftE K W0 e) vs sg H Q := by
  obtain ⟨ga, mu, al, hd, P, F, a, h, kv, kx⟩ := h
  refine ⟨ga, mu, al, hd, P, _, a, h, fun ds ok mu1 J H1 al1 ⟨hlen, h1⟩ o1 g1 wk D hD => ?_, kx⟩
  have hDal : ¬ D ∈ al1 ++ hd := o1.new hD
  have sl1 := (a.sl.go g1).wip vs
  refine ⟨fun i m' H' => m' = ds.length - i ∧ i ≤ ds.length ∧ ∃ mu' al' acc xs, Okay K (D :: hd) H' mu' al' ∧ Pre al1 al' ∧ Fz H1 (al1 ++ hd) H' (al' ++ D :: hd) ∧ Slots K (D :: hd) al' H' (wip ga vs) (wipe sg vs) ∧ H' D = some (.lst xs) ∧ RepL K (al' ++ D :: hd) H' (ptm m al') acc xs ∧ acc.length ≤ i ∧ (∀ a, a ∈ hd → H' a = H1 a) ∧
    lcL m g t e ok (wip ga vs) (fun acc mu2 => retN m acc mu2 F) (ds.drop i) acc mu',
    ⟨ds.length, by omega, Nat.zero_le _, mu1, al1, [], [], o1.hide hD, Pre.refl _, Fz.hide o1 hD, sl1.fz (Fz.hide o1 hD) (Pre.refl _), upd_same, .nil, Nat.zero_le _, fun a ha => upd_ne (fun z => hDal (List.mem_append_right _ (by rw [← z]; exact ha))), h1⟩, ?_⟩
  rintro i m' H' ⟨rfl, hi, mu', al', acc, xs, o', pr, fz', sl', eD, ra, hacc, hh, f⟩
  by_cases hlt : i < ds.length
  · rw [List.drop_eq_getElem_cons hlt] at f
    obtain ⟨okm, f⟩ := f
    refine .inr ⟨wk.go (D :: hd) H' mu' al' i fz' pr o' okm hlt, fun H2 => ∃ mu' al' acc xs, Okay K (D :: hd) H2 mu' al' ∧ Pre al1 al' ∧ Fz H1 (al1 ++ hd) H2 (al' ++ D :: hd) ∧ Slots K (D :: hd) al' H2 (wip ga vs) (wipe sg vs) ∧ H2 D = some (.lst xs) ∧ RepL K (al' ++ D :: hd) H2 (ptm m al') acc xs ∧ acc.length ≤ i + 1 ∧ (∀ a, a ∈ hd → H2 a = H1 a) ∧
      lcL m g t e ok (wip ga vs) (fun acc mu2 => retN m acc mu2 F) (ds.drop (i + 1)) acc mu', fun H2 q => ⟨ds.length - (i + 1), by omega, rfl, hlt, q⟩, fun x H2 y => ?_⟩
    obtain ⟨d, ed, o2, g2, r2⟩ := wk.yld (D :: hd) H' mu' al' i x H2 fz' pr o' okm hlt y
    have e0 : d = ds[i] := by
      rw [List.getElem?_eq_getElem hlt] at ed
      exact (Option.some.inj ed).symm
    subst e0
    have ptp : ∀ {l l' : List Addr}, Pre l l' → Pre (ptm m l) (ptm m l') := fun {l l'} p => by
      unfold ptm
      split
      · exact Pre.refl _
      · exact Pre.refl _
      · exact p
    have ww : ∀ l : List Nat, (∀ i, i ∈ l → i ∈ vs) → wipe (wipe sg l) vs = wipe sg vs := fun l => by
      induction l with
      | nil => intro _; rfl
      | cons v r ih =>
        intro hl
        show wipe ((wipe sg r).set v none) vs = _
        rw [wipe_own (hl v List.mem_cons_self)]
        exact ih fun i hi => hl i (List.mem_cons_of_mem _ hi)
    refine ⟨_, wip ga vs, mu', al', D :: hd, _, _, ⟨o2, sl'.go g2⟩, r2, f, fun ga3 mu3 sg3 H3 al3 h3 a3 g3 w3 => ⟨?_, ?_⟩⟩
    · exact w3.trans (ww vs fun _ h => h)
    · refine ⟨ga3, mu3, al3, D :: hd, _, _, a3, h3, ⟨fun b mu4 H4 al4 h4 o4 g4 => ?_⟩, ⟨fun _ _ _ _ _ _ h _ _ _ => h.elim⟩⟩
      have g24 := (g2.trans g3).trans g4
      cases b with
      | true =>
        refine ⟨ga3, mu4, al4, D :: hd, _, _, a3.to o4 g4, h4, ⟨fun y mu5 yv H5 al5 h5 o5 g5 r5 => ?_⟩, ⟨fun _ _ _ _ _ _ h _ _ _ => h.elim⟩⟩
        have g25 := g24.trans g5
        have eD5 : H5 D = some (.lst xs) := (g25.hid D List.mem_cons_self).trans eD
        have hxl : xs.length = acc.length := ra.len.symm
        refine ⟨xs, eD5, by rw [hxl, sizeLine_eq]; omega, mu5, al5, _, _, o5.hidSet, fun n a e => g25.pre n a (pr n a e), Fz.trans (Fz.trans fz' g25.frz) (Fz.hid _ _), (sl'.go g25).fz (Fz.hid _ _) (Pre.refl _), upd_same, ?_, ?_, fun a ha => (upd_ne (fun z => hDal (List.mem_append_right _ (by rw [← z]; exact ha)))).trans ((g25.hid a (List.mem_cons_of_mem _ ha)).trans (hh a ha)), h5.2⟩
        · have r6 : Rep K (al5 ++ D :: hd) H5 (ptm m al5) y yv := by
            have q := h5.1
            unfold ptm
            split
            · exact r5.np q
            · exact r5.np q
            · exact r5
          exact ((ra.fz g25.frz (ptp g25.pre)).append (.one r6)).fz (Fz.hid _ _) (Pre.refl _)
        · rw [List.length_append]
          show acc.length + 1 ≤ i + 1
          omega
      | false =>
        exact ⟨mu4, al4, acc, xs, o4, fun n a e => g24.pre n a (pr n a e), Fz.trans fz' g24.frz, sl'.go g24, (g24.hid D List.mem_cons_self).trans eD, ra.fz g24.frz (ptp g24.pre), by omega, fun a ha => (g24.hid a (List.mem_cons_of_mem _ ha)).trans (hh a ha), h4⟩
  · have e0 : i = ds.length := by omega
    subst e0
    rw [List.drop_length] at f
    refine .inl ⟨wk.stop (D :: hd) H' mu' al' fz' pr o' f.1, ?_⟩
    have oS := o'.show_
    have fS : Fz H1 (al1 ++ hd) H' (al' ++ hd) := Fz.trans fz' (Fz.show_ al' hd)
    have gS : Go hd H1 al1 H' al' := ⟨pr, fS, hh⟩
    have hnA : ¬ D ∈ al' ++ hd := fun z => by
      rcases List.mem_append.mp z with z | z
      · exact (o'.hid D List.mem_cons_self).1 z
      · exact hDal (List.mem_append_right _ z)
    have hnd : ¬ D ∈ hd := fun z => hnA (List.mem_append_right _ z)
    have turn : ∀ mo, F (.ptr mu'.length) (mu' ++ [mo]) → MAt K hd (al' ++ [D]) H' D mo → Q (.ref D) H' := fun mo hF hm => by
      have gT : Go hd H1 al1 H' (al' ++ [D]) := ⟨fun n a e => Pre.app _ _ n a (pr n a e), Fz.trans fz' (Fz.turn al' hd), hh⟩
      refine kv.go _ _ _ _ _ hF (o'.turn hnd hm) (g1.trans gT) (.ptr ?_)
      rw [List.getElem?_append_right (by rw [o'.len]; exact Nat.le_refl _), o'.len, Nat.sub_self]
      rfl
    have f2 := f.2
    match m, ra, f2 with
    | 0, ra, f2 => exact kv.go _ _ _ _ _ f2 oS (g1.trans gS) (.lst ⟨hnA, .inl eD⟩ (ra.fz (Fz.show_ al' hd) (Pre.refl _)))
    | 1, ra, f2 => exact turn _ f2 ⟨xs, eD, ra.fz (Fz.turn al' hd) (Pre.refl _)⟩
    | n + 2, ra, f2 => exact turn _ f2 ⟨xs, eD, ra.fz (Fz.turn al' hd) (Pre.app _ _)⟩
theorem d_lc (m : Nat) {W : WX} {elt tg iter : Expr} {ifs : List Expr} {scope : Scope} {own : List (Str × Nat)} {pos : Pos} {di : DI} {g : DG} {t : DB} {e : DE} (hc : X.calm = true) (hN : X.N.Nodup) (hi : PI X tg iter (liftI X.K W di)) (ok : BlkOk X.N X.env.scope scope own)
    (hg : ∀ (s : Shared) (H : Hp) (C : Addr) (cl : List (Str × Addr)) (fp : List Addr), PG (X.blk s H scope (compEnvC scope cl C X.env) fp) tg (liftGw X.K (own.map (·.2)) g)) (ht : ∀ (s : Shared) (H : Hp) (C : Addr) (cl : List (Str × Addr)) (fp : List Addr), PTs (X.blk s H scope (compEnvC scope cl C X.env) fp) ifs (liftB X.K W0 t))
    (he : ∀ (s : Shared) (H : Hp) (C : Addr) (cl : List (Str × Addr)) (fp : List Addr), PE (X.blk s H scope (compEnvC scope cl C X.env) fp) elt (liftE X.K W0 e)) (hs : ∀ x, foldedSetIterable iter X.env x = pure x := by intro _; rfl) :
    PE X (.ListComp elt [⟨tg, iter, ifs, 0⟩] scope pos) (liftE X.K W (dLc m di g t e (own.map (·.2)))) :=
  pe_wk (pe_lc hc hN hi ok hg ht he hs) fun _ _ _ h => lc_sound h
theorem ds_setLc (m i : Nat) {W : WX} {y : Str} {py : Pos} {elt tg iter : Expr} {ifs : List Expr} {scope : Scope} {own : List (Str × Nat)} {pos spos : Pos} {di : DI} {g : DG} {t : DB} {e : DE} (hc : X.calm = true) (hN : X.N.Nodup) (hi : PI X tg iter (liftI X.K W di)) (ok : BlkOk X.N X.env.scope scope own)
    (hg : ∀ (s : Shared) (H : Hp) (C : Addr) (cl : List (Str × Addr)) (fp : List Addr), PG (X.blk s H scope (compEnvC scope cl C X.env) fp) tg (liftGw X.K (own.map (·.2)) g)) (ht : ∀ (s : Shared) (H : Hp) (C : Addr) (cl : List (Str × Addr)) (fp : List Addr), PTs (X.blk s H scope (compEnvC scope cl C X.env) fp) ifs (liftB X.K W0 t))
    (he : ∀ (s : Shared) (H : Hp) (C : Addr) (cl : List (Str × Addr)) (fp : List Addr), PE (X.blk s H scope (compEnvC scope cl C X.env) fp) elt (liftE X.K W0 e)) (hy : X.N[i]? = some y := by rfl) (hyl : X.env.scope.names.lookup y = some .local := by rfl)
    (hsw : swapsWith (.ListComp elt [⟨tg, iter, ifs, 0⟩] scope pos) (some (.Name y py)) spos.line X.env = pure true := by exact (sw_true rfl rfl rfl (by decide +kernel))) (hs : ∀ x, foldedSetIterable iter X.env x = pure x := by intro _; rfl) :
    PS X (.Assign [.Name y py] (.ListComp elt [⟨tg, iter, ifs, 0⟩] scope pos) spos) (liftS X.K W (dSet i (dLc m di g t e (own.map (·.2))))) :=
  ps_wk (ps_setLc hc hN hy hyl hsw hi ok hg ht he hs) fun Q sg H ⟨ga, mu, al, hd, E, a, h, k⟩ =>
    lc_sound (Q := fun v H1 => Q.nx (sg.set i (some v)) H1) ⟨ga, mu, al, hd, E.ex, _, a, h, ⟨fun d mu1 v H1 al1 h1 o1 g1 r1 => k.nx _ _ _ _ _ h1 ⟨o1, (a.sl.go g1).set i r1⟩ g1⟩, k.ex sg⟩
end
end DL

/-! part DL10 -/
/-! DL10: isinstance, keyword calls of classes, unpacking lists, append. -/
namespace DL
open PySem PySem.Spec PyProof.Rows L2
/-- a value's kind: a built-in type, or a class of the text -/
def kdD (mu : Sto) : D → Option (Sum String Nat)
  | .non => some (.inl "NoneType")
  | .bl _ => some (.inl "bool")
  | .int _ => some (.inl "int")
  | .str _ => some (.inl "str")
  | .tup _ => some (.inl "tuple")
  | .lst _ => some (.inl "list")
  | .obj c _ => some (.inr c)
  | .ptr n => (match mu[n]? with
    | some (.lst _) => some (.inl "list")
    | some (.lsp _) => some (.inl "list")
    | some (.ins c _) => some (.inr c)
    | _ => none)
  | .adr _ => none
  | .err _ _ _ _ => none
/-- what isinstance asks of the text's classes -/
structure IsF (K : PySem.W.Frag) : Prop where
  at_ : ∀ c, ClsOk K c → c < 18 → PySem.W.findIn K (.ref (He.ga K (cn c))) "__class__" = some (some (.builtin "object.__class__")) ∧ PySem.W.mroIn K (He.ga K (cn c)) (.type "object") = some true
  get : PySem.W.specialIn K (.builtin "object.__class__") "__get__" = some (some (.builtin "getset_descriptor.__get__"))
  takes : PySem.W.takesIn K (.builtin "object.__class__") = some true
/-- what isinstance(x, u) answers: bt by the built-in type, cl by the class -/
structure IsiT (K : PySem.W.Frag) (u : Value) (bt : String → Bool) (cl : Nat → Bool) : Prop where
  bi : ∀ t, t ∈ ["NoneType", "bool", "int", "str", "tuple", "list"] → PySem.W.kitOne K (.type t) u = some (bt t)
  cls : ∀ c, ClsOk K c → c < 18 → PySem.W.kitOne K (.ref (He.ga K (cn c))) u = some (cl c)
def gIsi (bt : String → Bool) (cl : Nat → Bool) : DE → DE := fun de ga mu P F => de ga mu P fun x mu1 => match kdD mu1 x with
  | some (.inl t) => F (.bl (bt t)) mu1
  | some (.inr c) => c < 18 ∧ F (.bl (cl c)) mu1
  | none => False
section
variable {X : Cx} {W : WX}
theorem kind_ty {hd al : List Addr} {H : Hp} {mu : Sto} {d : D} {x : V} {bt : String → Bool} {cl : Nat → Bool} {F : KD} {u : Value} (IF : IsF X.K) (T : IsiT X.K u bt cl) (o : Okay X.K hd H mu al) (r : Rep X.K (al ++ hd) H al d x)
    (h : match kdD mu d with
      | some (.inl t) => F (.bl (bt t)) mu
      | some (.inr c) => c < 18 ∧ F (.bl (cl c)) mu
      | none => False) : ∃ t b, TyX X.K H x t ∧ PySem.W.kitOne X.K t u = some b ∧ F (.bl b) mu := by
  have lst : ∀ {p : Addr} {xs : List V}, Rd H p (.lst xs) → TyX X.K H (.ref p) (.type "list") := fun h => by
    rcases h with h | ⟨ob, h⟩
    · exact .base (.lst h)
    · exact .base (.frz h)
  have ins : ∀ {p dx : Addr} {c : Nat} {fs : List (Str × V)}, H p = some (.ins (He.ga X.K (cn c)) dx fs) → ClsOk X.K c → c < 18 → TyX X.K H (.ref p) (.ref (He.ga X.K (cn c))) := fun h ck hc => .base (.ins h ck.1 (IF.at_ _ ck hc).1 IF.get IF.takes (IF.at_ _ ck hc).2)
  cases r with
  | non => exact ⟨_, _, .base .non, T.bi "NoneType" (by simp), h⟩
  | bl => exact ⟨_, _, .base (.bl _), T.bi "bool" (by simp), h⟩
  | int => exact ⟨_, _, .base (.int _), T.bi "int" (by simp), h⟩
  | str => exact ⟨_, _, .base (.str _), T.bi "str" (by simp), h⟩
  | adr => exact h.elim
  | err0 => exact h.elim
  | err => exact h.elim
  | tup z r =>
    exact ⟨_, _, .base (.tup z.2), T.bi "tuple" (by simp), h⟩
  | lst z r => exact ⟨_, _, lst z.2, T.bi "list" (by simp), h⟩
  | obj a b c r => exact ⟨_, _, ins b c.2 h.1, T.cls _ c.2 h.1, h.2⟩
  | ptr e =>
    rename_i j p
    unfold kdD at h
    dsimp only at h
    cases q : mu[j]? with
    | none => simp only [q] at h
    | some mo =>
      simp only [q] at h
      cases mo with
      | lst l =>
        obtain ⟨xs, e1, _⟩ := o.at_ j _ _ q e
        exact ⟨_, _, lst (.inl e1), T.bi "list" (by simp), h⟩
      | lsp l =>
        obtain ⟨xs, e1, _⟩ := o.at_ j _ _ q e
        exact ⟨_, _, lst (.inl e1), T.bi "list" (by simp), h⟩
      | ins c l =>
        obtain ⟨dx, xs, e1, _, z⟩ := o.at_ j _ _ q e
        exact ⟨_, _, ins e1 z.2 h.1, T.cls _ z.2 h.1, h.2⟩
      | _ => exact h.elim
/-- isinstance(e, C), C a name -/
theorem d_isi {e : Expr} {x : Str} {cv : V} {u : Value} {bt : String → Bool} {cl : Nat → Bool} {de : DE} {p q pos : Pos} (IF : IsF X.K) (T : IsiT X.K u bt cl) (hm : X.mg "isinstance" = none) (he : PE X e (liftE X.K W de)) (hx : PE X (.Name x q) (tC cv)) (hc : ClsV cv u) (hg : Gl X "isinstance" := by rfl)
    (hs : starEach [e, .Name x q] X.env = [(false, eval e X.env), (false, eval (.Name x q) X.env)] := by rfl) (hs2 : starEach [.Name x q] X.env = [(false, eval (.Name x q) X.env)] := by rfl) : PE X (.Call (.Name "isinstance" p) [e, .Name x q] [] pos) (liftE X.K W (gIsi bt cl de)) := by
  refine pe_wk (pe_callB (call_isi (X := X)) hg hm (by decide +kernel) (pa_cons he (pa_cons hx pa_nil hs2) hs) (by decide) (by decide) hs (by rw [hs2] <;> rfl)) fun sg H Q ⟨ga, mu, al, hd, P, F, a, h, kv, kx⟩ => ?_
  refine ⟨ga, mu, al, hd, P, _, a, h, ⟨fun d mu1 v H1 al1 h1 o1 g1 r1 => ?_⟩, kx⟩
  obtain ⟨t, b, ty, k1, h2⟩ := kind_ty IF T o1 r1 h1
  exact ⟨_, _, t, u, b, rfl, hc, ty, k1, (kv.to g1).now o1 h2 .bl⟩
/-! ### (a, b, ..) = a list -/
def dUnl (n : Nat) (gs : DGs) : DG := fun d ga mu P N => ∃ l, lv mu d = some l ∧ l.length = n ∧ gs l ga mu P N
theorem dg_unl {es : List Expr} {x1} {gs : DGs} {n : Nat} {pos : Pos} (hc : X.calm = true) (h : PGs X es (liftGs X.K W gs)) (hn : (assignEach es X.env).length = n := by rfl) (hst : (assignEach es X.env).findIdx? (·.1) = none := by rfl) : PG X (.Tuple es x1 pos) (liftG X.K W (dUnl n gs)) :=
  pg_wk (pg_unl hc h hn hst) fun v sg H Q ⟨d, ga, mu, al, hd, P, N, a, r, h, k, kx⟩ => by
    obtain ⟨l, e, hl, h⟩ := h
    obtain ⟨p, xs, rfl, s, r2⟩ := r.lv a.ok e
    exact ⟨p, xs, rfl, .inl s, by rw [← r2.len]; exact hl, l, ga, mu, al, hd, P, N, a, r2.fz (Fz.refl _ _) (Pre.nil _), h, k, kx⟩
end
end DL

/-! part DL11 -/
/-! DL11: classes called by keywords, list methods. -/
namespace DL
open PySem PySem.Spec PyProof.Rows L2
/-! ### keywords -/
/-- the parameters' order: n positional values, then the keywords' values picked by pm -/
def pick {α : Type} (z : α) (ws : List α) (pm : List Nat) : List α := pm.map fun i => ws.getD i z
structure KwB (K : PySem.W.Frag) (f : Addr) (n : Nat) (ks : List Str) (pm : List Nat) : Prop where
  to : ∀ fd oc od osl, K.lookup f = some ⟨oc, od, .func fd, osl⟩ → ∀ (s : Shared) (us ws : List Value), K.In s.heap → us.length = n → ws.length = ks.length → BindsTo s fd ⟨us, ks.zip ws⟩ ((fd.params.args.map (·.arg)).zip (us ++ pick .none ws pm))
  ok : ∃ fd oc od osl, K.lookup f = some ⟨oc, od, .func fd, osl⟩
theorem kwB_of {K : PySem.W.Frag} {x qual : Str} {params : Arguments} {body : List Stmt} {scope : Scope} {f : Addr} {fd : FuncData} {n : Nat} {ks : List Str} {pm : List Nat} (F : FunD K x qual params body scope [] [] f fd)
    (hb : ∀ (kV doc pm' : Value) (an : Option Addr) (cdv ct : Value) (us ws : List Value), us.length = n → ws.length = ks.length → bindArgs (PySem.W.fnOf x qual params body scope .none kV doc pm' an cdv ct) ⟨us, ks.zip ws⟩ = pure ((params.args.map (·.arg)).zip (us ++ pick .none ws pm))) : KwB K f n ks pm := by
  obtain ⟨oc, od, dV, kV, doc, pm', an, cdv, ct, osl, hfd, lk, hcd, hD, hK⟩ := F.ex
  refine ⟨fun fd' oc1 od1 osl1 e s us ws _ l1 l2 => ?_, ⟨_, _, _, _, lk⟩⟩
  rw [lk] at e
  have e1 := Option.some.inj e
  injection e1 with _ _ e1 _
  injection e1 with e1
  subst e1
  rcases hD with ⟨_, rfl⟩ | ⟨e, _⟩
  · rw [hfd]
    exact .of_eq (hb kV doc pm' an cdv ct us ws l1 l2)
  · exact absurd rfl e
theorem RepL.getD {K : PySem.W.Frag} {fb pt : List Addr} {H : Hp} {l : List D} {xs : List V} (r : RepL K fb H pt l xs) (i : Nat) : Rep K fb H pt (l.getD i .non) (xs.getD i .non) := by
  rw [List.getD_eq_getElem?_getD, List.getD_eq_getElem?_getD]
  cases q : l[i]? with
  | none =>
    have h : xs[i]? = none := by
      rw [List.getElem?_eq_none_iff, ← r.len]
      exact List.getElem?_eq_none_iff.mp q
    rw [h]
    exact .non
  | some d =>
    obtain ⟨x, e, rx⟩ := r.at_ q
    rw [e]
    exact rx
theorem RepL.pick {K : PySem.W.Frag} {fb pt : List Addr} {H : Hp} {l : List D} {xs : List V} (r : RepL K fb H pt l xs) : ∀ pm : List Nat, RepL K fb H pt (pick .non l pm) (pick .non xs pm)
  | [] => .nil
  | i :: pm => .cons (r.getD i) (RepL.pick r pm)
theorem vals_getD {xs : List V} {us : List Value} (r : Vals xs us) (i : Nat) : RelV (xs.getD i .non) (us.getD i .none) := by
  rw [List.getD_eq_getElem?_getD, List.getD_eq_getElem?_getD]
  cases q : xs[i]? with
  | none =>
    have h : us[i]? = none := by
      rw [List.getElem?_eq_none_iff, ← r.length]
      exact List.getElem?_eq_none_iff.mp q
    rw [h]
    exact rfl
  | some d =>
    obtain ⟨x, e, rx⟩ := r.get q
    rw [e]
    exact rx
theorem vals_pick {xs : List V} {us : List Value} (r : Vals xs us) : ∀ pm : List Nat, Vals (pick .non xs pm) (pick .none us pm)
  | [] => .nil
  | i :: pm => .cons (vals_getD r i) (vals_pick r pm)
section
variable {X : Cx} {W : WX}
theorem dk_nil : PK X [] (liftA X.K W dNil) := ⟨fun pos pins s sg H Q I ⟨ga, mu, al, hd, P, F, a, h, kl, kx⟩ => (pk_nil (X := X)).run pos pins s sg H Q I (kl.go _ _ _ _ _ h a.ok (Go.refl _ _) .nil)⟩
theorem dk_cons {e : Expr} {kws : List Keyword} {nm : Option Str} {kpos : Pos} {da : DE} {dr : DA} (ha : PE X e (liftE X.K W da)) (hr : PK X kws (liftA X.K W dr)) : PK X (⟨nm, e, kpos⟩ :: kws) (liftA X.K W (dCons da dr)) :=
  ⟨fun pos pins s sg H Q I ⟨ga, mu, al, hd, P, F, a, h, kl, kx⟩ => (pk_cons ha hr).run pos pins s sg H Q I ⟨ga, mu, al, hd, P, _, a, h, ⟨fun d mu1 v H1 al1 h1 o1 g1 r1 => ⟨ga, mu1, al1, hd, P, _, a.to o1 g1, h1, ⟨fun ds mu2 vs H2 al2 h2 o2 g2 r2 =>
    kl.go _ _ _ _ _ h2 o2 (g1.trans g2) (.cons (r1.go g2 g2.pre) r2)⟩, kx.to g1⟩⟩, kx⟩⟩
/-- C(k = e, ..) -/
def dMkK (pm : List Nat) (g : DSp) (m : Nat) (dk : DA) : DE := fun ga mu P F => dk ga mu P fun ds mu1 => ds.length = m ∧ g (pick .non ds pm) mu1 P F
theorem d_makeK0 {k c n : Nat} {g : DSp} {x : Str} {p pos : Pos} {kws : List Keyword} {ks : List Str} {pm : List Nat} {dk : DA} (M : MkOk X.prog X.w X.K X.mg X.base k c n g) (hr : Room (k + 1) X.A) (hm : X.mg x = some (.ref (He.ga X.K (cn c)))) (tk : Takes X W)
    (KB : ∀ f, PySem.W.findIn X.K (.ref (He.ga X.K (cn c))) "__init__" = some (some (.ref f)) → KwB X.K f 1 ks pm) (hk : PK X kws (liftA X.K W dk)) (hg : Gl X x := by rfl)
    (hall : (backToKw pos (keywordEach kws X.env)).all (·.1.isSome) = true := by rfl) (hks : (backToKw pos (keywordEach kws X.env)).filterMap (·.1) = ks := by rfl) (hdb : (x == ("__debug__" : Str)) = false := by decide)
    (hpl : ((backTo pos (starEach [] X.env)).any (·.1) || (backToKw pos (keywordEach kws X.env)).any (·.1.isNone)) = false := by rfl) : PE X (.Call (.Name x p) [] kws pos) (liftE X.K W (dMkK pm g ks.length dk)) := by
  refine ⟨fun pins s sg H Q I ⟨ga, mu, al, hd, P, F, a, h, kv, kx⟩ => ?_⟩
  obtain ⟨f, sp, fr, M1, ck, M2, M3⟩ := M.ok
  have KB := KB f M1.init
  obtain ⟨fd, oc, od, osl, lk⟩ := KB.ok
  obtain ⟨hn, G⟩ := M2.kw fd oc od osl lk
  refine wpAny_Call_Name_kw (ld_glob I hg hm ?_ hdb)
  refine PySem.W.callWith_KW0 (h₀ := X.base) I.ok.mod.kin M1.kp hall ?_ hpl
  have h' : liftA X.K W dk sg H (fun zs H1 => ∃ ds mu1 al1, Okay X.K hd H1 mu1 al1 ∧ Go hd H al H1 al1 ∧ RepL X.K (al1 ++ hd) H1 al1 ds zs ∧ ds.length = ks.length ∧ g (pick .non ds pm) mu1 P F) := ⟨ga, mu, al, hd, P, _, a, h, ⟨fun ds mu1 vs H1 al1 h1 o1 g1 r1 => ⟨ds, mu1, al1, o1, g1, r1, h1⟩⟩, kx⟩
  refine thn (hk.run pos pins s sg H _ I h') fun ws s2 ⟨zs, H2, I2, rz, ds, mu1, al1, o1, g1, r1, l1, h1⟩ => ⟨I2.kIn, ?_⟩
  rw [hks]
  show wpAny _ _ (call (.ref (He.ga X.K (cn c))) [] (ks.zip ws)) _ _ _
  have hq := mk_in ck (I2.hok.fresh (Nat.le_succ _)) (I2.hok.fresh (Nat.le_refl s2.heap.objs.size)) M3 M2.ar o1 (r1.pick pm) h1 (kv.to g1) (kx.to g1)
  have I3 := Inv.made (C := He.ga X.K (cn c)) I2
  have r2 : Vals (V.ref (s2.heap.objs.size + 1) :: pick .non zs pm) (Value.ref (s2.heap.objs.size + 1) :: pick .none ws pm) := .cons rfl (vals_pick rz pm)
  have bb := KB.to fd oc od osl lk _ [Value.ref (s2.heap.objs.size + 1)] ws I3.kIn rfl (by rw [← rz.length, ← r1.len, l1])
  refine wpAny_call (make_map (f := f) I2.kIn M1.makes M1.init (beq_iff_eq.mp M1.fn) (codeAny_mono (G.run _ X.stack _ _ ⟨[Value.ref (s2.heap.objs.size + 1)], ks.zip ws⟩ (Value.ref (s2.heap.objs.size + 1) :: pick .none ws pm) _ _ (WE W sg) (hr.make _ [] (ks.zip ws)) (I3.env0.make _ [] (ks.zip ws)) bb r2 hq) fun r s' hq' => ?_))
  cases r with
  | error e => exact passAt tk sg pins _ _ e s' I3 hq'
  | ok fl =>
    cases fl with
    | ret u =>
      obtain ⟨v, H', I4, rv, ev, q3⟩ := I3.after hq'
      subst ev
      exact ⟨rv, ⟨V.ref (s2.heap.objs.size + 1), H', I4, rfl, q3⟩⟩
    | next => exact False.elim hq'
    | brk => exact False.elim hq'
    | cont => exact False.elim hq'
/-! ### methods of lists -/
abbrev GM := D → List D → Sto → KD → Prop
def dMtd (g : GM) (do_ : DE) (da : DA) : DE := fun ga mu P F => do_ ga mu P fun x mu1 => (∃ n, x = .ptr n ∧ ((∃ l, mu1[n]? = some (.lst l)) ∨ ∃ l, mu1[n]? = some (.lsp l))) ∧ da ga mu1 P fun ds mu2 => g x ds mu2 F
def MbS (X : Cx) (id : String) (g : GM) : Prop := ∃ r, MtR X id r ∧ ∀ (H : Hp) (mu : Sto) (al hd : List Addr) (x : D) (v : V) (ds : List D) (vs : List V) (F : KD) (Q : VK), Okay X.K hd H mu al → Rep X.K (al ++ hd) H al x v → RepL X.K (al ++ hd) H al ds vs → g x ds mu F → Kv X.K hd H al F Q → r v vs H Q
theorem list_tyV {K : PySem.W.Frag} {hd al : List Addr} {H : Hp} {mu : Sto} {x : D} {v : V} (o : Okay K hd H mu al) (r : Rep K (al ++ hd) H al x v) (h : ∃ n, x = .ptr n ∧ ((∃ l, mu[n]? = some (.lst l)) ∨ ∃ l, mu[n]? = some (.lsp l))) : tyV K "list" v H := by
  obtain ⟨n, rfl, h⟩ := h
  cases r with
  | ptr e =>
    rcases h with ⟨l, h⟩ | ⟨l, h⟩
    · obtain ⟨xs, e1, _⟩ := o.at_ n _ _ h e
      exact .inl ⟨rfl, xs, .inl (.inl e1)⟩
    · obtain ⟨xs, e1, _⟩ := o.at_ n _ _ h e
      exact .inl ⟨rfl, xs, .inl (.inl e1)⟩
theorem d_mtd {o e : Expr} {es : List Expr} {name : Str} {apos cpos : Pos} {id : String} {g : GM} {do_ : DE} {da : DA} (pa : PlainAttrs "list") (slot : Slot "list" name id) (hty : typeOf (.builtin id) = pure (.type "method_descriptor")) (hm : MbS X id g) (ho : PE X o (liftE X.K W do_)) (ha : PA X (e :: es) (liftA X.K W da))
    (hbase : attributeBase o name X.env (eval o X.env) = eval o X.env := by rfl)
    (hfew : ((backTo cpos (starEach (e :: es) X.env)).all (fun x => !x.1) && (backToKw cpos (keywordEach [] X.env)).all (fun x => x.1.isSome)
      && decide ((e :: es).length + ([] : List Keyword).length + (if ([] : List Keyword).isEmpty then 0 else 1) < 30)) = true := by rfl)
    (hline : (apos.endLine == cpos.line) = true := by rfl) (hs : starEach (e :: es) X.env = (false, eval e X.env) :: starEach es X.env := by rfl) (hplain : (backTo cpos (starEach es X.env)).any (·.1) = false := by rfl) :
    PE X (.Call (.Attribute o name apos) (e :: es) [] cpos) (liftE X.K W (dMtd g do_ da)) := by
  obtain ⟨r, hr, k⟩ := hm
  refine pe_wk (pe_bm pa slot hty hr ho ha hbase hfew hline hs hplain) fun sg H Q ⟨ga, mu, al, hd, P, F, a, h, kv, kx⟩ => ?_
  refine ⟨ga, mu, al, hd, P, _, a, h, ⟨fun d mu1 v H1 al1 h1 o1 g1 r1 => ⟨list_tyV o1 r1 h1.1, ga, mu1, al1, hd, P, _, a.to o1 g1, h1.2, ⟨fun ds mu2 vs H2 al2 h2 o2 g2 r2 => k _ _ _ _ _ _ _ _ _ _ o2 (r1.go g2 g2.pre) r2 h2 (kv.to (g1.trans g2))⟩, kx.to g1⟩⟩, kx⟩
theorem d_mtd0 {o : Expr} {name : Str} {apos cpos : Pos} {id : String} {g : GM} {do_ : DE} (pa : PlainAttrs "list") (slot : Slot "list" name id) (hty : typeOf (.builtin id) = pure (.type "method_descriptor")) (hm : MbS X id g) (ho : PE X o (liftE X.K W do_))
    (hbase : attributeBase o name X.env (eval o X.env) = eval o X.env := by rfl) (hline : (apos.endLine == cpos.line) = true := by rfl) : PE X (.Call (.Attribute o name apos) [] [] cpos) (liftE X.K W (dMtd g do_ dNil)) := by
  obtain ⟨r, hr, k⟩ := hm
  refine pe_wk (pe_bm0 pa slot hty hr ho hbase hline) fun sg H Q ⟨ga, mu, al, hd, P, F, a, h, kv, kx⟩ => ?_
  exact ⟨ga, mu, al, hd, P, _, a, h, ⟨fun d mu1 v H1 al1 h1 o1 g1 r1 => ⟨list_tyV o1 r1 h1.1, k _ _ _ _ _ _ _ _ _ _ o1 r1 .nil h1.2 (kv.to g1)⟩⟩, kx⟩
/-- the cell of a list, changed -/
theorem Kv.setL {K : PySem.W.Frag} {hd al : List Addr} {H : Hp} {mu : Sto} {n : Nat} {p : Addr} {d : D} {v : V} {F : KD} {Q : VK} {l : List D} {xs : List V} (o : Okay K hd H mu al) (hp : al[n]? = some p) (kv : Kv K hd H al F Q) (r : RepL K (al ++ hd) H [] l xs) (rd : Rep K (al ++ hd) H al d v) (h : F d (mu.set n (.lst l))) : Q v (upd H p (.lst xs)) := by
  have e : ∀ a, a ≠ p → upd H p (.lst xs) a = H a := fun a ha => upd_ne ha
  have g := Go.write o hp e
  exact kv.go _ _ _ _ _ h (o.write hp e ⟨xs, upd_same, r.go g (Pre.refl _)⟩) g (rd.go g g.pre)
theorem Kv.setP {K : PySem.W.Frag} {hd al : List Addr} {H : Hp} {mu : Sto} {n : Nat} {p : Addr} {d : D} {v : V} {F : KD} {Q : VK} {l : List D} {xs : List V} (o : Okay K hd H mu al) (hp : al[n]? = some p) (kv : Kv K hd H al F Q) (r : RepL K (al ++ hd) H al l xs) (rd : Rep K (al ++ hd) H al d v) (h : F d (mu.set n (.lsp l))) : Q v (upd H p (.lst xs)) := by
  have e : ∀ a, a ≠ p → upd H p (.lst xs) a = H a := fun a ha => upd_ne ha
  have g := Go.write o hp e
  exact kv.go _ _ _ _ _ h (o.write hp e ⟨xs, upd_same, r.go g g.pre⟩) g (rd.go g g.pre)
def gAppend : GM := fun x ds mu F => match x, ds with
  | .ptr n, [d] => (match mu[n]? with
    | some (.lst l) => (np d ∧ l.length < 16777216) ∧ F .non (mu.set n (.lst (l ++ [d])))
    | some (.lsp l) => l.length < 16777216 ∧ F .non (mu.set n (.lsp (l ++ [d])))
    | _ => False)
  | _, _ => False
theorem m_append : MbS X "list.append" gAppend := by
  refine ⟨_, mt_append, fun H mu al hd x v ds vs F Q o rx rs h kv => ?_⟩
  unfold gAppend at h
  split at h
  · rename_i n d
    obtain ⟨y, ys, rfl, ry, rn⟩ := rs.cons_
    cases rn.nil_
    cases rx with
    | ptr e =>
      split at h
      · rename_i l q
        obtain ⟨xs, e1, r1⟩ := o.at_ n _ _ q e
        exact ⟨_, xs, y, rfl, rfl, e1, by rw [← r1.len, sizeLine_eq]; exact h.1.2, Kv.setL o e kv (r1.append (.one (ry.np h.1.1))) .non h.2⟩
      · rename_i l q
        obtain ⟨xs, e1, r1⟩ := o.at_ n _ _ q e
        exact ⟨_, xs, y, rfl, rfl, e1, by rw [← r1.len, sizeLine_eq]; exact h.1, Kv.setP o e kv (r1.append (.one ry)) .non h.2⟩
      · exact h.elim
  · exact h.elim
end
end DL

/-! part DL12 -/
/-! DL12: sorted(set(xs)), xs a list of whole numbers. -/
namespace DL
open PySem PySem.Spec PyProof.Rows L2
/-- an empty set, just made -/
abbrev newS (w : World) : Obj := { cls := .type "set", dict := none, data := .set #[] 0 (.fresh 0 0 (!w.params.followText "set-order")) }
section
variable {P : Program} {w : World} {A : Around} {E : Value → Shared → Prop} {s : Shared}
theorem set_of_listI {l : Addr} {items : Array Value} (ns : List Int) {Q : Value → Shared → Prop} (hh : A.handled = none) (hl : s.heap.IsList l items) (hit : IntsAre items.toList ns) (hb : ns.length + 1 < scanBound)
    (h : ∀ (h' : Heap) (tk c : Nat), SetR w h' s.heap.objs.size (fun j => decide (j ∈ ns)) c → c ≤ ns.length → (∀ b o, s.heap.get? b = some o → h'.get? b = some o) → Q (.ref s.heap.objs.size) { s with heap := h', toks := tk }) :
    wpAny (model P w) A (call (.type "set") [.ref l]) Q E s := by
  have sz : items.size = ns.length := by
    have q := IntsAre.length hit
    rw [Array.length_toList] at q
    exact q
  obtain ⟨c, tl, em⟩ := F.called_set.mro
  have ed1 := F.called_set.made
  have es1 := F.called_set.sub
  refine wpAny_call (codeAny_of_tree ?_)
  show wpAny _ _ (callAny (.type "set") _) _ _ _
  refine wpAny_pure ⟨Code.quiet_builtin _ (by decide +kernel), codeAny_builtin F.entry_type_call ?_⟩
  rw [Around.under_plain (weight_type_call_type "set" [.ref l] []) rfl]
  have h1 := F.called_set.notType
  have h2 := F.called_set.canCreate
  have ec := F.typeCall_set_1 (.ref l)
  repeat (any_goals (first | assumption | wp_step))

  refine codeAny_mono (code_set_led1 (.ref l) (E := E) (Q₁ := fun obj s₁ => obj = .ref s.heap.objs.size ∧ s₁ = { s with heap := s.heap.push (newS w) }) ⟨rfl, rfl⟩) fun r s₁ hr => ?_
  cases r with
  | error e => exact hr
  | ok fl =>
    cases fl with
    | ret obj =>
      obtain ⟨rfl, rfl⟩ := hr
      have r0 : (s.heap.push (newS w)).get? s.heap.objs.size = some (newS w) := Heap.get?_push_size _ rfl
      have ty0 : Shared.TypeIs { s with heap := s.heap.push (newS w) } (.ref s.heap.objs.size) "set" := ⟨_, r0, rfl⟩
      have el := F.called_set.init.lookup
      have eb := F.called_set.init.bind (.ref s.heap.objs.size)
      repeat (any_goals (first | assumption | wp_step))

      refine codeAny_mono (codeAny_call_builtin (R := wants (fun r s₂ => r = .none ∧ ∃ h' tk c, s₂ = { s with heap := h', toks := tk } ∧ SetR w h' s.heap.objs.size (fun j => decide (j ∈ ns)) c ∧ c ≤ ns.length ∧
          (∀ b o, s.heap.get? b = some o → h'.get? b = some o)) E) F.called_set.init.plain F.entry_set_init (check_set_init_1 ty0 ?_)) fun r₂ s₂ hr₂ => ?_
      · obtain ⟨ol, gl, gc, nl, gd⟩ := hl
        obtain ⟨o1, o2, o3, o4⟩ := ol
        simp only at gc gd
        subst gc; subst gd
        have gl' : (s.heap.push (newS w)).get? l = some { cls := .type "list", dict := o2, data := .seq items nl, slots := o4 } := Heap.get?_push_of_some _ gl
        have n1 := F.sub_list_set
        have n2 := F.sub_list_frozenset
        have hne : (Value.type "list" == Value.type "dict") = false := by decide
        have l1 : (s.heap.push (newS w)).IsList l items := ⟨_, gl', rfl, nl, rfl⟩
        unfold Builtin.«set.__init__» noKeywords Builtin.Frozenset.updateFrom
        generalize hPI : pyIter = PI
        wp_walk
        subst hPI

        refine wpAny_pyIter_list l1 ?_
        refine wpAny_bind (wpAny_runValue ?_)
        have lt0 : l < s.heap.objs.size := Heap.lt_size gl
        have a3 : A.in1.in1.in1.handled = none := by simp [hh]
        have z1 : (s.heap.push (newS w)).objs.size = s.heap.objs.size + 1 := Heap.size_push ..
        have ni : l ≠ (s.heap.push (newS w)).objs.size := by
          rw [Heap.size_push]; exact Nat.ne_of_lt (Nat.lt_succ_of_lt lt0)
        have nf : s.heap.objs.size ∉ [(s.heap.push (newS w)).objs.size, l] := by
          rw [Heap.size_push]; simp only [List.mem_cons, List.mem_singleton, List.not_mem_nil, or_false, not_or]
          exact ⟨Nat.ne_of_lt (Nat.lt_succ_self _), Nat.ne_of_gt lt0⟩
        have vals : ∀ (i : Nat) (v : Value), items[i]? = some v → ∃ k t, ns[i]? = some k ∧ v = .int k t := fun i v hv => by
          have hi : i < ns.length := by rw [← sz]; exact (Array.getElem?_eq_some_iff.mp hv).1
          obtain ⟨t, e⟩ := PyProof.Rows.IntsAre.int_at hit i v (by rw [Array.getElem?_toList]; exact hv)
          refine ⟨ns[i], t, List.getElem?_eq_getElem hi, ?_⟩
          rw [e, List.getD_eq_getElem?_getD, List.getElem?_eq_getElem hi] <;> rfl
        refine set_update_ints ((Walks.list a3 _ l ni items).toS) s.heap.objs.size
          nf ns sz hb vals (items.size - 0) 0 _ (by omega) (Nat.zero_le _)
          ⟨⟨_, Heap.get?_push_size _ rfl, rfl, rfl⟩, (l1.push _)⟩ ?st0 ?hR
        case st0 =>
          have gg : ((s.heap.push (newS w)).push { cls := .type "list_iterator", data := .fields #[.ref l, .int 0 0] }).get? s.heap.objs.size
              = some (newS w) := Heap.get?_push_of_some _ r0
          exact ⟨0, Nat.le_refl 0, setR_new_at gg⟩
        case hR =>
          intro s' c' hm cc' r'
          obtain ⟨h', g2, d', tk', os'⟩ := s'
          have eg : g2 = s.gens := hm.gens
          have ed : d' = s.drawn := hm.drawn
          have eo : os' = s.os := hm.os
          subst eg; subst ed; subst eo
          show wpAny _ _ _ _ _ _
          refine wpAny_pure ?_
          show wpAny _ _ (ret Value.none) _ _ _
          rw [sz] at cc'
          refine wpAny_pure ⟨rfl, h', tk', c', rfl, r', cc', fun b o e => ?_⟩
          have k0 : b < s.heap.objs.size := Heap.lt_size e
          have k1 : b ≠ s.heap.objs.size := Nat.ne_of_lt k0
          have k2 : b ≠ (s.heap.push (newS w)).objs.size := by
            rw [Heap.size_push]; exact Nat.ne_of_lt (Nat.lt_succ_of_lt k0)
          exact hm.heap b o (by simp only [List.mem_cons, List.mem_singleton, List.not_mem_nil, or_false, not_or]; exact ⟨k1, k2⟩) (Heap.get?_push_of_some _ (Heap.get?_push_of_some _ e))

      · cases r₂ with
        | error e => exact hr₂
        | ok fl₂ =>
          cases fl₂ with
          | ret r =>
            obtain ⟨rfl, h', tk, c', rfl, r', cc', kk'⟩ := hr₂
            repeat (any_goals (first | assumption | wp_step))
            exact h _ _ _ r' cc' kk'
          | _ => exact hr₂.elim
    | _ => exact hr.elim

end
end DL

/-! part DL13 -/
/-! DL13: sorted(set(xs)) as a rule; is None. -/
namespace DL
open PySem PySem.Spec PyProof.Rows L2
def ins1 (k : Int) : List Int → List Int
  | [] => [k]
  | a :: l => if k < a then k :: a :: l else if k = a then a :: l else a :: ins1 k l
/-- ascending, each once -/
def sd : List Int → List Int
  | [] => []
  | a :: l => ins1 a (sd l)
theorem mem_ins1 {k j : Int} : ∀ {l : List Int}, j ∈ ins1 k l ↔ j = k ∨ j ∈ l
  | [] => by simp [ins1]
  | a :: l => by
    rw [ins1]
    split
    · simp
    · split
      · rename_i e
        subst e
        simp
      · rw [List.mem_cons, mem_ins1 (l := l), List.mem_cons]
        constructor
        · rintro (h | h | h)
          · exact .inr (.inl h)
          · exact .inl h
          · exact .inr (.inr h)
        · rintro (h | h | h)
          · exact .inr (.inl h)
          · exact .inl h
          · exact .inr (.inr h)
theorem mem_sd {j : Int} : ∀ {l : List Int}, j ∈ sd l ↔ j ∈ l
  | [] => by simp [sd]
  | a :: l => by rw [sd, mem_ins1, mem_sd (l := l), List.mem_cons]
theorem asc_ins1 {k : Int} : ∀ {l : List Int}, l.Pairwise (· < ·) → (ins1 k l).Pairwise (· < ·)
  | [], _ => by simp [ins1]
  | a :: l, h => by
    have h' := List.pairwise_cons.mp h
    rw [ins1]
    split
    · rename_i q
      refine List.pairwise_cons.mpr ⟨fun b hb => ?_, h⟩
      rcases List.mem_cons.mp hb with e | e
      · rw [e]; exact q
      · exact Int.lt_trans q (h'.1 b e)
    · split
      · exact h
      · rename_i q1 q2
        refine List.pairwise_cons.mpr ⟨fun b hb => ?_, asc_ins1 h'.2⟩
        rcases mem_ins1.mp hb with e | e
        · rw [e]; omega
        · exact h'.1 b e
theorem asc_sd : ∀ l : List Int, (sd l).Pairwise (· < ·)
  | [] => .nil
  | a :: l => asc_ins1 (asc_sd l)
theorem asc_uniq : ∀ {l r : List Int}, l.Pairwise (· < ·) → r.Pairwise (· < ·) → (∀ k, k ∈ l ↔ k ∈ r) → l = r
  | [], [], _, _, _ => rfl
  | [], b :: r, _, _, h => absurd ((h b).mpr List.mem_cons_self) (by simp)
  | a :: l, [], _, _, h => absurd ((h a).mp List.mem_cons_self) (by simp)
  | a :: l, b :: r, h1, h2, h => by
    have p1 := List.pairwise_cons.mp h1
    have p2 := List.pairwise_cons.mp h2
    have e : a = b := by
      rcases List.mem_cons.mp ((h a).mp List.mem_cons_self) with e | e
      · exact e
      · rcases List.mem_cons.mp ((h b).mpr List.mem_cons_self) with e' | e'
        · exact e'.symm
        · have q1 := p2.1 a e
          have q2 := p1.1 b e'
          omega
    subst e
    have e2 : l = r := asc_uniq p1.2 p2.2 fun k => by
      constructor
      · intro hk
        rcases List.mem_cons.mp ((h k).mp (List.mem_cons_of_mem _ hk)) with e | e
        · have := p1.1 k hk
          omega
        · exact e
      · intro hk
        rcases List.mem_cons.mp ((h k).mpr (List.mem_cons_of_mem _ hk)) with e | e
        · have := p2.1 k hk
          omega
        · exact e
    rw [e2]
theorem sd_of {l r : List Int} (h1 : r.Pairwise (· < ·)) (h2 : ∀ k, k ∈ r ↔ k ∈ l) : r = sd l := asc_uniq h1 (asc_sd l) fun k => (h2 k).trans mem_sd.symm
/-- a list of whole numbers -/
def intsD : List D → Option (List Int)
  | [] => some []
  | .int i :: l => (intsD l).map (i :: ·)
  | _ :: _ => none
theorem intsD_map (ns : List Int) : intsD (ns.map D.int) = some ns := by
  induction ns with
  | nil => rfl
  | cons a l ih => rw [List.map_cons, intsD, ih] <;> rfl
theorem intsD_eq : ∀ {l : List D} {ns : List Int}, intsD l = some ns → l = ns.map D.int
  | [], ns, h => by
    cases h
    rfl
  | .int i :: l, ns, h => by
    rw [intsD] at h
    cases q : intsD l with
    | none =>
      rw [q] at h
      cases h
    | some r =>
      rw [q] at h
      cases h
      rw [intsD_eq q] <;> rfl
  | .non :: l, ns, h => by cases h
  | .bl _ :: l, ns, h => by cases h
  | .str _ :: l, ns, h => by cases h
  | .adr _ :: l, ns, h => by cases h
  | .ptr _ :: l, ns, h => by cases h
  | .tup _ :: l, ns, h => by cases h
  | .lst _ :: l, ns, h => by cases h
  | .obj _ _ :: l, ns, h => by cases h
  | .err _ _ _ _ :: l, ns, h => by cases h
theorem RepL.ints {K : PySem.W.Frag} {fb pt : List Addr} {H : Hp} : ∀ {ns : List Int} {xs : List V}, RepL K fb H pt (ns.map D.int) xs → xs = ns.map V.int
  | [], _, .nil => rfl
  | _ :: _, _, .cons h r => by
    cases h
    rw [RepL.ints r] <;> rfl
theorem RepL.ofInts {K : PySem.W.Frag} {fb pt : List Addr} {H : Hp} : ∀ (ns : List Int), RepL K fb H pt (ns.map D.int) (ns.map V.int)
  | [] => .nil
  | _ :: ns => .cons .int (RepL.ofInts ns)
def rSetOfL (K : PySem.W.Frag) (w : World) : List V → Hp → VK → Prop := fun vs H Q => ∃ (l : Addr) (ns : List Int), vs = [V.ref l] ∧ SqL K H l (ns.map V.int) ∧ ns.length + 1 < scanBound ∧ ∀ (p : Addr) (c : Nat), H p = none → c ≤ ns.length → Q (.ref p) (upd H p (SetO w p (fun j => decide (j ∈ ns)) c))
section
variable {X : Cx} {W : WX}
theorem cr_setOfL (hc : X.calm = true) : CallR X (.type "set") (rSetOfL X.K X.w) := by
  intro pins s sg H vs us Q I r h
  obtain ⟨l, ns, rfl, hq, hb, q⟩ := h
  obtain ⟨u, rfl, ru⟩ := vals1 r
  cases ru
  obtain ⟨its, rv, pl, hz⟩ := I.list hq
  refine set_of_listI ns (I.ok.hd hc) pl.isList (by simpa using rv.ints) hb fun h' tk c R hcl k => ?_
  exact ⟨.ref _, _, I.laid (t' := tk) k (Nat.le_refl _) (setO_new R), rfl, q _ c (I.hok.fresh (Nat.le_refl _)) hcl⟩
def rSetOfTI (K : PySem.W.Frag) (w : World) : List V → Hp → VK → Prop := fun vs H Q => ∃ (l : Addr) (ns : List Int), vs = [V.ref l] ∧ SqT K H l (ns.map V.int) ∧ ns.length + 1 < scanBound ∧ ∀ (p : Addr) (c : Nat), H p = none → c ≤ ns.length → Q (.ref p) (upd H p (SetO w p (fun j => decide (j ∈ ns)) c))
theorem cr_setOfTI (hc : X.calm = true) : CallR X (.type "set") (rSetOfTI X.K X.w) := by
  intro pins s sg H vs us Q I r h
  obtain ⟨l, ns, rfl, hq, hb, q⟩ := h
  obtain ⟨u, rfl, ru⟩ := vals1 r
  cases ru
  obtain ⟨its, rv, pl, hz⟩ := I.tuple hq
  refine call_set_tupI ns (I.ok.hd hc) (show s.heap.IsTuple l its.toArray from pl) (by simpa using rv.ints) hb fun h' tk c R hcl k => ?_
  exact ⟨.ref _, _, I.laid (t' := tk) k (Nat.le_refl _) (setO_new R), rfl, q _ c (I.hok.fresh (Nat.le_refl _)) hcl⟩
def dSortSet (m : Nat) (de : DE) : DE := fun ga mu P F => de ga mu P fun x mu1 => match sv mu1 x with
  | some l => (match intsD l with
    | some ns => ns.length < 64 ∧ retN m ((sd ns).map D.int) mu1 F
    | none => False)
  | none => False
theorem d_sortSet (m : Nat) {e : Expr} {de : DE} {p1 p2 q1 q2 : Pos} (hc : X.calm = true) (hm : X.mg "sorted" = none) (hm2 : X.mg "set" = none) (he : PE X e (liftE X.K W de)) (hg : Gl X "sorted" := by rfl) (hg2 : Gl X "set" := by rfl)
    (hs : starEach [e] X.env = [(false, eval e X.env)] := by rfl) (hs2 : starEach [Expr.Call (.Name "set" p2) [e] [] q2] X.env = [(false, eval (Expr.Call (.Name "set" p2) [e] [] q2) X.env)] := by rfl) :
    PE X (.Call (.Name "sorted" p1) [.Call (.Name "set" p2) [e] [] q2] [] q1) (liftE X.K W (dSortSet m de)) := by
  have h1 := pe_callTy (CallR.orr (cr_setOfL (X := X) hc) (cr_setOfTI (X := X) hc)) hg2 hm2 (by decide +kernel) (pa_cons he pa_nil hs) (by decide) (by decide) hs (by rfl) (p := p2) (pos := q2)
  have h2 := pe_callB (cr_sortedSet (X := X) hc) hg hm (by decide +kernel) (pa_cons h1 pa_nil hs2) (by decide) (by decide) hs2 (by rfl) (p := p1) (pos := q1)
  refine pe_wk h2 fun sg H Q ⟨ga, mu, al, hd, P, F, a, h, kv, kx⟩ => ?_
  refine ⟨ga, mu, al, hd, P, _, a, h, ⟨fun d mu1 v H1 al1 hh o1 g1 r1 => ?_⟩, kx⟩
  split at hh
  · rename_i l hl
    split at hh
    · rename_i ns hns
      have el := intsD_eq hns
      subst el
      obtain ⟨a1, xs, rfl, z, r2⟩ := r1.sv o1 hl
      have ex := r2.ints
      subst ex
      have fin : ∀ (p : Addr) (c : Nat), H1 p = none → c ≤ ns.length → rSortedSet X.w [V.ref p] (upd H1 p (SetO X.w p (fun j => decide (j ∈ ns)) c)) Q := fun p c hp hc1 => by
        refine ⟨p, _, c, rfl, upd_same, by have := hh.1; omega, fun ns' p' hs hmem hlen hp' => ?_⟩
        have e2 : ns' = sd ns := sd_of hs fun k => (hmem k).trans (by simp)
        subst e2
        have g2 : Go hd H1 al1 (upd H1 p (SetO X.w p (fun j => decide (j ∈ ns)) c)) al1 := Go.lay o1 hp
        exact ((kv.to g1).to g2).listN (o1.lay hp) hp' (RepL.ofInts _) hh.2
      rcases z with z | z
      · exact .inl ⟨a1, ns, rfl, z, by unfold scanBound; have := hh.1; omega, fin⟩
      · exact .inr ⟨a1, ns, rfl, z, by unfold scanBound; have := hh.1; omega, fin⟩
    · exact hh.elim
  · exact hh.elim
/-- x is None, x is not None -/
def isNonD : D → Bool
  | .non => true
  | _ => false
end
end DL

/-! part DL14 -/
/-! DL14: C(), where there is no __init__ but object's; statements never reached. -/
namespace DL
open PySem PySem.Spec PyProof.Rows L2
/-- a class without fields and without __init__ -/
structure Mk0 (K : PySem.W.Frag) (c : Nat) : Prop where
  ck : ClsOk K c
  no : fn c = []
  makes : PySem.W.makesIn K (He.ga K (cn c)) = true
  init : PySem.W.findIn K (.ref (He.ga K (cn c))) "__init__" = some (some (.builtin "object.__init__"))
  top : PySem.W.mroIn K (He.ga K (cn c)) (.type "object") = some true
  kp : PySem.W.keepIn K (.ref (He.ga K (cn c))) = true
def dMk0 (c : Nat) : DE := fun _ mu _ F => F (.obj c []) mu
/-- a statement that is not reached -/
def dNever : DS := fun _ _ _ => False
section
variable {X : Cx} {W : WX}
theorem ds_never {s : Stmt} : PS X s (liftS X.K W dNever) := ⟨fun _ _ _ _ _ _ ⟨_, _, _, _, _, _, h, _⟩ => h.elim⟩
theorem d_make00 {c : Nat} {x : Str} {p pos : Pos} (M : Mk0 X.K c) (hm : X.mg x = some (.ref (He.ga X.K (cn c)))) (hg : Gl X x := by rfl) (hdb : (x == ("__debug__" : Str)) = false := by decide) : PE X (.Call (.Name x p) [] [] pos) (liftE X.K W (dMk0 c)) := by
  refine ⟨fun pins s sg H Q I ⟨ga, mu, al, hd, P, F, a, h, kv, kx⟩ => ?_⟩
  refine wpAny_Call_Name_kw (ld_glob I hg hm ?_ hdb)
  refine PySem.W.callWith_K0 I.kIn M.kp (wpAny_call (make_map0 (R := wants (EP X pins sg Q) X.xe) I.kIn M.makes M.init (fun self => PySem.W.Looks.of_pure (PySem.W.oi_bind self)) ?_))
  have I2 := Inv.made (C := He.ga X.K (cn c)) I
  have hx0 : H (s.heap.objs.size + 1) = none := I.hok.fresh (Nat.le_succ _)
  have hd0 : H s.heap.objs.size = none := I.hok.fresh (Nat.le_refl s.heap.objs.size)
  obtain ⟨mA, J, _⟩ := ins_get I2.hok (show _ = some (HO.ins (He.ga X.K (cn c)) s.heap.objs.size []) from upd_same)
  obtain ⟨od, J, _⟩ := J.look
  refine codeAny_call_builtin PySem.W.oi_plain PySem.W.entry_oi (PySem.W.check_slot PySem.W.oi_kind PySem.W.oi_split (J.type.andThen (PySem.W.looks_mroIn I2.kIn M.top)) (NwA.oi_args_any _ [] []) ?_)
  rw [PySem.W.oi_run]
  have keep : ∀ b u, H b = some u → (upd (upd H s.heap.objs.size (.own (s.heap.objs.size + 1))) (s.heap.objs.size + 1) (.ins (He.ga X.K (cn c)) s.heap.objs.size [])) b = some u := fun b u e => by
    rw [upd_ne (ne_of_none e hx0), upd_ne (ne_of_none e hd0)]
    exact e
  refine wpAny_pure ⟨rfl, V.ref (s.heap.objs.size + 1), _, I2, rfl, kv.go (.obj c []) mu _ _ al h (a.ok.ext keep) (Go.ext a.ok keep) (.obj (a.ok.new hx0) (by rw [upd_same]; unfold fz; rw [M.no] <;> rfl) ⟨by rw [M.no] <;> rfl, M.ck⟩ .nil)⟩
end
end DL

/-! part DL15 -/
/-! DL15: a, b = x, y and a, b, c = x, y, z with plain local names. -/
namespace DL
open PySem PySem.Spec PyProof.Rows L2
def dPar2 (i j : Nat) (da : DA) : DS := fun E ga mu => da ga mu E.ex fun ds mu1 => match ds with
  | [x, y] => E.nx ((ga.set i (some x)).set j (some y)) mu1
  | _ => False
def dPar3 (i j l : Nat) (da : DA) : DS := fun E ga mu => da ga mu E.ex fun ds mu1 => match ds with
  | [x, y, z] => E.nx (((ga.set i (some x)).set j (some y)).set l (some z)) mu1
  | _ => False
section
variable {X : Cx} {W : WX}
theorem ds_par2 (i j : Nat) {x y : Str} {a b : Expr} {da : DA} {px py pt pos : Pos} {kt k2 pt2} (hc : X.calm = true) (hN : X.N.Nodup) (ha : PA X [a, b] (liftA X.K W da)) (hi : X.N[i]? = some x := by rfl) (hj : X.N[j]? = some y := by rfl) (hij : i ≠ j := by decide)
    (hx : X.env.scope.names.lookup x = some .local := by rfl) (hy : X.env.scope.names.lookup y = some .local := by rfl)
    (hw : swappedStores [.Tuple [.Name x px, .Name y py] kt pt] (.Tuple [a, b] k2 pt2) X.env = pure (some [x, y]) := by rfl)
    (hs : swapsWithSole [.Tuple [.Name x px, .Name y py] kt pt] (.Tuple [a, b] k2 pt2) pos.line X.env = pure false := by rfl) : PS X (.Assign [.Tuple [.Name x px, .Name y py] kt pt] (.Tuple [a, b] k2 pt2) pos) (liftS X.K W (dPar2 i j da)) := by
  refine ps_wk (ps_par hc hN hi hj hij hx hy ha hw hs) fun Q sg H ⟨ga, mu, al, hd, E, at_, h, k⟩ => ?_
  refine ⟨ga, mu, al, hd, E.ex, _, at_, h, ⟨fun ds mu1 vs H1 al1 h1 o1 g1 r1 => ?_⟩, k.ex sg⟩
  split at h1
  · obtain ⟨v, ys, rfl, r2, r3⟩ := r1.cons_
    obtain ⟨v2, ys2, rfl, r4, r5⟩ := r3.cons_
    cases r5.nil_
    exact ⟨v, v2, rfl, k.nx _ _ _ _ _ h1 ⟨o1, ((at_.sl.go g1).set i r2).set j r4⟩ g1⟩
  · exact h1.elim
theorem ds_par3 (i j l : Nat) {x y z : Str} {a b c : Expr} {da : DA} {px py pz pt pos : Pos} {kt k2 pt2} (hc : X.calm = true) (hN : X.N.Nodup) (ha : PA X [a, b, c] (liftA X.K W da)) (hi : X.N[i]? = some x := by rfl) (hj : X.N[j]? = some y := by rfl) (hl : X.N[l]? = some z := by rfl) (hij : i ≠ j := by decide) (hil : i ≠ l := by decide) (hjl : j ≠ l := by decide)
    (hx : X.env.scope.names.lookup x = some .local := by rfl) (hy : X.env.scope.names.lookup y = some .local := by rfl) (hz : X.env.scope.names.lookup z = some .local := by rfl)
    (hw : swappedStores [.Tuple [.Name x px, .Name y py, .Name z pz] kt pt] (.Tuple [a, b, c] k2 pt2) X.env = pure (some [x, y, z]) := by rfl)
    (hs : swapsWithSole [.Tuple [.Name x px, .Name y py, .Name z pz] kt pt] (.Tuple [a, b, c] k2 pt2) pos.line X.env = pure false := by rfl) : PS X (.Assign [.Tuple [.Name x px, .Name y py, .Name z pz] kt pt] (.Tuple [a, b, c] k2 pt2) pos) (liftS X.K W (dPar3 i j l da)) := by
  refine ps_wk (ps_par3 hc hN hi hj hl hij hil hjl hx hy hz ha hw hs) fun Q sg H ⟨ga, mu, al, hd, E, at_, h, k⟩ => ?_
  refine ⟨ga, mu, al, hd, E.ex, _, at_, h, ⟨fun ds mu1 vs H1 al1 h1 o1 g1 r1 => ?_⟩, k.ex sg⟩
  split at h1
  · obtain ⟨v, ys, rfl, r2, r3⟩ := r1.cons_
    obtain ⟨v2, ys2, rfl, r4, r5⟩ := r3.cons_
    obtain ⟨v3, ys3, rfl, r6, r7⟩ := r5.cons_
    cases r7.nil_
    exact ⟨v, v2, v3, rfl, k.nx _ _ _ _ _ h1 ⟨o1, (((at_.sl.go g1).set i r2).set j r4).set l r6⟩ g1⟩
  · exact h1.elim
end
end DL

/-! part DL16 -/
/-! DL16: the script and a list, put together; the script may stand in the written part. -/
namespace DL
open PySem
open AutoSeq1 (wpAny_loadPart')
open MeetsSeq in
theorem add_slots (l : Addr) (xs : Array Value) (n : Nat) (sl : Array (Option Value)) (b : Addr) (ys : Array Value) (n2 : Nat) (hz : xs.size + ys.size ≤ sizeLine) :
    Meets (Builtin.«list.__add__» ⟨[.ref l, .ref b], []⟩) (fun _ R s => s.heap.get? l = some { cls := .type "list", data := .seq xs n, slots := sl } ∧ s.heap.get? b = some { cls := .type "list", data := .seq ys n2 } ∧ R (.ok (.ret (Value.ref s.heap.objs.size))) { s with heap := s.heap.push { cls := .type "list", data := .seq (xs ++ ys) }, toks := s.toks }) :=
  .of_wp fun prog w A R s h => by
    obtain ⟨hp, g, d, tk, os⟩ := s
    obtain ⟨h1, h2, h⟩ := h
    have k1 := AutoSeq1.idx_int
    have k2 := AutoSeq1.sub_tuple_tuple
    have k3 := AutoSeq1.sub_list_list
    have k4 := AutoSeq1.sub_tuple_list
    have k5 := AutoSeq1.sub_list_tuple
    wp_walk using wpAny_loadPart' h1, wpAny_loadPart' h2
    exact ⟨_, rfl, h⟩
open PySem.Spec PyProof.Rows L2
def rCatK (K : PySem.W.Frag) : R2 := fun x y H Q => ∃ l b xs zs, x = .ref l ∧ y = .ref b ∧ SqL K H l xs ∧ Rd H b (.lst zs) ∧ xs.length + zs.length ≤ sizeLine ∧ ∀ p, H p = none → Q (.ref p) (upd H p (.lst (xs ++ zs)))
section
variable {X : Cx} {W : WX}
theorem op_catK : OpR X (binaryOp .Add) (rCatK X.K) := by
  intro pins s sg H x y v u Q I rx ry h
  obtain ⟨l, b, xs, zs, rfl, rfl, hH, hB, hz, q⟩ := h
  cases rx
  cases ry
  obtain ⟨its, r, ⟨o, n, e, ec, edd, ed⟩, z⟩ := I.list hH
  obtain ⟨z2, its2, n2, r2, hl2, e2⟩ := Rd.lst I hB
  obtain ⟨oc, od, dt, sl⟩ := o
  simp only at ec edd ed
  subst ec edd ed
  have hl := r.length
  refine concat_meets ⟨_, e, rfl⟩ ⟨_, e2, rfl⟩ noFill_list_add seq_list_add F.slot_list_add F.entry_list_add (F.args_list_add_2 _ _) (add_slots l its.toArray n sl b its2.toArray n2 (by rw [List.size_toArray, List.size_toArray]; omega)) ⟨e, e2, ?_⟩
  have ea : its.toArray ++ its2.toArray = (its ++ its2).toArray := by simp
  rw [ea]
  exact ⟨.ref _, _, I.lnew (t' := s.toks) (r.append r2) (by rw [List.length_append]; omega), rfl, q _ I.fresh⟩
/-- script + a list: the script is the list of the text at a -/
def gScr (a : Addr) (ns : List Int) : G2 := fun x y mu _ F => x = .adr a ∧ ∃ k, lv mu y = some k ∧ ns.length + k.length ≤ 16777216 ∧ F (.lst (ns.map D.int ++ k)) mu
theorem o_scr {a : Addr} {ns : List Int} (hS : ∀ H, SqL X.K H a (ns.map V.int)) : OpS X (binaryOp .Add) (liftR X.K W (gScr a ns)) := by
  refine ops_wk (opr_s op_catK) fun sg x y H Q ⟨mu, al, hd, d, e, P, F, o, r1, r2, hg, kv, kx⟩ => ?_
  obtain ⟨rfl, k, hk, hz, h⟩ := hg
  cases r1
  obtain ⟨p, ys, rfl, e2, s2⟩ := r2.lv o hk
  refine ⟨a, p, _, ys, rfl, rfl, hS H, e2, ?_, fun b hb => kv.listN (m := 0) o hb ((RepL.ofInts ns).append s2) h⟩
  rw [List.length_map, ← s2.len, sizeLine_eq]
  exact hz
end
end DL

/-! part DQ0 -/
/-! DQ0: == and != of lists and tuples, item by item, both answers. -/
namespace DQ
open PySem PySem.SeqAt
open AutoSeq1 (wpAny_loadPart')
open MeetsSeq MeetsSeq2 MeetsSeq3 SeqRoads2
section
variable {prog : Program} {w : World} {A : Around} {R : Result → Shared → Prop}
/-- how a built-in's body ends -/
abbrev FinO (prog : Program) (w : World) (A : Around) (R : Result → Shared → Prop) : Fin → Shared → Prop := fun fin s' => match fin with
  | .done f => R (.ok f) s'
  | .again c' => c'.quiet = true ∧ codeAny (model prog w) A c' R s'

/-- list == list, item by item, both answers (eq) -/
def ListB_eq (prog : Program) (w : World) (A : Around) (E : Value → Shared → Prop) (l b : Addr) (N : Nat) (I J : Nat → Shared → Prop) : Prop :=
  ∀ i s, I i s → ∃ (items items2 : Array Value) (n n2 : Nat), s.heap.get? l = some { cls := .type "list", data := .seq items n } ∧ s.heap.get? b = some { cls := .type "list", data := .seq items2 n2 } ∧ items.size = N ∧ items2.size = N ∧
    ∀ (h1 : i < items.size) (h2 : i < items2.size), wpAny (model prog w) A.in1 (eqBool items[i] items2[i]) (fun r s' => (r = true → I (i + 1) s') ∧ (r = false → J i s' ∧ ∃ (items items2 : Array Value) (n n2 : Nat), s'.heap.get? l = some { cls := .type "list", data := .seq items n } ∧ s'.heap.get? b = some { cls := .type "list", data := .seq items2 n2 } ∧ items.size = N ∧ items2.size = N)) E s
theorem loopB_eq (l b : Addr) (N : Nat) (I J : Nat → Shared → Prop) (hl : ListB_eq prog w A (fun e s' => R (.error e) s') l b N I J)
    (fin : ∀ s, I N s → R (.ok (.ret (.bool true))) s) (fin2 : ∀ i s, i < N → J i s → R (.ok (.ret (.bool false))) s) (k : Nat) :
    ∀ i : Nat, N - i = k → i ≤ N → ∀ s, I i s →
      wpAny (model prog w) A.in1 (Builtin.«list.__eq__.loop» ⟨[.ref l, .ref b, rawInt i, rawInt 2], []⟩) (FinO prog w A R) (fun e s' => R (.error e) s') s := by
  induction k with
  | zero =>
    intro i hk hi s h
    obtain ⟨items, items2, n, n2, hl1, hb1, hs1, hs2, _⟩ := hl _ _ h
    have hi' : i = N := by omega
    have hR := fin s (hi' ▸ h)
    obtain ⟨hp, g, d, tk, os⟩ := s
    wp_walk using wpAny_loadPart' hl1, wpAny_loadPart' hb1
    have hi1 : items[((i : Nat) : Int).toNat]? = none := by simp; omega
    have hi2 : items2[((i : Nat) : Int).toNat]? = none := by simp; omega
    rw [hi1, hi2]
    wp_walk using wpAny_loadPart' hl1, wpAny_loadPart' hb1
    show R (.ok (.ret (.bool (items.size == items2.size)))) _
    rw [hs1, hs2]
    simpa using hR
  | succ k ih =>
    intro i hk hi s h
    obtain ⟨items, items2, n, n2, hl1, hb1, hs1, hs2, turn⟩ := hl _ _ h
    have hlt : i < items.size := by omega
    have hlt2 : i < items2.size := by omega
    have ht := turn hlt hlt2
    obtain ⟨hp, g, d, tk, os⟩ := s
    wp_walk using wpAny_loadPart' hl1, wpAny_loadPart' hb1
    have hi1 : items[((i : Nat) : Int).toNat]? = some items[i] := by simp [hlt]
    have hi2 : items2[((i : Nat) : Int).toNat]? = some items2[i] := by simp [hlt2]
    have hc : ((i : Int) + 1) = ((i + 1 : Nat) : Int) := by omega
    rw [hi1, hi2]
    refine wpAny_bind (wpAny_mono ht (fun r s2 h2 => ?_) fun _ _ x => x)
    obtain ⟨hr1, hr2⟩ := h2
    cases r with
    | true =>
      have hrec := ih (i + 1) (by omega) (by omega) s2 (hr1 rfl)
      obtain ⟨hp2, g2, d2, tk2, os2⟩ := s2
      wp_walk
      rw [hc]
      exact ⟨plainId_quiet plain_eq_loop _, codeAny_builtin entry_eq_loop (by
        rw [Around.under_plainId plain_eq_loop _]
        exact hrec)⟩
    | false =>
      obtain ⟨hj, it3, it4, n3, n4, hl3, hb3, hs3, hs4⟩ := hr2 rfl
      have hR := fin2 i s2 (by omega) hj
      obtain ⟨hp2, g2, d2, tk2, os2⟩ := s2
      have hi3 : it3[((i : Nat) : Int).toNat]? = some (it3[i]'(by omega)) := by simp [show i < it3.size by omega]
      have hi4 : it4[((i : Nat) : Int).toNat]? = some (it4[i]'(by omega)) := by simp [show i < it4.size by omega]
      wp_walk using wpAny_loadPart' hl3, wpAny_loadPart' hb3
      rw [hi3, hi4]
      wp_walk using wpAny_loadPart' hl3, wpAny_loadPart' hb3
      exact hR
theorem listB_eq (l b : Addr) (N : Nat) (I J : Nat → Shared → Prop) (hl : ListB_eq prog w A (fun e s' => R (.error e) s') l b N I J)
    (fin : ∀ s, I N s → R (.ok (.ret (.bool true))) s) (fin2 : ∀ i s, i < N → J i s → R (.ok (.ret (.bool false))) s) {s : Shared} (h : I 0 s) :
    wpAny (model prog w) A.in1 (Builtin.«list.__eq__» ⟨[.ref l, .ref b], []⟩) (FinO prog w A R) (fun e s' => R (.error e) s') s := by
  obtain ⟨items, items2, n, n2, hl1, hb1, hs1, hs2, _⟩ := hl _ _ h
  have hrec := loopB_eq (A := A) (R := R) l b N I J hl fin fin2 _ 0 rfl (Nat.zero_le _) s h
  obtain ⟨hp, g, d, tk, os⟩ := s
  have f3 := AutoSeq1.sub_list_list
  have hne : ¬ (items.size != items2.size) = true := by simp [hs1, hs2]
  wp_walk using wpAny_loadPart' hl1, wpAny_loadPart' hb1
  exact ⟨plainId_quiet plain_eq_loop _, codeAny_builtin entry_eq_loop (by
    rw [Around.under_plainId plain_eq_loop _]
    exact hrec)⟩
theorem listZ_eq {l b : Addr} {items items2 : Array Value} {n n2 : Nat} {s : Shared} (hl1 : s.heap.get? l = some { cls := .type "list", data := .seq items n }) (hb1 : s.heap.get? b = some { cls := .type "list", data := .seq items2 n2 }) (hn : items.size ≠ items2.size)
    (h : R (.ok (.ret (.bool false))) s) : wpAny (model prog w) A.in1 (Builtin.«list.__eq__» ⟨[.ref l, .ref b], []⟩) (FinO prog w A R) (fun e s' => R (.error e) s') s := by
  obtain ⟨hp, g, d, tk, os⟩ := s
  have f3 := AutoSeq1.sub_list_list
  have hne : (items.size != items2.size) = true := by simp [hn]
  wp_walk using wpAny_loadPart' hl1, wpAny_loadPart' hb1
  exact h
theorem tupB_eq (l b : Addr) (items items2 : Array Value) (n n2 : Nat) (dd dd2 : Option Addr) (sl sl2 : Array (Option Value)) (I J : Nat → Shared → Prop)
    (turn : ∀ i (h1 : i < items.size) (h2 : i < items2.size) s, I i s → wpAny (model prog w) A.in1 (eqBool items[i] items2[i]) (fun r s' => (r = true → I (i + 1) s') ∧ (r = false → J i s')) (fun e s' => R (.error e) s') s)
    (fin : ∀ s, I (min items.size items2.size) s → R (.ok (.ret (.bool (items.size == items2.size)))) s) (fin2 : ∀ i s, J i s → R (.ok (.ret (.bool false))) s) {s : Shared} (hl1 : s.heap.get? l = some { cls := .type "tuple", dict := dd, data := .seq items n, slots := sl })
    (hb1 : s.heap.get? b = some { cls := .type "tuple", dict := dd2, data := .seq items2 n2, slots := sl2 }) (h : I 0 s) :
    wpAny (model prog w) A.in1 (Builtin.«tuple.__eq__» ⟨[.ref l, .ref b], []⟩) (FinO prog w A R) (fun e s' => R (.error e) s') s := by
  have f2 := AutoSeq1.sub_tuple_tuple
  have hZ : (items.toList.zip items2.toList).length = min items.size items2.size := by simp
  have h0 := h
  obtain ⟨hp, g, d, tk, os⟩ := s
  wp_walk using wpAny_loadPart' hl1, wpAny_loadPart' hb1, wpAny_forIn_list _ (fun rest b s' => b.1 = none ∧ ∃ i, rest = (items.toList.zip items2.toList).drop i ∧ i ≤ min items.size items2.size ∧ I i s') _
  case turn =>
    rintro ⟨y, x⟩ rest b s' ⟨hb', i, hz, hi, hI⟩
    have hlt : i < (items.toList.zip items2.toList).length := by
      rcases Nat.lt_or_ge i (items.toList.zip items2.toList).length with h' | h'
      · exact h'
      · rw [List.drop_of_length_le h'] at hz; cases hz
    have h1 : i < items.size := by rw [hZ] at hlt; omega
    have h2 : i < items2.size := by rw [hZ] at hlt; omega
    rw [List.drop_eq_getElem_cons hlt] at hz
    injection hz with hyx hrest
    have hy : y = items[i] := by have := congrArg Prod.fst hyx; simpa using this
    have hx : x = items2[i] := by have := congrArg Prod.snd hyx; simpa using this
    subst hy hx
    refine wpAny_bind (wpAny_mono (turn i h1 h2 s' hI) (fun r s2 q2 => ?_) fun _ _ x => x)
    obtain ⟨hr1, hr2⟩ := q2
    cases r with
    | true =>
      have q3 := hr1 rfl
      wp_walk
      exact ⟨rfl, i + 1, hrest, by omega, q3⟩
    | false =>
      have q3 := fin2 i s2 (hr2 rfl)
      wp_walk
      exact q3
  case fin =>
    rintro ⟨b1, b2⟩ s' ⟨hb', i, hz, hi, hI⟩
    simp only at hb'
    subst hb'
    have hge : min items.size items2.size ≤ i := by
      rcases Nat.lt_or_ge i (items.toList.zip items2.toList).length with h' | h'
      · rw [List.drop_eq_getElem_cons h'] at hz; cases hz
      · rw [hZ] at h'; exact h'
    have hi' : i = min items.size items2.size := by omega
    have hR := fin s' (hi' ▸ hI)
    wp_walk
    exact hR
  case h =>
    exact ⟨rfl, 0, rfl, Nat.zero_le _, h0⟩

/-- list == list, item by item, both answers (ne) -/
def ListB_ne (prog : Program) (w : World) (A : Around) (E : Value → Shared → Prop) (l b : Addr) (N : Nat) (I J : Nat → Shared → Prop) : Prop :=
  ∀ i s, I i s → ∃ (items items2 : Array Value) (n n2 : Nat), s.heap.get? l = some { cls := .type "list", data := .seq items n } ∧ s.heap.get? b = some { cls := .type "list", data := .seq items2 n2 } ∧ items.size = N ∧ items2.size = N ∧
    ∀ (h1 : i < items.size) (h2 : i < items2.size), wpAny (model prog w) A.in1 (eqBool items[i] items2[i]) (fun r s' => (r = true → I (i + 1) s') ∧ (r = false → J i s' ∧ ∃ (items items2 : Array Value) (n n2 : Nat), s'.heap.get? l = some { cls := .type "list", data := .seq items n } ∧ s'.heap.get? b = some { cls := .type "list", data := .seq items2 n2 } ∧ items.size = N ∧ items2.size = N)) E s
theorem loopB_ne (l b : Addr) (N : Nat) (I J : Nat → Shared → Prop) (hl : ListB_ne prog w A (fun e s' => R (.error e) s') l b N I J)
    (fin : ∀ s, I N s → R (.ok (.ret (.bool false))) s) (fin2 : ∀ i s, i < N → J i s → R (.ok (.ret (.bool true))) s) (k : Nat) :
    ∀ i : Nat, N - i = k → i ≤ N → ∀ s, I i s →
      wpAny (model prog w) A.in1 (Builtin.«list.__eq__.loop» ⟨[.ref l, .ref b, rawInt i, rawInt 3], []⟩) (FinO prog w A R) (fun e s' => R (.error e) s') s := by
  induction k with
  | zero =>
    intro i hk hi s h
    obtain ⟨items, items2, n, n2, hl1, hb1, hs1, hs2, _⟩ := hl _ _ h
    have hi' : i = N := by omega
    have hR := fin s (hi' ▸ h)
    obtain ⟨hp, g, d, tk, os⟩ := s
    wp_walk using wpAny_loadPart' hl1, wpAny_loadPart' hb1
    have hi1 : items[((i : Nat) : Int).toNat]? = none := by simp; omega
    have hi2 : items2[((i : Nat) : Int).toNat]? = none := by simp; omega
    rw [hi1, hi2]
    wp_walk using wpAny_loadPart' hl1, wpAny_loadPart' hb1
    show R (.ok (.ret (.bool (items.size != items2.size)))) _
    rw [hs1, hs2]
    simpa using hR
  | succ k ih =>
    intro i hk hi s h
    obtain ⟨items, items2, n, n2, hl1, hb1, hs1, hs2, turn⟩ := hl _ _ h
    have hlt : i < items.size := by omega
    have hlt2 : i < items2.size := by omega
    have ht := turn hlt hlt2
    obtain ⟨hp, g, d, tk, os⟩ := s
    wp_walk using wpAny_loadPart' hl1, wpAny_loadPart' hb1
    have hi1 : items[((i : Nat) : Int).toNat]? = some items[i] := by simp [hlt]
    have hi2 : items2[((i : Nat) : Int).toNat]? = some items2[i] := by simp [hlt2]
    have hc : ((i : Int) + 1) = ((i + 1 : Nat) : Int) := by omega
    rw [hi1, hi2]
    refine wpAny_bind (wpAny_mono ht (fun r s2 h2 => ?_) fun _ _ x => x)
    obtain ⟨hr1, hr2⟩ := h2
    cases r with
    | true =>
      have hrec := ih (i + 1) (by omega) (by omega) s2 (hr1 rfl)
      obtain ⟨hp2, g2, d2, tk2, os2⟩ := s2
      wp_walk
      rw [hc]
      exact ⟨plainId_quiet plain_eq_loop _, codeAny_builtin entry_eq_loop (by
        rw [Around.under_plainId plain_eq_loop _]
        exact hrec)⟩
    | false =>
      obtain ⟨hj, it3, it4, n3, n4, hl3, hb3, hs3, hs4⟩ := hr2 rfl
      have hR := fin2 i s2 (by omega) hj
      obtain ⟨hp2, g2, d2, tk2, os2⟩ := s2
      have hi3 : it3[((i : Nat) : Int).toNat]? = some (it3[i]'(by omega)) := by simp [show i < it3.size by omega]
      have hi4 : it4[((i : Nat) : Int).toNat]? = some (it4[i]'(by omega)) := by simp [show i < it4.size by omega]
      wp_walk using wpAny_loadPart' hl3, wpAny_loadPart' hb3
      rw [hi3, hi4]
      wp_walk using wpAny_loadPart' hl3, wpAny_loadPart' hb3
      exact hR
theorem listB_ne (l b : Addr) (N : Nat) (I J : Nat → Shared → Prop) (hl : ListB_ne prog w A (fun e s' => R (.error e) s') l b N I J)
    (fin : ∀ s, I N s → R (.ok (.ret (.bool false))) s) (fin2 : ∀ i s, i < N → J i s → R (.ok (.ret (.bool true))) s) {s : Shared} (h : I 0 s) :
    wpAny (model prog w) A.in1 (Builtin.«list.__ne__» ⟨[.ref l, .ref b], []⟩) (FinO prog w A R) (fun e s' => R (.error e) s') s := by
  obtain ⟨items, items2, n, n2, hl1, hb1, hs1, hs2, _⟩ := hl _ _ h
  have hrec := loopB_ne (A := A) (R := R) l b N I J hl fin fin2 _ 0 rfl (Nat.zero_le _) s h
  obtain ⟨hp, g, d, tk, os⟩ := s
  have f3 := AutoSeq1.sub_list_list
  have hne : ¬ (items.size != items2.size) = true := by simp [hs1, hs2]
  wp_walk using wpAny_loadPart' hl1, wpAny_loadPart' hb1
  exact ⟨plainId_quiet plain_eq_loop _, codeAny_builtin entry_eq_loop (by
    rw [Around.under_plainId plain_eq_loop _]
    exact hrec)⟩
theorem listZ_ne {l b : Addr} {items items2 : Array Value} {n n2 : Nat} {s : Shared} (hl1 : s.heap.get? l = some { cls := .type "list", data := .seq items n }) (hb1 : s.heap.get? b = some { cls := .type "list", data := .seq items2 n2 }) (hn : items.size ≠ items2.size)
    (h : R (.ok (.ret (.bool true))) s) : wpAny (model prog w) A.in1 (Builtin.«list.__ne__» ⟨[.ref l, .ref b], []⟩) (FinO prog w A R) (fun e s' => R (.error e) s') s := by
  obtain ⟨hp, g, d, tk, os⟩ := s
  have f3 := AutoSeq1.sub_list_list
  have hne : (items.size != items2.size) = true := by simp [hn]
  wp_walk using wpAny_loadPart' hl1, wpAny_loadPart' hb1
  exact h
theorem tupB_ne (l b : Addr) (items items2 : Array Value) (n n2 : Nat) (dd dd2 : Option Addr) (sl sl2 : Array (Option Value)) (I J : Nat → Shared → Prop)
    (turn : ∀ i (h1 : i < items.size) (h2 : i < items2.size) s, I i s → wpAny (model prog w) A.in1 (eqBool items[i] items2[i]) (fun r s' => (r = true → I (i + 1) s') ∧ (r = false → J i s')) (fun e s' => R (.error e) s') s)
    (fin : ∀ s, I (min items.size items2.size) s → R (.ok (.ret (.bool (items.size != items2.size)))) s) (fin2 : ∀ i s, J i s → R (.ok (.ret (.bool true))) s) {s : Shared} (hl1 : s.heap.get? l = some { cls := .type "tuple", dict := dd, data := .seq items n, slots := sl })
    (hb1 : s.heap.get? b = some { cls := .type "tuple", dict := dd2, data := .seq items2 n2, slots := sl2 }) (h : I 0 s) :
    wpAny (model prog w) A.in1 (Builtin.«tuple.__ne__» ⟨[.ref l, .ref b], []⟩) (FinO prog w A R) (fun e s' => R (.error e) s') s := by
  have f2 := AutoSeq1.sub_tuple_tuple
  have hZ : (items.toList.zip items2.toList).length = min items.size items2.size := by simp
  have h0 := h
  obtain ⟨hp, g, d, tk, os⟩ := s
  wp_walk using wpAny_loadPart' hl1, wpAny_loadPart' hb1, wpAny_forIn_list _ (fun rest b s' => b.1 = none ∧ ∃ i, rest = (items.toList.zip items2.toList).drop i ∧ i ≤ min items.size items2.size ∧ I i s') _
  case turn =>
    rintro ⟨y, x⟩ rest b s' ⟨hb', i, hz, hi, hI⟩
    have hlt : i < (items.toList.zip items2.toList).length := by
      rcases Nat.lt_or_ge i (items.toList.zip items2.toList).length with h' | h'
      · exact h'
      · rw [List.drop_of_length_le h'] at hz; cases hz
    have h1 : i < items.size := by rw [hZ] at hlt; omega
    have h2 : i < items2.size := by rw [hZ] at hlt; omega
    rw [List.drop_eq_getElem_cons hlt] at hz
    injection hz with hyx hrest
    have hy : y = items[i] := by have := congrArg Prod.fst hyx; simpa using this
    have hx : x = items2[i] := by have := congrArg Prod.snd hyx; simpa using this
    subst hy hx
    refine wpAny_bind (wpAny_mono (turn i h1 h2 s' hI) (fun r s2 q2 => ?_) fun _ _ x => x)
    obtain ⟨hr1, hr2⟩ := q2
    cases r with
    | true =>
      have q3 := hr1 rfl
      wp_walk
      exact ⟨rfl, i + 1, hrest, by omega, q3⟩
    | false =>
      have q3 := fin2 i s2 (hr2 rfl)
      wp_walk
      exact q3
  case fin =>
    rintro ⟨b1, b2⟩ s' ⟨hb', i, hz, hi, hI⟩
    simp only at hb'
    subst hb'
    have hge : min items.size items2.size ≤ i := by
      rcases Nat.lt_or_ge i (items.toList.zip items2.toList).length with h' | h'
      · rw [List.drop_eq_getElem_cons h'] at hz; cases hz
      · rw [hZ] at h'; exact h'
    have hi' : i = min items.size items2.size := by omega
    have hR := fin s' (hi' ▸ hI)
    wp_walk
    exact hR
  case h =>
    exact ⟨rfl, 0, rfl, Nat.zero_le _, h0⟩

end
end DQ

/-! part DQ1 -/
/-! DQ1: == and != over data, both answers. -/
namespace DQ
open PySem PySem.Spec PyProof.Rows L2 DL
def vD : D → Option V
  | .non => some .non
  | .bl b => some (.bl b)
  | .int i => some (.int i)
  | .str x => some (.str x)
  | _ => none
mutual
/-- ==, where it is told -/
def eqD : D → D → Option Bool
  | .tup l, .tup r => eqL l r
  | .tup _, .obj _ _ => none
  | .tup _, .adr _ => none
  | .tup _, .ptr _ => none
  | .tup _, .err _ _ _ _ => none
  | .tup _, _ => some false
  | .lst l, .lst r => eqL l r
  | .lst _, .obj _ _ => none
  | .lst _, .adr _ => none
  | .lst _, .ptr _ => none
  | .lst _, .err _ _ _ _ => none
  | .lst _, _ => some false
  | .obj c l, .obj c' r => if thg c = true ∧ thg c' = true then (if c = c' then eqL l r else some false) else none
  | .obj _ _, .adr _ => none
  | .obj _ _, .ptr _ => none
  | .obj _ _, .err _ _ _ _ => none
  | .obj c _, _ => if thg c = true then some false else none
  | .adr _, _ => none
  | .ptr _, _ => none
  | .err _ _ _ _, _ => none
  | .non, .non => some true
  | .non, .tup _ => some false
  | .non, .lst _ => some false
  | .non, .bl _ => some false
  | .non, .int _ => some false
  | .non, .str _ => some false
  | .non, _ => none
  | .bl a, .bl b => some (a == b)
  | .bl a, .int b => some ((if a then 1 else 0) == b)
  | .bl _, .tup _ => some false
  | .bl _, .lst _ => some false
  | .bl _, .non => some false
  | .bl _, .str _ => some false
  | .bl _, _ => none
  | .int a, .int b => some (a == b)
  | .int a, .bl b => some (a == (if b then 1 else 0))
  | .int _, .tup _ => some false
  | .int _, .lst _ => some false
  | .int _, .non => some false
  | .int _, .str _ => some false
  | .int _, _ => none
  | .str a, .str b => some (a == b)
  | .str _, .tup _ => some false
  | .str _, .lst _ => some false
  | .str _, .non => some false
  | .str _, .bl _ => some false
  | .str _, .int _ => some false
  | .str _, _ => none
def eqL : List D → List D → Option Bool
  | [], [] => some true
  | [], _ :: _ => some false
  | _ :: _, [] => some false
  | a :: l, b :: r => match eqD a b with
    | some true => eqL l r
    | some false => some false
    | none => none
end
mutual
def dp : D → Nat
  | .tup l => dpL l + 1
  | .lst l => dpL l + 1
  | .obj _ l => dpL l + 2
  | _ => 0
def dpL : List D → Nat
  | [] => 0
  | a :: l => max (dp a) (dpL l)
end
theorem dpL_get : ∀ {l : List D} {i : Nat} {d : D}, l[i]? = some d → dp d ≤ dpL l
  | [], _, _, h => by simp at h
  | a :: l, 0, d, h => by
    simp at h
    subst h
    rw [dpL]
    exact Nat.le_max_left _ _
  | a :: l, i + 1, d, h => by
    have h' : l[i]? = some d := by simpa using h
    rw [dpL]
    exact Nat.le_trans (dpL_get h') (Nat.le_max_right _ _)
theorem eqL_at {l r : List D} {i : Nat} {a b : D} {t : Bool} (ha : l[i]? = some a) (hb : r[i]? = some b) (h : eqL (l.drop i) (r.drop i) = some t) :
    ∃ t', eqD a b = some t' ∧ (t' = true → eqL (l.drop (i + 1)) (r.drop (i + 1)) = some t) ∧ (t' = false → t = false) := by
  obtain ⟨h1, e1⟩ := List.getElem?_eq_some_iff.mp ha
  obtain ⟨h2, e2⟩ := List.getElem?_eq_some_iff.mp hb
  rw [List.drop_eq_getElem_cons h1, List.drop_eq_getElem_cons h2, e1, e2, eqL] at h
  cases q : eqD a b with
  | none =>
    rw [q] at h
    cases h
  | some t' =>
    rw [q] at h
    refine ⟨t', rfl, fun e => ?_, fun e => ?_⟩
    · subst e
      exact h
    · subst e
      cases h
      rfl
theorem eqL_end {l r : List D} {t : Bool} (h : eqL (l.drop (min l.length r.length)) (r.drop (min l.length r.length)) = some t) : t = decide (l.length = r.length) := by
  rcases Nat.lt_trichotomy l.length r.length with z | z | z
  · rw [Nat.min_eq_left (Nat.le_of_lt z), List.drop_length, List.drop_eq_getElem_cons z, eqL] at h
    cases h
    exact (decide_eq_false (Nat.ne_of_lt z)).symm
  · rw [z, Nat.min_self, ← z, List.drop_length, z, List.drop_length, eqL] at h
    cases h
    exact (decide_eq_true z).symm
  · rw [Nat.min_eq_right (Nat.le_of_lt z), List.drop_length, List.drop_eq_getElem_cons z, eqL] at h
    cases h
    exact (decide_eq_false (Nat.ne_of_gt z)).symm
theorem eqL_len : ∀ {l r : List D}, eqL l r = some true → l.length = r.length
  | [], [], _ => rfl
  | [], _ :: _, h => by rw [eqL] at h; cases h
  | _ :: _, [], h => by rw [eqL] at h; cases h
  | a :: l, b :: r, h => by
    rw [eqL] at h
    cases q : eqD a b with
    | none =>
      rw [q] at h
      cases h
    | some t =>
      rw [q] at h
      cases t with
      | true => rw [List.length_cons, List.length_cons, eqL_len h]
      | false => cases h
mutual
theorem eqD_refl : ∀ (d : D) {b : Bool}, eqD d d = some b → b = true
  | .non, b, h => by rw [eqD] at h; cases h; rfl
  | .bl x, b, h => by rw [eqD] at h; cases h; simp
  | .int x, b, h => by rw [eqD] at h; cases h; simp
  | .str x, b, h => by rw [eqD] at h; cases h; simp
  | .adr x, b, h => by rw [eqD] at h; cases h
  | .ptr x, b, h => by rw [eqD] at h; cases h
  | .err _ _ _ _, b, h => by rw [eqD] at h; cases h
  | .tup l, b, h => by
    rw [eqD] at h
    exact eqL_refl l h
  | .lst l, b, h => by
    rw [eqD] at h
    exact eqL_refl l h
  | .obj c l, b, h => by
    rw [eqD] at h
    split at h
    · rw [if_pos rfl] at h
      exact eqL_refl l h
    · cases h
theorem eqL_refl : ∀ (l : List D) {b : Bool}, eqL l l = some b → b = true
  | [], b, h => by rw [eqL] at h; cases h; rfl
  | a :: l, b, h => by
    rw [eqL] at h
    cases q : eqD a a with
    | none =>
      rw [q] at h
      cases h
    | some t =>
      rw [q] at h
      have e := eqD_refl a q
      subst e
      exact eqL_refl l h
end
/-- a cell of a list, seen -/
def dr (mu : Sto) : D → D
  | .ptr n => (match mu[n]? with
    | some (.lst l) => .lst l
    | _ => .ptr n)
  | d => d
end DQ

/-! part DQ2 -/
/-! DQ2: == and != of values that stand for data: flat ones, lists, tuples. -/
namespace DQ
open PySem PySem.Spec PyProof.Rows L2 DL
/-- a value's kind in the heap -/
inductive Kind (h : Heap) : D → Value → Prop
  | non : Kind h .non .none
  | bl {b : Bool} : Kind h (.bl b) (.bool b)
  | int {i : Int} {t : Tok} : Kind h (.int i) (.int i t)
  | str {x : Str} {t : Tok} : Kind h (.str x) (.str x t)
  | tup {l : List D} {a : Addr} {its : Array Value} : h.IsTuple a its → Kind h (.tup l) (.ref a)
  | lst {l : List D} {a : Addr} {its : Array Value} : h.IsList a its → Kind h (.lst l) (.ref a)
  | obj {c : Nat} {l : List D} {a : Addr} : Kind h (.obj c l) (.ref a)
  | adr {p : Addr} {u : Value} : Kind h (.adr p) u
  | ptr {n : Nat} {u : Value} : Kind h (.ptr n) u
  | err {a : Addr} {d : Option Addr} {c : Nat} {l : List D} {u : Value} : Kind h (.err a d c l) u
def cmpd : D → Bool
  | .tup _ => true
  | .lst _ => true
  | _ => false
/-- two kinds that are told apart at once -/
def mixD : D → D → Bool
  | .tup _, .tup _ => false
  | .lst _, .lst _ => false
  | .obj _ _, _ => false
  | _, _ => true
open SeqAt in
theorem mix_at {A : Around} {s : Shared} {d e : D} {u v : Value} {b : Bool} (hu : A.units < cLine) (kd : Kind s.heap d u) (ke : Kind s.heap e v) (hm : mixD d e = true) (h : eqD d e = some b) : RcAt A s u v b ∧ RcNeAt A s u v (!b) ∧ EqAt A s u v b := by
  cases kd with
  | non =>
    cases ke with
    | non => rw [eqD] at h; cases h; exact ⟨.none_none, .none_none, .same _⟩
    | bl => rw [eqD] at h; cases h; exact ⟨.none_bool _, .none_bool _, .none_bool _⟩
    | int => rw [eqD] at h; cases h; exact ⟨.none_int _ _, .none_int _ _, .none_int _ _⟩
    | str => rw [eqD] at h; cases h; exact ⟨.none_str _ _, .none_str _ _, .none_str _ _⟩
    | tup k => rw [eqD] at h; cases h; exact ⟨.none_tuple k hu, .none_tuple k hu, .none_tuple k hu⟩
    | lst k => rw [eqD] at h; cases h; exact ⟨.none_list k hu, .none_list k hu, .none_list k hu⟩
    | obj => cases h
    | adr => cases h
    | ptr => cases h
    | err => cases h
  | bl =>
    cases ke with
    | non => rw [eqD] at h; cases h; exact ⟨.bool_none _, .bool_none _, .bool_none _⟩
    | bl => rw [eqD] at h; cases h; exact ⟨.bool_bool _ _, .bool_bool _ _, .bool_bool _ _⟩
    | int => rw [eqD] at h; cases h; exact ⟨.bool_int _ _ _, .bool_int _ _ _, .bool_int _ _ _⟩
    | str => rw [eqD] at h; cases h; exact ⟨.bool_str _ _ _, .bool_str _ _ _, .bool_str _ _ _⟩
    | tup k => rw [eqD] at h; cases h; exact ⟨.bool_tuple _ k hu, .bool_tuple _ k hu, .bool_tuple _ k hu⟩
    | lst k => rw [eqD] at h; cases h; exact ⟨.bool_list _ k hu, .bool_list _ k hu, .bool_list _ k hu⟩
    | obj => cases h
    | adr => cases h
    | ptr => cases h
    | err => cases h
  | int =>
    cases ke with
    | non => rw [eqD] at h; cases h; exact ⟨.int_none _ _, .int_none _ _, .int_none _ _⟩
    | bl => rw [eqD] at h; cases h; exact ⟨.int_bool _ _ _, .int_bool _ _ _, .int_bool _ _ _⟩
    | int => rw [eqD] at h; cases h; exact ⟨.int_int _ _ _ _, .int_int _ _ _ _, .int_int _ _ _ _⟩
    | str => rw [eqD] at h; cases h; exact ⟨.int_str _ _ _ _, .int_str _ _ _ _, .int_str _ _ _ _⟩
    | tup k => rw [eqD] at h; cases h; exact ⟨.int_tuple _ _ k hu, .int_tuple _ _ k hu, .int_tuple _ _ k hu⟩
    | lst k => rw [eqD] at h; cases h; exact ⟨.int_list _ _ k hu, .int_list _ _ k hu, .int_list _ _ k hu⟩
    | obj => cases h
    | adr => cases h
    | ptr => cases h
    | err => cases h
  | str =>
    cases ke with
    | non => rw [eqD] at h; cases h; exact ⟨.str_none _ _, .str_none _ _, .str_none _ _⟩
    | bl => rw [eqD] at h; cases h; exact ⟨.str_bool _ _ _, .str_bool _ _ _, .str_bool _ _ _⟩
    | int => rw [eqD] at h; cases h; exact ⟨.str_int _ _ _ _, .str_int _ _ _ _, .str_int _ _ _ _⟩
    | str => rw [eqD] at h; cases h; exact ⟨.str_str _ _ _ _, .str_str _ _ _ _, .str_str _ _ _ _⟩
    | tup k => rw [eqD] at h; cases h; exact ⟨.str_tuple _ _ k hu, .str_tuple _ _ k hu, .str_tuple _ _ k hu⟩
    | lst k => rw [eqD] at h; cases h; exact ⟨.str_list _ _ k hu, .str_list _ _ k hu, .str_list _ _ k hu⟩
    | obj => cases h
    | adr => cases h
    | ptr => cases h
    | err => cases h
  | tup k0 =>
    cases ke with
    | non => simp [eqD] at h; subst h; exact ⟨.tuple_none k0 hu, .tuple_none k0 hu, .tuple_none k0 hu⟩
    | bl => simp [eqD] at h; subst h; exact ⟨.tuple_bool _ k0 hu, .tuple_bool _ k0 hu, .tuple_bool _ k0 hu⟩
    | int => simp [eqD] at h; subst h; exact ⟨.tuple_int _ _ k0 hu, .tuple_int _ _ k0 hu, .tuple_int _ _ k0 hu⟩
    | str => simp [eqD] at h; subst h; exact ⟨.tuple_str _ _ k0 hu, .tuple_str _ _ k0 hu, .tuple_str _ _ k0 hu⟩
    | tup k => cases hm
    | lst k => simp [eqD] at h; subst h; exact ⟨.tuple_list k0 k hu, .tuple_list k0 k hu, .tuple_list k0 k hu⟩
    | obj => cases h
    | adr => cases h
    | ptr => cases h
    | err => cases h
  | lst k0 =>
    cases ke with
    | non => simp [eqD] at h; subst h; exact ⟨.list_none k0 hu, .list_none k0 hu, .list_none k0 hu⟩
    | bl => simp [eqD] at h; subst h; exact ⟨.list_bool _ k0 hu, .list_bool _ k0 hu, .list_bool _ k0 hu⟩
    | int => simp [eqD] at h; subst h; exact ⟨.list_int _ _ k0 hu, .list_int _ _ k0 hu, .list_int _ _ k0 hu⟩
    | str => simp [eqD] at h; subst h; exact ⟨.list_str _ _ k0 hu, .list_str _ _ k0 hu, .list_str _ _ k0 hu⟩
    | lst k => cases hm
    | tup k => simp [eqD] at h; subst h; exact ⟨.list_tuple k0 k hu, .list_tuple k0 k hu, .list_tuple k0 k hu⟩
    | obj => cases h
    | adr => cases h
    | ptr => cases h
    | err => cases h
  | obj => cases hm
  | adr =>
    rw [eqD] at h
    cases h
  | ptr =>
    rw [eqD] at h
    cases h
  | err =>
    rw [eqD] at h
    cases h
section
variable {K : PySem.W.Frag} {H : Hp} {al hd : List Addr} {mu : Sto}
theorem Rep.nil_np {fb : List Addr} {d : D} {v : V} (r : Rep K fb H [] d v) : np d := by
  cases r with
  | ptr e => simp at e
  | _ => trivial
theorem dr_np {d : D} (h : np d) : dr mu d = d := by
  cases d with
  | ptr n => exact h.elim
  | _ => rfl
theorem RepL.up {fb pt : List Addr} {l : List D} {xs : List V} (r : RepL K fb H [] l xs) : RepL K fb H pt l xs := r.fz (Fz.refl _ _) (Pre.nil _)
theorem Rep.up {fb pt : List Addr} {d : D} {v : V} (r : Rep K fb H [] d v) : Rep K fb H pt d v := r.fz (Fz.refl _ _) (Pre.nil _)
theorem dr_lst {d : D} {l : List D} (h : dr mu d = .lst l) : lv mu d = some l := by
  cases d with
  | lst r =>
    cases h
    rfl
  | ptr n =>
    have h' : (match mu[n]? with
      | some (.lst l) => D.lst l
      | _ => D.ptr n) = .lst l := h
    show (match mu[n]? with
      | some (.lst l) => some l
      | _ => none) = some l
    split at h' <;> cases h'
    rfl
  | _ => cases h
theorem dr_tup {d : D} {l : List D} (h : dr mu d = .tup l) : d = .tup l := by
  cases d with
  | tup r =>
    cases h
    rfl
  | ptr n =>
    have h' : (match mu[n]? with
      | some (.lst l) => D.lst l
      | _ => D.ptr n) = .tup l := h
    split at h' <;> cases h'
  | _ => cases h
theorem dr_obj {d : D} {c : Nat} {l : List D} (h : dr mu d = .obj c l) : d = .obj c l := by
  cases d with
  | obj _ r =>
    cases h
    rfl
  | ptr n =>
    have h' : (match mu[n]? with
      | some (.lst l) => D.lst l
      | _ => D.ptr n) = .obj c l := h
    split at h' <;> cases h'
  | _ => cases h
end
section
variable {X : Cx} {pins : List (Addr × Obj)} {s : Shared} {sg : L2.St} {H : Hp} {hd al : List Addr} {mu : Sto} {d e : D} {x y : V} {u v : Value}
theorem kind_of (I : Inv X pins sg H s) (o : Okay X.K hd H mu al) (r : Rep X.K (al ++ hd) H al d x) (ru : RelV x u) : Kind s.heap (dr mu d) u := by
  cases r with
  | non => cases ru; exact .non
  | bl => cases ru; exact .bl
  | int => obtain ⟨t, rfl⟩ := ru; exact .int
  | str => obtain ⟨t, rfl⟩ := ru; exact .str
  | adr => exact .adr
  | err0 => exact .err
  | err => exact .err
  | tup z r =>
    cases ru
    obtain ⟨its, rv, p, hz⟩ := I.tuple z.sq
    exact .tup p
  | lst z r =>
    cases ru
    obtain ⟨its, rv, p, hz⟩ := I.list z.sq
    exact .lst p.isList
  | obj a b c r =>
    cases ru
    exact .obj
  | ptr e0 =>
    rename_i n p
    cases h : dr mu (.ptr n) with
    | lst l =>
      obtain ⟨q, xs, e1, z, _⟩ := DL.Rep.lv o (.ptr e0) (dr_lst h)
      cases e1
      cases ru
      obtain ⟨its, rv, p, hz⟩ := I.list (.inl z)
      exact .lst p.isList
    | ptr m => exact .ptr
    | adr a => exact .adr
    | err _ _ _ _ => exact .err
    | tup l => cases dr_tup h
    | obj c l => cases dr_obj h
    | non =>
      have h' : (match mu[n]? with
        | some (.lst l) => D.lst l
        | _ => D.ptr n) = .non := h
      split at h' <;> cases h'
    | bl b =>
      have h' : (match mu[n]? with
        | some (.lst l) => D.lst l
        | _ => D.ptr n) = .bl b := h
      split at h' <;> cases h'
    | int b =>
      have h' : (match mu[n]? with
        | some (.lst l) => D.lst l
        | _ => D.ptr n) = .int b := h
      split at h' <;> cases h'
    | str b =>
      have h' : (match mu[n]? with
        | some (.lst l) => D.lst l
        | _ => D.ptr n) = .str b := h
      split at h' <;> cases h'
end
/-- the state later on, no cell changed -/
def Pst (X : Cx) (pins : List (Addr × Obj)) (sg : L2.St) (hd al : List Addr) (mu : Sto) (H : Hp) (s' : Shared) : Prop := ∃ H', Inv X pins sg H' s' ∧ Okay X.K hd H' mu al ∧ Go hd H al H' al
/-- == inside a built-in, for data of depth n at most; k: the room -/
def EqB (X : Cx) (n k : Nat) : Prop := ∀ (A : Around) (pins : List (Addr × Obj)) (s : Shared) (sg : L2.St) (H : Hp) (hd al : List Addr) (mu : Sto) (d e : D) (x y : V) (u v : Value) (b : Bool),
  Sub X k A → Inv X pins sg H s → Okay X.K hd H mu al → Rep X.K (al ++ hd) H al d x → Rep X.K (al ++ hd) H al e y → RelV x u → RelV y v → dp (dr mu d) ≤ n → eqD (dr mu d) (dr mu e) = some b →
    wpAny (model X.prog X.w) A (eqBool u v) (fun r s' => r = b ∧ Pst X pins sg hd al mu H s') X.xe s
def RcB (X : Cx) (n k : Nat) (op : CmpOp) (f : Bool → Bool) : Prop := ∀ (A : Around) (pins : List (Addr × Obj)) (s : Shared) (sg : L2.St) (H : Hp) (hd al : List Addr) (mu : Sto) (d e : D) (x y : V) (u v : Value) (b : Bool),
  Sub X k A → Inv X pins sg H s → Okay X.K hd H mu al → Rep X.K (al ++ hd) H al d x → Rep X.K (al ++ hd) H al e y → RelV x u → RelV y v → dp (dr mu d) ≤ n → eqD (dr mu d) (dr mu e) = some b →
    wpAny (model X.prog X.w) A (richCompare op u v) (fun r s' => r = .bool (f b) ∧ Pst X pins sg hd al mu H s') X.xe s
/-- the same, of instances with an own == on the left -/
def ObB (X : Cx) (n k : Nat) (op : CmpOp) (f : Bool → Bool) : Prop := ∀ (A : Around) (pins : List (Addr × Obj)) (s : Shared) (sg : L2.St) (H : Hp) (hd al : List Addr) (mu : Sto) (c : Nat) (l : List D) (e : D) (x y : V) (u v : Value) (b : Bool),
  Sub X k A → Inv X pins sg H s → Okay X.K hd H mu al → Rep X.K (al ++ hd) H al (.obj c l) x → Rep X.K (al ++ hd) H al e y → RelV x u → RelV y v → dp (.obj c l) ≤ n → eqD (.obj c l) (dr mu e) = some b →
    wpAny (model X.prog X.w) A (richCompare op u v) (fun r s' => r = .bool (f b) ∧ Pst X pins sg hd al mu H s') X.xe s
section
variable {X : Cx} {n k : Nat}
theorem turnB (h : EqB X n k) {A : Around} (sb : Sub X (k + 1) A) {pins : List (Addr × Obj)} {sg : L2.St} {H : Hp} {hd al : List Addr} {mu : Sto} {l r : List D} {xs ys : List V} {its its2 : List Value} {t : Bool} (r1 : RepL X.K (al ++ hd) H [] l xs) (r2 : RepL X.K (al ++ hd) H [] r ys)
    (v1 : Vals xs its) (v2 : Vals ys its2) (hn : dpL l ≤ n) (i : Nat) (h1 : i < its.toArray.size) (h2 : i < its2.toArray.size) (s' : Shared) (p : Pst X pins sg hd al mu H s') (he : eqL (l.drop i) (r.drop i) = some t) :
    wpAny (model X.prog X.w) A.in1 (eqBool its.toArray[i] its2.toArray[i]) (fun b s2 => (b = true → Pst X pins sg hd al mu H s2 ∧ eqL (l.drop (i + 1)) (r.drop (i + 1)) = some t) ∧ (b = false → Pst X pins sg hd al mu H s2 ∧ t = false)) X.xe s' := by
  obtain ⟨H1, I1, o1, g1⟩ := p
  have g1' : its[i]? = some its.toArray[i] := by
    have h1' : i < its.length := by simpa using h1
    rw [List.getElem?_eq_getElem h1'] <;> simp
  have g2' : its2[i]? = some its2.toArray[i] := by
    have h2' : i < its2.length := by simpa using h2
    rw [List.getElem?_eq_getElem h2'] <;> simp
  have k1 : i < xs.length := by rw [v1.length]; simpa using h1
  have k2 : i < ys.length := by rw [v2.length]; simpa using h2
  obtain ⟨u, hu, ru⟩ := v1.get (List.getElem?_eq_getElem k1)
  obtain ⟨v, hv, rv⟩ := v2.get (List.getElem?_eq_getElem k2)
  rw [g1'] at hu
  rw [g2'] at hv
  rw [Option.some.inj hu, Option.some.inj hv]
  obtain ⟨d, ed, rd⟩ := r1.get (List.getElem?_eq_getElem k1)
  obtain ⟨e, ee, re⟩ := r2.get (List.getElem?_eq_getElem k2)
  obtain ⟨t', q1, q2, q3⟩ := eqL_at ed ee he
  have md : dr mu d = d := dr_np (Rep.nil_np rd)
  have me : dr mu e = e := dr_np (Rep.nil_np re)
  refine wpAny_mono (h A.in1 pins s' sg H1 hd al mu d e _ _ u v t' sb.in1 I1 o1 (rd.go g1 (Pre.nil _)) (re.go g1 (Pre.nil _)) ru rv (by rw [md]; exact Nat.le_trans (dpL_get ed) hn) (by rw [md, me]; exact q1)) (fun b s2 z => ?_) fun _ _ x => x
  obtain ⟨rfl, H2, I2, o2, g2⟩ := z
  exact ⟨fun eb => ⟨⟨H2, I2, o2, g1.trans g2⟩, q2 eb⟩, fun eb => ⟨⟨H2, I2, o2, g1.trans g2⟩, q3 eb⟩⟩
theorem Pst.refl {pins : List (Addr × Obj)} {sg : L2.St} {H : Hp} {hd al : List Addr} {mu : Sto} {s : Shared} (I : Inv X pins sg H s) (o : Okay X.K hd H mu al) : Pst X pins sg hd al mu H s := ⟨H, I, o, Go.refl _ _⟩
/-- the two lists' objects, at any later state -/
theorem lists_at {pins : List (Addr × Obj)} {sg : L2.St} {H : Hp} {hd al : List Addr} {mu : Sto} {d : D} {l : List D} {a : Addr} {s' : Shared} (r : Rep X.K (al ++ hd) H al d (.ref a)) (hl : lv mu d = some l) (p : Pst X pins sg hd al mu H s') :
    ∃ (H1 : Hp) (xs : List V) (its : List Value) (n : Nat), Inv X pins sg H1 s' ∧ Okay X.K hd H1 mu al ∧ Go hd H al H1 al ∧ RepL X.K (al ++ hd) H1 [] l xs ∧ Vals xs its ∧ s'.heap.get? a = some { cls := .type "list", data := .seq its.toArray n } := by
  obtain ⟨H1, I1, o1, g1⟩ := p
  obtain ⟨q, xs, e1, z, r1⟩ := DL.Rep.lv o1 (r.go g1 (Pre.refl _)) hl
  cases e1
  obtain ⟨_, its, n, rv, e⟩ := z.ok I1.hok
  exact ⟨H1, xs, its, n, I1, o1, g1, r1, rv, e⟩
theorem rcB_list_eq (h : EqB X n k) {A : Around} (sb : Sub X (k + 1) A) {pins : List (Addr × Obj)} {s : Shared} {sg : L2.St} {H : Hp} {hd al : List Addr} {mu : Sto} {d e : D} {l r : List D} {a b : Addr} {t : Bool} (I : Inv X pins sg H s) (o : Okay X.K hd H mu al) (rd : Rep X.K (al ++ hd) H al d (.ref a)) (re : Rep X.K (al ++ hd) H al e (.ref b))
    (hl : lv mu d = some l) (hr : lv mu e = some r) (hn : dpL l ≤ n) (he : eqL l r = some t) : wpAny (model X.prog X.w) A (richCompare .Eq (.ref a) (.ref b)) (fun z s' => z = .bool t ∧ Pst X pins sg hd al mu H s') X.xe s := by
  obtain ⟨H1, xs, its, n1, I1, o1, g1, r1, v1, e1⟩ := lists_at rd hl (Pst.refl I o)
  obtain ⟨H2, ys, its2, n2, I2, o2, g2, r2, v2, e2⟩ := lists_at re hr (Pst.refl I o)
  refine wpAny_richCompare_same_room (op := .Eq) ⟨_, e1, rfl⟩ ⟨_, e2, rfl⟩ F.slot_list_eq (GQ.call_here F.slot_list_eq ⟨_, e1, rfl⟩ F.entry_list_eq (F.args_list_eq_2 _ _) ?_) sb.room.units0
  by_cases hsz : l.length = r.length
  · refine listB_eq (R := wants (fun v s' => v ≠ .notImplemented ∧ (v = .bool t ∧ Pst X pins sg hd al mu H s')) X.xe) a b l.length (fun i s' => Pst X pins sg hd al mu H s' ∧ eqL (l.drop i) (r.drop i) = some t) (fun i s' => Pst X pins sg hd al mu H s' ∧ t = false) (fun i s' q => ?_) (fun s' q => ?_) (fun i s' _ q => ?_) ⟨Pst.refl I o, he⟩
    · obtain ⟨q, q2⟩ := q
      obtain ⟨H1, xs, its, n1, I1, o1, g1, r1, v1, e1⟩ := lists_at rd hl q
      obtain ⟨H2, ys, its2, n2, I2, o2, g2, r2, v2, e2⟩ := lists_at re hr q
      refine ⟨its.toArray, its2.toArray, n1, n2, e1, e2, by rw [List.size_toArray, ← v1.length, r1.len], by rw [List.size_toArray, ← v2.length, ← r2.len, hsz], fun h1 h2 => ?_⟩
      obtain ⟨H3, I3, o3, g3⟩ := q
      have key : ∃ H', Inv X pins sg H' s' ∧ Okay X.K hd H' mu al ∧ Go hd H al H' al ∧ (∃ xs its n1, RepL X.K (al ++ hd) H' [] l xs ∧ Vals xs its ∧ s'.heap.get? a = some { cls := .type "list", data := .seq its.toArray n1 }) ∧ (∃ xs its n1, RepL X.K (al ++ hd) H' [] r xs ∧ Vals xs its ∧ s'.heap.get? b = some { cls := .type "list", data := .seq its.toArray n1 }) := by
        obtain ⟨q, xs, ee, z, r1⟩ := DL.Rep.lv o3 (rd.go g3 (Pre.refl _)) hl
        cases ee
        obtain ⟨_, its, m1, rv, e⟩ := z.ok I3.hok
        obtain ⟨q', xs', ee', z', r1'⟩ := DL.Rep.lv o3 (re.go g3 (Pre.refl _)) hr
        cases ee'
        obtain ⟨_, its', m1', rv', e'⟩ := z'.ok I3.hok
        exact ⟨H3, I3, o3, g3, ⟨xs, its, m1, r1, rv, e⟩, ⟨xs', its', m1', r1', rv', e'⟩⟩
      obtain ⟨H', I', o', g', ⟨xs', its', m1, r1', v1', e1'⟩, ⟨ys', its2', m2, r2', v2', e2'⟩⟩ := key
      have ea : its' = its := by
        rw [e1] at e1'
        have z := Option.some.inj e1'
        injection z with _ _ z _
        injection z with z _
        have z2 := congrArg Array.toList z
        simpa using z2.symm
      have eb : its2' = its2 := by
        rw [e2] at e2'
        have z := Option.some.inj e2'
        injection z with _ _ z _
        injection z with z _
        have z2 := congrArg Array.toList z
        simpa using z2.symm
      subst ea eb
      refine wpAny_mono (turnB h sb (hd := hd) (mu := mu) r1' r2' v1' v2' hn i h1 h2 s' (Pst.refl I' o') q2) (fun bb s2 z => ⟨fun hb => ?_, fun hb => ?_⟩) fun _ _ x => x
      · obtain ⟨⟨H4, I4, o4, g4⟩, z2⟩ := z.1 hb
        exact ⟨⟨H4, I4, o4, g'.trans g4⟩, z2⟩
      · obtain ⟨⟨H4, I4, o4, g4⟩, z2⟩ := z.2 hb
        have p4 : Pst X pins sg hd al mu H s2 := ⟨H4, I4, o4, g'.trans g4⟩
        obtain ⟨_, xs5, its5, n5, _, _, _, r5, v5, e5⟩ := lists_at rd hl p4
        obtain ⟨_, ys6, its6, n6, _, _, _, r6, v6, e6⟩ := lists_at re hr p4
        exact ⟨⟨p4, z2⟩, its5.toArray, its6.toArray, n5, n6, e5, e6, by rw [List.size_toArray, ← v5.length, r5.len], by rw [List.size_toArray, ← v6.length, ← r6.len, hsz]⟩
    · obtain ⟨q, q2⟩ := q
      have e : t = true := by
        rw [List.drop_length, hsz, List.drop_length, eqL] at q2
        cases q2
        rfl
      subst e
      exact ⟨(fun x => nomatch x), rfl, q⟩
    · obtain ⟨q, e⟩ := q
      subst e
      exact ⟨(fun x => nomatch x), rfl, q⟩
  · have e : t = false := by
      cases t with
      | false => rfl
      | true => exact (hsz (eqL_len he)).elim
    subst e
    refine listZ_eq (R := wants (fun v s' => v ≠ .notImplemented ∧ (v = .bool false ∧ Pst X pins sg hd al mu H s')) X.xe) e1 e2 (by rw [List.size_toArray, List.size_toArray, ← v1.length, ← v2.length, ← r1.len, ← r2.len]; exact hsz) ⟨(fun x => nomatch x), rfl, Pst.refl I o⟩
theorem rcB_tup_eq (h : EqB X n k) {A : Around} (sb : Sub X (k + 1) A) {pins : List (Addr × Obj)} {s : Shared} {sg : L2.St} {H : Hp} {hd al : List Addr} {mu : Sto} {l r : List D} {a b : Addr} {t : Bool} (I : Inv X pins sg H s) (o : Okay X.K hd H mu al) (rd : Rep X.K (al ++ hd) H al (.tup l) (.ref a)) (re : Rep X.K (al ++ hd) H al (.tup r) (.ref b))
    (hn : dpL l ≤ n) (he : eqL l r = some t) : wpAny (model X.prog X.w) A (richCompare .Eq (.ref a) (.ref b)) (fun z s' => z = .bool t ∧ Pst X pins sg hd al mu H s') X.xe s := by
  cases rd with
  | tup z1 r1 =>
    cases re with
    | tup z2 r2 =>
      obtain ⟨its, v1, p1, _⟩ := I.tuple z1.sq
      obtain ⟨its2, v2, p2, _⟩ := I.tuple z2.sq
      obtain ⟨⟨cls, dd, data, sl⟩, ho, hc, n1, hd1⟩ := id p1
      obtain ⟨⟨cls2, dd2, data2, sl2⟩, ho2, hc2, n2, hd2⟩ := id p2
      simp only at hc hd1 hc2 hd2
      subst hc hd1 hc2 hd2
      have sz1 : its.toArray.size = l.length := by rw [List.size_toArray, ← v1.length, ← r1.len]
      have sz2 : its2.toArray.size = r.length := by rw [List.size_toArray, ← v2.length, ← r2.len]
      refine wpAny_richCompare_same_room (op := .Eq) ⟨_, ho, rfl⟩ ⟨_, ho2, rfl⟩ F.slot_tuple_eq (GQ.call_here F.slot_tuple_eq ⟨_, ho, rfl⟩ F.entry_tuple_eq (F.args_tuple_eq_2 _ _) ?_) sb.room.units0
      refine tupB_eq (R := wants (fun v s' => v ≠ .notImplemented ∧ (v = .bool t ∧ Pst X pins sg hd al mu H s')) X.xe) a b its.toArray its2.toArray n1 n2 dd dd2 sl sl2 (fun i s' => Pst X pins sg hd al mu H s' ∧ eqL (l.drop i) (r.drop i) = some t) (fun i s' => Pst X pins sg hd al mu H s' ∧ t = false)
        (fun i h1 h2 s' q => turnB h sb r1 r2 v1 v2 hn i h1 h2 s' q.1 q.2) (fun s' q => ?_) (fun i s' q => ?_) ho ho2 ⟨Pst.refl I o, he⟩
      · obtain ⟨q, q2⟩ := q
        rw [sz1, sz2] at q2
        have e := eqL_end q2
        refine ⟨(fun x => nomatch x), ?_, q⟩
        rw [sz1, sz2, e]
        rfl
      · obtain ⟨q, e⟩ := q
        subst e
        exact ⟨(fun x => nomatch x), rfl, q⟩
theorem rcB_list_ne (h : EqB X n k) {A : Around} (sb : Sub X (k + 1) A) {pins : List (Addr × Obj)} {s : Shared} {sg : L2.St} {H : Hp} {hd al : List Addr} {mu : Sto} {d e : D} {l r : List D} {a b : Addr} {t : Bool} (I : Inv X pins sg H s) (o : Okay X.K hd H mu al) (rd : Rep X.K (al ++ hd) H al d (.ref a)) (re : Rep X.K (al ++ hd) H al e (.ref b))
    (hl : lv mu d = some l) (hr : lv mu e = some r) (hn : dpL l ≤ n) (he : eqL l r = some t) : wpAny (model X.prog X.w) A (richCompare .NotEq (.ref a) (.ref b)) (fun z s' => z = .bool (!t) ∧ Pst X pins sg hd al mu H s') X.xe s := by
  obtain ⟨H1, xs, its, n1, I1, o1, g1, r1, v1, e1⟩ := lists_at rd hl (Pst.refl I o)
  obtain ⟨H2, ys, its2, n2, I2, o2, g2, r2, v2, e2⟩ := lists_at re hr (Pst.refl I o)
  refine wpAny_richCompare_same_room (op := .NotEq) ⟨_, e1, rfl⟩ ⟨_, e2, rfl⟩ F.slot_list_ne (GQ.call_here F.slot_list_ne ⟨_, e1, rfl⟩ F.entry_list_ne (F.args_list_ne_2 _ _) ?_) sb.room.units0
  by_cases hsz : l.length = r.length
  · refine listB_ne (R := wants (fun v s' => v ≠ .notImplemented ∧ (v = .bool (!t) ∧ Pst X pins sg hd al mu H s')) X.xe) a b l.length (fun i s' => Pst X pins sg hd al mu H s' ∧ eqL (l.drop i) (r.drop i) = some t) (fun i s' => Pst X pins sg hd al mu H s' ∧ t = false) (fun i s' q => ?_) (fun s' q => ?_) (fun i s' _ q => ?_) ⟨Pst.refl I o, he⟩
    · obtain ⟨q, q2⟩ := q
      obtain ⟨H1, xs, its, n1, I1, o1, g1, r1, v1, e1⟩ := lists_at rd hl q
      obtain ⟨H2, ys, its2, n2, I2, o2, g2, r2, v2, e2⟩ := lists_at re hr q
      refine ⟨its.toArray, its2.toArray, n1, n2, e1, e2, by rw [List.size_toArray, ← v1.length, r1.len], by rw [List.size_toArray, ← v2.length, ← r2.len, hsz], fun h1 h2 => ?_⟩
      obtain ⟨H3, I3, o3, g3⟩ := q
      have key : ∃ H', Inv X pins sg H' s' ∧ Okay X.K hd H' mu al ∧ Go hd H al H' al ∧ (∃ xs its n1, RepL X.K (al ++ hd) H' [] l xs ∧ Vals xs its ∧ s'.heap.get? a = some { cls := .type "list", data := .seq its.toArray n1 }) ∧ (∃ xs its n1, RepL X.K (al ++ hd) H' [] r xs ∧ Vals xs its ∧ s'.heap.get? b = some { cls := .type "list", data := .seq its.toArray n1 }) := by
        obtain ⟨q, xs, ee, z, r1⟩ := DL.Rep.lv o3 (rd.go g3 (Pre.refl _)) hl
        cases ee
        obtain ⟨_, its, m1, rv, e⟩ := z.ok I3.hok
        obtain ⟨q', xs', ee', z', r1'⟩ := DL.Rep.lv o3 (re.go g3 (Pre.refl _)) hr
        cases ee'
        obtain ⟨_, its', m1', rv', e'⟩ := z'.ok I3.hok
        exact ⟨H3, I3, o3, g3, ⟨xs, its, m1, r1, rv, e⟩, ⟨xs', its', m1', r1', rv', e'⟩⟩
      obtain ⟨H', I', o', g', ⟨xs', its', m1, r1', v1', e1'⟩, ⟨ys', its2', m2, r2', v2', e2'⟩⟩ := key
      have ea : its' = its := by
        rw [e1] at e1'
        have z := Option.some.inj e1'
        injection z with _ _ z _
        injection z with z _
        have z2 := congrArg Array.toList z
        simpa using z2.symm
      have eb : its2' = its2 := by
        rw [e2] at e2'
        have z := Option.some.inj e2'
        injection z with _ _ z _
        injection z with z _
        have z2 := congrArg Array.toList z
        simpa using z2.symm
      subst ea eb
      refine wpAny_mono (turnB h sb (hd := hd) (mu := mu) r1' r2' v1' v2' hn i h1 h2 s' (Pst.refl I' o') q2) (fun bb s2 z => ⟨fun hb => ?_, fun hb => ?_⟩) fun _ _ x => x
      · obtain ⟨⟨H4, I4, o4, g4⟩, z2⟩ := z.1 hb
        exact ⟨⟨H4, I4, o4, g'.trans g4⟩, z2⟩
      · obtain ⟨⟨H4, I4, o4, g4⟩, z2⟩ := z.2 hb
        have p4 : Pst X pins sg hd al mu H s2 := ⟨H4, I4, o4, g'.trans g4⟩
        obtain ⟨_, xs5, its5, n5, _, _, _, r5, v5, e5⟩ := lists_at rd hl p4
        obtain ⟨_, ys6, its6, n6, _, _, _, r6, v6, e6⟩ := lists_at re hr p4
        exact ⟨⟨p4, z2⟩, its5.toArray, its6.toArray, n5, n6, e5, e6, by rw [List.size_toArray, ← v5.length, r5.len], by rw [List.size_toArray, ← v6.length, ← r6.len, hsz]⟩
    · obtain ⟨q, q2⟩ := q
      have e : t = true := by
        rw [List.drop_length, hsz, List.drop_length, eqL] at q2
        cases q2
        rfl
      subst e
      exact ⟨(fun x => nomatch x), rfl, q⟩
    · obtain ⟨q, e⟩ := q
      subst e
      exact ⟨(fun x => nomatch x), rfl, q⟩
  · have e : t = false := by
      cases t with
      | false => rfl
      | true => exact (hsz (eqL_len he)).elim
    subst e
    refine listZ_ne (R := wants (fun v s' => v ≠ .notImplemented ∧ (v = .bool true ∧ Pst X pins sg hd al mu H s')) X.xe) e1 e2 (by rw [List.size_toArray, List.size_toArray, ← v1.length, ← v2.length, ← r1.len, ← r2.len]; exact hsz) ⟨(fun x => nomatch x), rfl, Pst.refl I o⟩
theorem rcB_tup_ne (h : EqB X n k) {A : Around} (sb : Sub X (k + 1) A) {pins : List (Addr × Obj)} {s : Shared} {sg : L2.St} {H : Hp} {hd al : List Addr} {mu : Sto} {l r : List D} {a b : Addr} {t : Bool} (I : Inv X pins sg H s) (o : Okay X.K hd H mu al) (rd : Rep X.K (al ++ hd) H al (.tup l) (.ref a)) (re : Rep X.K (al ++ hd) H al (.tup r) (.ref b))
    (hn : dpL l ≤ n) (he : eqL l r = some t) : wpAny (model X.prog X.w) A (richCompare .NotEq (.ref a) (.ref b)) (fun z s' => z = .bool (!t) ∧ Pst X pins sg hd al mu H s') X.xe s := by
  cases rd with
  | tup z1 r1 =>
    cases re with
    | tup z2 r2 =>
      obtain ⟨its, v1, p1, _⟩ := I.tuple z1.sq
      obtain ⟨its2, v2, p2, _⟩ := I.tuple z2.sq
      obtain ⟨⟨cls, dd, data, sl⟩, ho, hc, n1, hd1⟩ := id p1
      obtain ⟨⟨cls2, dd2, data2, sl2⟩, ho2, hc2, n2, hd2⟩ := id p2
      simp only at hc hd1 hc2 hd2
      subst hc hd1 hc2 hd2
      have sz1 : its.toArray.size = l.length := by rw [List.size_toArray, ← v1.length, ← r1.len]
      have sz2 : its2.toArray.size = r.length := by rw [List.size_toArray, ← v2.length, ← r2.len]
      refine wpAny_richCompare_same_room (op := .NotEq) ⟨_, ho, rfl⟩ ⟨_, ho2, rfl⟩ F.slot_tuple_ne (GQ.call_here F.slot_tuple_ne ⟨_, ho, rfl⟩ F.entry_tuple_ne (F.args_tuple_ne_2 _ _) ?_) sb.room.units0
      refine tupB_ne (R := wants (fun v s' => v ≠ .notImplemented ∧ (v = .bool (!t) ∧ Pst X pins sg hd al mu H s')) X.xe) a b its.toArray its2.toArray n1 n2 dd dd2 sl sl2 (fun i s' => Pst X pins sg hd al mu H s' ∧ eqL (l.drop i) (r.drop i) = some t) (fun i s' => Pst X pins sg hd al mu H s' ∧ t = false)
        (fun i h1 h2 s' q => turnB h sb r1 r2 v1 v2 hn i h1 h2 s' q.1 q.2) (fun s' q => ?_) (fun i s' q => ?_) ho ho2 ⟨Pst.refl I o, he⟩
      · obtain ⟨q, q2⟩ := q
        rw [sz1, sz2] at q2
        have e := eqL_end q2
        refine ⟨(fun x => nomatch x), ?_, q⟩
        rw [sz1, sz2, e]
        rfl
      · obtain ⟨q, e⟩ := q
        subst e
        exact ⟨(fun x => nomatch x), rfl, q⟩
end
end DQ

/-! part DQ3 -/
/-! DQ3: == and != step by step in the depth; what one object stands for. -/
namespace DQ
open PySem PySem.Spec PyProof.Rows L2 DL
/-- two classes are two objects -/
def InjC (K : PySem.W.Frag) : Prop := ∀ c c', thg c = true → thg c' = true → ClsOk K c → ClsOk K c' → He.ga K (cn c) = He.ga K (cn c') → c = c'
section
variable {K : PySem.W.Frag} {fb : List Addr} {H : Hp}
theorem rd_tup {a : Addr} {xs ys : List V} (h1 : Rd H a (.tup xs)) (h2 : Rd H a (.tup ys)) : xs = ys := by
  rcases h1 with h1 | ⟨o1, h1⟩ <;> rcases h2 with h2 | ⟨o2, h2⟩ <;> rw [h1] at h2 <;> cases h2 <;> rfl
theorem rd_lst {a : Addr} {xs ys : List V} (h1 : Rd H a (.lst xs)) (h2 : Rd H a (.lst ys)) : xs = ys := by
  rcases h1 with h1 | ⟨o1, h1⟩ <;> rcases h2 with h2 | ⟨o2, h2⟩ <;> rw [h1] at h2 <;> cases h2 <;> rfl
theorem rd_no {a : Addr} {xs ys : List V} (h1 : Rd H a (.tup xs)) (h2 : Rd H a (.lst ys)) : False := by
  rcases h1 with h1 | ⟨o1, h1⟩ <;> rcases h2 with h2 | ⟨o2, h2⟩ <;> rw [h1] at h2 <;> cases h2
theorem rd_ins {a : Addr} {xs : List V} {C dx : Addr} {fs : List (Str × V)} (h1 : Rd H a (.tup xs) ∨ Rd H a (.lst xs)) (h2 : H a = some (.ins C dx fs)) : False := by
  rcases h1 with (h1 | ⟨o1, h1⟩) | (h1 | ⟨o1, h1⟩) <;> rw [h1] at h2 <;> cases h2
theorem fz_inj {c : Nat} {xs ys : List V} (h1 : xs.length = (fn c).length) (h2 : ys.length = (fn c).length) (h : DL.fz c xs = DL.fz c ys) : xs = ys := by
  have e1 : (DL.fz c xs).map (·.2) = xs := by unfold DL.fz; exact List.map_snd_zip (by omega)
  have e2 : (DL.fz c ys).map (·.2) = ys := by unfold DL.fz; exact List.map_snd_zip (by omega)
  rw [← e1, ← e2, h]
mutual
theorem uniqD (inj : InjC K) : ∀ (d e : D) {v : V} {b : Bool}, Rep K fb H [] d v → Rep K fb H [] e v → eqD d e = some b → b = true
  | .non, e, v, b, r, r', h => by
    cases r
    cases r' with
    | non => rw [eqD] at h; cases h; rfl
  | .bl _, e, v, b, r, r', h => by
    cases r
    cases r' with
    | bl => rw [eqD] at h; cases h; simp
  | .int _, e, v, b, r, r', h => by
    cases r
    cases r' with
    | int => rw [eqD] at h; cases h; simp
  | .str _, e, v, b, r, r', h => by
    cases r
    cases r' with
    | str => rw [eqD] at h; cases h; simp
  | .adr _, e, v, b, r, r', h => by
    rw [eqD] at h
    cases h
  | .ptr _, e, v, b, r, r', h => by
    rw [eqD] at h
    cases h
  | .err _ _ _ _, e, v, b, r, r', h => by
    rw [eqD] at h
    cases h
  | .tup l, e, v, b, r, r', h => by
    cases r with
    | tup a r =>
      cases r' with
      | tup a' r' =>
        rw [eqD] at h
        have z := rd_tup (.inl a.2) (.inl a'.2)
        subst z
        exact uniqL inj l _ r r' h
      | lst a' r' => exact (rd_no (.inl a.2) a'.2).elim
      | obj a' b' c' r' => exact (rd_ins (.inl (.inl a.2)) b').elim
      | adr => simp [eqD] at h
      | ptr => simp [eqD] at h
      | err0 => simp [eqD] at h
      | err => simp [eqD] at h
  | .lst l, e, v, b, r, r', h => by
    cases r with
    | lst a r =>
      cases r' with
      | lst a' r' =>
        rw [eqD] at h
        have z := rd_lst a.2 a'.2
        subst z
        exact uniqL inj l _ r r' h
      | tup a' r' => exact (rd_no (.inl a'.2) a.2).elim
      | obj a' b' c' r' => exact (rd_ins (.inr a.2) b').elim
      | adr => simp [eqD] at h
      | ptr => simp [eqD] at h
      | err0 => simp [eqD] at h
      | err => simp [eqD] at h
  | .obj c l, e, v, b, r, r', h => by
    cases r with
    | obj a bb cc r =>
      cases r' with
      | lst a' r' => exact (rd_ins (.inr a'.2) bb).elim
      | tup a' r' => exact (rd_ins (.inl (.inl a'.2)) bb).elim
      | obj a' b' c' r' =>
        rw [eqD] at h
        split at h
        · rename_i q
          rw [bb] at b'
          have z := Option.some.inj b'
          injection z with z1 z2 z3
          have ec := inj _ _ q.1 q.2 cc.2 c'.2 z1
          subst ec
          rw [if_pos rfl] at h
          have z4 := fz_inj (by rw [← r.len, cc.1]) (by rw [← r'.len, c'.1]) z3
          subst z4
          exact uniqL inj l _ r r' h
        · cases h
      | adr => simp [eqD] at h
      | ptr => simp [eqD] at h
      | err0 => simp [eqD] at h
      | err => simp [eqD] at h
theorem uniqL (inj : InjC K) : ∀ (l r : List D) {xs : List V} {b : Bool}, RepL K fb H [] l xs → RepL K fb H [] r xs → eqL l r = some b → b = true
  | [], r, xs, b, h1, h2, h => by
    cases h1
    cases h2
    rw [eqL] at h
    cases h
    rfl
  | a :: l, r, xs, b, h1, h2, h => by
    cases h1 with
    | cons r1 h1 =>
      cases h2 with
      | cons r2 h2 =>
        rw [eqL] at h
        split at h
        · exact uniqL inj l _ h1 h2 h
        · rename_i q
          cases uniqD inj a _ r1 r2 q
        · cases h
end
end
/-- == of two different values -/
theorem eqBool_gen {prog : Program} {w : World} {A : Around} {E : Value → Shared → Prop} {s : Shared} {a0 : Addr} {v : Value} {Q : Bool → Shared → Prop} (hne : Value.ref a0 ≠ v) (h : wpAny (model prog w) A (richCompare .Eq (.ref a0) v) (fun z s' => ∃ r, z = .bool r ∧ Q r s') E s) : wpAny (model prog w) A (eqBool (.ref a0) v) Q E s := by
  unfold eqBool
  refine wpAny_holding ?_
  refine wpAny_ite_split (fun hab => absurd (eq_of_beq hab) hne) (fun _ => ?_)
  refine wpAny_bind (wpAny_mono h (fun v s' hv => ?_) fun _ _ x => x)
  obtain ⟨r, rfl, q⟩ := hv
  exact wpAny_truthy_bool q
section
variable {X : Cx} {n k : Nat}
theorem rep_lst {pins : List (Addr × Obj)} {sg : L2.St} {H : Hp} {hd al : List Addr} {mu : Sto} {d : D} {x : V} {u : Value} {l : List D} (o : Okay X.K hd H mu al) (r : Rep X.K (al ++ hd) H al d x) (ru : RelV x u) (h : dr mu d = .lst l) : ∃ a, x = .ref a ∧ u = .ref a := by
  obtain ⟨p, xs, rfl, _⟩ := DL.Rep.lv o r (dr_lst h)
  cases ru
  exact ⟨p, rfl, rfl⟩
theorem rep_tup {K : PySem.W.Frag} {H : Hp} {fb pt : List Addr} {l : List D} {x : V} {u : Value} (r : Rep K fb H pt (.tup l) x) (ru : RelV x u) : ∃ a, x = .ref a ∧ u = .ref a := by
  cases r
  cases ru
  exact ⟨_, rfl, rfl⟩
theorem rcB_step {op : CmpOp} {f : Bool → Bool} (hop : op = .Eq ∧ (∀ b, f b = b) ∨ op = .NotEq ∧ ∀ b, f b = !b) (h : EqB X n k) (ob : ObB X (n + 1) (k + 1) op f) : RcB X (n + 1) (k + 1) op f := by
  intro A pins s sg H hd al mu d e x y u v b sb I o rd re ru rv hn he
  have kd := kind_of I o rd ru
  have ke := kind_of I o re rv
  by_cases hm : mixD (dr mu d) (dr mu e) = true
  · obtain ⟨q1, q2, _⟩ := mix_at (A := A) sb.room.units0 kd ke hm he
    rcases hop with ⟨rfl, hf⟩ | ⟨rfl, hf⟩
    · rw [hf]
      exact q1 _ _ _ _ ⟨rfl, Pst.refl I o⟩
    · rw [hf]
      exact q2 _ _ _ _ ⟨rfl, Pst.refl I o⟩
  · cases hd' : dr mu d with
    | obj c l =>
      have e1 := dr_obj hd'
      subst e1
      exact ob A pins s sg H hd al mu c l e x y u v b sb I o rd re ru rv hn (by rw [hd'] at he; exact he)
    | tup l =>
      cases he' : dr mu e with
      | tup r =>
        have e1 := dr_tup hd'
        have e2 := dr_tup he'
        subst e1 e2
        obtain ⟨a, rfl, rfl⟩ := rep_tup rd ru
        obtain ⟨a2, rfl, rfl⟩ := rep_tup re rv
        rw [hd', he', eqD] at he
        rw [hd', dp] at hn
        rcases hop with ⟨rfl, hf⟩ | ⟨rfl, hf⟩
        · rw [hf]
          exact rcB_tup_eq h sb I o rd re (by omega) he
        · rw [hf]
          exact rcB_tup_ne h sb I o rd re (by omega) he
      | _ =>
        rw [hd', he'] at hm
        exact (hm rfl).elim
    | lst l =>
      cases he' : dr mu e with
      | lst r =>
        obtain ⟨a, rfl, rfl⟩ := rep_lst (pins := pins) (sg := sg) o rd ru hd'
        obtain ⟨a2, rfl, rfl⟩ := rep_lst (pins := pins) (sg := sg) o re rv he'
        rw [hd', he', eqD] at he
        rw [hd', dp] at hn
        rcases hop with ⟨rfl, hf⟩ | ⟨rfl, hf⟩
        · rw [hf]
          exact rcB_list_eq h sb I o rd re (dr_lst hd') (dr_lst he') (by omega) he
        · rw [hf]
          exact rcB_list_ne h sb I o rd re (dr_lst hd') (dr_lst he') (by omega) he
      | _ =>
        rw [hd', he'] at hm
        exact (hm rfl).elim
    | _ =>
      rw [hd'] at hm
      exact (hm rfl).elim
/-- one object on both sides -/
theorem same_true (inj : InjC X.K) {H : Hp} {hd al : List Addr} {mu : Sto} {d e : D} {x : V} {b : Bool} (o : Okay X.K hd H mu al) (rd : Rep X.K (al ++ hd) H al d x) (re : Rep X.K (al ++ hd) H al e x) (he : eqD (dr mu d) (dr mu e) = some b) : b = true := by
  have np_of : ∀ {d : D}, np d ∨ ∃ n, d = .ptr n := fun {d} => by
    cases d with
    | ptr n => exact .inr ⟨n, rfl⟩
    | _ => exact .inl trivial
  rcases np_of (d := d) with h1 | ⟨n, rfl⟩ <;> rcases np_of (d := e) with h2 | ⟨m, rfl⟩
  · rw [dr_np h1, dr_np h2] at he
    exact uniqD inj d e (rd.np h1) (re.np h2) he
  · rw [dr_np h1] at he
    cases re with
    | ptr ea =>
      cases rd with
      | adr => rw [eqD] at he; cases he
      | err0 => rw [eqD] at he; cases he
      | err => rw [eqD] at he; cases he
      | ptr _ => exact h1.elim
      | tup a _ => exact (a.1 (List.mem_append_left _ (List.mem_of_getElem? ea))).elim
      | lst a _ => exact (a.1 (List.mem_append_left _ (List.mem_of_getElem? ea))).elim
      | obj a _ _ _ => exact (a (List.mem_append_left _ (List.mem_of_getElem? ea))).elim
  · rw [dr_np h2] at he
    cases rd with
    | ptr ea =>
      cases re with
      | adr =>
        cases q : dr mu (.ptr n) <;> rw [q] at he <;> simp [eqD] at he
      | err0 =>
        cases q : dr mu (.ptr n) <;> rw [q] at he <;> simp [eqD] at he
      | err _ _ _ _ =>
        cases q : dr mu (.ptr n) <;> rw [q] at he <;> simp [eqD] at he
      | ptr _ => exact h2.elim
      | tup a _ => exact (a.1 (List.mem_append_left _ (List.mem_of_getElem? ea))).elim
      | lst a _ => exact (a.1 (List.mem_append_left _ (List.mem_of_getElem? ea))).elim
      | obj a _ _ _ => exact (a (List.mem_append_left _ (List.mem_of_getElem? ea))).elim
  · cases rd with
    | ptr ea =>
      cases re with
      | ptr eb =>
        have e1 := nd_ix o.nd ea eb
        subst e1
        exact eqD_refl _ he
theorem eqB_of (inj : InjC X.K) (hk : 0 < k) (h : RcB X n k .Eq id) : EqB X n k := by
  intro A pins s sg H hd al mu d e x y u v b sb I o rd re ru rv hn he
  have kd := kind_of I o rd ru
  have ke := kind_of I o re rv
  by_cases hm : mixD (dr mu d) (dr mu e) = true
  · obtain ⟨_, _, q3⟩ := mix_at (A := A) sb.room.units0 kd ke hm he
    exact q3 _ _ _ _ ⟨rfl, Pst.refl I o⟩
  · have refs : (∃ a, x = .ref a ∧ u = .ref a) := by
      cases hd' : dr mu d with
      | obj c l =>
        have e1 := dr_obj hd'
        subst e1
        cases rd
        cases ru
        exact ⟨_, rfl, rfl⟩
      | tup l =>
        have e1 := dr_tup hd'
        subst e1
        exact rep_tup rd ru
      | lst l => exact rep_lst (pins := pins) (sg := sg) o rd ru hd'
      | _ =>
        rw [hd'] at hm
        exact (hm rfl).elim
    obtain ⟨a, rfl, rfl⟩ := refs
    by_cases huv : Value.ref a = v
    · subst huv
      have ey : y = .ref a := by
        cases y with
        | ref z => cases rv; rfl
        | int z => obtain ⟨t, q⟩ := rv; cases q
        | str z => obtain ⟨t, q⟩ := rv; cases q
        | flt z => obtain ⟨t, q⟩ := rv; cases q
        | byt z => obtain ⟨t, q⟩ := rv; cases q
        | _ => cases rv
      subst ey
      have e1 := same_true inj o rd re he
      subst e1
      exact SeqAt.EqAt.same (A := A) (s := s) (.ref a) X.prog X.w X.xe _ ⟨rfl, Pst.refl I o⟩
    · refine eqBool_gen huv (wpAny_mono (h A pins s sg H hd al mu d e (.ref a) y _ v b sb I o rd re rfl rv hn he) (fun r s' q => ?_) fun _ _ x => x)
      obtain ⟨hr, q⟩ := q
      exact ⟨b, hr, rfl, q⟩
end
end DQ

/-! part DQ4 -/
/-! DQ4: == and != of instances with an own __eq__. -/
namespace DQ
open PySem PySem.Spec PyProof.Rows L2 DL
section
variable {prog : Program} {w : World} {A : Around} {E : Value → Shared → Prop} {s : Shared} {K : PySem.W.Frag} {x C f L : Addr} {ox : Obj} {od : Option Obj} {h₀ : Heap} {m : Str → Option Value} {b tb : Value}
theorem ifBound_ne {M : Model} {args : List Value} {Q : Option Value → Shared → Prop} (X : K.In s.heap) (I : PySem.W.InstAt s.heap x ox C od) (hs : PySem.W.findIn K (.ref C) "__ne__" = some (some (.builtin "object.__ne__")))
    (h : wpAny M A (call (.builtin "object.__ne__") (.ref x :: args)) (fun v => Q (some v)) E s) : wpAny M A (callSpecialIfBound? (.ref x) "__ne__" args) Q E s := by
  simp only [callSpecialIfBound?, bindSpecialIfBound?]
  refine wpAny_holding (wpAny_bind (wpAny_bind (wpAny_bind (I.type.here ((PySem.W.looks_findIn X hs).here ?_)))))
  refine wpAny_bind (wpAny_askSetting (wpAny_ite ?_))
  have fin : wpAny M A (call (.builtin "object.__ne__") ([.ref x] ++ args) >>= fun v => pure (some v)) Q E s := wpAny_bind (wpAny_mono h (fun v s' h' => wpAny_pure h') fun _ _ h' => h')
  split
  · exact wpAny_bind (wpAny_of_eq (F.cmp_object.ne.bind _) (wpAny_pure (by exact fin)))
  · exact wpAny_tryCatch (wpAny_bind (wpAny_of_eq (F.cmp_object.ne.bind _) (wpAny_pure (by exact fin))))
theorem entry_ne {Q : Fin → Shared → Prop} (X : K.In s.heap) (I : PySem.W.InstAt s.heap x ox C od) (hu : A.units < cLine) (hs : PySem.W.findIn K (.ref C) "__eq__" = some (some (.ref f))) (hf : PySem.W.isFn K (.ref f) = true)
    (h : wpAny (model prog w) A (call (.ref f) [.ref x, b]) (fun v s' => ∃ r, v = .bool r ∧ Q (.done (.ret (.bool (!r)))) s') E s) : wpAny (model prog w) A (Builtin.«object.__ne__» ⟨[.ref x, b], []⟩) Q E s := by
  unfold Builtin.«object.__ne__»
  repeat (first
    | with_reducible refine wpAny_cRoomFor hu ?_
    | (refine wpAny_bind (m := callSpecialIfBound? (.ref x) (Str.ofString "__eq__") [b])
        (PySem.W.ifBound_K X I hs hf (wpAny_mono h (fun r s' hr => by
          obtain ⟨b, rfl, hq⟩ := hr
          repeat (first | exact hq | exact wpAny_pure hq | exact wpAny_truthy_bool hq | (refine wpAny_bind (m := truthy (.bool _)) (wpAny_truthy_bool ?_)) | wp_step)) fun _ _ e => e)))
    | wp_step)
/-- x != b by x's class's == -/
theorem ne_K {Q : Value → Shared → Prop} (hu : A.units + 1 < cLine) (F0 : Fr h₀ L s.heap m) (X₀ : K.In h₀) (I : PySem.W.InstAt s.heap x ox C od) (hb : PySem.W.Looks (model prog w) s.heap (typeOf b) tb) (hn : PySem.W.notFirst K C tb = true)
    (hm : PySem.W.mroIn K C (.type "object") = some true)
    (hs : PySem.W.findIn K (.ref C) "__eq__" = some (some (.ref f))) (hf : PySem.W.isFn K (.ref f) = true) (hne : PySem.W.findIn K (.ref C) "__ne__" = some (some (.builtin "object.__ne__")))
    (h : wpAny (model prog w) A.in1 (call (.ref f) [.ref x, b]) (fun v s' => ∃ r, v = .bool r ∧ Q (.bool (!r)) s') E s) : wpAny (model prog w) A (richCompare .NotEq (.ref x) b) Q E s := by
  have X := X₀.keeps F0.keep
  have one : wpAny (model prog w) A (tryCompare (.ref x) (cmpInfo .NotEq).2.1 b) (fun r s' => ∃ v, r = some v ∧ Q v s') E s := by
    unfold tryCompare
    refine wpAny_bind (ifBound_ne X I hne (wpAny_call (codeAny_call_builtin F.cmp_object.ne.plain F.cmpEntry_ne (PySem.W.check_slot F.cmpKind_ne F.cmpSplit_ne (I.type.andThen (PySem.W.looks_mroIn X hm)) (F.cmpArgs_ne _ _)
      (entry_ne (A := A.in1) X I hu hs hf (wpAny_mono h (fun v s' hv => ?_) fun _ _ e => e))))))
    obtain ⟨r, rfl, q⟩ := hv
    exact ⟨r, rfl, wpAny_pure ⟨_, rfl, q⟩⟩
  unfold richCompare
  simp only [oneThing_ref]
  refine wpAny_holding (wpAny_bind (wpAny_cRoomFor (Nat.lt_of_succ_lt hu) ?_))
  refine wpAny_bind (I.type.here (wpAny_bind (hb.here ?_)))
  split
  · rename_i q
    have e : PySem.W.subIn K tb (.ref C) = some false := by
      rcases Bool.or_eq_true_iff.mp hn with e | e
      · rw [beq_iff_eq.mp e] at q; simp at q
      · exact beq_iff_eq.mp e
    refine wpAny_bind ((PySem.W.looks_subIn X e).here ?_)
    simp only [Bool.false_eq_true, if_false]
    refine wpAny_bind (wpAny_mono one (fun r s' z => ?_) fun _ _ e => e)
    obtain ⟨v, rfl, hq⟩ := z
    exact wpAny_pure hq
  · refine wpAny_bind (wpAny_pure ?_)
    simp only [Bool.false_eq_true, if_false]
    refine wpAny_bind (wpAny_mono one (fun r s' z => ?_) fun _ _ e => e)
    obtain ⟨v, rfl, hq⟩ := z
    exact wpAny_pure hq
end
/-- what the text's classes of things say of == -/
structure EqF (K : PySem.W.Frag) (f : Addr) : Prop where
  inj : InjC K
  fn : PySem.W.isFn K (.ref f) = true
  eq : ∀ c, thg c = true → ClsOk K c → PySem.W.findIn K (.ref (He.ga K (cn c))) "__eq__" = some (some (.ref f))
  ne : ∀ c, thg c = true → ClsOk K c → PySem.W.findIn K (.ref (He.ga K (cn c))) "__ne__" = some (some (.builtin "object.__ne__"))
  mr : ∀ c, thg c = true → ClsOk K c → PySem.W.mroIn K (He.ga K (cn c)) (.type "object") = some true
  no : ∀ c c', thg c = true → ClsOk K c → thg c' = true → ClsOk K c' → PySem.W.notFirst K (He.ga K (cn c)) (.ref (He.ga K (cn c'))) = true
theorem notFirst_ty {K : PySem.W.Frag} {C : Addr} {t : String} {l : List Value} (h : fastBuiltinMro t = some l) (hl : l.contains (.ref C) = false) : PySem.W.notFirst K C (.type t) = true := by
  have e : PySem.W.subIn K (.type t) (.ref C) = some false := by
    show (fastBuiltinMro t).map (·.contains (.ref C)) = some false
    rw [h, Option.map_some, hl]
  unfold PySem.W.notFirst
  rw [e]
  simp
theorem mro_none : fastBuiltinMro "NoneType" = some [.type "NoneType", .type "object"] := by decide +kernel
theorem mro_bool : fastBuiltinMro "bool" = some [.type "bool", .type "int", .type "object"] := by decide +kernel
theorem mro_int : fastBuiltinMro "int" = some [.type "int", .type "object"] := by decide +kernel
theorem mro_str : fastBuiltinMro "str" = some [.type "str", .type "object"] := by decide +kernel
theorem mro_tuple : fastBuiltinMro "tuple" = some [.type "tuple", .type "object"] := by decide +kernel
theorem mro_list : fastBuiltinMro "list" = some [.type "list", .type "object"] := by decide +kernel
/-- =='s promise for data of depth n at most -/
def objOk : D → Prop
  | .obj c l => npL l ∧ l.length = (fn c).length
  | _ => True
theorem RepL.npL_ {K : PySem.W.Frag} {fb : List Addr} {H : Hp} : ∀ {l : List D} {xs : List V}, RepL K fb H [] l xs → npL l
  | [], _, _ => trivial
  | _ :: _, _, .cons h r => ⟨Rep.nil_np h, RepL.npL_ r⟩
theorem Rep.objOk_ {K : PySem.W.Frag} {fb pt : List Addr} {H : Hp} {d : D} {v : V} (r : Rep K fb H pt d v) : objOk d := by
  cases r with
  | obj a b c r => exact ⟨RepL.npL_ r, c.1⟩
  | _ => trivial
def spEqD (n : Nat) : DSp := fun ds mu P F => ∃ c l e b, ds = [.obj c l, e] ∧ (objOk (.obj c l) ∧ objOk e) ∧ thg c = true ∧ dp (.obj c l) ≤ n ∧ eqD (.obj c l) (dr mu e) = some b ∧ F (.bl b) mu
theorem al_eq {hd al al' : List Addr} {H H' : Hp} (g : Go hd H al H' al') (h : al'.length = al.length) : al' = al := by
  apply List.ext_getElem?
  intro i
  by_cases hi : i < al.length
  · have e := List.getElem?_eq_getElem hi
    rw [g.pre i _ e, e]
  · rw [List.getElem?_eq_none (by omega), List.getElem?_eq_none (by omega)]
section
variable {X : Cx} {n k : Nat} {f : Addr}
theorem thg_of {c : Nat} {l : List D} {e : D} {b : Bool} (h : eqD (.obj c l) e = some b) : thg c = true := by
  cases e with
  | obj c' r =>
    rw [eqD] at h
    split at h
    · rename_i q
      exact q.1
    · cases h
  | adr => rw [eqD] at h; cases h
  | err => rw [eqD] at h; cases h
  | ptr => rw [eqD] at h; cases h
  | _ =>
    simp [eqD] at h
    exact h.1
/-- the right value's type never comes first -/
theorem right_type (EF : EqF X.K f) {pins : List (Addr × Obj)} {s : Shared} {sg : L2.St} {H : Hp} {hd al : List Addr} {mu : Sto} {c : Nat} {l : List D} {e : D} {y : V} {v : Value} {b : Bool} (I : Inv X pins sg H s) (o : Okay X.K hd H mu al) (ck : ClsOk X.K c) (re : Rep X.K (al ++ hd) H al e y) (rv : RelV y v) (he : eqD (.obj c l) (dr mu e) = some b) :
    ∃ tb, PySem.W.Looks (model X.prog X.w) s.heap (typeOf v) tb ∧ PySem.W.notFirst X.K (He.ga X.K (cn c)) tb = true := by
  have th := thg_of he
  have base : ∀ {t : String} {m : List Value}, TyX X.K H y (.type t) → fastBuiltinMro t = some m → m.contains (.ref (He.ga X.K (cn c))) = false → ∃ tb, PySem.W.Looks (model X.prog X.w) s.heap (typeOf v) tb ∧ PySem.W.notFirst X.K (He.ga X.K (cn c)) tb = true := fun {t m} ty hm hc => by
    obtain ⟨P, Z, p, _⟩ := kit_of I rv ty
    exact ⟨_, Z.ty _ _ I.kIn p, notFirst_ty hm hc⟩
  cases re with
  | non => exact base (.base .non) mro_none (by simp)
  | bl => exact base (.base (.bl _)) mro_bool (by simp)
  | int => exact base (.base (.int _)) mro_int (by simp)
  | str => exact base (.base (.str _)) mro_str (by simp)
  | adr =>
    have he' : eqD (.obj c l) (.adr _) = some b := he
    rw [eqD] at he'
    cases he'
  | err0 =>
    have he' : eqD (.obj c l) (.err _ _ _ _) = some b := he
    rw [eqD] at he'
    cases he'
  | err =>
    have he' : eqD (.obj c l) (.err _ _ _ _) = some b := he
    rw [eqD] at he'
    cases he'
  | tup z r =>
    exact base (.base (.tup z.2)) mro_tuple (by simp)
  | lst z r =>
    rcases z.2 with h | ⟨ob, h⟩
    · exact base (.base (.lst h)) mro_list (by simp)
    · exact base (.base (.frz h)) mro_list (by simp)
  | obj a bb cc r =>
    cases rv
    obtain ⟨mA, J, _⟩ := ins_get I.hok bb
    obtain ⟨od, J, _⟩ := J.look
    have he' : eqD (.obj c l) (.obj _ _) = some b := he
    rw [eqD] at he'
    split at he'
    · rename_i q
      exact ⟨_, J.type, EF.no _ _ q.1 ck q.2 cc.2⟩
    · cases he'
  | ptr e0 =>
    rename_i j p
    cases h : dr mu (.ptr j) with
    | lst r =>
      obtain ⟨q, xs, e1, z, _⟩ := DL.Rep.lv o (.ptr e0) (dr_lst h)
      cases e1
      rcases z with h | ⟨ob, h⟩
      · exact base (.base (.lst h)) mro_list (by simp)
      · exact base (.base (.frz h)) mro_list (by simp)
    | ptr m => rw [h, eqD] at he; cases he
    | adr a => rw [h, eqD] at he; cases he
    | err _ _ _ _ => rw [h, eqD] at he; cases he
    | tup l => cases dr_tup h
    | obj c l => cases dr_obj h
    | non =>
      have h' : (match mu[j]? with
        | some (.lst l) => D.lst l
        | _ => D.ptr j) = .non := h
      split at h' <;> cases h'
    | bl b =>
      have h' : (match mu[j]? with
        | some (.lst l) => D.lst l
        | _ => D.ptr j) = .bl b := h
      split at h' <;> cases h'
    | int b =>
      have h' : (match mu[j]? with
        | some (.lst l) => D.lst l
        | _ => D.ptr j) = .int b := h
      split at h' <;> cases h'
    | str b =>
      have h' : (match mu[j]? with
        | some (.lst l) => D.lst l
        | _ => D.ptr j) = .str b := h
      split at h' <;> cases h'
theorem run_eq (PR : Prom X.prog X.w X.K X.mg X.base k f 2 (spEqD n)) (hx : Passes (L2.CX X.prog X.w) X (fun _ _ _ => False)) {A : Around} (hr : Room k A) (hfr : A.frames = X.A.frames) {pins : List (Addr × Obj)} {s : Shared} {sg : L2.St} {H : Hp} {hd al : List Addr} {mu : Sto} {c : Nat} {l : List D} {e : D} {x y : V} {u v : Value} {b : Bool}
    (I : Inv X pins sg H s) (o : Okay X.K hd H mu al) (rd : Rep X.K (al ++ hd) H al (.obj c l) x) (re : Rep X.K (al ++ hd) H al e y) (ru : RelV x u) (rv : RelV y v) (hn : dp (.obj c l) ≤ n) (he : eqD (.obj c l) (dr mu e) = some b) :
    wpAny (model X.prog X.w) A (call (.ref f) [u, v]) (fun z s' => z = .bool b ∧ Pst X pins sg hd al mu H s') X.xe s := by
  obtain ⟨fd, ps, hps, FO, bb⟩ := PR.ok
  have hsp : spD X.K 2 (spEqD n) [x, y] H (fun v H' => v = .bl b ∧ Okay X.K hd H' mu al ∧ Go hd H al H' al) (fun _ _ _ => False) := by
    refine ⟨rfl, mu, al, hd, [.obj c l, e], fun _ _ => False, fun d mu' => d = .bl b ∧ mu' = mu, o, .cons rd (.cons re .nil), ⟨c, l, e, b, rfl, ⟨Rep.objOk_ rd, Rep.objOk_ re⟩, thg_of he, hn, he, rfl, rfl⟩, ⟨fun d mu' v H' al' h o' g r => ?_⟩, ⟨fun _ _ _ _ _ _ h => h.elim⟩⟩
    obtain ⟨rfl, rfl⟩ := h
    have e1 := al_eq g (by rw [o'.len, o.len])
    subst e1
    exact ⟨r.bl_, o', g⟩
  have e0 : Env0 X.prog X.w X.K X.mg X.base A X.stack s H := by
    have e := I.env0
    exact ⟨by rw [hfr]; exact e.frames, e.mod, e.bs, e.bsz, e.funs, e.frf, e.hok, e.bare⟩
  have r2 : Vals [x, y] [u, v] := .cons ru (.cons rv .nil)
  refine wpAny_call (codeAny_mono (FO.run A X.stack s H ⟨[u, v], []⟩ [u, v] [x, y] _ _ hr e0 (by
    have := bb s [u, v] I.kIn (by simpa using hps.symm)
    simpa using this) r2 hsp) fun r s' hq => ?_)
  cases r with
  | error e => exact hx pins sg H s e s' I hq
  | ok fl =>
    cases fl with
    | ret w =>
      obtain ⟨z, H', I', rz, ez, o', g'⟩ := I.after hq
      subst ez
      cases rz
      exact ⟨rfl, H', I', o', g'⟩
    | next => exact False.elim hq
    | brk => exact False.elim hq
    | cont => exact False.elim hq
theorem obB_eq (EF : EqF X.K f) (PR : Prom X.prog X.w X.K X.mg X.base k f 2 (spEqD n)) (hx : Passes (L2.CX X.prog X.w) X (fun _ _ _ => False)) : ObB X n k .Eq id := by
  intro A pins s sg H hd al mu c l e x y u v b sb I o rd re ru rv hn he
  have th := thg_of he
  have go := fun (hr : Room k A) => run_eq PR hx hr sb.fr I o rd re ru rv hn he
  cases rd with
  | obj a bb cc r =>
    cases ru
    obtain ⟨mA, J, _⟩ := ins_get I.hok bb
    obtain ⟨od, J, _⟩ := J.look
    obtain ⟨tb, hb, hnf⟩ := right_type EF I o cc.2 re rv he
    obtain ⟨m, hF⟩ := I.fr
    refine PySem.W.cmp_K (op := .Eq) (tb := tb) sb.room.units0 hF I.ok.mod.kin J hb hnf (EF.eq c th cc.2) EF.fn (wpAny_mono (go sb.room) (fun z s' q => ?_) fun _ _ x => x)
    obtain ⟨rfl, q⟩ := q
    exact ⟨rfl, q⟩
theorem obB_ne (EF : EqF X.K f) (PR : Prom X.prog X.w X.K X.mg X.base k f 2 (spEqD n)) (hx : Passes (L2.CX X.prog X.w) X (fun _ _ _ => False)) : ObB X n (k + 1) .NotEq not := by
  intro A pins s sg H hd al mu c l e x y u v b sb I o rd re ru rv hn he
  have th := thg_of he
  have go := run_eq PR hx sb.in1.room sb.in1.fr I o rd re ru rv hn he
  cases rd with
  | obj a bb cc r =>
    cases ru
    obtain ⟨mA, J, _⟩ := ins_get I.hok bb
    obtain ⟨od, J, _⟩ := J.look
    obtain ⟨tb, hb, hnf⟩ := right_type EF I o cc.2 re rv he
    obtain ⟨m, hF⟩ := I.fr
    refine ne_K (tb := tb) (by have := sb.in1.room.units0; exact this) hF I.ok.mod.kin J hb hnf (EF.mr c th cc.2) (EF.eq c th cc.2) EF.fn (EF.ne c th cc.2) (wpAny_mono go (fun z s' q => ?_) fun _ _ x => x)
    obtain ⟨rfl, q⟩ := q
    exact ⟨b, rfl, rfl, q⟩
end
end DQ

/-! part DQ5 -/
/-! DQ5: == and != at every depth, by a text's __eq__; the two operators as rules. -/
namespace DQ
open PySem PySem.Spec PyProof.Rows L2 DL
theorem passes_no {X : Cx} : Passes (L2.CX X.prog X.w) X (fun _ _ _ => False) := fun _ _ _ _ _ _ _ ⟨_, _, _, _, _, _, _, _, _, _, _, _, z⟩ => z.elim
section
variable {X : Cx} {n k j : Nat} {op : CmpOp} {f : Bool → Bool}
theorem RcB.mono (h : RcB X n k op f) (hk : k ≤ j) : RcB X n j op f := fun A pins s sg H hd al mu d e x y u v b sb => h A pins s sg H hd al mu d e x y u v b (sb.mono hk)
theorem EqB.mono (h : EqB X n k) (hk : k ≤ j) : EqB X n j := fun A pins s sg H hd al mu d e x y u v b sb => h A pins s sg H hd al mu d e x y u v b (sb.mono hk)
theorem ObB.mono (h : ObB X n k op f) (hk : k ≤ j) : ObB X n j op f := fun A pins s sg H hd al mu c l e x y u v b sb => h A pins s sg H hd al mu c l e x y u v b (sb.mono hk)
theorem mix0 {d e : D} (h : dp d ≤ 0) : mixD d e = true := by
  cases d with
  | tup l =>
    rw [dp] at h
    omega
  | lst l =>
    rw [dp] at h
    omega
  | obj c l =>
    rw [dp] at h
    omega
  | _ => rfl
theorem rcB_0 (hop : op = .Eq ∧ (∀ b, f b = b) ∨ op = .NotEq ∧ ∀ b, f b = !b) : RcB X 0 k op f := by
  intro A pins s sg H hd al mu d e x y u v b sb I o rd re ru rv hn he
  obtain ⟨q1, q2, _⟩ := mix_at (A := A) sb.room.units0 (kind_of I o rd ru) (kind_of I o re rv) (mix0 hn) he
  rcases hop with ⟨rfl, hf⟩ | ⟨rfl, hf⟩
  · rw [hf]
    exact q1 _ _ _ _ ⟨rfl, Pst.refl I o⟩
  · rw [hf]
    exact q2 _ _ _ _ ⟨rfl, Pst.refl I o⟩
end
/-- the room of == at depth n -/
def kE (n : Nat) : Nat := 2 * n + 4
theorem hopE : (CmpOp.Eq = .Eq ∧ (∀ b : Bool, id b = b) ∨ CmpOp.Eq = .NotEq ∧ ∀ b : Bool, id b = !b) := .inl ⟨rfl, fun _ => rfl⟩
theorem hopN : (CmpOp.NotEq = .Eq ∧ (∀ b : Bool, (!b) = b) ∨ CmpOp.NotEq = .NotEq ∧ ∀ b : Bool, (!b) = !b) := .inr ⟨rfl, fun _ => rfl⟩
structure EqX (X : Cx) (n : Nat) : Prop where
  eq : RcB X n (kE n) .Eq id
  ne : RcB X n (kE n) .NotEq not
  bo : EqB X n (kE n)
structure EqAll (P : Program) (w : World) (K : PySem.W.Frag) (mg : Str → Option Value) (base : Heap) (n : Nat) : Prop where
  at_ : ∀ X : Cx, X.prog = P → X.w = w → X.K = K → X.mg = mg → X.base = base → EqX X n
section
variable {P : Program} {w : World} {K : PySem.W.Frag} {mg : Str → Option Value} {base : Heap} {f : Addr}
theorem EqAll.x {X : Cx} {n : Nat} (E : EqAll X.prog X.w X.K X.mg X.base n) : EqX X n := E.at_ X rfl rfl rfl rfl rfl
theorem eqX_0 {X : Cx} (inj : InjC X.K) : EqX X 0 := ⟨rcB_0 hopE, rcB_0 hopN, eqB_of inj (by unfold kE; omega) (rcB_0 hopE)⟩
theorem eqX_step {X : Cx} {n k : Nat} (EF : EqF X.K f) (h : EqX X n) (hk : k + 1 ≤ kE (n + 1)) (PR : Prom X.prog X.w X.K X.mg X.base k f 2 (spEqD (n + 1))) : EqX X (n + 1) := by
  have e1 : RcB X (n + 1) (kE (n + 1)) .Eq id := rcB_step (k := kE (n + 1) - 1) hopE (h.bo.mono (by unfold kE; omega)) ((obB_eq EF PR passes_no).mono (by omega))
  exact ⟨e1, rcB_step (k := kE (n + 1) - 1) hopN (h.bo.mono (by unfold kE; omega)) ((obB_ne EF PR passes_no).mono (by unfold kE at hk ⊢; omega)), eqB_of EF.inj (by unfold kE; omega) e1⟩
/-- at every depth, if a text's __eq__ keeps its promise at n + 1 by == at n -/
theorem eq_all (EF : EqF K f) (step : ∀ n, EqAll P w K mg base n → Prom P w K mg base (kE n + 1) f 2 (spEqD (n + 1))) : ∀ n, EqAll P w K mg base n
  | 0 => ⟨fun X h1 h2 h3 h4 h5 => by
    subst h1 h2 h3 h4 h5
    exact eqX_0 EF.inj⟩
  | n + 1 => ⟨fun X h1 h2 h3 h4 h5 => by
    have ih := eq_all EF step n
    subst h1 h2 h3 h4 h5
    exact eqX_step EF ih.x (by unfold kE; omega) (step n ih)⟩
end
/-- x == y -/
def gEq (n : Nat) : G2 := fun d e mu _ F => dp (dr mu d) ≤ n ∧ match eqD (dr mu d) (dr mu e) with
  | some b => F (.bl b) mu
  | none => False
def gNe (n : Nat) : G2 := fun d e mu _ F => dp (dr mu d) ≤ n ∧ match eqD (dr mu d) (dr mu e) with
  | some b => F (.bl (!b)) mu
  | none => False
section
variable {X : Cx} {W : WX}
theorem o_eq (n : Nat) (E : EqAll X.prog X.w X.K X.mg X.base n) (hr : Room (kE n) X.A) : OpS X (compareOp .Eq) (liftR X.K W (gEq n)) := by
  intro pins s sg H x y v u Q I rx ry ⟨mu, al, hd, d, e, P, F, o, rd, re, h, kv, kx⟩
  obtain ⟨hn, h⟩ := h
  split at h
  · rename_i b he
    show wpAny (model X.prog X.w) X.A (richCompare .Eq v u) (EP X pins sg Q) X.xe s
    refine wpAny_mono (E.x.eq X.A pins s sg H hd al mu d e x y v u b ⟨hr, rfl⟩ I o rd re rx ry hn he) (fun r s' z => ?_) fun _ _ x => x
    obtain ⟨rfl, H', I', o', g'⟩ := z
    exact ⟨.bl b, H', I', rfl, kv.go _ _ _ _ _ h o' g' .bl⟩
  · exact h.elim
theorem o_ne (n : Nat) (E : EqAll X.prog X.w X.K X.mg X.base n) (hr : Room (kE n) X.A) : OpS X (compareOp .NotEq) (liftR X.K W (gNe n)) := by
  intro pins s sg H x y v u Q I rx ry ⟨mu, al, hd, d, e, P, F, o, rd, re, h, kv, kx⟩
  obtain ⟨hn, h⟩ := h
  split at h
  · rename_i b he
    show wpAny (model X.prog X.w) X.A (richCompare .NotEq v u) (EP X pins sg Q) X.xe s
    refine wpAny_mono (E.x.ne X.A pins s sg H hd al mu d e x y v u b ⟨hr, rfl⟩ I o rd re rx ry hn he) (fun r s' z => ?_) fun _ _ x => x
    obtain ⟨rfl, H', I', o', g'⟩ := z
    exact ⟨.bl (!b), H', I', rfl, kv.go _ _ _ _ _ h o' g' .bl⟩
  · exact h.elim
end
end DQ

/-! part DQ6 -/
/-! DQ6: what is asked of a text's written part, as one Bool. -/
namespace DQ
open PySem PySem.Spec PyProof.Rows L2 DL
theorem ba2 {a b : Bool} (h : (a && b) = true) : a = true ∧ b = true := Bool.and_eq_true_iff.mp h
theorem bo2 {a b : Bool} (h : (!a || b) = true) (ha : a = true) : b = true := by
  rw [ha] at h
  exact h
theorem ckHere {K : PySem.W.Frag} {c : Nat} (h : ClsOk K c) : here K c = true := h.1.hd
theorem thg_lt {c : Nat} (h : thg c = true) : c < 18 := by
  unfold thg at h
  split at h <;> first | cases h | exact of_decide_eq_true h
section
variable {K : PySem.W.Frag}
theorem clsB_of (h : txtB K = true) {c : Nat} (hc : c < 18) : clsB K c = true := List.all_eq_true.mp (ba2 h).1 c (List.mem_range.mpr hc)
theorem isF_of (h : txtB K = true) : IsF K := by
  obtain ⟨_, h2⟩ := ba2 h
  obtain ⟨_, h3⟩ := ba2 h2
  obtain ⟨h4, h5⟩ := ba2 h3
  refine ⟨fun c ck hc => ?_, of_decide_eq_true h4, of_decide_eq_true h5⟩
  obtain ⟨a, b⟩ := ba2 (bo2 (clsB_of h hc) (ckHere ck))
  exact ⟨of_decide_eq_true (ba2 b).1, of_decide_eq_true a⟩
theorem thg_of2 (h : txtB K = true) {c : Nat} (t : thg c = true) (ck : ClsOk K c) : PySem.W.mroIn K (He.ga K (cn c)) (.type "object") = some true ∧ PySem.W.findIn K (.ref (He.ga K (cn c))) "__eq__" = some (some (.ref (eqAd K))) ∧ PySem.W.findIn K (.ref (He.ga K (cn c))) "__ne__" = some (some (.builtin "object.__ne__")) ∧
    ∀ c', thg c' = true → ClsOk K c' → PySem.W.notFirst K (He.ga K (cn c)) (.ref (He.ga K (cn c'))) = true ∧ (He.ga K (cn c) = He.ga K (cn c') → c = c') := by
  obtain ⟨a, b⟩ := ba2 (bo2 (clsB_of h (thg_lt t)) (ckHere ck))
  obtain ⟨d, e⟩ := ba2 (bo2 (ba2 b).2 t)
  obtain ⟨f, g⟩ := ba2 e
  refine ⟨of_decide_eq_true a, of_decide_eq_true d, of_decide_eq_true f, fun c' t' ck' => ?_⟩
  obtain ⟨i, j⟩ := ba2 (bo2 (bo2 (List.all_eq_true.mp g c' (List.mem_range.mpr (thg_lt t'))) (ckHere ck')) t')
  exact ⟨i, of_decide_eq_true j⟩
theorem eqF_of (h : txtB K = true) : EqF K (eqAd K) where
  inj := fun c c' t t' ck ck' => ((thg_of2 h t ck).2.2.2 c' t' ck').2
  fn := (ba2 (ba2 h).2).1
  eq := fun c t ck => (thg_of2 h t ck).2.1
  ne := fun c t ck => (thg_of2 h t ck).2.2.1
  mr := fun c t ck => (thg_of2 h t ck).1
  no := fun c c' t ck t' ck' => ((thg_of2 h t ck).2.2.2 c' t' ck').1
theorem isiT_of {u : Value} {bt : String → Bool} {cl : Nat → Bool} (h : isiB K u bt cl = true) : IsiT K u bt cl := by
  obtain ⟨a, b⟩ := ba2 h
  exact ⟨fun t ht => of_decide_eq_true (List.all_eq_true.mp a t ht), fun c ck hc => of_decide_eq_true (bo2 (List.all_eq_true.mp b c (List.mem_range.mpr hc)) (ckHere ck))⟩
theorem abs_of {c : Nat} (h : absB K c = true) : ¬ ClsOk K c := fun ck => by
  unfold absB at h
  rw [(ckHere ck)] at h
  cases h
theorem ck_of {c : Nat} (h : ckB K c = true) : ClsOk K c := by
  obtain ⟨a, b⟩ := ba2 h
  exact ⟨He.cls_ok a, fun f hf => He.noat_ok (List.all_eq_true.mp b f hf)⟩
theorem mk0_of {c : Nat} (hf : fn c = []) (h : mk0B K c = true) : Mk0 K c := by
  obtain ⟨a, h⟩ := ba2 h
  obtain ⟨b, h⟩ := ba2 h
  obtain ⟨d, h⟩ := ba2 h
  obtain ⟨e, g⟩ := ba2 h
  exact ⟨ck_of a, hf, b, of_decide_eq_true d, of_decide_eq_true e, g⟩
end
end DQ

/-! part DX1 -/
/-! DX1: own errors with fields, raised. -/
namespace DX
open PySem PySem.Spec PyProof.Rows L2 DL DQ
theorem oexB_ok {K : PySem.W.Frag} {C : Addr} (h : oexB K C = true) : OexC K C := by
  obtain ⟨h1, h⟩ := ba2 h
  obtain ⟨h2, h⟩ := ba2 h
  obtain ⟨h3, h⟩ := ba2 h
  obtain ⟨h4, h5⟩ := ba2 h
  refine ⟨?_, of_decide_eq_true h2, of_decide_eq_true h3, of_decide_eq_true h4, h5⟩
  split at h1
  · rename_i dd cd sl ho
    split at h1
    · rename_i C' bm k0 k1 k2 k3 n k5 hm hs
      simp only [Bool.and_eq_true, beq_iff_eq, Bool.not_eq_true'] at h1
      obtain ⟨⟨e1, e2⟩, hdel, hdc, hv⟩ := h1
      subst e1 e2
      obtain ⟨nm, bs, mro, ns, qn, hd, sn, sub, ab, col, del⟩ := cd
      dsimp only at hm hdel hdc
      subst hm hdel hdc
      have hsl : sl = #[k0, k1, k2, k3, some (.builtin "ValueError.__new__"), k5] := by
        obtain ⟨l⟩ := sl
        simp only at hs
        rw [hs]
      subst hsl
      exact ⟨_, _, _, _, _, _, _, _, _, _, _, _, _, _, _, ho, hv⟩
    · cases h1
  · cases h1
/-- the fields of such an object, the last one set first -/
def xfs (names : List Str) (ws : List V) : List (Str × V) := (names.zip ws).reverse
/-- self.f = f, one after the other, on an exception that is being made -/
def spX (K : PySem.W.Frag) (C : Addr) (names : List Str) : Sp := fun vs H Q _ => ∃ (a : Addr) (ws : List V), vs = .ref a :: ws ∧ ws.length = names.length ∧ OexC K C ∧ (∀ f ∈ names, PySem.W.findIn K (.ref C) f = some none) ∧ H a = some (exo a C none) ∧
  ∀ d H2, H d = none → d ≠ a → H2 a = some (exo a C (some d)) → H2 d = some (exd d (xfs names ws)) → (∀ b, b ≠ a → b ≠ d → H2 b = H b) → Q .non H2
/-- the class x of errors can be raised, its fields are set by its __init__ -/
structure XOk (P : Program) (w : World) (K : PySem.W.Frag) (mg : Str → Option Value) (base : Heap) (k x : Nat) : Prop where
  oex : OexC K (He.ga K (xn x))
  ok : ∃ f fd ps, PySem.W.findIn K (.ref (He.ga K (xn x))) "__init__" = some (some (.ref f)) ∧ PySem.W.typeIn K (.ref f) = some (.type "function") ∧ FnOk P w K mg base (L2.CX P w) k f fd ps (spX K (He.ga K (xn x)) (xf x)) ∧ Binds K fd ps []
  no : ∀ f ∈ xf x, PySem.W.findIn K (.ref (He.ga K (xn x))) f = some none
  nd : (xf x).Nodup
  ne : xf x ≠ []
  nm : PySem.W.keepIn K (.ref (He.ga K (xn x))) = true
def dRaise (x : Nat) (da : DA) : DS := fun E ga mu => da ga mu E.ex fun ds mu1 => (ds.length = (xf x).length ∧ npL ds) ∧ E.ex (x, ds) mu1
theorem lookup_zip {f : Str} : ∀ {ns : List Str} {xs : List V} {i : Nat}, ns.Nodup → ns.length = xs.length → ns[i]? = some f → (ns.zip xs).reverse.lookup f = xs[i]? := by
  intro ns xs i nd hl hi
  have key : ∀ (l : List (Str × V)) (v : V), (l.map (·.1)).Nodup → (f, v) ∈ l → l.lookup f = some v := by
    intro l
    induction l with
    | nil => intro v _ h; cases h
    | cons p l ih =>
      intro v hnd hm
      obtain ⟨g, y⟩ := p
      rw [List.map_cons, List.nodup_cons] at hnd
      rcases List.mem_cons.mp hm with e | hm
      · cases e
        simp
      · have hne : ¬ f = g := fun e => hnd.1 (e ▸ List.mem_map.mpr ⟨_, hm, rfl⟩)
        have hb : (f == g) = false := beq_eq_false_iff_ne.mpr hne
        rw [List.lookup_cons, hb]
        exact ih v hnd.2 hm
  have hix : i < ns.length := (List.getElem?_eq_some_iff.mp hi).1
  have hix2 : i < xs.length := by omega
  rw [List.getElem?_eq_getElem hix2]
  refine key _ _ ?_ ?_
  · rw [List.map_reverse, List.map_fst_zip (by omega)]
    unfold List.Nodup
    rw [List.pairwise_reverse]
    exact List.Pairwise.imp (fun h => Ne.symm h) nd
  · rw [List.mem_reverse]
    refine List.mem_iff_getElem?.mpr ⟨i, ?_⟩
    rw [List.getElem?_zip_eq_some]
    exact ⟨hi, List.getElem?_eq_getElem hix2⟩
section
variable {X : Cx} {W : WX}
theorem ds_raise {k x : Nat} {n : Str} {p pos pos' : Pos} {e : Expr} {es : List Expr} {da : DA} (hc : X.calm = true) (M : XOk X.prog X.w X.K X.mg X.base k x) (hr : Room (k + 1) X.A) (hm : X.mg n = some (.ref (He.ga X.K (xn x)))) (tk : Takes X W) (ha : PA X (e :: es) (liftA X.K W da)) (hg : Gl X n := by rfl)
    (hdb : (n == ("__debug__" : Str)) = false := by decide) (he : starEach (e :: es) X.env = (false, eval e X.env) :: starEach es X.env := by rfl) (hpl : (backTo pos (starEach es X.env)).any (·.1) = false := by rfl) :
    PS X (.Raise (some (.Call (.Name n p) (e :: es) [] pos)) none pos') (liftS X.K W (dRaise x da)) := by
  obtain ⟨f, fd, ps, iC, tI, F1, hb⟩ := M.ok
  refine ps_wk (ps_raise hc tk (pmk_oex (dvs := []) (ds := []) M.oex iC tI F1 hr hb .nil passes_no hg hm ha hdb he hpl)) fun Q sg H ⟨ga, mu, al, hd, E, at_, h, kk⟩ => ?_
  refine ⟨ga, mu, al, hd, E.ex, _, at_, h, ⟨fun ds mu1 vs H1 al1 h1 o1 g1 r1 => ?_⟩, kk.ex sg⟩
  obtain ⟨⟨hl, hn⟩, hx⟩ := h1
  have hlv : vs.length = (xf x).length := by rw [← r1.len, hl]
  have hx20 : ∀ y, (xf y).length ≤ 1000 := fun y => by
    unfold xf
    split <;> decide
  refine ⟨by rw [hlv]; exact hx20 x, fun a ha => ?_⟩
  rw [List.append_nil]
  refine ⟨a, vs, rfl, hlv, M.oex, M.no, upd_same, fun d H2 hd0 hda e1 e2 hrest => ?_⟩
  have hd1 : H1 d = none := by
    rw [upd_ne hda] at hd0
    exact hd0
  refine ⟨rfl, d, _, e1, e2, hd1, ?_⟩
  have keep : ∀ b u, H1 b = some u → (upd (del H2 a) d (.xd (xfs (xf x) vs))) b = some u := fun b u q => by
    have nba := ne_of_none q ha
    have nbd := ne_of_none q hd1
    rw [upd_ne nbd, del_ne nba, hrest b nba nbd, upd_ne nba]
    exact q
  have g2 : Go hd H1 al1 (upd (del H2 a) d (.xd (xfs (xf x) vs))) al1 := Go.ext o1 keep
  refine (kk.ex sg).go (x, ds) mu1 _ _ _ al1 hx (o1.ext keep) (g1.trans g2) ⟨rfl, hl, fun _ => ⟨d, _, vs, rfl, o1.new hd1, upd_same, (r1.np hn).go g2 (Pre.refl _), fun i f hi => ?_⟩, fun z => ?_⟩
  · exact lookup_zip M.nd (by rw [hlv]) hi
  · have z' : ds = [] := z
    rw [z'] at hl
    exact absurd (List.length_eq_zero_iff.mp hl.symm) M.ne
end
end DX

/-! part DX2 -/
/-! DX2: an error's __init__ with one or two fields. -/
namespace DX
open PySem PySem.Spec PyProof.Rows L2 DL DQ
section
variable {P : Program} {w : World} {K : PySem.W.Frag} {mg : Str → Option Value} {base : Heap} {qual : Str} {params : Arguments} {body : List Stmt} {scope : Scope} {f : Addr} {fd : FuncData} {N ps : List Str} {C : Addr} {a1 a2 : Str}
theorem xinit1 (F : FunD K "__init__" qual params body scope [] [] f fd) (S : FnScope N ps scope) (hn : ps.length = 2)
    (der : ∀ (cdv : Value) (A : Around) (outer : List Env) (s : Shared) (H : Hp) (E : XK), PSs (cxOf (L2.CX P w) P w K mg base N qual scope f cdv A outer s H E) body (tOst K a1 (tVar 0) (tVar 1))) : FnOk P w K mg base (L2.CX P w) 1 f fd ps (spX K C [a1]) := by
  refine F.ok S (fun vs H Q E h => ?_) (fun cdv A outer s H vs Q E hr h => ⟨_, der cdv A outer s H E, ?_⟩)
  · obtain ⟨a, ws, rfl, hl, _⟩ := h
    rw [List.length_cons, hl, hn] <;> rfl
  · obtain ⟨a, ws, rfl, hl, T, no, hH, hQ⟩ := h
    match ws, hl with
    | [y], _ =>
      refine ⟨y, rfl, .ref a, rfl, a, C, rfl, T, no a1 List.mem_cons_self, .inl ⟨hH, fun d hd hne => hQ d _ hd hne upd_same ?_ fun b hb hb2 => ?_⟩⟩
      · rw [upd_ne hne, upd_same] <;> rfl
      · rw [upd_ne hb, upd_ne hb2]
theorem xinit2 (F : FunD K "__init__" qual params body scope [] [] f fd) (S : FnScope N ps scope) (hn : ps.length = 3)
    (der : ∀ (cdv : Value) (A : Around) (outer : List Env) (s : Shared) (H : Hp) (E : XK), PSs (cxOf (L2.CX P w) P w K mg base N qual scope f cdv A outer s H E) body (tSeq (tOst K a1 (tVar 0) (tVar 1)) (tOst K a2 (tVar 0) (tVar 2)))) : FnOk P w K mg base (L2.CX P w) 1 f fd ps (spX K C [a1, a2]) := by
  refine F.ok S (fun vs H Q E h => ?_) (fun cdv A outer s H vs Q E hr h => ⟨_, der cdv A outer s H E, ?_⟩)
  · obtain ⟨a, ws, rfl, hl, _⟩ := h
    rw [List.length_cons, hl, hn] <;> rfl
  · obtain ⟨a, ws, rfl, hl, T, no, hH, hQ⟩ := h
    match ws, hl with
    | [y, z], _ =>
      refine ⟨y, rfl, .ref a, rfl, a, C, rfl, T, no a1 List.mem_cons_self, .inl ⟨hH, fun d hd hne => ?_⟩⟩
      refine ⟨z, rfl, .ref a, rfl, a, C, rfl, T, no a2 (List.mem_cons_of_mem _ List.mem_cons_self), .inr ⟨d, [(a1, y)], upd_same, ?_, (by show 1 ≤ 900; decide), hQ d _ hd hne ?_ upd_same fun b hb hb2 => ?_⟩⟩
      · rw [upd_ne hne, upd_same]
      · rw [upd_ne (Ne.symm hne), upd_same]
      · rw [upd_ne hb2, upd_ne hb, upd_ne hb2]
end
theorem xok_of {P : Program} {w : World} {K : PySem.W.Frag} {mg : Str → Option Value} {base : Heap} {k x : Nat} {fd : FuncData} {ps : List Str} (h : xoB K x = true) (nd : (xf x).Nodup) (ne : xf x ≠ [])
    (F : FnOk P w K mg base (L2.CX P w) k (He.ma K (He.ga K (xn x)) "__init__") fd ps (spX K (He.ga K (xn x)) (xf x))) (b : Binds K fd ps []) : XOk P w K mg base k x := by
  obtain ⟨h1, h⟩ := ba2 h
  obtain ⟨h2, h⟩ := ba2 h
  obtain ⟨h3, h4⟩ := ba2 h
  have T := oexB_ok h1
  exact ⟨T, ⟨_, fd, ps, of_decide_eq_true h2, of_decide_eq_true h3, F, b⟩, fun f hf => of_decide_eq_true (List.all_eq_true.mp h4 f hf), nd, ne, T.kC⟩
end DX

/-! part DX3 -/
/-! DX3: try with several clauses, with or without a name. -/
namespace DX
open PySem PySem.Spec PyProof.Rows L2 DL DQ
abbrev Cls1 : Type := Value × Option Nat × (Addr → Value → Option Addr → TS)
def away (i : Nat) (D : Ends) : Ends := { nx := fun q h => D.nx (q.set i none) h, rt := D.rt, bk := fun q h => D.bk (q.set i none) h, ct := fun q h => D.ct (q.set i none) h }
def suiteOf (D : Ends) (t : Option Nat × (Addr → Value → Option Addr → TS)) (a : Addr) (cls : Value) (d : Option Addr) (q : L2.St) (H : Hp) : Prop := match t.1 with
  | none => t.2 a cls d D q H
  | some i => t.2 a cls d (away i D) (q.set i (some (.ref a))) H
/-- what the clauses wish of an error -/
def wMix (K : PySem.W.Frag) (W0 : WX) (D : Ends) : List Cls1 → WX
  | [] => W0
  | (c, t) :: r => fun cls d q H => ∃ b, PySem.W.exmOne K cls c = some b ∧ (b = true → ∀ a, H a = none → suiteOf D t a cls d q H) ∧ (b = false → wMix K W0 D r cls d q H)
/-- the same, of slots in their number -/
def wLen (n : Nat) (W : WX) : WX := fun cls d q H => q.length = n → W cls d q H
inductive HdsMix (X : Cx) : List ExceptHandler → List Cls1 → Prop
  | nil : HdsMix X [] []
  | plain {x : Str} {c : Value} {ts : Addr → Value → Option Addr → TS} {b0 : Stmt} {rest : List Stmt} {np pos' : Pos} {hds : List ExceptHandler} {l : List Cls1} (hc : Names X x c)
      (hsu : ∀ (a : Addr) (oe : Obj) (cls : Value) (d : Option Addr) (pn : List (Addr × Obj)), Zc cls d oe → (∃ vs, oe.data = .fields vs) → PSs (X.suite a ((a, oe) :: pn)) (b0 :: rest) (ts a cls d)) (r : HdsMix X hds l) :
      HdsMix X (.ExceptHandler (some (.Name x np)) none (b0 :: rest) pos' :: hds) ((c, none, ts) :: l)
  | named {x n : Str} {i : Nat} {c : Value} {ts : Addr → Value → Option Addr → TS} {b0 : Stmt} {rest : List Stmt} {np pos' : Pos} {hds : List ExceptHandler} {l : List Cls1} (hc : Names X x c) (hi : X.N[i]? = some n) (hln : X.env.kindOf n = some .local)
      (hsu : ∀ (a : Addr) (oe : Obj) (cls : Value) (d : Option Addr) (pn : List (Addr × Obj)), Zc cls d oe → (∃ vs, oe.data = .fields vs) → PSs (X.suite a ((a, oe) :: pn)) (b0 :: rest) (ts a cls d)) (r : HdsMix X hds l) :
      HdsMix X (.ExceptHandler (some (.Name x np)) (some n) (b0 :: rest) pos' :: hds) ((c, some i, ts) :: l)
section
variable {X : Cx} {body : List Stmt} {h0 : ExceptHandler} {hds : List ExceptHandler} {l : List Cls1} {pos : Pos} {tb : WX → TS} {Wo : WX}
theorem ps_try_mix (hs : X.stack = X.env :: X.outer) (hf : X.env.frame = some X.env.locals) (hN : X.N.Nodup) (tk : Takes X Wo)
    (hb : ∀ (W : WX) (pn : List (Addr × Obj)) (xe : Value → Shared → Prop), Takes (X.tr pn xe) W → PassesOwn (model X.prog X.w) X.A X.env xe → PSs (X.tr pn xe) body (tb W))
    (hh : HdsMix X (h0 :: hds) l) : PS X (.Try body (h0 :: hds) [] [] pos) (fun D q H => tb (wLen X.N.length (wMix X.K Wo D l)) D q H) := by
  refine ⟨fun pins s q0 H D I h => ?_⟩
  have ok := I.ok
  have hfr : X.A.frames = some (X.env :: X.outer) := by rw [ok.frames, hs]
  refine wpAny_Try_except ?_
  refine wpAny_mono ((hb (wLen X.N.length (wMix X.K Wo D l)) (X.pn ++ pins) (fun e s1 => wpAny (model X.prog X.w) X.A (noteFrame e X.env) (fun _ s2 => wpAny (model X.prog X.w) X.A (setFlight e none) (fun _ s3 =>
    wpAny (model X.prog X.w) X.A (handleBy e X.env (h0 :: hds)) (SP X pins D) X.xe s3) X.xe s2) X.xe s1) (fun u s' xx => ?_) PassesOwn.looking).run [] s q0 H D (I.toTry _) h) (fun f s1 hsp => ?_) (fun e s1 he => he)
  · obtain ⟨a, B, sI, pins', q', H', cls, d, rfl, J', nb, up, sky, na, os, ag, w⟩ := xx
    have J : Inv X pins q' H' sI := J'.ofTry ok
    have sky2 : Sky B (X.env :: X.outer) a (Zc cls d) X.env.locals s'.heap := by rw [← hs]; exact sky
    show wpAny (model X.prog X.w) X.A (noteFrame (.ref a) X.env) _ _ _
    refine Sky.land Zc.steady hfr hf sky2 fun h3 fl3 up3 => ?_
    have J3 : Inv X pins q' H' { s' with heap := h3 } := J.landed nb fl3.1 (up.trans up3) os ag
    obtain ⟨oe3, vs3, he3, hz3, hd3⟩ := fl3.there
    have nfr : a ∉ frs (X.env :: X.outer) := fun hm => by
      obtain ⟨_, o2, e2, hnf⟩ := fl3.2.2.1.mem hm
      rw [he3] at e2
      cases e2
      exact hnf _ hd3
    have nL : a ≠ X.env.locals := fun z => nfr (List.mem_filterMap.mpr ⟨X.env, List.mem_cons_self, by rw [hf, z]⟩)
    have nF : a ∉ X.fs := fun hm => by
      obtain ⟨e, he, z⟩ := List.mem_filterMap.mp hm
      exact nfr (List.mem_filterMap.mpr ⟨e, List.mem_cons_of_mem _ he, z⟩)
    have S3 := J3.suite he3 hd3 na nL nF
    have LT : PySem.W.Looks (model X.prog X.w) h3 (typeOf (.ref a)) cls := fun A Q E s k z => wpAny_typeOf_ref (k _ _ he3) (by rw [hz3.1]; exact z)
    have test : ∀ {x : Str} {np : Pos} {c : Value} {Q : Value → Shared → Prop} {E : Value → Shared → Prop}, Names X x c → Q c { s' with heap := h3 } → wpAny (model X.prog X.w) (X.A.mark (some (.ref a))) (eval (.Name x np) X.env) Q E { s' with heap := h3 } := fun {x np c Q E} hc z => by
      obtain ⟨hg, hdbg, hm | ⟨hm, hv, hnn⟩⟩ := hc
      · exact ld_glob (X := X.suite a ((a, oe3) :: (X.pn ++ pins))) S3 hg hm z hdbg
      · exact ld_blt (X := X.suite a ((a, oe3) :: (X.pn ++ pins))) S3 hg hm hv z hnn hdbg
    have go : ∀ {hds2 : List ExceptHandler} {l2 : List Cls1}, HdsMix X hds2 l2 → wMix X.K Wo D l2 cls d q' H' →
        wpAny (model X.prog X.w) X.A (handleBy (.ref a) X.env hds2) (SP X pins D) X.xe { s' with heap := h3 } := by
      intro hds2 l2 hk
      induction hk with
      | nil =>
        intro w
        refine wpAny_handleBy_nil ?_
        obtain ⟨k1, k2, k3, oe, vs, T, oT, ts', he, hz, hd, h1, hr⟩ := id fl3
        unfold PySem.passOn
        refine wpAny_bind (wpAny_field he hd h1 ?_)
        rw [if_neg (show ¬ ((Value.ref T == Value.none) = true) from by simp)]
        have fin : wpAny (model X.prog X.w) X.A (setFlight (.ref a) X.env.frame) (fun _ s4 => wpAny (model X.prog X.w) X.A (throw (.ref a) : Sem Flow) (SP X pins D) X.xe s4) X.xe { s' with heap := h3 } := by
          rw [hf]
          refine HandSPX.setFlight_upZ fl3 fun h4 hh4 up4 => wpAny_throw (tk _ _ ?_)
          exact ⟨a, B, sI, pins, q', H', cls, d, rfl, J, nb, (up.trans up3).trans up4, .inr (.inr (by rw [hs]; exact hh4)), na, os, ag, w⟩
        first
          | exact wpAny_bind (wpAny_pure (wpAny_bind fin))
          | exact wpAny_bind fin
      | @plain x c ts b0 rest np pos' hds3 l3 hc hsu r ih =>
        intro w
        obtain ⟨b, hb1, hyes, hno⟩ := w
        refine wpAny_handleBy_cons (codeAny_handlers_test ?_) (by intro z; cases z)
        refine test hc ((PySem.W.exm_one (M := model X.prog X.w) (J3.kIn) LT hb1).here ?_)
        cases b with
        | true =>
          refine codeAny_handlers_suite ?_
          refine HandSPX.lands_againZ fl3 fun h4 fl4 up4 => ?_
          have J4 : Inv X pins q' H' { s' with heap := h4 } := J.landed nb fl4.1 ((up.trans up3).trans up4) os ag
          obtain ⟨oe4, vs4, he4, hz4, hd4⟩ := fl4.there
          have S4 := J4.suite he4 hd4 na nL nF
          refine wpAny_mono ((hsu a oe4 cls d (X.pn ++ pins) hz4 ⟨_, hd4⟩).run [] _ _ H' _ S4 (hyes rfl a na)) (fun f s6 hsp => ?_) (fun _ _ z => False.elim z)
          cases f with
          | ret u =>
            obtain ⟨v6, q6, H6, S6, r6, z6⟩ := hsp
            exact ⟨_, _, _, S6.unsuite ok, r6, z6⟩
          | _ =>
            obtain ⟨q6, H6, S6, z6⟩ := hsp
            exact ⟨_, _, S6.unsuite ok, z6⟩
        | false => exact ih (hno rfl)
      | @named x n i c ts b0 rest np pos' hds3 l3 hc hi hln hsu r ih =>
        intro w
        obtain ⟨b, hb1, hyes, hno⟩ := w
        refine wpAny_handleBy_cons (codeAny_handlers_test ?_) (by intro z; cases z)
        refine test hc ((PySem.W.exm_one (M := model X.prog X.w) (J3.kIn) LT hb1).here ?_)
        cases b with
        | true =>
          refine codeAny_handlers_suite_as ?_
          refine HandSPX.lands_againZ fl3 fun h4 fl4 up4 => ?_
          have J4 : Inv X pins q' H' { s' with heap := h4 } := J.landed nb fl4.1 ((up.trans up3).trans up4) os ag
          obtain ⟨oe4, vs4, he4, hz4, hd4⟩ := fl4.there
          have S4 := J4.suite he4 hd4 na nL nF
          refine store_ok (X := X.suite a ((a, oe4) :: (X.pn ++ pins))) (v := .ref a) S4 hN hi (.inl hln) rfl (fun s5 S5 => ?_) (.inr hln)
          refine wpAny_mono ((hsu a oe4 cls d (X.pn ++ pins) hz4 ⟨_, hd4⟩).run [] s5 _ H' _ S5 (hyes rfl a na)) (fun f s6 hsp => ?_) (fun _ _ z => False.elim z)
          have end_ : ∀ {q6 : L2.St} {H6 : Hp} {Q : Shared → Prop}, Inv (X.suite a ((a, oe4) :: (X.pn ++ pins))) [] q6 H6 s6 → (∀ s7, Inv X pins (q6.set i none) H6 s7 → Q s7) →
              wpAny (model X.prog X.w) X.A (do bindName X.env n .none; unbindBehindTheSuite X.env n pos') (fun _ s7 => Q s7) X.xe s6 := fun {q6 H6 Q} S6 hq => gone_ok (S6.unsuite ok) hN hi hln hq
          cases f with
          | ret u =>
            obtain ⟨v6, q6, H6, S6, r6, z6⟩ := hsp
            exact end_ S6 fun s7 J7 => ⟨_, _, _, J7, r6, z6⟩
          | _ =>
            obtain ⟨q6, H6, S6, z6⟩ := hsp
            exact end_ S6 fun s7 J7 => ⟨_, _, J7, z6⟩
        | false => exact ih (hno rfl)
    exact go hh (w J.len)
  · cases f with
    | next =>
      obtain ⟨q', H', J', z⟩ := hsp
      exact wpAny_execs_nil ⟨q', H', J'.ofTry ok, z⟩
    | ret u =>
      obtain ⟨v, q', H', J', r, z⟩ := hsp
      exact ⟨v, q', H', J'.ofTry ok, r, z⟩
    | _ =>
      obtain ⟨q', H', J', z⟩ := hsp
      exact ⟨q', H', J'.ofTry ok, z⟩
end
end DX

/-! part DX4 -/
/-! DX4: a caught error's fields, over data. -/
namespace DX
open PySem PySem.Spec PyProof.Rows L2 DL DQ
/-- e.f, e in slot i: the error at a, its dict at d -/
def dXf (i : Nat) (a : Addr) (d : Option Addr) (c j : Nat) : DE := fun ga mu _ F => ∃ (l : List D) (y : D), ga[i]? = some (some (.err a d c l)) ∧ l[j]? = some y ∧ F y mu
section
variable {X : Cx} {W : WX} {a : Addr} {oe : Obj} {cls : Value} {d : Option Addr} {pn : List (Addr × Obj)}
theorem d_xf (i j : Nat) {c : Nat} {n f : Str} {p0 pos : Pos} (T : XfC X.K (He.ga X.K (xn c))) (hno : PySem.W.findIn X.K (.ref (He.ga X.K (xn c))) f = some none) (hz : Zc cls d oe) (hf : ∃ vs, oe.data = .fields vs) (hcls : cls = .ref (He.ga X.K (xn c)))
    (hj : (xf c)[j]? = some f := by rfl) (hN : X.N[i]? = some n := by rfl) (hv : Vis X.env.scope n := by first | exact Or.inl rfl | exact Or.inr (Or.inl rfl) | exact Or.inr (Or.inr rfl)) (hd : (n == ("__debug__" : Str)) = false := by decide) (hcd : (n == ("__classdict__" : Str)) = false := by decide) :
    PE (X.suite a ((a, oe) :: pn)) (.Attribute (.Name n p0) f pos) (liftE X.K W (dXf i a d c j)) := by
  refine pe_wk (pe_xf T hno hz hf (pe_var (X := X.suite a ((a, oe) :: pn)) hN hv hd hcd)) fun sg H Q ⟨ga, mu, al, hd, P, F, at_, h, kv, kx⟩ => ?_
  obtain ⟨l, y, hg, hy, hF⟩ := h
  obtain ⟨v, hv, rv⟩ := at_.sl.at_ i _ hg
  cases rv with
  | err0 z =>
    rcases z with ⟨rfl, _⟩ | ⟨q, e, rfl, rfl, _⟩
    · simp at hy
    · exact absurd hj (by simp [xf])
  | err n1 eH z r =>
    obtain ⟨x, ex, rx⟩ := r.at_ hy
    exact ⟨.ref a, hv, rfl, hcls, _, _, x, rfl, eH, (z j f hj).trans ex, kv.now at_.ok hF (rx.fz (Fz.refl _ _) (Pre.nil _))⟩
end
end DX

/-! part DX5 -/
/-! DX5: try over data: several clauses, each with or without a name. -/
namespace DX
open PySem PySem.Spec PyProof.Rows L2 DL DQ
/-- a clause: its class, the slot of its name, its suite by the error's address, dict and class -/
abbrev Cl1 : Type := Nat × Option Nat × (Addr → Option Addr → Nat → DS)
def W0 : WX := fun _ _ _ _ => False
def endH (E : DEnds) (i : Option Nat) : DEnds := match i with
  | none => { E with ex := fun _ _ => False }
  | some i => { nx := fun ga mu => E.nx (ga.set i none) mu, rt := E.rt, ex := fun _ _ => False, bk := fun ga mu => E.bk (ga.set i none) mu, ct := fun ga mu => E.ct (ga.set i none) mu }
def gamH (n : Nat) (i : Option Nat) (d : D) : Gam := match i with
  | none => List.replicate n none
  | some i => (List.replicate n none).set i (some d)
def pick (n : Nat) (E : DEnds) (x : Exn) (mu : Sto) : List Cl1 → Prop
  | [] => E.ex x mu
  | t :: r => if xsub x.1 t.1 = true then ∀ a d, (x.2 = [] → d = none) → t.2.2 a d x.1 (endH E t.2.1) (gamH n t.2.1 (.err a d x.1 x.2)) mu else pick n E x mu r
def hcl (K : PySem.W.Frag) (t : Cl1) : Cls1 := (.ref (He.ga K (xn t.1)), t.2.1, fun a cls d Q q H => ∃ c, cls = .ref (He.ga K (xn c)) ∧ liftS K W0 (t.2.2 a d c) Q q H)
theorem Slots.setN {K : PySem.W.Frag} {hd al : List Addr} {H : Hp} {ga : Gam} {sg : L2.St} (s : Slots K hd al H ga sg) (i : Nat) : Slots K hd al H (ga.set i none) (sg.set i none) := by
  refine ⟨by rw [List.length_set, List.length_set]; exact s.len, fun j e h => ?_⟩
  by_cases hj : j = i
  · subst hj
    have hl : j < ga.length := by
      have := (List.getElem?_eq_some_iff.mp h).1
      rw [List.length_set] at this
      exact this
    rw [List.getElem?_set_self hl] at h
    cases h
  · rw [List.getElem?_set_ne (fun z => hj z.symm)] at h
    rw [List.getElem?_set_ne (fun z => hj z.symm)]
    exact s.at_ j e h
theorem slotsNo {K : PySem.W.Frag} {hd al : List Addr} {H : Hp} {n : Nat} {sg : L2.St} (h : sg.length = n) : Slots K hd al H (List.replicate n none) sg :=
  ⟨by rw [List.length_replicate, h], fun i d e => by
    have := List.mem_of_getElem? e
    have := (List.mem_replicate.mp this).2
    cases this⟩
theorem RepX.slot {K : PySem.W.Frag} {hd al : List Addr} {H : Hp} {cls : Value} {dd : Option Addr} {x : Exn} (r : RepX K hd al H cls dd x) (a : Addr) : Rep K (al ++ hd) H al (.err a dd x.1 x.2) (.ref a) := by
  obtain ⟨r1, r2, r3, r4⟩ := r
  cases q : x.2 with
  | nil => exact .err0 (.inl ⟨rfl, r4 q⟩)
  | cons y l =>
    obtain ⟨d, fs, xs, e1, e2, e3, e4, e5⟩ := r3 (by rw [q]; simp)
    rw [q] at e4
    subst e1
    exact .err e2 e3 e5 e4
theorem pick_mix {K : PySem.W.Frag} {hd : List Addr} {Wo : WX} {H : Hp} {al : List Addr} {E : DEnds} {D : Ends} {n : Nat} {es ys : List Nat} (k : KE K hd Wo H al E D) (hx : exmB K es ys = true) {x : Exn} {mu' : Sto} {cls : Value} {dd : Option Addr} {H' : Hp} {al' : List Addr} {q : L2.St}
    (hxe : x.1 ∈ es) (o : Okay K hd H' mu' al') (g : Go hd H al H' al') (r : RepX K hd al' H' cls dd x) (hq : q.length = n) : ∀ (l : List Cl1), (∀ t ∈ l, t.1 ∈ ys) → pick n E x mu' l → wMix K Wo D (l.map (hcl K)) cls dd q H'
  | [], _, h => (k.ex q).go _ _ _ _ _ _ h o g r
  | t :: l, hy, h => by
    have e := of_decide_eq_true (List.all_eq_true.mp (List.all_eq_true.mp hx _ hxe) _ (hy t List.mem_cons_self))
    rw [← r.1] at e
    refine ⟨xsub x.1 t.1, e, fun hb a ha => ?_, fun hb => ?_⟩
    · unfold pick at h
      rw [if_pos hb] at h
      have h2 := h a dd r.2.2.2
      have kk := k.to g
      have sl := slotsNo (K := K) (hd := hd) (al := al') (H := H') hq
      obtain ⟨y, i, dh⟩ := t
      cases i with
      | none => exact ⟨x.1, r.1, _, mu', al', hd, _, ⟨o, sl⟩, h2, ⟨kk.nx, kk.rt, fun _ => ⟨fun _ _ _ _ _ _ z => z.elim⟩, kk.bk, kk.ct⟩⟩
      | some i => exact ⟨x.1, r.1, _, mu', al', hd, _, ⟨o, sl.set i (RepX.slot r a)⟩, h2, ⟨fun ga mu sg H2 al2 z a2 g2 => kk.nx _ _ _ _ _ z ⟨a2.ok, Slots.setN a2.sl i⟩ g2, kk.rt, fun _ => ⟨fun _ _ _ _ _ _ z => z.elim⟩,
          fun ga mu sg H2 al2 z a2 g2 => kk.bk _ _ _ _ _ z ⟨a2.ok, Slots.setN a2.sl i⟩ g2, fun ga mu sg H2 al2 z a2 g2 => kk.ct _ _ _ _ _ z ⟨a2.ok, Slots.setN a2.sl i⟩ g2⟩⟩
    · unfold pick at h
      rw [if_neg (by rw [hb]; simp)] at h
      exact pick_mix k hx hxe o g r hq l (fun t ht => hy t (List.mem_cons_of_mem _ ht)) h
/-! ### clauses -/
section
variable {X : Cx} {l : List Cl1} {hds : List ExceptHandler} {b0 : Stmt} {rest : List Stmt} {x n : Str} {np pos' : Pos} {y i : Nat} {dh : Addr → Option Addr → Nat → DS}
theorem hd_nil : HdsMix X [] (([] : List Cl1).map (hcl X.K)) := .nil
theorem hd_named (hm : X.mg x = some (.ref (He.ga X.K (xn y)))) (hsu : ∀ (a : Addr) (oe : Obj) (cls : Value) (d : Option Addr) (pn : List (Addr × Obj)) (c : Nat), Zc cls d oe → (∃ vs, oe.data = .fields vs) → cls = .ref (He.ga X.K (xn c)) → PSs (X.suite a ((a, oe) :: pn)) (b0 :: rest) (liftS X.K W0 (dh a d c))) (r : HdsMix X hds (l.map (hcl X.K)))
    (hg : Gl X x := by rfl) (hdb : (x == ("__debug__" : Str)) = false := by decide) (hi : X.N[i]? = some n := by rfl) (hln : X.env.kindOf n = some .local := by rfl) : HdsMix X (.ExceptHandler (some (.Name x np)) (some n) (b0 :: rest) pos' :: hds) (((y, some i, dh) :: l).map (hcl X.K)) :=
  .named ⟨hg, hdb, .inl hm⟩ hi hln (fun a oe cls d pn z f => ⟨fun pins s sg H D I ⟨c, e, h⟩ => (hsu a oe cls d pn c z f e).run pins s sg H D I h⟩) r
theorem hd_plain (hm : X.mg x = some (.ref (He.ga X.K (xn y)))) (hsu : ∀ (a : Addr) (oe : Obj) (cls : Value) (d : Option Addr) (pn : List (Addr × Obj)) (c : Nat), Zc cls d oe → (∃ vs, oe.data = .fields vs) → cls = .ref (He.ga X.K (xn c)) → PSs (X.suite a ((a, oe) :: pn)) (b0 :: rest) (liftS X.K W0 (dh a d c))) (r : HdsMix X hds (l.map (hcl X.K)))
    (hg : Gl X x := by rfl) (hdb : (x == ("__debug__" : Str)) = false := by decide) : HdsMix X (.ExceptHandler (some (.Name x np)) none (b0 :: rest) pos' :: hds) (((y, none, dh) :: l).map (hcl X.K)) :=
  .plain ⟨hg, hdb, .inl hm⟩ (fun a oe cls d pn z f => ⟨fun pins s sg H D I ⟨c, e, h⟩ => (hsu a oe cls d pn c z f e).run pins s sg H D I h⟩) r
def dOnly (c y : Nat) (t : DS) : DS := fun E ga mu => c = y ∧ t E ga mu
theorem pss_only {W : WX} {ss : List Stmt} {c y : Nat} {t : DS} (h : c = y → PSs X ss (liftS X.K W t)) : PSs X ss (liftS X.K W (dOnly c y t)) :=
  ⟨fun pins s sg H D I ⟨ga, mu, al, hd, E, a, ⟨e, h'⟩, k⟩ => (h e).run pins s sg H D I ⟨ga, mu, al, hd, E, a, h', k⟩⟩
end
/-! ### the statement -/
def dTry (es : List Nat) (n : Nat) (b : DS) (l : List Cl1) : DS := fun E ga mu => b { E with ex := fun x mu1 => x.1 ∈ es ∧ pick n E x mu1 l } ga mu
theorem takes_mono {X : Cx} {W W' : WX} (tk : Takes X W) (h : ∀ c d q H, W' c d q H → W c d q H) : Takes X W' := fun u s' z => by
  obtain ⟨a, B, sI, pins', q', H', cls, d, e, J, nb, up, sky, na, os, ag, w⟩ := z
  exact tk u s' ⟨a, B, sI, pins', q', H', cls, d, e, J, nb, up, sky, na, os, ag, h _ _ _ _ w⟩
section
variable {X : Cx} {body : List Stmt} {h0 : ExceptHandler} {hds : List ExceptHandler} {l : List Cl1} {pos : Pos} {b : DS} {Wo : WX} {es ys : List Nat} {n : Nat}
theorem ds_try (hs : X.stack = X.env :: X.outer) (hf : X.env.frame = some X.env.locals) (hN : X.N.Nodup) (tk : Takes X Wo) (hx : exmB X.K es ys = true) (hy : ∀ t ∈ l, t.1 ∈ ys)
    (hb : ∀ (V : Value → Option Addr → Hp → Prop) (pn : List (Addr × Obj)) (xe : Value → Shared → Prop), Takes (X.tr pn xe) (fun c d _ h => V c d h) → PassesOwn (model X.prog X.w) X.A X.env xe → PSs (X.tr pn xe) body (liftS X.K (fun c d _ h => V c d h) b))
    (hh : HdsMix X (h0 :: hds) (l.map (hcl X.K))) (hn : X.N.length = n := by rfl) : PS X (.Try body (h0 :: hds) [] [] pos) (liftS X.K Wo (dTry es n b l)) := by
  refine ps_wk (ps_try_mix (tb := fun W D q H => ∃ V : Value → Option Addr → Hp → Prop, (∀ c d q h, V c d h → W c d q h) ∧ liftS X.K (fun c d _ h => V c d h) b D q H) hs hf hN tk (fun W pn xe tk' hp => ⟨fun pins s sg H D I ⟨V, hV, h⟩ => (hb V pn xe (takes_mono tk' fun c d q H z => hV c d q H z) hp).run pins s sg H D I h⟩) hh) fun Q sg H ⟨ga, mu, al, hd, E, a, h, k⟩ => ?_
  refine ⟨fun c d h => ∀ q : L2.St, q.length = X.N.length → wMix X.K Wo Q (l.map (hcl X.K)) c d q h, fun c d q h z hq => z q hq, ga, mu, al, hd, _, a, h, ⟨k.nx, k.rt, fun _ => ⟨fun x mu' cls dd H' al' hz o g r q hq => ?_⟩, k.bk, k.ct⟩⟩
  exact pick_mix k hx hz.1 o g r (hq.trans hn) l hy hz.2
end
end DX

/-! part DX6 -/
/-! DX6: a lambda handed to the def that tells its outcome. -/
namespace DX
open PySem PySem.Spec PyProof.Rows L2 DL DQ
/-! ### the tables of code objects in the store -/
def tabOf1 : MO → Option (Addr × Str)
  | .tab P q => some (P, q)
  | _ => none
def tabsOf (mu : Sto) : List (Addr × Str) := mu.filterMap tabOf1
theorem tabsOf_mem {mu : Sto} {p : Addr × Str} (h : p ∈ tabsOf mu) : ∃ n : Nat, mu[n]? = some (.tab p.1 p.2) := by
  obtain ⟨m, hm, e⟩ := List.mem_filterMap.mp h
  obtain ⟨n, hn⟩ := List.mem_iff_getElem?.mp hm
  cases m <;> try (cases e; done)
  cases e
  exact ⟨n, hn⟩
theorem mem_tabsOf {mu : Sto} {n : Nat} {P : Addr} {q : Str} (h : mu[n]? = some (.tab P q)) : (P, q) ∈ tabsOf mu := List.mem_filterMap.mpr ⟨_, List.mem_of_getElem? h, rfl⟩
theorem tabsOf_app (mu nu : Sto) : tabsOf (mu ++ nu) = tabsOf mu ++ tabsOf nu := List.filterMap_append
theorem tabsOf_set {mo mo' : MO} (h' : tabOf1 mo' = none) : ∀ {mu : Sto} {n : Nat}, mu[n]? = some mo → tabOf1 mo = none → tabsOf (mu.set n mo') = tabsOf mu
  | [], n, h, _ => by simp at h
  | m :: mu, 0, h, hm => by
    simp at h
    subst h
    unfold tabsOf
    rw [List.set_cons_zero, List.filterMap_cons_none h', List.filterMap_cons_none hm]
  | m :: mu, n + 1, h, hm => by
    have ih := tabsOf_set h' (mu := mu) (n := n) (by simpa using h) hm
    unfold tabsOf at ih ⊢
    rw [List.set_cons_succ]
    cases q : tabOf1 m with
    | none => rw [List.filterMap_cons_none q, List.filterMap_cons_none q, ih]
    | some y => rw [List.filterMap_cons_some q, List.filterMap_cons_some q, ih]
section
variable {K : PySem.W.Frag} {hd al : List Addr} {H H1 : Hp} {mu : Sto} {T : List (Addr × Str)}
theorem tabs_of (o : Okay K hd H mu al) (h : tabsOf mu = T) : LamX.Tabs T H := fun p hp => by
  subst h
  obtain ⟨n, hn⟩ := tabsOf_mem hp
  obtain ⟨a, ha, m⟩ := o.cellAt hn
  obtain ⟨e, ps, h1, h2, h3⟩ := m
  subst e
  refine ⟨ps, h1, h2, fun pos cv hc => ?_⟩
  obtain ⟨c, e1, _, e2⟩ := h3 pos cv hc
  exact ⟨c, e1, e2⟩
theorem go_tabs (o : Okay K hd H mu al) (eN : LamX.ExtN H H1) : Go hd H al H1 al :=
  ⟨fun _ _ z => z, fun a u n h t => ⟨eN a u h (fun ps z => by rw [z] at t; cases t), n⟩, fun a ha => by
    obtain ⟨_, u, hu⟩ := o.hid a ha
    rw [hu, eN a u hu fun ps z => by
      have t := o.hx a ha u hu
      rw [z] at t
      cases t]⟩
theorem okay_tabs (o : Okay K hd H mu al) (h : tabsOf mu = T) (eN : LamX.ExtN H H1) (T1 : LamX.Tabs T H1) : Okay K hd H1 mu al := by
  have g := go_tabs o eN
  refine ⟨o.len, o.nd, fun a ha => ⟨(o.hid a ha).1, by rw [g.hid a ha]; exact (o.hid a ha).2⟩, fun a ha u e => o.hx a ha u (by rw [← g.hid a ha]; exact e), fun n mo a h1 h2 => ?_⟩
  have q := o.at_ n mo a h1 h2
  cases mo with
  | lst l =>
    obtain ⟨xs, e, r⟩ := q
    exact ⟨xs, eN _ _ e (fun _ z => nomatch z), r.go g (Pre.refl _)⟩
  | lsp l =>
    obtain ⟨xs, e, r⟩ := q
    exact ⟨xs, eN _ _ e (fun _ z => nomatch z), r.go g g.pre⟩
  | ins c l =>
    obtain ⟨dx, xs, e, r, z⟩ := q
    exact ⟨dx, xs, eN _ _ e (fun _ z => nomatch z), r.go g g.pre, z⟩
  | dic kvs =>
    obtain ⟨vs, e, r⟩ := q
    exact ⟨vs, eN _ _ e (fun _ z => nomatch z), r.go g⟩
  | dit kvs =>
    obtain ⟨vs, e, r⟩ := q
    exact ⟨vs, eN _ _ e (fun _ z => nomatch z), r.go g⟩
  | dlk od ws kvs =>
    obtain ⟨vs, e, r⟩ := q
    exact ⟨vs, eN _ _ e (fun _ z => nomatch z), r.go g⟩
  | dlc od ws kvs =>
    obtain ⟨vs, e, r⟩ := q
    exact ⟨vs, eN _ _ e (fun _ z => nomatch z), r.go g⟩
  | tpl l =>
    obtain ⟨xs, e, r⟩ := q
    exact ⟨xs, eN _ _ e (fun _ z => nomatch z), r.go g g.pre⟩
  | tab P q' =>
    obtain ⟨e0, ps0, e, _, _⟩ := q
    subst e0
    obtain ⟨ps, t1, t2, t3⟩ := T1 _ (h ▸ mem_tabsOf h1)
    refine ⟨rfl, ps, t1, t2, fun pos cv hc => ?_⟩
    obtain ⟨c, e1, e2⟩ := t3 pos cv hc
    refine ⟨c, e1, fun z => ?_, e2⟩
    rcases List.mem_append.mp z with z | z
    · obtain ⟨j, hj⟩ := List.mem_iff_getElem?.mp z
      have hjm : j < mu.length := by rw [← o.len]; exact (List.getElem?_eq_some_iff.mp hj).1
      have q2 := o.at_ j mu[j] c (List.getElem?_eq_getElem hjm) hj
      have e2' : H1 c = some (LamX.CodeO c q') := e2
      unfold LamX.CodeO at e2'
      cases hm : mu[j] with
      | lst l =>
        rw [hm] at q2
        obtain ⟨xs, e, _⟩ := q2
        rw [eN _ _ e (fun _ z => nomatch z)] at e2'
        cases e2'
      | lsp l =>
        rw [hm] at q2
        obtain ⟨xs, e, _⟩ := q2
        rw [eN _ _ e (fun _ z => nomatch z)] at e2'
        cases e2'
      | ins c l =>
        rw [hm] at q2
        obtain ⟨dx, xs, e, _⟩ := q2
        rw [eN _ _ e (fun _ z => nomatch z)] at e2'
        cases e2'
      | dic kvs =>
        rw [hm] at q2
        obtain ⟨vs, e, _⟩ := q2
        rw [eN _ _ e (fun _ z => nomatch z)] at e2'
        cases e2'
      | dit kvs =>
        rw [hm] at q2
        obtain ⟨vs, e, _⟩ := q2
        rw [eN _ _ e (fun _ z => nomatch z)] at e2'
        cases e2'
      | dlk od ws kvs =>
        rw [hm] at q2
        obtain ⟨vs, e, _⟩ := q2
        rw [eN _ _ e (fun _ z => nomatch z)] at e2'
        cases e2'
      | dlc od ws kvs =>
        rw [hm] at q2
        obtain ⟨vs, e, _⟩ := q2
        rw [eN _ _ e (fun _ z => nomatch z)] at e2'
        cases e2'
      | tpl l =>
        rw [hm] at q2
        obtain ⟨xs, e, _⟩ := q2
        rw [eN _ _ e (fun _ z => nomatch z)] at e2'
        cases e2'
      | tab P2 q2' =>
        have hP : mu[j]? = some (.tab P2 q2') := by rw [List.getElem?_eq_getElem hjm, hm]
        rw [hm] at q2
        obtain ⟨e0, _⟩ := q2
        subst e0
        obtain ⟨ps2, t1', _⟩ := T1 _ (h ▸ mem_tabsOf hP)
        rw [show H1 c = _ from t1'] at e2'
        cases e2'
    · have t := o.hx c z _ ((g.hid c z).symm.trans e2)
      cases t
end
/-! ### try: return ('ok', x()) / except .. -/
def TTA (K : PySem.W.Frag) (n : Nat) (l : List Cl1) : (XK → Hp → VK → Prop) → Hp → VK → Prop := fun tl H Q =>
  tl (fun cls d H' => ∀ q : L2.St, q.length = n → wMix K W0 { nx := fun _ H' => Q .non H', rt := Q } (l.map (hcl K)) cls d q H') H
    (fun v H1 => [V.str "ok", v].length ≤ sizeLine ∧ ∀ p, H1 p = none → Q (.ref p) (upd H1 p (.tup [V.str "ok", v])))
theorem takes0' {X : Cx} : Takes X W0 := fun _ _ x => by
  obtain ⟨_, _, _, _, _, _, _, _, _, _, _, _, _, _, _, _, z⟩ := x
  exact z.elim
section
variable {X : Cx}
theorem gives_A {Ng : List Str} {x a q : Str} {sg : Scope} {g : Addr} {cdg : Value} {h0 : ExceptHandler} {hds : List ExceptHandler} {l : List Cl1} {n : Nat} {j1 : Nat} {p1 p2 p3 p4 p5 pt : Pos} {cx}
    (hN : Ng.Nodup) (hn : Ng.length = n) (hst : ∀ f : Addr, (L2.start Ng [V.ref f])[0]? = some (some (V.ref f)))
    (hh : ∀ (s : Shared) (H : Hp), HdsMix (cxOf C8.CX0 X.prog X.w X.K X.mg X.base Ng x sg g cdg X.A X.stack s H C8.E0).nox (h0 :: hds) (l.map (hcl X.K))) :
    LamX.GivesTo X Ng x sg g cdg [.Try [.Return (some (.Tuple [.Constant (.str "ok") j1 p1, .Call (.Name a p2) [] [] p3] cx pt)) p4] (h0 :: hds) [] [] p5] a q (TTA X.K n l) := by
  intro f c' s H Q tl act hc h
  refine ⟨_, pss_one (ps_try_mix (X := (cxOf C8.CX0 X.prog X.w X.K X.mg X.base Ng x sg g cdg X.A X.stack s H C8.E0).nox)
      (tb := fun W D σ H => ∃ Ech : XK, (∀ cls d σ' H', Ech cls d H' → W cls d σ' H') ∧ σ[0]? = some (some (.ref f)) ∧ H c' = some (LamX.CodeO c' q) ∧ tl Ech H (fun v H1 => [V.str "ok", v].length ≤ sizeLine ∧ ∀ p, H1 p = none → D.rt (.ref p) (upd H1 p (.tup [V.str "ok", v]))))
      rfl rfl hN takes0' (fun W pn xe tk _ => ?_) (hh s H)), ?_⟩
  · refine ⟨fun pins s' σ H' D I h' => ?_⟩
    obtain ⟨Ech, hW, h1, h2, h3⟩ := h'
    have hp := act W pn xe Ech p2 p3 tk hW
    have hq := pss_one (ps_ret (pos := p4) (pe_tup (pos := pt) (x1 := cx) (pa_cons (pe_str (x := "ok") (j := j1) (pos := p1)) (pa_cons hp pa_nil))))
    exact hq.run pins s' σ H' D I ⟨h1, h2, h3⟩
  · refine ⟨fun cls d H' => ∀ q : L2.St, q.length = n → wMix X.K W0 { nx := fun _ H' => Q .non H', rt := Q } (l.map (hcl X.K)) cls d q H', fun cls d σ' H' z hl => z σ' (hl.trans hn), hst f, hc, h⟩
end
def dLamA (T : List (Addr × Str)) (es : List Nat) (n : Nat) (l : List Cl1) (dc : DE) : DE := fun ga mu _ F => tabsOf mu = T ∧ dc ga mu (fun x mu1 => x.1 ∈ es ∧ pick n (endF (fun _ _ => False) F) x mu1 l) fun d mu1 => np d ∧ F (.tup [.str "ok", d]) mu1
section
variable {X : Cx} {W : WX} {T : List (Addr × Str)} {es ys : List Nat} {n : Nat} {l : List Cl1} {dc : DE} {x a : Str} {g c P : Addr} {k : Nat} {pg : Arguments} {bg : List Stmt} {sg : Scope} {fd : FuncData} {Ng : List Str} {params : Arguments} {body : Expr} {scope : Scope} {p lpos pos : Pos}
theorem d_lamA (hm : X.mg x = some (.ref g)) (F : ∃ fd, FunD X.K x x pg bg sg [] [] g fd)
    (hps : ∀ (kV doc pm : Value) (an : Option Addr) (cdv ct : Value) (us : List Value), us.length = [a].length → bindArgs (PySem.W.fnOf x x pg bg sg .none kV doc pm an cdv ct) ⟨us, []⟩ = pure ([a].zip us))
    (Sg : FnScope Ng [a] sg) (hG : ∀ cdv : Value, LamX.GivesTo X Ng x sg g cdv bg a (X.env.qual ++ "<lambda>") (TTA X.K n l)) (hx : exmB X.K es ys = true) (hy : ∀ t ∈ l, t.1 ∈ ys)
    (TB : LamX.TabB X.base X.mg c P) (hcode : X.env.code = .ref c) (hmT : (P, X.env.qual ++ "<lambda>") ∈ T) (hu : ∀ p ∈ T, p.1 = P → p.2 = X.env.qual ++ "<lambda>") (hr : Room (k + 2) X.A) (L : LamX.LamS X.env.scope scope)
    (hbody : ∀ (A : Around) (outer : List Env) (s : Shared) (H : Hp) (E : XK) (f c' : Addr), Room k (A.deeper (LamX.lamEnv X scope s.heap.objs.size f c')) → PE (LamX.lamCx X A outer s H E scope f c') body (liftE X.K (fun c d _ h => E c d h) dc))
    (hg : Gl X x := by rfl) (hNg : Ng[0]? = some a := by rfl) (hva : Vis sg a := by first | exact Or.inl rfl | exact Or.inr (Or.inl rfl) | exact Or.inr (Or.inr rfl)) (hdef : defaultsOf params X.env = ([], []) := by rfl)
    (hbind : ∀ (q : Str) (cl : List (Str × Addr)) (pm cv ctv : Value), bindArgs (PySem.W.kla_fn "<lambda>" q params body scope cl pm cv ctv) ⟨[], []⟩ = pure [] := by intro _ _ _ _ _; rfl)
    (hdb : (x == ("__debug__" : Str)) = false := by decide) (hd1 : (a == ("__debug__" : Str)) = false := by decide) (hcd1 : (a == ("__classdict__" : Str)) = false := by decide) :
    PE X (.Call (.Name x p) [.Lambda params body scope lpos] [] pos) (liftE X.K W (dLamA T es n l dc)) := by
  obtain ⟨fd, F⟩ := F
  obtain ⟨oc, od, dV, kV, doc, pm, an, cdv, ct, osl, hfd, lk, hcd, hdv, _⟩ := F.ex
  have hdv0 : dV = .none := by
    rcases hdv with ⟨_, e⟩ | ⟨e, _⟩
    · exact e
    · exact (e rfl).elim
  subst hdv0 hfd
  have hb : L2.Binds X.K (PySem.W.fnOf x x pg bg sg .none kV doc pm an cdv ct) [a] [] := F.bindsN hps
  refine pe_wk (LamX.pe_lamcall (TT := TTA X.K n l) (t := fun E => liftE X.K (fun c d _ h => E c d h) dc) hg hm F.kp lk hcd hb Sg hNg hva (hG cdv) TB hcode hmT hu hr L hdef hbind hbody hdb hd1 hcd1) fun σ H Q ⟨ga, mu, al, hd, P, F, at_, h, kv, kx⟩ => ?_
  obtain ⟨hT0, h⟩ := h
  refine ⟨tabs_of at_.ok hT0, fun H1 eN T1 => ?_⟩
  have o1 := okay_tabs at_.ok hT0 eN T1
  have g1 := go_tabs at_.ok eN
  have kv1 := kv.to g1
  refine ⟨ga, mu, al, hd, _, _, at_.to o1 g1, h, ⟨fun d mu1 v H2 al2 h2 o2 g2 r2 => ⟨by rw [sizeLine_eq]; exact (by decide : 2 ≤ 16777216), fun p hp => ?_⟩⟩, ⟨fun y mu1 cls dd H2 al2 h2 o2 g2 r2 q hq => ?_⟩⟩
  · exact (kv1.to g2).tupleN o2 hp (.cons .str (.cons (r2.np h2.1) .nil)) h2.2
  · exact pick_mix (Wo := W0) (H := H1) (al := al) (D := { nx := fun _ H' => Q .non H', rt := Q }) (E := endF (fun _ _ => False) F) ⟨fun ga mu sg H' al' z a g => kv1.go _ _ _ _ _ z a.ok g .non, kv1, fun _ => ⟨fun _ _ _ _ _ _ z => z.elim⟩, fun _ _ _ _ _ z _ _ => z.elim, fun _ _ _ _ _ z _ _ => z.elim⟩ hx h2.1 o2 g2 r2 hq l hy h2.2
/-! ### the def that makes lambdas: its code object is known -/
theorem okC {P : Program} {w : World} {K : PySem.W.Frag} {mg : Str → Option Value} {base : Heap} {x qual : Str} {params : Arguments} {body : List Stmt} {scope : Scope} {dvs : List V} {kws : List (Str × V)} {f : Addr} {fd : FuncData} {CX : CXT} {N ps : List Str} {k : Nat} {sp : Sp} {df : He.Defn}
    (F : FunD K x qual params body scope dvs kws f fd) (hf : He.fAd K df = f) (S : FnScope N ps scope) (len : ∀ vs H Q E, sp vs H Q E → vs.length = ps.length)
    (hbody : ∀ (A : Around) (outer : List Env) (s : Shared) (H : Hp) (vs : List V) (Q : VK) (E : XK), Room k (A.deeper (envOfC qual scope s.heap.objs.size f (.ref (He.cT K df).1))) → sp vs H Q E →
      ∃ t, PSs (cxOf CX P w K mg base N qual scope f (.ref (He.cT K df).1) A outer s H E) body t ∧ t { nx := fun _ H' => Q .non H', rt := Q } (L2.start N vs) H) : FnOk P w K mg base CX (k + 1) f fd ps sp := by
  obtain ⟨oc, od, dV, kV, doc, pm, an, cdv, ct, osl, rfl, lk, hcd, _, _⟩ := F.ex
  obtain ⟨c, rfl⟩ := He.codeIn_ref hcd
  have e : (He.cT K df).1 = c := He.codeOf_eq (p := df) (by rw [hf]; exact lk) rfl
  subst e
  exact fn_of lk hcd S len fun A outer s H vs Q E hr hsp => hbody A outer s H vs Q E hr hsp
end
section
variable {P : Program} {w : World} {K : PySem.W.Frag} {mg : Str → Option Value} {base : Heap} {x qual : Str} {params : Arguments} {body : List Stmt} {scope : Scope} {f : Addr} {fd : FuncData} {N ps : List Str} {k n : Nat} {sp : DSp} {dt : DS} {df : He.Defn}
/-- fn_dlT for a def that makes lambdas -/
theorem fn_dlC (F : FunD K x qual params body scope [] [] f fd) (hf : He.fAd K df = f) (S : FnScope N ps scope) (hps : params.args.map (·.arg) = ps) (hn : ps.length = n)
    (hb : ∀ (kV doc pm : Value) (an : Option Addr) (cdv ct : Value) (us : List Value), us.length = ps.length → bindArgs (PySem.W.fnOf x qual params body scope .none kV doc pm an cdv ct) ⟨us, []⟩ = pure (ps.zip us))
    (ar : ∀ ds mu P F, sp ds mu P F → ds.length = n)
    (der : ∀ (A : Around) (outer : List Env) (s : Shared) (H : Hp) (E : XK), Room k (A.deeper (envOfC qual scope s.heap.objs.size f (.ref (He.cT K df).1))) → PSs (cxOf (L2.CX P w) P w K mg base N qual scope f (.ref (He.cT K df).1) A outer s H E) body (liftS K (fun cls d _ H => E cls d H) dt))
    (pure : ∀ ds mu P F, sp ds mu P F → dt (endT mu P F) (gam0 N.length ds) mu) : Prom P w K mg base (k + 1) f n sp := by
  refine prom_of F hps hn (okC F hf S (fun vs H Q E h => h.1.trans hn.symm) (fun A outer s H vs Q E hr h => ?_)) (F.bindsN hb) ar
  obtain ⟨_, mu, al, hd, ds, P', F', o, r, h, kv, kx⟩ := h
  refine ⟨_, der A outer s H E hr, _, mu, al, hd, _, ⟨o, slots0 r⟩, pure ds mu P' F' h, ⟨?_, ⟨?_⟩, fun sg => ⟨?_⟩, fun _ _ _ _ _ h _ _ => h.elim, fun _ _ _ _ _ h _ _ => h.elim⟩⟩
  · rintro ga mu' sg H' al' ⟨mu2, t, h⟩ a g
    exact kv.go _ _ _ _ _ h (o.trim a.ok g t) g.home .non
  · rintro d mu' v H' al' ⟨mu2, d2, t, e, h⟩ o' g r'
    exact kv.go _ _ _ _ _ h (o.trim o' g t) g.home (Rep.frz o o' g r' e)
  · rintro y mu' cls dd H' al' ⟨mu2, t, h⟩ o' g r'
    exact kx.go _ _ _ _ _ _ h (o.trim o' g t) g.home (r'.home g)
end
end DX

/-! part DX7 -/
/-! DX7: facts of the errors' classes. -/
namespace DX
open PySem PySem.Spec PyProof.Rows L2 DL DQ
theorem xfc_of {K : PySem.W.Frag} {x : Nat} (h : xfB K x = true) : XfC K (He.ga K (xn x)) := by
  obtain ⟨h1, h⟩ := ba2 h
  obtain ⟨h2, h⟩ := ba2 h
  obtain ⟨h3, h4⟩ := ba2 h
  exact ⟨of_decide_eq_true h1, of_decide_eq_true h2, of_decide_eq_true h3, of_decide_eq_true h4⟩
theorem xno_of {K : PySem.W.Frag} {x : Nat} (h : xoB K x = true) {f : Str} (hf : (xf x).contains f = true) : PySem.W.findIn K (.ref (He.ga K (xn x))) f = some none := by
  obtain ⟨h1, h⟩ := ba2 h
  obtain ⟨h2, h⟩ := ba2 h
  obtain ⟨h3, h4⟩ := ba2 h
  exact of_decide_eq_true (List.all_eq_true.mp h4 f (List.contains_iff_mem.mp hf))
/-- the raise, of the class's number -/
theorem x1 {P : Program} {w : World} {K : PySem.W.Frag} {mg : Str → Option Value} {base : Heap} {x : Nat} {qual : Str} {params : Arguments} {body : List Stmt} {scope : Scope} {fd : FuncData} {N ps : List Str} {a1 : Str} (h : xoB K x = true) (hx : xf x = [a1])
    (F : FunD K "__init__" qual params body scope [] [] (He.ma K (He.ga K (xn x)) "__init__") fd) (S : FnScope N ps scope) (hn : ps.length = 2)
    (hb : ∀ (kV doc pm : Value) (an : Option Addr) (cdv ct : Value) (us : List Value), us.length = ps.length → bindArgs (PySem.W.fnOf "__init__" qual params body scope .none kV doc pm an cdv ct) ⟨us, []⟩ = pure (ps.zip us))
    (der : ∀ (cdv : Value) (A : Around) (outer : List Env) (s : Shared) (H : Hp) (E : XK), PSs (cxOf (L2.CX P w) P w K mg base N qual scope (He.ma K (He.ga K (xn x)) "__init__") cdv A outer s H E) body (tOst K a1 (tVar 0) (tVar 1))) : XOk P w K mg base 1 x :=
  xok_of h (by rw [hx]; exact List.nodup_cons.mpr ⟨by simp, List.nodup_nil⟩) (by rw [hx]; simp) (by rw [hx]; exact xinit1 F S hn der) (F.bindsN hb)
theorem x2 {P : Program} {w : World} {K : PySem.W.Frag} {mg : Str → Option Value} {base : Heap} {x : Nat} {qual : Str} {params : Arguments} {body : List Stmt} {scope : Scope} {fd : FuncData} {N ps : List Str} {a1 a2 : Str} (h : xoB K x = true) (hx : xf x = [a1, a2]) (hne : a1 ≠ a2)
    (F : FunD K "__init__" qual params body scope [] [] (He.ma K (He.ga K (xn x)) "__init__") fd) (S : FnScope N ps scope) (hn : ps.length = 3)
    (hb : ∀ (kV doc pm : Value) (an : Option Addr) (cdv ct : Value) (us : List Value), us.length = ps.length → bindArgs (PySem.W.fnOf "__init__" qual params body scope .none kV doc pm an cdv ct) ⟨us, []⟩ = pure (ps.zip us))
    (der : ∀ (cdv : Value) (A : Around) (outer : List Env) (s : Shared) (H : Hp) (E : XK), PSs (cxOf (L2.CX P w) P w K mg base N qual scope (He.ma K (He.ga K (xn x)) "__init__") cdv A outer s H E) body (tSeq (tOst K a1 (tVar 0) (tVar 1)) (tOst K a2 (tVar 0) (tVar 2)))) : XOk P w K mg base 1 x :=
  xok_of h (by rw [hx]; exact List.nodup_cons.mpr ⟨by simpa using hne, List.nodup_cons.mpr ⟨by simp, List.nodup_nil⟩⟩) (by rw [hx]; simp) (by rw [hx]; exact xinit2 F S hn der) (F.bindsN hb)
end DX

/-! part DX8 -/
/-! DX8: x + y of one own class; an outcome def that drops the lambda's value; errors without fields. -/
namespace DX
open PySem PySem.Spec PyProof.Rows L2 DL DQ
section
variable {X : Cx} {W : WX}
/-- x + y, both of class c, by the text's own __add__ -/
def gAddO (c : Nat) (sp : DSp) : G2 := fun x y mu P F => (clsD mu x = some c ∧ clsD mu y = some c) ∧ sp [x, y] mu P F
theorem o_addO {k c : Nat} {f : Addr} {sp : DSp} (Pm : Prom X.prog X.w X.K X.mg X.base k f 2 sp) (hM : Meth X.K (He.ga X.K (cn c)) "__add__" f) (hsf : PySem.W.selfFirst X.K (He.ga X.K (cn c)) = true) (hr : Room k X.A) (tk : Takes X W) : OpS X (binaryOp .Add) (liftR X.K W (gAddO c sp)) := by
  intro pins s sg H x y v u Q I rx ry h
  obtain ⟨mu, al, hd, d, e, P, F, o, r1, r2, ⟨⟨c1, c2⟩, hsp⟩, kv, kx⟩ := h
  obtain ⟨a, dx, xs, rfl, ck, ea⟩ := r1.cls o c1
  obtain ⟨b, dy, ys, rfl, _, eb⟩ := r2.cls o c2
  cases (show v = Value.ref a from rx)
  cases (show u = Value.ref b from ry)
  obtain ⟨mA, J, _⟩ := ins_get I.hok ea
  obtain ⟨od, J, _⟩ := J.look
  obtain ⟨mB, J', _⟩ := ins_get I.hok eb
  obtain ⟨od', J', _⟩ := J'.look
  obtain ⟨m, hF⟩ := I.fr
  obtain ⟨fd, ps, hn, G, bb⟩ := Pm.ok
  refine PySem.W.binop_K (op := .Add) hF I.ok.mod.kin J J'.type hsf hM.at_ hM.fn ?_
  refine wpAny_mono (run_fnS (us := [.ref a, .ref b]) (vs := [.ref a, .ref b]) G hr bb (passAt tk sg) I (.cons rfl (.cons rfl .nil)) (args_in Pm.ar hsp o (Go.refl _ _) (.cons r1 (.cons r2 .nil)) kv kx)) (fun w s' z => ?_) fun _ _ x => x
  obtain ⟨z', H', I', rz, qz⟩ := z
  exact SlX.cmpback rz ⟨z', H', I', rz, qz⟩
/-! ### errors without fields -/
theorem pmk_own0 {x : Str} {C : Addr} {bmB : List Value} {B newId initId : String} {p pos : Pos} (F : ExcBaseFacts B newId initId bmB) (q : PySem.W.excIn X.K C bmB newId = true) (gC : X.mg x = some (.ref C)) (kC : PySem.W.keepIn X.K (.ref C) = true) (r : Raises X (.ref C)) (hg : Gl X x)
    (hdb : (x == ("__debug__" : Str)) = false := by decide) : PMk X (.Call (.Name x p) [] [] pos) (fun _ H Q => Q (.ref C) none H) := by
  intro pins s σ H Q I h
  refine wpAny_Call_Name_kw (ld_glob I hg gC ?_ hdb)
  refine PySem.W.callWith_K0 I.kIn kC ?_
  obtain ⟨bm, N, nm, qn, bs, hdct, sn, sub, ab, col, dd, k0, k1, k2, k3, k5, mN, hC, hN, hni, T⟩ := exc_obj I.kIn q
  refine wpAny_call_exc_subT F T hC hN hni (fun h' e hm => ?_) (by show 0 ≤ sizeLine; exact Nat.zero_le _)
  exact mk_of I hm r h (I.hok.gone hm.new)
theorem ds_raise0 {x : Nat} {n : Str} {p pos pos' : Pos} (hc : X.calm = true) (h : PySem.W.excIn X.K (He.ga X.K (xn x)) He.veBase "ValueError.__new__" = true ∧ PySem.W.keepIn X.K (.ref (He.ga X.K (xn x))) = true ∧ PySem.W.subIn X.K (.ref (He.ga X.K (xn x))) (.type "BaseException") = some true ∧ PySem.W.typeIn X.K (.ref (He.ga X.K (xn x))) = some (.type "type"))
    (hm : X.mg n = some (.ref (He.ga X.K (xn x)))) (tk : Takes X W) (hx : (xf x).length = 0 := by rfl) (hg : Gl X n := by rfl) (hdb : (n == ("__debug__" : Str)) = false := by decide) : PS X (.Raise (some (.Call (.Name n p) [] [] pos)) none pos') (liftS X.K W (dRaise x dNil)) := by
  obtain ⟨h1, h2, h3, h4⟩ := h
  refine ps_wk (ps_raise hc tk (pmk_own0 PySem.F.excBase_ValueError h1 hm h2 (raises_own h3 h4) hg hdb)) fun Q sg H ⟨ga, mu, al, hd, E, at_, h, kk⟩ => ?_
  exact (kk.ex sg).go (x, []) mu _ _ _ al h.2 at_.ok (Go.refl _ _) ⟨rfl, by rw [hx] <;> rfl, fun z => (z rfl).elim, fun _ => rfl⟩
end
/-! ### try: x() / except .. ; return 'none' -/
def TTD (K : PySem.W.Frag) (n : Nat) (ret : Str) (l : List Cl1) : (XK → Hp → VK → Prop) → Hp → VK → Prop := fun tl H Q =>
  tl (fun cls d H' => ∀ q : L2.St, q.length = n → wMix K W0 { nx := fun _ H' => Q (.str ret) H', rt := Q } (l.map (hcl K)) cls d q H') H (fun _ H1 => Q (.str ret) H1)
section
variable {X : Cx}
theorem gives_D {Ng : List Str} {x a q ret : Str} {sg : Scope} {g : Addr} {cdg : Value} {h0 : ExceptHandler} {hds : List ExceptHandler} {l : List Cl1} {n : Nat} {j1 : Nat} {p1 p2 p3 p4 p5 p6 : Pos}
    (hN : Ng.Nodup) (hn : Ng.length = n) (hst : ∀ f : Addr, (L2.start Ng [V.ref f])[0]? = some (some (V.ref f))) (hsw : ∀ env : Env, swapsWith (.Call (.Name a p2) [] [] p3) none p4.line env = pure false)
    (hh : ∀ (s : Shared) (H : Hp), HdsMix (cxOf C8.CX0 X.prog X.w X.K X.mg X.base Ng x sg g cdg X.A X.stack s H C8.E0).nox (h0 :: hds) (l.map (hcl X.K))) :
    LamX.GivesTo X Ng x sg g cdg [.Try [.Expr (.Call (.Name a p2) [] [] p3) p4] (h0 :: hds) [] [] p5, .Return (some (.Constant (.str ret) j1 p1)) p6] a q (TTD X.K n ret l) := by
  intro f c' s H Q tl act hc h
  refine ⟨_, pss_cons (ps_try_mix (X := (cxOf C8.CX0 X.prog X.w X.K X.mg X.base Ng x sg g cdg X.A X.stack s H C8.E0).nox)
      (tb := fun W D σ H => ∃ Ech : XK, (∀ cls d σ' H', Ech cls d H' → W cls d σ' H') ∧ σ[0]? = some (some (.ref f)) ∧ H c' = some (LamX.CodeO c' q) ∧ tl Ech H (fun v H1 => D.nx σ H1))
      rfl rfl hN takes0' (fun W pn xe tk _ => ?_) (hh s H)) (pss_one (ps_ret pe_str)), ?_⟩
  · refine ⟨fun pins s' σ H' D I h' => ?_⟩
    obtain ⟨Ech, hW, h1, h2, h3⟩ := h'
    have hp := act W pn xe Ech p2 p3 tk hW
    have hq := pss_one (ps_expr (pos := p4) hp (hsw _))
    exact hq.run pins s' σ H' D I ⟨h1, h2, h3⟩
  · refine ⟨fun cls d H' => ∀ q : L2.St, q.length = n → wMix X.K W0 { nx := fun _ H' => Q (.str ret) H', rt := Q } (l.map (hcl X.K)) cls d q H', fun cls d σ' H' z hl => z σ' (hl.trans hn), hst f, hc, h⟩
end
def dLamD (T : List (Addr × Str)) (es : List Nat) (n : Nat) (ret : Str) (l : List Cl1) (dc : DE) : DE := fun ga mu _ F => tabsOf mu = T ∧ dc ga mu (fun x mu1 => x.1 ∈ es ∧ pick n { nx := fun _ mu2 => F (.str ret) mu2, rt := F, ex := fun _ _ => False } x mu1 l) fun _ mu1 => F (.str ret) mu1
section
variable {X : Cx} {W : WX} {T : List (Addr × Str)} {es ys : List Nat} {n : Nat} {ret : Str} {l : List Cl1} {dc : DE} {x a : Str} {g c P : Addr} {k : Nat} {pg : Arguments} {bg : List Stmt} {sg : Scope} {Ng : List Str} {params : Arguments} {body : Expr} {scope : Scope} {p lpos pos : Pos}
theorem d_lamD (hm : X.mg x = some (.ref g)) (F : ∃ fd, FunD X.K x x pg bg sg [] [] g fd)
    (hps : ∀ (kV doc pm : Value) (an : Option Addr) (cdv ct : Value) (us : List Value), us.length = [a].length → bindArgs (PySem.W.fnOf x x pg bg sg .none kV doc pm an cdv ct) ⟨us, []⟩ = pure ([a].zip us))
    (Sg : FnScope Ng [a] sg) (hG : ∀ cdv : Value, LamX.GivesTo X Ng x sg g cdv bg a (X.env.qual ++ "<lambda>") (TTD X.K n ret l)) (hx : exmB X.K es ys = true) (hy : ∀ t ∈ l, t.1 ∈ ys)
    (TB : LamX.TabB X.base X.mg c P) (hcode : X.env.code = .ref c) (hmT : (P, X.env.qual ++ "<lambda>") ∈ T) (hu : ∀ p ∈ T, p.1 = P → p.2 = X.env.qual ++ "<lambda>") (hr : Room (k + 2) X.A) (L : LamX.LamS X.env.scope scope)
    (hbody : ∀ (A : Around) (outer : List Env) (s : Shared) (H : Hp) (E : XK) (f c' : Addr), Room k (A.deeper (LamX.lamEnv X scope s.heap.objs.size f c')) → PE (LamX.lamCx X A outer s H E scope f c') body (liftE X.K (fun c d _ h => E c d h) dc))
    (hg : Gl X x := by rfl) (hNg : Ng[0]? = some a := by rfl) (hva : Vis sg a := by first | exact Or.inl rfl | exact Or.inr (Or.inl rfl) | exact Or.inr (Or.inr rfl)) (hdef : defaultsOf params X.env = ([], []) := by rfl)
    (hbind : ∀ (q : Str) (cl : List (Str × Addr)) (pm cv ctv : Value), bindArgs (PySem.W.kla_fn "<lambda>" q params body scope cl pm cv ctv) ⟨[], []⟩ = pure [] := by intro _ _ _ _ _; rfl)
    (hdb : (x == ("__debug__" : Str)) = false := by decide) (hd1 : (a == ("__debug__" : Str)) = false := by decide) (hcd1 : (a == ("__classdict__" : Str)) = false := by decide) :
    PE X (.Call (.Name x p) [.Lambda params body scope lpos] [] pos) (liftE X.K W (dLamD T es n ret l dc)) := by
  obtain ⟨fd, F⟩ := F
  obtain ⟨oc, od, dV, kV, doc, pm, an, cdv, ct, osl, hfd, lk, hcd, hdv, _⟩ := F.ex
  have hdv0 : dV = .none := by
    rcases hdv with ⟨_, e⟩ | ⟨e, _⟩
    · exact e
    · exact (e rfl).elim
  subst hdv0 hfd
  have hb : L2.Binds X.K (PySem.W.fnOf x x pg bg sg .none kV doc pm an cdv ct) [a] [] := F.bindsN hps
  refine pe_wk (LamX.pe_lamcall (TT := TTD X.K n ret l) (t := fun E => liftE X.K (fun c d _ h => E c d h) dc) hg hm F.kp lk hcd hb Sg hNg hva (hG cdv) TB hcode hmT hu hr L hdef hbind hbody hdb hd1 hcd1) fun σ H Q ⟨ga, mu, al, hd, P, F, at_, h, kv, kx⟩ => ?_
  obtain ⟨hT0, h⟩ := h
  refine ⟨tabs_of at_.ok hT0, fun H1 eN T1 => ?_⟩
  have o1 := okay_tabs at_.ok hT0 eN T1
  have g1 := go_tabs at_.ok eN
  have kv1 := kv.to g1
  refine ⟨ga, mu, al, hd, _, _, at_.to o1 g1, h, ⟨fun d mu1 v H2 al2 h2 o2 g2 r2 => kv1.go _ _ _ _ _ h2 o2 g2 .str⟩, ⟨fun y mu1 cls dd H2 al2 h2 o2 g2 r2 q hq => ?_⟩⟩
  exact pick_mix (Wo := W0) (H := H1) (al := al) (D := { nx := fun _ H' => Q (.str ret) H', rt := Q }) (E := { nx := fun _ mu2 => F (.str ret) mu2, rt := F, ex := fun _ _ => False }) ⟨fun ga mu sg H' al' z a g => kv1.go _ _ _ _ _ z a.ok g .str, kv1, fun _ => ⟨fun _ _ _ _ _ _ z => z.elim⟩, fun _ _ _ _ _ z _ _ => z.elim, fun _ _ _ _ _ z _ _ => z.elim⟩ hx h2.1 o2 g2 r2 hq l hy h2.2
/-- one name to a table -/
theorem ts_uni : ∀ {T : List (Addr × Str)}, (T.map (·.1)).Nodup → ∀ {P : Addr} {q : Str}, (P, q) ∈ T → ∀ p ∈ T, p.1 = P → p.2 = q
  | [], _, _, _, h, _, _, _ => (List.not_mem_nil h).elim
  | t :: T, nd, P, q, h, p, hp, e => by
    rw [List.map_cons, List.nodup_cons] at nd
    rcases List.mem_cons.mp h with h2 | h2
    · subst h2
      rcases List.mem_cons.mp hp with hp | hp
      · rw [hp]
      · exact (nd.1 (by rw [← e]; exact List.mem_map.mpr ⟨p, hp, rfl⟩)).elim
    · rcases List.mem_cons.mp hp with hp | hp
      · subst hp
        exact (nd.1 (by rw [e]; exact List.mem_map.mpr ⟨(P, q), h2, rfl⟩)).elim
      · exact ts_uni nd.2 h2 p hp e
end
end DX

/-! part DX9 -/
/-! DX9: int(x), enumerate(list), a written dict looked up. -/
namespace DX
open PySem PySem.Spec PyProof.Rows L2 DL DQ
section
variable {X : Cx} {W : WX}
def bInt : GL := fun ds mu F => match ds with
  | [.int i] => F (.int i) mu
  | [.bl k] => F (.int (if k = true then 1 else 0)) mu
  | _ => False
theorem b_int : CbS X (.type "int") bInt := by
  refine ⟨_, call_int1, fun H mu al hd ds vs F Q o r hg kv => ?_⟩
  unfold bInt at hg
  split at hg
  · obtain ⟨v, ys, rfl, r1, r2⟩ := r.cons_
    cases r2.nil_
    exact .inl ⟨_, by rw [r1.int_], kv.now o hg .int⟩
  · obtain ⟨v, ys, rfl, r1, r2⟩ := r.cons_
    cases r2.nil_
    exact .inr ⟨_, by rw [r1.bl_], kv.now o hg .int⟩
  · exact hg.elim
/-! ### enumerate -/
def enF : Nat → List D → List D
  | _, [] => []
  | k, d :: l => .tup [.int (k : Nat), d] :: enF (k + 1) l
theorem enF_len : ∀ (l : List D) (k : Nat), (enF k l).length = l.length
  | [], _ => rfl
  | _ :: l, k => congrArg Nat.succ (enF_len l (k + 1))
theorem enF_get : ∀ (l : List D) (k i : Nat) (d : D), l[i]? = some d → (enF k l)[i]? = some (.tup [.int ((k + i : Nat) : Int), d])
  | [], _, _, _, h => by simp at h
  | x :: l, k, 0, d, h => by
    simp at h
    subst h
    rfl
  | x :: l, k, i + 1, d, h => by
    have e := enF_get l (k + 1) i d (by simpa using h)
    have e2 : k + 1 + i = k + (i + 1) := by omega
    rw [e2] at e
    exact e
def iEn (da : DA) : DI := fun ga mu P F => da ga mu P fun ds mu1 => match ds with
  | [x] => ∃ l, lv mu1 x = some l ∧ F (enF 0 l) (fun m => lv m x = some l) mu1
  | _ => False
theorem wk_en {K : PySem.W.Frag} {x : D} {p : Addr} {l : List D} {hd0 : List Addr} {H0 : Hp} {al0 : List Addr} (r : Rep K (al0 ++ hd0) H0 al0 x (.ref p)) : WkOk K (Ite K p) (enF 0 l) (fun m => lv m x = some l) hd0 H0 al0 := by
  have key : ∀ hd H mu al, Fz H0 (al0 ++ hd0) H (al ++ hd) → Pre al0 al → Okay K hd H mu al → lv mu x = some l → ∃ xs, SqL K H p xs ∧ RepL K (al ++ hd) H [] l xs := fun hd H mu al g pr o h => by
    obtain ⟨q, xs, e, s, r2⟩ := (r.fz g pr).lv o h
    cases e
    exact ⟨xs, .inl s, r2⟩
  refine ⟨fun hd H mu al g pr o h => ?_, fun hd H mu al i g pr o h hi => ?_, fun hd H mu al i v H' g pr o h hi y => ?_⟩
  · obtain ⟨xs, s, r1⟩ := key hd H mu al g pr o h
    exact ⟨xs, s, by rw [enF_len, r1.len]; exact Nat.le_refl _⟩
  · obtain ⟨xs, s, r1⟩ := key hd H mu al g pr o h
    rw [enF_len, r1.len] at hi
    exact ⟨xs, xs[i], s, List.getElem?_eq_getElem hi⟩
  · obtain ⟨xs, s, r1⟩ := key hd H mu al g pr o h
    obtain ⟨T, z, rfl, hT, rfl, q⟩ := y
    obtain ⟨d, e1, r2⟩ := r1.get (q xs s)
    have gl := Go.lay (hd := hd) (al := al) (u := .tup [.int (i : Nat), z]) o hT
    refine ⟨_, enF_get l 0 i d e1, o.lay hT, gl, ?_⟩
    rw [Nat.zero_add]
    exact .tup ⟨o.new hT, upd_same⟩ (.cons .int (.cons (r2.go gl (Pre.refl _)) .nil))
theorem di_enum {e : Expr} {da : DA} {p pos tpos : Pos} {elts : List Expr} {kk : Nat} (hm : X.mg "enumerate" = none) (ha : PA X [e] (liftA X.K W da)) (hg : Gl X "enumerate" := by rfl) (hs : starEach [e] X.env = [(false, eval e X.env)] := by rfl) :
    PI X (.Tuple elts kk tpos) (.Call (.Name "enumerate" p) [e] [] pos) (liftI X.K W (iEn da)) := by
  refine pi_wk (pi_enum hg hm ha hs) fun sg H R ⟨ga, mu, al, hd, P, F, a, h, k, kx⟩ => ?_
  refine ⟨ga, mu, al, hd, P, _, a, h, ⟨fun ds mu1 vs H1 al1 h1 o1 g1 r1 => ?_⟩, kx⟩
  split at h1
  · obtain ⟨l, hl, h2⟩ := h1
    obtain ⟨v, ys, rfl, r2, r3⟩ := r1.cons_
    cases r3.nil_
    obtain ⟨q, xs, rfl, s, r4⟩ := r2.lv o1 hl
    exact ⟨q, xs, rfl, .inl s, k _ _ _ _ _ _ h2 o1 g1 (wk_en r2)⟩
  · exact h1.elim
/-! ### {..}[e] -/
def dDix (kvs : List (Str × Int)) (de : DE) : DE := fun ga mu P F => de ga mu P fun x mu1 => match x with
  | .str s => (match kvs.lookup s with
    | some v => F (.int v) mu1
    | none => False)
  | _ => False
theorem tPairs_c : ∀ (kvs : List (Str × Int)) (σ : L2.St) (H : Hp) (Q : List (V × V) → Hp → Prop), Q (kvs.map fun p => (V.str p.1, V.int p.2)) H → tPairs (kvs.map fun p => (tC (.str p.1), tC (.int p.2))) σ H Q
  | [], _, _, _, h => h
  | p :: kvs, σ, H, Q, h => tPairs_c kvs σ H _ h
theorem look_no {s : Str} : ∀ {kvs : List (Str × Int)}, ¬ s ∈ kvs.map (·.1) → kvs.lookup s = none
  | [], _ => rfl
  | p :: kvs, h => by
    obtain ⟨k, v⟩ := p
    have hne : ¬ s = k := fun e => h (by rw [e]; exact List.mem_cons_self)
    rw [List.lookup_cons, beq_eq_false_iff_ne.mpr hne]
    exact look_no fun z => h (List.mem_cons_of_mem _ z)
theorem hv_acc (s : Str) : ∀ (kvs : List (Str × Int)) (acc : List (Key × V)), (kvs.map (·.1)).Nodup → valV (mergeK acc (kvs.map fun p => ((.inr p.1 : Key), V.int p.2))) (.inr s) = (match kvs.lookup s with
    | some v => some (V.int v)
    | none => valV acc (.inr s))
  | [], acc, _ => rfl
  | p :: kvs, acc, nd => by
    obtain ⟨k, v⟩ := p
    rw [List.map_cons, List.nodup_cons] at nd
    have ih := hv_acc s kvs (putK acc (.inr k) (.int v)) nd.2
    rw [List.map_cons]
    show valV (mergeK (putK acc (.inr k) (.int v)) (kvs.map fun p => ((.inr p.1 : Key), V.int p.2))) (.inr s) = _
    rw [ih, List.lookup_cons, valV_put]
    by_cases e : s = k
    · subst e
      rw [look_no nd.1, beq_self_eq_true, if_pos rfl]
    · have e1 : (s == k) = false := beq_eq_false_iff_ne.mpr e
      have e2 : ¬ (.inr s : Key) = .inr k := fun z => e (Sum.inr.inj z)
      rw [e1, if_neg e2]
theorem hv_of {kvs : List (Str × Int)} (nd : (kvs.map (·.1)).Nodup) (s : Str) : valV (mergeK [] (kvs.map fun p => ((.inr p.1 : Key), V.int p.2))) (.inr s) = (kvs.lookup s).map V.int := by
  rw [hv_acc s kvs [] nd]
  cases kvs.lookup s <;> rfl
theorem d_dix (kvs : List (Str × Int)) {keys : List (Option Expr)} {values : List Expr} {e : Expr} {de : DE} {pos pos2 : Pos} (hp : PPs X pos keys values (kvs.map fun p => (tC (.str p.1), tC (.int p.2)))) (hi : PE X e (liftE X.K W de)) (hu : X.A.units + 1 < cLine)
    (hv : ∀ s : Str, valV (mergeK [] (kvs.map fun p => ((.inr p.1 : Key), V.int p.2))) (.inr s) = (kvs.lookup s).map V.int) (hlen : kvs.length ≤ 15)
    (hs : NoSl e := by intro _ _; rfl) (hall : keys.all (·.isSome) = true := by rfl) (hl : keys.length = values.length := by rfl) (h0 : keys ≠ [] := by simp) (h15 : keys.length ≤ 15 := by decide) : PE X (.Subscript (.Dict keys values pos) e pos2) (liftE X.K W (dDix kvs de)) := by
  refine pe_wk (pe_dget hu (pe_disp hp hall hl h0 h15) hi hs) fun sg H Q ⟨ga, mu, al, hd, P, F, a, h, kv, kx⟩ p hpn => ?_
  refine tPairs_c kvs sg _ _ ⟨upd_same, kvs.map fun p => (.inr p.1, .int p.2), by rw [List.map_map]; rfl, by rw [List.length_map]; exact hlen, ?_⟩
  have keep : ∀ b u, H b = some u → upd (upd H p (.dK [])) p (.dK (mergeK [] (kvs.map fun p => ((.inr p.1 : Key), V.int p.2)))) b = some u := fun b u q => by
    have n := ne_of_none q hpn
    rw [upd_ne n, upd_ne n]
    exact q
  have o1 := a.ok.ext keep
  have g1 := Go.ext (hd := hd) (al := al) a.ok keep
  refine ⟨ga, mu, al, hd, P, _, a.to o1 g1, h, ⟨fun d mu1 v H2 al2 h1 o2 g2 r2 => ?_⟩, kx.to g1⟩
  split at h1
  · rename_i s
    cases r2.str_
    cases q : kvs.lookup s with
    | none => simp only [q] at h1
    | some w =>
      simp only [q] at h1
      have ep := (g2.frz p _ (a.ok.new hpn) upd_same rfl).1
      exact ⟨p, .int w, rfl, .inl ⟨_, .inr s, .inl ep, rfl, by rw [hv s, q]; rfl⟩, kv.go _ _ _ _ _ h1 o2 (g1.trans g2) .int⟩
  · exact h1.elim
end
end DX
namespace DX
open PySem PySem.Spec PyProof.Rows L2 DL DQ
theorem unit_lt {A : Around} (r : Room 0 A) : A.units + 1 < cLine := by
  have := r.un
  omega
end DX

/-! part DX10 -/
/-! DX10: e.m() of a caught error without fields, where m returns a constant. -/
namespace PySem.HandSPX
open PySem PySem.Spec PyProof.Rows PySem.W
theorem canon_bga : (Manifest.canonical "BaseException.__getattribute__" != "object.__getattribute__") = false := by decide +kernel
theorem exc_meth {prog : Program} {w : World} {A : Around} {E : Value → Shared → Prop} {s : Shared} {K : Frag} {x C f : Addr} {ox : Obj} {od : Option Obj} {name : Str} {pl : Sem Bool} {Q : Value × List Value → Shared → Prop}
    (X : K.In s.heap) (I : PySem.W.InstAt s.heap x ox C od) (hga : findIn K (.ref C) "__getattribute__" = some (some (.builtin "BaseException.__getattribute__"))) (hk : findIn K (.ref C) "__getattr__" = some none)
    (hf : findIn K (.ref C) name = some (some (.ref f))) (ht : typeIn K (.ref f) = some (.type "function")) (hs : shadowIn od name = some false) (h : Q (.ref f, [.ref x]) s) : wpAny (model prog w) A (getMethod (.ref x) name pl) Q E s := by
  unfold getMethod specialOf
  refine wpAny_bind (wpAny_bind (I.type.here ((looks_findIn X hga).here ?_)))
  dsimp only
  rw [canon_bga, if_neg (by decide)]
  refine wpAny_bind (wpAny_bind (I.type.here ((looks_findIn X hk).here ?_)))
  refine wpAny_bind (wpAny_bind (I.type.here ((looks_findIn X hf).here (wpAny_bind ((looks_typeIn X ht).here ?_)))))
  rw [if_neg (by decide +kernel)]
  refine wpAny_bind (wpAny_loadPart I.at_ ?_)
  have hd := I.dict
  cases e : ox.dict with
  | none => exact wpAny_bind (wpAny_rule (wpAny_pure h))
  | some dx =>
    cases od with
    | none => rw [e] at hd; exact hd.elim
    | some o =>
      rw [e] at hd
      obtain ⟨r, a, b⟩ := Option.map_eq_some_iff.mp hs
      refine wpAny_bind (wpAny_bind (wpAny_loadPart hd ?_))
      rw [nsLook_of a]
      refine wpAny_pure ?_
      rw [b]
      exact wpAny_bind (wpAny_rule (wpAny_pure h))
end PySem.HandSPX
namespace DX
open PySem PySem.Spec PyProof.Rows L2 DL DQ
/-- the method m of the error class x -/
structure TolC (K : PySem.W.Frag) (C : Addr) (m : Str) (f : Addr) : Prop where
  xf : XfC K C
  fi : PySem.W.findIn K (.ref C) m = some (some (.ref f))
  ty : PySem.W.typeIn K (.ref f) = some (.type "function")
theorem tolC_of {K : PySem.W.Frag} {x : Nat} {m : Str} (h : tolB K x m = true) : TolC K (He.ga K (xn x)) m (He.ma K (He.ga K (xn x)) m) := by
  obtain ⟨h1, h⟩ := ba2 h
  obtain ⟨h2, h3⟩ := ba2 h
  exact ⟨xfc_of h1, of_decide_eq_true h2, of_decide_eq_true h3⟩
section
variable {P : Program} {w : World} {K : PySem.W.Frag} {mg : Str → Option Value} {base : Heap}
/-- a def (self) that returns a text, called where an exception may be handled -/
theorem tell_run {m qual z : Str} {params : Arguments} {scope : Scope} {j : Nat} {p1 p2 : Pos} {f : Addr} {fd : FuncData} (F : FunD K m qual params [.Return (some (.Constant (.str z) j p1)) p2] scope [] [] f fd) (S : FnScope ["self"] ["self"] scope)
    (hb : ∀ (kV doc pm : Value) (an : Option Addr) (cdv ct : Value) (us : List Value), us.length = 1 → bindArgs (PySem.W.fnOf m qual params [.Return (some (.Constant (.str z) j p1)) p2] scope .none kV doc pm an cdv ct) ⟨us, []⟩ = pure ((["self"] : List Str).zip us))
    {A : Around} {outer : List Env} {s : Shared} {H : Hp} {u : Value} {v : V} {Q : VK} {p : Addr × Obj} {R : Result → Shared → Prop} (hr : L2H.RoomH 1 A) (hpin : L2H.PinOk outer H s p) (e0 : Env0 P w K mg base A outer s H) (r : RelV v u) (q : Q (.str z) H)
    (hR : ∀ u' s', CE outer P w H s Q u' s' → R (.ok (.ret u')) s') : codeAny (model P w) A (.call (.ref f) ⟨[u], []⟩) R s := by
  have B := F.bindsN (ps := ["self"]) hb
  obtain ⟨oc, od, dV, kV, doc, pm, an, cdv, ct, osl, rfl, lk, hcd, hdv, _⟩ := F.ex
  have KX : K.In s.heap := e0.mod.kin.keeps fun b o e => (e0.bs b o e).1
  have lim : s.heap.NoLimit := e0.mod.nolimit.keeps fun b o e => (e0.bs b o e).1
  have hkind : ∀ y ∈ (["self"] : List Str).zip [u], scope.names.lookup y.1 = some .local ∨ (scope.names.lookup y.1 = some .cell ∧ ((cellsFrom (s.heap.objs.size + 1) scope.names []).lookup y.1).isSome = true) := fun ⟨n, v⟩ hy => by
    rcases S.par n (List.of_mem_zip hy).1 with q | q
    · exact .inl q
    · exact .inr ⟨q, PySem.W.cellsFrom_some _ _ _ (.inl q)⟩
  have hbb := B s [u] KX rfl
  rw [List.append_nil] at hbb
  refine codeAny_call_function hr.depth (KX _ _ lk) rfl S.co S.gen rfl (PySem.W.codeRec_of KX hcd) (hbb _ _ _ _ ?_)
  refine wpAny_newFunctionEnv_cells S.kind hkind fun env he s1 x => ?_
  subst he
  refine ⟨lim.keeps x.toInCall.keep, codeAny_func ?_⟩
  have I : Inv (L2H.cxH C8.CX0 P w K mg base ["self"] qual scope f cdv A outer s H (fun _ _ _ => False) p) [] (L2.start ["self"] [v]) H s1 := L2H.inv_startH S hpin e0 rfl (.cons r .nil) x
  have ht := pss_one (X := (L2H.cxH C8.CX0 P w K mg base ["self"] qual scope f cdv A outer s H (fun _ _ _ => False) p).nox) (ps_ret (pos := p2) (pe_str (x := z) (j := j) (pos := p1)))
  refine wpAny_mono (ht.run [] s1 (L2.start ["self"] [v]) H { nx := fun _ H' => Q .non H', rt := Q } (I.wish _) q) (fun fl s' hs => ?_) fun e s' hs => ?_
  · cases fl with
    | ret u' =>
      obtain ⟨v', σ', H', J, rv, q'⟩ := hs
      exact hR _ _ ⟨v', H', J.os, J.bare, J.base, J.hok, rv, q'⟩
    | next =>
      obtain ⟨σ', H', J, q'⟩ := hs
      exact hR _ _ ⟨.non, H', J.os, J.bare, J.base, J.hok, rfl, q'⟩
    | brk =>
      obtain ⟨_, _, _, q'⟩ := hs
      exact q'.elim
    | cont =>
      obtain ⟨_, _, _, q'⟩ := hs
      exact q'.elim
  · exact False.elim hs
end
/-! ### is None -/
def isNon : D → Bool
  | .non => true
  | _ => false
def gIsN : G2 := fun x y mu _ F => y = .non ∧ F (.bl (isNon x)) mu
def gNotN : G2 := fun x y mu _ F => y = .non ∧ F (.bl (!isNon x)) mu
theorem isNon_of {K : PySem.W.Frag} {al pt : List Addr} {H : Hp} {d : D} {v : V} (r : Rep K al H pt d v) : decide (v = V.non) = isNon d := by
  cases r <;> simp [isNon]
theorem o_isN {X : Cx} {W : WX} : OpS X (compareOp .Is) (liftR X.K W gIsN) := by
  refine ops_wk (opr_s op_isN) fun sg x y H Q ⟨mu, al, hd, d, e, P, F, o, r1, r2, ⟨he, h⟩, kv, kx⟩ => ?_
  subst he
  refine ⟨by cases r2; rfl, ?_⟩
  rw [isNon_of r1]
  exact kv.now o h .bl
theorem o_notN {X : Cx} {W : WX} : OpS X (compareOp .IsNot) (liftR X.K W gNotN) := by
  refine ops_wk (opr_s op_notN) fun sg x y H Q ⟨mu, al, hd, d, e, P, F, o, r1, r2, ⟨he, h⟩, kv, kx⟩ => ?_
  subst he
  refine ⟨by cases r2; rfl, ?_⟩
  rw [isNon_of r1]
  exact kv.now o h .bl
/-- e.m(), e in slot i, the error at a without a dict -/
def dTold (i : Nat) (a : Addr) (d : Option Addr) (c : Nat) (z : Str) : DE := fun ga mu _ F => (d = none ∧ ∃ l, ga[i]? = some (some (.err a d c l))) ∧ F (.str z) mu
section
variable {X : Cx} {W : WX} {a : Addr} {oe : Obj} {cls : Value} {d : Option Addr} {pn : List (Addr × Obj)}
theorem d_told (i : Nat) {c : Nat} {n m qual z : Str} {f : Addr} {params : Arguments} {scope : Scope} {j : Nat} {p0 p1 p2 apos pos : Pos} {pl : Sem Bool} (T : TolC X.K (He.ga X.K (xn c)) m f) (hz : Zc cls d oe) (hf : ∃ vs, oe.data = .fields vs) (hcls : cls = .ref (He.ga X.K (xn c)))
    (F : ∃ fd, FunD X.K m qual params [.Return (some (.Constant (.str z) j p1)) p2] scope [] [] f fd) (S : FnScope ["self"] ["self"] scope)
    (hb : ∀ (kV doc pm : Value) (an : Option Addr) (cdv ct : Value) (us : List Value), us.length = 1 → bindArgs (PySem.W.fnOf m qual params [.Return (some (.Constant (.str z) j p1)) p2] scope .none kV doc pm an cdv ct) ⟨us, []⟩ = pure ((["self"] : List Str).zip us))
    (hr : Room 2 X.A) (hN : X.N[i]? = some n := by rfl) (hv : Vis X.env.scope n := by first | exact Or.inl rfl | exact Or.inr (Or.inl rfl) | exact Or.inr (Or.inr rfl)) (hdn : (n == ("__debug__" : Str)) = false := by decide) (hcd : (n == ("__classdict__" : Str)) = false := by decide)
    (ht : eval (.Call (.Attribute (.Name n p0) m apos) [] [] pos) X.env = (do
      let ov ← eval (.Name n p0) X.env
      standAt apos.atName
      let (f, first) ← holding [ov] (getMethod ov m pl)
      callWith pos f first (backTo pos (starEach [] X.env)) (backToKw pos (keywordEach [] X.env))) := by rfl) :
    PE (X.suite a ((a, oe) :: pn)) (.Call (.Attribute (.Name n p0) m apos) [] [] pos) (liftE X.K W (dTold i a d c z)) := by
  obtain ⟨fd, F⟩ := F
  refine ⟨fun pins s σ H Q I ⟨ga, mu, al, hd, P, F', at_, ⟨⟨hd0, l, hg⟩, hF⟩, kv, kx⟩ => ?_⟩
  obtain ⟨v, hv', rv⟩ := at_.sl.at_ i _ hg
  have ev : v = .ref a := by cases rv <;> rfl
  subst ev
  refine PySem.W.methodCall_KW (pl := pl) (thn ((pe_var (X := X.suite a ((a, oe) :: pn)) hN hv hdn hcd).run pins s σ H (fun x H1 => x = .ref a ∧ H1 = H) I ⟨_, hv', rfl, rfl⟩) fun u s1 ⟨x, H1, I1, rx, ex, eH⟩ => ?_) ht
  subst ex
  subst eH
  obtain rfl : u = Value.ref a := rx
  have P1 := I1.pin (a, oe) (List.mem_append_left _ List.mem_cons_self)
  obtain ⟨vs, hfd⟩ := hf
  have J : PySem.W.InstAt s1.heap a oe (He.ga X.K (xn c)) none := ⟨P1.1, hz.1.trans hcls, by unfold PySem.W.notCls; rw [hfd] <;> rfl, by rw [hz.2, hd0]; trivial⟩
  refine HandSPX.exc_meth I1.kIn J T.xf.ga T.xf.gg T.fi T.ty rfl ?_
  refine PySem.W.callWith_K0 I1.kIn F.kp (wpAny_call ?_)
  exact tell_run (p := (a, oe)) (v := .ref a) (Q := Q) F S hb ⟨by have := hr.dp; show X.A.depth + 3 * 1 + 5 < _; omega, by have := hr.un; show X.A.units + 16 * 1 + 200 < _; omega⟩
    ⟨P1.1, P1.2.1, fun hm => (List.mem_cons.mp (I1.stkSub a hm)).elim P1.2.2.1 P1.2.2.2.1, P1.2.2.2.2⟩ I1.env0 rfl (kv.go _ mu _ _ al hF at_.ok (Go.refl _ _) .str) (fun u' s' ce => I1.after ce)
end
end DX

/-! part DX11 -/
/-! DX11: in, sum, all, any, min of two, list.clear; the script's own len, item, slice. -/
namespace DX
open PySem PySem.Spec PyProof.Rows L2 DL DQ
/-! ### i in a list or tuple of ints -/
def gInB (neg : Bool) : G2 := fun x y mu _ F => ∃ i ns, x = .int i ∧ (pv_ mu y).bind intsD = some ns ∧ F (.bl (if neg then !decide (i ∈ ns) else decide (i ∈ ns))) mu
def gIn : G2 := gInB false
def gNotIn : G2 := gInB true
theorem inV_int (i : Int) : ∀ ns : List Int, inV (.int i) (ns.map V.int) = decide (i ∈ ns)
  | [] => by simp [inV]
  | n :: ns => by
    have ih := inV_int i ns
    unfold inV at ih ⊢
    rw [List.map_cons, List.any_cons, ih]
    have e : eqV (V.int n) (V.int i) = decide (n = i) := by
      show (n == i) = decide (n = i)
      by_cases h : n = i
      · subst h
        simp
      · simp [h]
    rw [e]
    by_cases h : n = i
    · subst h
      simp
    · have h2 : ¬ i = n := fun z => h z.symm
      simp [h, h2]
theorem all_flat (ns : List Int) : (ns.map V.int).all flatV = true := by
  induction ns with
  | nil => rfl
  | cons n ns ih => rw [List.map_cons, List.all_cons, ih]; rfl
section
variable {X : Cx} {W : WX}
theorem in_aux {neg : Bool} {sg : L2.St} {x y : V} {H : Hp} {Q : VK} (h : liftR X.K W (gInB neg) sg x y H Q) : rIn X.K neg x y H Q := by
  obtain ⟨mu, al, hd, d, e, P, F, o, r1, r2, ⟨i, ns, rfl, he, h⟩, kv, kx⟩ := h
  obtain ⟨l, hl, hi⟩ := Option.bind_eq_some_iff.mp he
  obtain ⟨p, xs, rfl, s, r⟩ := r2.pv_ o hl
  rw [intsD_eq hi] at r
  have ex := r.ints
  subst ex
  cases r1.int_
  refine ⟨p, ns.map V.int, rfl, s, rfl, all_flat ns, ?_⟩
  rw [inV_int]
  exact kv.now o h .bl
theorem o_in : OpS X (compareOp .In) (liftR X.K W gIn) := ops_wk (opr_s op_in_seq) fun sg x y H Q h => in_aux h
theorem o_notIn : OpS X (compareOp .NotIn) (liftR X.K W gNotIn) := ops_wk (opr_s op_notIn_seq) fun sg x y H Q h => in_aux h
end
/-! ### sum, all, any, min -/
def blsD : List D → Option (List Bool)
  | [] => some []
  | .bl b :: l => (blsD l).map (b :: ·)
  | _ => none
theorem blsD_ok : ∀ {l : List D} {bs : List Bool}, blsD l = some bs → l = bs.map D.bl
  | [], bs, h => by
    cases h
    rfl
  | d :: l, bs, h => by
    cases d <;> try (simp [blsD] at h; done)
    rename_i b
    simp only [blsD, Option.map_eq_some_iff] at h
    obtain ⟨ms, h1, rfl⟩ := h
    rw [List.map_cons, ← blsD_ok h1]
theorem blsD_of : ∀ bs : List Bool, blsD (bs.map D.bl) = some bs
  | [] => rfl
  | n :: ns => by
    rw [List.map_cons, blsD, blsD_of ns]
    rfl
theorem RepL.bls {K : PySem.W.Frag} {fb pt : List Addr} {H : Hp} : ∀ {bs : List Bool} {xs : List V}, RepL K fb H pt (bs.map D.bl) xs → xs = bs.map V.bl
  | [], _, .nil => rfl
  | _ :: _, _, .cons .bl r => by rw [List.map_cons, RepL.bls r]
def bSum : GL := fun ds mu F => match ds with
  | [x] => (match (lv mu x).bind intsD with
    | some ns => F (.int ns.sum) mu
    | none => False)
  | _ => False
def bAll : GL := fun ds mu F => match ds with
  | [x] => (match (lv mu x).bind blsD with
    | some bs => F (.bl (bs.all id)) mu
    | none => False)
  | _ => False
def bAny : GL := fun ds mu F => match ds with
  | [x] => (match (lv mu x).bind blsD with
    | some bs => F (.bl (bs.any id)) mu
    | none => False)
  | _ => False
def bMin : GL := fun ds mu F => match ds with
  | [.int i, .int j] => F (.int (if j < i then j else i)) mu
  | _ => False
section
variable {X : Cx}
theorem b_sum (hc : X.calm = true) : CbS X (.builtin "sum") bSum := by
  refine ⟨_, cr_sum hc, fun H mu al hd ds vs F Q o r hg kv => ?_⟩
  unfold bSum at hg
  split at hg
  · rename_i x
    obtain ⟨v, ys, rfl, r1, r2⟩ := r.cons_
    cases r2.nil_
    cases q : (lv mu x).bind intsD with
    | none => simp only [q] at hg
    | some ns =>
      simp only [q] at hg
      obtain ⟨l, hl, hi⟩ := Option.bind_eq_some_iff.mp q
      obtain ⟨p, xs, rfl, s, r3⟩ := r1.lv o hl
      rw [intsD_eq hi] at r3
      have ex := r3.ints
      subst ex
      exact ⟨p, ns, rfl, .inl s, kv.now o hg .int⟩
  · exact hg.elim
theorem b_all (hc : X.calm = true) : CbS X (.builtin "all") bAll := by
  refine ⟨_, cr_all hc, fun H mu al hd ds vs F Q o r hg kv => ?_⟩
  unfold bAll at hg
  split at hg
  · rename_i x
    obtain ⟨v, ys, rfl, r1, r2⟩ := r.cons_
    cases r2.nil_
    cases q : (lv mu x).bind blsD with
    | none => simp only [q] at hg
    | some ns =>
      simp only [q] at hg
      obtain ⟨l, hl, hi⟩ := Option.bind_eq_some_iff.mp q
      obtain ⟨p, xs, rfl, s, r3⟩ := r1.lv o hl
      rw [blsD_ok hi] at r3
      have ex := RepL.bls r3
      subst ex
      exact ⟨p, ns, rfl, .inl s, kv.now o hg .bl⟩
  · exact hg.elim
theorem b_any (hc : X.calm = true) : CbS X (.builtin "any") bAny := by
  refine ⟨_, cr_any hc, fun H mu al hd ds vs F Q o r hg kv => ?_⟩
  unfold bAny at hg
  split at hg
  · rename_i x
    obtain ⟨v, ys, rfl, r1, r2⟩ := r.cons_
    cases r2.nil_
    cases q : (lv mu x).bind blsD with
    | none => simp only [q] at hg
    | some ns =>
      simp only [q] at hg
      obtain ⟨l, hl, hi⟩ := Option.bind_eq_some_iff.mp q
      obtain ⟨p, xs, rfl, s, r3⟩ := r1.lv o hl
      rw [blsD_ok hi] at r3
      have ex := RepL.bls r3
      subst ex
      exact ⟨p, ns, rfl, .inl s, kv.now o hg .bl⟩
  · exact hg.elim
theorem b_min (hc : X.calm = true) : CbS X (.builtin "min") bMin := by
  refine ⟨_, call_min2 hc, fun H mu al hd ds vs F Q o r hg kv => ?_⟩
  unfold bMin at hg
  split at hg
  · rename_i i j
    obtain ⟨v, ys, rfl, r1, r2⟩ := r.cons_
    obtain ⟨v2, ys2, rfl, r3, r4⟩ := r2.cons_
    cases r4.nil_
    cases r1.int_
    cases r3.int_
    exact ⟨i, j, rfl, kv.now o hg .int⟩
  · exact hg.elim
/-! ### list.clear -/
def gClear : GM := fun x ds mu F => match x, ds with
  | .ptr n, [] => (match mu[n]? with
    | some (.lst _) => F .non (mu.set n (.lst []))
    | _ => False)
  | _, _ => False
theorem m_clear : MbS X "list.clear" gClear := by
  refine ⟨_, mt_clear, fun H mu al hd x v ds vs F Q o rx rs h kv => ?_⟩
  unfold gClear at h
  split at h
  · rename_i n
    cases rs.nil_
    cases rx with
    | ptr e =>
      split at h
      · rename_i l q
        obtain ⟨xs, e1, r1⟩ := o.at_ n _ _ q e
        exact ⟨_, xs, rfl, rfl, e1, Kv.setL o e kv .nil .non h⟩
      · exact h.elim
  · exact h.elim
end
/-! ### a tuple that holds pointers: a cell -/
def dTupP (da : DA) : DE := fun ga mu P F => da ga mu P fun xs mu1 => xs.length ≤ 16777216 ∧ F (.ptr mu1.length) (mu1 ++ [.tpl xs])
theorem d_tupP {X : Cx} {W : WX} {es : List Expr} {x1} {da : DA} {pos : Pos} (h : PA X es (liftA X.K W da)) : PE X (.Tuple es x1 pos) (liftE X.K W (dTupP da)) :=
  pe_wk (pe_tup h) fun sg H Q ⟨ga, mu, al, hd, P, F, a, h, kv, kx⟩ => ⟨ga, mu, al, hd, P, _, a, h, ⟨fun ds mu1 vs H1 al1 h1 o1 g1 r1 => ⟨by rw [← r1.len, sizeLine_eq]; exact h1.1, fun p hp => (kv.to g1).cel o1 hp (upd_keep hp) h1.2 fun g => ⟨vs, upd_same, r1.go g g.pre⟩⟩⟩, kx⟩
def gIxP : G2 := fun x y mu _ F => ∃ n l i d, x = .ptr n ∧ mu[n]? = some (.tpl l) ∧ y = .int i ∧ L2.atI l i = some d ∧ F d mu
theorem d_ixP {X : Cx} {W : WX} {ea eb : Expr} {da db : DE} {pos : Pos} (ha : PE X ea (liftE X.K W da)) (hb : PE X eb (liftE X.K W db)) (hs : PlainIx eb := by exact fun _ _ => rfl) : PE X (.Subscript ea eb pos) (liftE X.K W (dBin gIxP da db)) := by
  refine pe_wk (pe_ix ix_seq ha hb hs) fun sg H Q h => op_wk (fun x y H' ⟨mu, al, hd, d, e, P, F, o, r1, r2, hg, kv, kx⟩ => ?_) h
  obtain ⟨n, l, i, d', rfl, hn, rfl, ha2, h⟩ := hg
  cases r1 with
  | ptr e1 =>
    cases r2.int_
    obtain ⟨xs, e2, r⟩ := o.at_ n _ _ hn e1
    obtain ⟨v, ev, rv⟩ := r.atI ha2
    exact .inr (.inl ⟨_, xs, i, v, rfl, rfl, .inl (.inl e2), ev, kv.now o h rv⟩)
/-! ### the script -/
def gIxS (a : Addr) (ns : List Int) : G2 := fun x y mu _ F => x = .adr a ∧ ∃ i z, y = .int i ∧ L2.atI ns i = some z ∧ F (.int z) mu
def bLenS (a : Addr) (ns : List Int) : GL := fun ds mu F => ds = [.adr a] ∧ F (.int (ns.length : Nat)) mu
abbrev GS := D → Option Int → Option Int → Sto → KD → Prop
def dSlG (g : GS) (de : DE) (dl dh : DO) : DE := fun ga mu P F => de ga mu P fun x mu1 => dl ga mu1 P fun lo mu2 => dh ga mu2 P fun hi mu3 => g x lo hi mu3 F
def gSlF : GS := fun x lo hi mu F => ∃ l, lv mu x = some l ∧ F (.lst (DL.cutD l lo hi)) mu
def gSlS (a : Addr) (ns : List Int) : GS := fun x lo hi mu F => x = .adr a ∧ F (.lst (DL.cutD (ns.map D.int) lo hi)) mu
section
variable {X : Cx} {W : WX} {a : Addr} {ns : List Int}
theorem atI_map {ns : List Int} {i z : Int} (h : L2.atI ns i = some z) : L2.atI (ns.map V.int) i = some (V.int z) := by
  unfold L2.atI at h ⊢
  rw [List.length_map]
  obtain ⟨j, h1, h2⟩ := Option.bind_eq_some_iff.mp h
  rw [h1, Option.bind_some, List.getElem?_map, h2]
  rfl
theorem d_ixS (hS : ∀ H, SqL X.K H a (ns.map V.int)) {ea eb : Expr} {da db : DE} {pos : Pos} (ha : PE X ea (liftE X.K W da)) (hb : PE X eb (liftE X.K W db)) (hs : PlainIx eb) : PE X (.Subscript ea eb pos) (liftE X.K W (dBin (gIxS a ns) da db)) := by
  refine pe_wk (pe_ix ix_seq ha hb hs) fun sg H Q h => op_wk (fun x y H' ⟨mu, al, hd, d, e, P, F, o, r1, r2, hg, kv, kx⟩ => ?_) h
  obtain ⟨rfl, i, z, rfl, hz, h⟩ := hg
  cases r1
  cases r2.int_
  exact .inl ⟨a, ns.map V.int, i, .int z, rfl, rfl, hS H', atI_map hz, kv.now o h .int⟩
theorem b_lenS (hS : ∀ H, SqL X.K H a (ns.map V.int)) : CbS X (.builtin "len") (bLenS a ns) := by
  refine ⟨_, call_len_seq, fun H mu al hd ds vs F Q o r hg kv => ?_⟩
  obtain ⟨rfl, h⟩ := hg
  obtain ⟨v, ys, rfl, r1, r2⟩ := r.cons_
  cases r2.nil_
  cases r1
  refine ⟨a, ns.map V.int, rfl, .inl (hS H), ?_⟩
  rw [List.length_map]
  exact kv.now o h .int
theorem RepL.cutI {K : PySem.W.Frag} {fb pt : List Addr} {H : Hp} (ns : List Int) (lo hi : Option Int) : RepL K fb H pt (DL.cutD (ns.map D.int) lo hi) (cutV (ns.map V.int) lo hi) := (RepL.ofInts ns).cut lo hi
theorem d_sliceS (hS : ∀ H, SqL X.K H a (ns.map V.int)) {e : Expr} {lo hi : Option Expr} {de : DE} {dl dh : DO} {pos p2 : Pos} (he : PE X e (liftE X.K W de)) (hl : PO X lo (liftO X.K W dl)) (hu : PO X hi (liftO X.K W dh)) : PE X (.Subscript e (.Slice lo hi none p2) pos) (liftE X.K W (dSlG (gSlS a ns) de dl dh)) := by
  refine pe_wk (pe_slice sl_list he hl hu) fun sg H Q ⟨ga, mu, al, hd, P, F, at_, h, kv, kx⟩ => ?_
  refine ⟨ga, mu, al, hd, P, _, at_, h, ⟨fun d mu1 v H1 al1 h1 o1 g1 r1 => ⟨ga, mu1, al1, hd, P, _, at_.to o1 g1, h1, fun o mu2 H2 al2 h2 o2 g2 => ⟨ga, mu2, al2, hd, P, _, at_.to o2 (g1.trans g2), h2, fun u mu3 H3 al3 h3 o3 g3 => ?_, kx.to (g1.trans g2)⟩, kx.to g1⟩⟩, kx⟩
  obtain ⟨rfl, h4⟩ := h3
  cases r1
  exact ⟨a, ns.map V.int, rfl, hS H3, fun b hb => (kv.to ((g1.trans g2).trans g3)).listN (m := 0) o3 hb (RepL.cutI ns o u) h4⟩
theorem d_sliceF {e : Expr} {lo hi : Option Expr} {de : DE} {dl dh : DO} {pos p2 : Pos} (he : PE X e (liftE X.K W de)) (hl : PO X lo (liftO X.K W dl)) (hu : PO X hi (liftO X.K W dh)) : PE X (.Subscript e (.Slice lo hi none p2) pos) (liftE X.K W (dSlG gSlF de dl dh)) := by
  refine pe_wk (pe_slice sl_list he hl hu) fun sg H Q ⟨ga, mu, al, hd, P, F, at_, h, kv, kx⟩ => ?_
  refine ⟨ga, mu, al, hd, P, _, at_, h, ⟨fun d mu1 v H1 al1 h1 o1 g1 r1 => ⟨ga, mu1, al1, hd, P, _, at_.to o1 g1, h1, fun o mu2 H2 al2 h2 o2 g2 => ⟨ga, mu2, al2, hd, P, _, at_.to o2 (g1.trans g2), h2, fun u mu3 H3 al3 h3 o3 g3 => ?_, kx.to (g1.trans g2)⟩, kx.to g1⟩⟩, kx⟩
  obtain ⟨l, hl3, h4⟩ := h3
  have g13 := (g1.trans g2).trans g3
  have r3 := r1.fz (g2.trans g3).frz (g2.trans g3).pre
  obtain ⟨p, xs, rfl, e1, s1⟩ := r3.lv o3 hl3
  exact ⟨p, xs, rfl, .inl e1, fun b hb => (kv.to g13).listN (m := 0) o3 hb (s1.cut o u) h4⟩
end
/-- how the script is read -/
structure ScrR (K : PySem.W.Frag) (gl : GL) (gx : G2) (gs : GS) : Prop where
  len : ∀ X : Cx, X.K = K → CbS X (.builtin "len") gl
  ix : ∀ (X : Cx) (W : WX), X.K = K → ∀ (ea eb : Expr) (da db : DE) (pos : Pos), PE X ea (liftE X.K W da) → PE X eb (liftE X.K W db) → PlainIx eb → PE X (.Subscript ea eb pos) (liftE X.K W (dBin gx da db))
  sl : ∀ (X : Cx) (W : WX), X.K = K → ∀ (e : Expr) (lo hi : Option Expr) (de : DE) (dl dh : DO) (pos p2 : Pos), PE X e (liftE X.K W de) → PO X lo (liftO X.K W dl) → PO X hi (liftO X.K W dh) → PE X (.Subscript e (.Slice lo hi none p2) pos) (liftE X.K W (dSlG gs de dl dh))
theorem scrF (K : PySem.W.Frag) : ScrR K bLen gIx gSlF := ⟨fun X _ => b_len, fun X W _ ea eb da db pos ha hb hs => d_ix ha hb hs, fun X W _ e lo hi de dl dh pos p2 he hl hu => d_sliceF he hl hu⟩
theorem scrS {K : PySem.W.Frag} {a : Addr} {ns : List Int} (hS : ∀ H, SqL K H a (ns.map V.int)) : ScrR K (bLenS a ns) (gIxS a ns) (gSlS a ns) :=
  ⟨fun X e => b_lenS (by rw [e]; exact hS), fun X W e ea eb da db pos ha hb hs => d_ixS (by rw [e]; exact hS) ha hb hs, fun X W e e' lo hi de dl dh pos p2 he hl hu => d_sliceS (by rw [e]; exact hS) he hl hu⟩
end DX

/-! part DZ1 -/
/-! DZ1: zip of two or three, each a list or a tuple. -/
namespace DZ
open PySem PySem.F PySem.Spec PyProof.Rows L2
theorem ad {a b : Nat} (h : a < b ∨ b < a) : a ≠ b := by omega
def AIt (h : Heap) : Bool → Addr → Addr → Nat → Prop
  | true, it, l, i => h.IsListIter it l i
  | false, it, l, i => h.IsTupleIter it l i
def ASq (h : Heap) : Bool → Addr → Array Value → Prop
  | true, l, xs => h.IsList l xs
  | false, l, xs => h.IsTuple l xs
def itO : Bool → Addr → Obj
  | true, l => { cls := .type "list_iterator", data := .fields #[.ref l, .int 0 0] }
  | false, l => { cls := .type "tuple_iterator", data := .fields #[.ref l, .int 0 0] }
abbrev TupA (h : Heap) (T : Addr) (xs : Array Value) : Prop := h.get? T = some { cls := .type "tuple", data := .seq xs }
theorem AIt.ext {h h' : Heap} {k : Bool} {it l b : Addr} {i : Nat} (x : AIt h k it l i) (hs : Heap.ExtBut b h h') (n : it ≠ b) : AIt h' k it l i := by
  cases k
  · exact Heap.IsTupleIter.extBut x hs n
  · exact Heap.IsListIter.extBut x hs n
theorem AIt.at {h h' : Heap} {k : Bool} {it l : Addr} {i : Nat} (x : AIt h k it l i) (e : ∀ o, h.get? it = some o → h'.get? it = some o) : AIt h' k it l i := by
  cases k
  · exact Heap.IsTupleIter.at x e
  · exact Heap.IsListIter.at x e
theorem AIt.get {h : Heap} {k : Bool} {it l : Addr} {i : Nat} (x : AIt h k it l i) : ∃ o, h.get? it = some o ∧ o.data = .fields #[.ref l, .int i 0] := by
  cases k
  · obtain ⟨o, e, _, d⟩ := x
    exact ⟨o, e, d⟩
  · obtain ⟨o, e, _, d⟩ := x
    exact ⟨o, e, d⟩
theorem AIt.new {h : Heap} {k : Bool} {it l : Addr} (x : h.get? it = some (itO k l)) : AIt h k it l 0 := by
  cases k
  · exact ⟨_, x, rfl, rfl⟩
  · exact ⟨_, x, rfl, rfl⟩
theorem itO_free (k : Bool) (l : Addr) : (itO k l).isFreed = false := by cases k <;> rfl
theorem ASq.ext {h h' : Heap} {k : Bool} {l b : Addr} {xs : Array Value} (x : ASq h k l xs) (hs : Heap.ExtBut b h h') (n : l ≠ b) : ASq h' k l xs := by
  cases k
  · exact Heap.IsTuple.extBut x hs n
  · exact Heap.IsList.extBut x hs n
theorem ASq.push {h : Heap} {k : Bool} {l : Addr} {xs : Array Value} (x : ASq h k l xs) (o : Obj) : ASq (h.push o) k l xs := by
  cases k
  · exact Heap.IsTuple.push x o
  · exact Heap.IsList.push x o
section
variable {prog : Program} {w : World} {A : Around} {E : Value → Shared → Prop} {s : Shared}
theorem next_item {k : Bool} {it l : Addr} {i : Nat} {items} {x : Value} {Q : Value → Shared → Prop} (hit : AIt s.heap k it l i)
    (hl : ASq s.heap k l items) (hx : items[i]? = some x)
    (hQ : ∀ h', AIt h' k it l (i + 1) → Heap.SameBut it s.heap h' → Q x { s with heap := h' }) :
    wpAny (model prog w) A (Builtin.SmallTypes.nextOf (.ref it)) Q E s := by
  cases k
  · exact RZ.nextOf_tuple_item hit hl hx hQ
  · exact wpAny_nextOf_list_item hit hl hx hQ
theorem next_end {k : Bool} {it l : Addr} {i : Nat} {items} {Q : Value → Shared → Prop} (hh : A.handled = none)
    (hit : AIt s.heap k it l i) (hl : ASq s.heap k l items) (hx : items[i]? = none)
    (hE : ∀ h' e, Heap.ExtBut it s.heap h' → (∃ o, h'.get? e = some o ∧ o.cls = .type "StopIteration") → E (.ref e) { s with heap := h' }) :
    wpAny (model prog w) A (Builtin.SmallTypes.nextOf (.ref it)) Q E s := by
  cases k
  · exact RZ.nextOf_tuple_end hh hit hl hx hE
  · exact wpAny_nextOf_list_end hh hit hl hx hE
theorem iter_any {k : Bool} {l : Addr} {items} {Q : Value → Shared → Prop} (ht : ASq s.heap k l items)
    (hQ : Q (.ref s.heap.objs.size) { s with heap := s.heap.push (itO k l) }) :
    wpAny (model prog w) A (pyIter (.ref l)) Q E s := by
  cases k
  · exact wpAny_pyIter_tuple ht hQ
  · exact wpAny_pyIter_list ht hQ
theorem updateSeq_arr {T : Addr} {arr : Array Value} {x : Value} {k : Nat} {Q : Unit → Shared → Prop} (h3 : arr.size ≤ 3) (hT : TupA s.heap T arr)
    (h : ∀ h', TupA h' T (arr.setIfInBounds k x) → Heap.SameBut T s.heap h' → Q () { s with heap := h' }) :
    wpAny (model prog w) A (updateSeq T (·.setIfInBounds k x)) Q E s := by
  refine wpAny_updateSeq hT rfl (h _ ?_ (Heap.SameBut.update ..)) (by have : (3 : Nat) ≤ sizeLine := (by decide); omega) (by have : (3 : Nat) ≤ sizeLine := (by decide); rw [Array.size_setIfInBounds]; omega)
  rw [TupA, Heap.get?_update_self _ hT rfl]
  simp [Obj.mapSeq]
end
theorem typeCall_zip_3 (a b c : Value) : checkTypeCall "zip" ⟨[a, b, c], []⟩ = pure () := by kernel_rfl
theorem newCall_zip_3 (a b c : Value) : checkBuiltinCall "zip.__new__" ⟨[.type "zip", a, b, c], []⟩ = pure () := by kernel_rfl
theorem args_object_init_4 (a b c d : Value) : argsOk "object.__init__" ⟨[a, b, c, d], []⟩ := by
  unfold argsOk; rw [signature?_of (id := "object.__init__") (n := ['_', '_', 't', 'i', 'n', 'i', '_', '_']) (o := ['t', 'c', 'e', 'j', 'b', 'o']) (by kernel_rfl) owner_object]; kernel_rfl

def SqA (K : PySem.W.Frag) (H : Hp) : Bool → Addr → List V → Prop
  | true, a, xs => SqL K H a xs
  | false, a, xs => SqT K H a xs
theorem sqa_at {X : Cx} {pins : List (Addr × Obj)} {σ : L2.St} {H : Hp} {s : Shared} {b : Bool} {a : Addr} {xs : List V} (I : Inv X pins σ H s) (h : SqA X.K H b a xs) : ∃ its : List Value, Vals xs its ∧ ASq s.heap b a its.toArray := by
  cases b
  · obtain ⟨its, rv, p, _⟩ := I.tuple h
    exact ⟨its, rv, p⟩
  · obtain ⟨its, rv, p, _⟩ := I.list h
    exact ⟨its, rv, p.isList⟩
theorem sqa_inj {X : Cx} {pins : List (Addr × Obj)} {σ : L2.St} {H : Hp} {s : Shared} {b : Bool} {a : Addr} {xs ys : List V} (I : Inv X pins σ H s) (h : SqA X.K H b a xs) (h' : SqA X.K H b a ys) : xs = ys := by
  cases b
  · exact I.tuple_inj h h'
  · exact I.list_inj h h'
theorem asq_lt {h : Heap} {b : Bool} {a : Addr} {xs : Array Value} (p : ASq h b a xs) : a < h.objs.size := by
  cases b
  · obtain ⟨o, e, _⟩ := p
    exact Heap.lt_size e
  · obtain ⟨o, e, _⟩ := p
    exact Heap.lt_size e
theorem vals_cons {x : V} {xs : List V} {us : List Value} (r : Vals (x :: xs) us) : ∃ v vs, us = v :: vs ∧ RelV x v ∧ Vals xs vs := by
  cases r with
  | cons a b => exact ⟨_, _, rfl, a, b⟩
section
variable {prog : Program} {w : World} {A : Around} {E : Value → Shared → Prop} {s : Shared}
theorem zn2_item {I : Nat} {l1 l2 : Nat} {b1 b2 : Bool} {k : Nat} {xs1 xs2 : Array Value} {y1 y2 : Value} {x1 x2 : Value} {Q : Value → Shared → Prop} (L1 : l1 < I) (L2 : l2 < I)
    (hz : IsZip s.heap (I + 4) (I + 2) (I + 3) .none) (hTI : TupA s.heap (I + 2) #[.ref I, .ref (I + 1)]) (hTO : TupA s.heap (I + 3) #[y1, y2]) (it1 : AIt s.heap b1 I l1 k) (it2 : AIt s.heap b2 (I + 1) l2 k) (sq1 : ASq s.heap b1 l1 xs1) (sq2 : ASq s.heap b2 l2 xs2) (e1 : xs1[k]? = some x1) (e2 : xs2[k]? = some x2)
    (hQ : ∀ h', IsZip h' (I + 4) (I + 2) (I + 3) (rawInt s.heap.objs.size) → TupA h' (I + 3) #[x1, x2] → AIt h' b1 I l1 (k + 1) → AIt h' b2 (I + 1) l2 (k + 1) → TupA h' s.heap.objs.size #[x1, x2] → h'.objs.size = s.heap.objs.size + 1 → (∀ (c : Nat) o, (c < I ∨ c = I + 2 ∨ I + 4 < c) → s.heap.get? c = some o → h'.get? c = some o) → Q (.ref s.heap.objs.size) { s with heap := h' }) :
    wpAny (model prog w) A (Builtin.«zip.__next__» ⟨[.ref (I + 4)], []⟩) (fun fin s' => ∃ v, fin = .done (.ret v) ∧ Q v s') E s := by
  show wpAny _ _ (field (.ref (I + 4)) 2 >>= _) _ _ _
  refine wpAny_bind (wpAny_field hz rfl (x := .bool false) rfl ?_)
  show wpAny _ _ (field (.ref (I + 4)) 3 >>= _) _ _ _
  refine wpAny_bind (wpAny_field hz rfl (x := .ref (I + 2)) rfl ?_)
  refine wpAny_bind (wpAny_seqItems hTI rfl ?_)
  show wpAny _ _ (Builtin.SmallTypes.ownedTupleIsFree (.ref (I + 4)) >>= _) _ _ _
  refine wpAny_bind ?_
  unfold Builtin.SmallTypes.ownedTupleIsFree
  refine wpAny_bind (wpAny_field hz rfl (x := .none) rfl (wpAny_pure ?_))
  simp only [if_true]
  refine wpAny_bind (wpAny_rule ?_)
  refine wpAny_bind (wpAny_field hz rfl (x := .ref (I + 3)) rfl ?_)
  refine wpAny_bind (wpAny_setField_rec hz (by simp) fun g hz1 hs => ?_)
  have hk : ∀ (c : Nat) o, (c < I ∨ c = I + 2 ∨ I + 4 < c) → s.heap.get? c = some o → g.get? c = some o := fun c o hc e => hs.extBut _ _ (by first | omega | exact ad (by omega)) e
  have hsz : g.objs.size = s.heap.objs.size := hs.1
  replace hz : IsZip g (I + 4) (I + 2) (I + 3) .ellipsis := hz1
  replace hTO := hs.extBut _ _ (by first | omega | exact ad (by omega)) hTO
  replace it1 := it1.ext hs.extBut (by first | omega | exact ad (by omega))
  replace sq1 := sq1.ext hs.extBut (by first | omega | exact ad (by omega))
  replace it2 := it2.ext hs.extBut (by first | omega | exact ad (by omega))
  replace sq2 := sq2.ext hs.extBut (by first | omega | exact ad (by omega))
  clear hz1 hs
  refine wpAny_bind ?_
  simp only [List.zipIdx_cons, List.zipIdx_nil, List.forIn_cons, List.forIn_nil]
  refine wpAny_bind (wpAny_bind (wpAny_onRaise ?_))
  show wpAny _ _ (Builtin.SmallTypes.nextOf (.ref I) >>= _) _ _ _
  refine wpAny_bind (next_item it1 sq1 e1 fun g1 it1' hs => wpAny_pure ?_)
  clear it1
  have it1 := it1'
  clear it1'
  replace hz := hs.extBut _ _ (by first | omega | exact ad (by omega)) hz
  replace hTO := hs.extBut _ _ (by first | omega | exact ad (by omega)) hTO
  replace sq1 := sq1.ext hs.extBut (by first | omega | exact ad (by omega))
  replace it2 := it2.ext hs.extBut (by first | omega | exact ad (by omega))
  replace sq2 := sq2.ext hs.extBut (by first | omega | exact ad (by omega))
  replace hk : ∀ (c : Nat) o, (c < I ∨ c = I + 2 ∨ I + 4 < c) → s.heap.get? c = some o → g1.get? c = some o := fun c o hc e => hs.extBut _ _ (by first | omega | exact ad (by omega)) (hk c o hc e)
  replace hsz : g1.objs.size = s.heap.objs.size := by rw [hs.1, hsz]
  clear hs
  refine wpAny_bind (wpAny_seqItems hTO rfl ?_)
  refine wpAny_bind (updateSeq_arr (by simp) hTO fun g2 hTO1 hs => ?_)
  replace hTO : TupA g2 (I + 3) #[x1, y2] := hTO1
  clear hTO1
  replace hz := hs.extBut _ _ (by first | omega | exact ad (by omega)) hz
  replace it1 := it1.ext hs.extBut (by first | omega | exact ad (by omega))
  replace sq1 := sq1.ext hs.extBut (by first | omega | exact ad (by omega))
  replace it2 := it2.ext hs.extBut (by first | omega | exact ad (by omega))
  replace sq2 := sq2.ext hs.extBut (by first | omega | exact ad (by omega))
  replace hk : ∀ (c : Nat) o, (c < I ∨ c = I + 2 ∨ I + 4 < c) → s.heap.get? c = some o → g2.get? c = some o := fun c o hc e => hs.extBut _ _ (by first | omega | exact ad (by omega)) (hk c o hc e)
  replace hsz : g2.objs.size = s.heap.objs.size := by rw [hs.1, hsz]
  clear hs
  refine wpAny_bind (wpAny_letGo (wpAny_pure ?_))
  refine wpAny_bind (wpAny_bind (wpAny_onRaise ?_))
  show wpAny _ _ (Builtin.SmallTypes.nextOf (.ref (I + 1)) >>= _) _ _ _
  refine wpAny_bind (next_item it2 sq2 e2 fun g1 it2' hs => wpAny_pure ?_)
  clear it2
  have it2 := it2'
  clear it2'
  replace hz := hs.extBut _ _ (by first | omega | exact ad (by omega)) hz
  replace hTO := hs.extBut _ _ (by first | omega | exact ad (by omega)) hTO
  replace it1 := it1.ext hs.extBut (by first | omega | exact ad (by omega))
  replace sq1 := sq1.ext hs.extBut (by first | omega | exact ad (by omega))
  replace sq2 := sq2.ext hs.extBut (by first | omega | exact ad (by omega))
  replace hk : ∀ (c : Nat) o, (c < I ∨ c = I + 2 ∨ I + 4 < c) → s.heap.get? c = some o → g1.get? c = some o := fun c o hc e => hs.extBut _ _ (by first | omega | exact ad (by omega)) (hk c o hc e)
  replace hsz : g1.objs.size = s.heap.objs.size := by rw [hs.1, hsz]
  clear hs
  refine wpAny_bind (wpAny_seqItems hTO rfl ?_)
  refine wpAny_bind (updateSeq_arr (by simp) hTO fun g2 hTO1 hs => ?_)
  replace hTO : TupA g2 (I + 3) #[x1, x2] := hTO1
  clear hTO1
  replace hz := hs.extBut _ _ (by first | omega | exact ad (by omega)) hz
  replace it1 := it1.ext hs.extBut (by first | omega | exact ad (by omega))
  replace sq1 := sq1.ext hs.extBut (by first | omega | exact ad (by omega))
  replace it2 := it2.ext hs.extBut (by first | omega | exact ad (by omega))
  replace sq2 := sq2.ext hs.extBut (by first | omega | exact ad (by omega))
  replace hk : ∀ (c : Nat) o, (c < I ∨ c = I + 2 ∨ I + 4 < c) → s.heap.get? c = some o → g2.get? c = some o := fun c o hc e => hs.extBut _ _ (by first | omega | exact ad (by omega)) (hk c o hc e)
  replace hsz : g2.objs.size = s.heap.objs.size := by rw [hs.1, hsz]
  clear hs
  refine wpAny_bind (wpAny_letGo (wpAny_pure (wpAny_pure ?_)))
  refine wpAny_bind (wpAny_seqItems hTO rfl ?_)
  refine wpAny_bind (wpAny_newTuple ?_)
  have hzlt : (I + 4) < g2.objs.size := Heap.lt_size hz
  have hTOlt : (I + 3) < g2.objs.size := Heap.lt_size hTO
  show wpAny _ _ (Builtin.SmallTypes.ownedTupleHandOut (.ref (I + 4)) (.ref g2.objs.size) >>= _) _ _ _
  refine wpAny_bind ?_
  unfold Builtin.SmallTypes.ownedTupleHandOut
  have hz₆ : IsZip (g2.push { cls := .type "tuple", data := .seq #[x1, x2] }) (I + 4) (I + 2) (I + 3) .ellipsis := Heap.get?_push_of_some _ hz
  refine wpAny_bind (wpAny_setField_rec hz₆ (by simp) fun h₇ hz₇ hs₇ => ?_)
  replace hz₇ : IsZip h₇ (I + 4) (I + 2) (I + 3) (rawInt g2.objs.size) := hz₇
  refine wpAny_setField_rec hz₇ (by simp) fun h₈ hz₈ hs₈ => ?_
  replace hz₈ : IsZip h₈ (I + 4) (I + 2) (I + 3) (rawInt g2.objs.size) := hz₈
  have up : ∀ (c : Nat) o, c ≠ (I + 4) → g2.get? c = some o → h₈.get? c = some o := fun c o c1 e => hs₈.extBut _ _ c1 (hs₇.extBut _ _ c1 (Heap.get?_push_of_some _ e))
  have hT₈ : TupA h₈ g2.objs.size #[x1, x2] := hs₈.extBut _ _ (Nat.ne_of_gt hzlt) (hs₇.extBut _ _ (Nat.ne_of_gt hzlt) (Heap.get?_push_size _ rfl))
  have hz8 : h₈.objs.size = g2.objs.size + 1 := by rw [hs₈.1, hs₇.1, Heap.size_push]
  rw [hsz] at hz₈ hT₈ hz8
  refine wpAny_pure ⟨_, rfl, ?_⟩
  show Q (.ref g2.objs.size) _
  rw [hsz]
  exact hQ h₈ hz₈ (up _ _ (by first | omega | exact ad (by omega)) hTO) (it1.at fun o e => up _ o (by first | omega | exact ad (by omega)) e) (it2.at fun o e => up _ o (by first | omega | exact ad (by omega)) e) hT₈ hz8 fun c o hc e => up c o (by first | omega | exact ad (by omega)) (hk c o hc e)
theorem zn2_end {I : Nat} {l1 l2 : Nat} {b1 b2 : Bool} {k : Nat} {xs1 xs2 : Array Value} {y1 y2 : Value} {Q : Fin → Shared → Prop} (hh : A.handled = none) (L1 : l1 < I) (L2 : l2 < I)
    (hz : IsZip s.heap (I + 4) (I + 2) (I + 3) .none) (hTI : TupA s.heap (I + 2) #[.ref I, .ref (I + 1)]) (hTO : TupA s.heap (I + 3) #[y1, y2]) (it1 : AIt s.heap b1 I l1 k) (it2 : AIt s.heap b2 (I + 1) l2 k) (sq1 : ASq s.heap b1 l1 xs1) (sq2 : ASq s.heap b2 l2 xs2) (hend : xs1[k]? = none ∨ xs2[k]? = none)
    (hE : ∀ h' e, (∀ (c : Nat) o, (c < I ∨ c = I + 2 ∨ I + 4 < c) → s.heap.get? c = some o → h'.get? c = some o) → (∃ o, h'.get? e = some o ∧ o.cls = .type "StopIteration") → E (.ref e) { s with heap := h' }) :
    wpAny (model prog w) A (Builtin.«zip.__next__» ⟨[.ref (I + 4)], []⟩) Q E s := by
  show wpAny _ _ (field (.ref (I + 4)) 2 >>= _) _ _ _
  refine wpAny_bind (wpAny_field hz rfl (x := .bool false) rfl ?_)
  show wpAny _ _ (field (.ref (I + 4)) 3 >>= _) _ _ _
  refine wpAny_bind (wpAny_field hz rfl (x := .ref (I + 2)) rfl ?_)
  refine wpAny_bind (wpAny_seqItems hTI rfl ?_)
  show wpAny _ _ (Builtin.SmallTypes.ownedTupleIsFree (.ref (I + 4)) >>= _) _ _ _
  refine wpAny_bind ?_
  unfold Builtin.SmallTypes.ownedTupleIsFree
  refine wpAny_bind (wpAny_field hz rfl (x := .none) rfl (wpAny_pure ?_))
  simp only [if_true]
  refine wpAny_bind (wpAny_rule ?_)
  refine wpAny_bind (wpAny_field hz rfl (x := .ref (I + 3)) rfl ?_)
  refine wpAny_bind (wpAny_setField_rec hz (by simp) fun g hz1 hs => ?_)
  have hk : ∀ (c : Nat) o, (c < I ∨ c = I + 2 ∨ I + 4 < c) → s.heap.get? c = some o → g.get? c = some o := fun c o hc e => hs.extBut _ _ (by first | omega | exact ad (by omega)) e
  have hsz : g.objs.size = s.heap.objs.size := hs.1
  replace hz : IsZip g (I + 4) (I + 2) (I + 3) .ellipsis := hz1
  replace hTO := hs.extBut _ _ (by first | omega | exact ad (by omega)) hTO
  replace it1 := it1.ext hs.extBut (by first | omega | exact ad (by omega))
  replace sq1 := sq1.ext hs.extBut (by first | omega | exact ad (by omega))
  replace it2 := it2.ext hs.extBut (by first | omega | exact ad (by omega))
  replace sq2 := sq2.ext hs.extBut (by first | omega | exact ad (by omega))
  clear hz1 hs
  refine wpAny_bind ?_
  simp only [List.zipIdx_cons, List.zipIdx_nil, List.forIn_cons, List.forIn_nil]
  refine wpAny_bind (wpAny_bind (wpAny_onRaise ?_))
  show wpAny _ _ (Builtin.SmallTypes.nextOf (.ref I) >>= _) _ _ _
  cases e1 : xs1[k]? with
  | none =>
    refine wpAny_bind (next_end hh it1 sq1 e1 fun g3 e hs he => ?_)
    obtain ⟨oe, hoe, hce⟩ := he
    replace hz : IsZip g3 (I + 4) (I + 2) (I + 3) .ellipsis := hs _ _ (by first | omega | exact ad (by omega)) hz
    have hez : e ≠ (I + 4) := fun x => by subst x; rw [hz] at hoe; cases hoe; simp at hce
    refine wpAny_setField_rec hz (by simp) fun g4 _ hs4 => hE g4 e (fun c o hc x => hs4.extBut _ _ (by first | omega | exact ad (by omega)) (hs _ _ (by first | omega | exact ad (by omega)) (hk c o hc x))) ⟨oe, hs4.extBut _ _ hez hoe, hce⟩
  | some x1 =>
    refine wpAny_bind (next_item it1 sq1 e1 fun g1 it1' hs => wpAny_pure ?_)
    clear it1
    have it1 := it1'
    clear it1'
    replace hz := hs.extBut _ _ (by first | omega | exact ad (by omega)) hz
    replace hTO := hs.extBut _ _ (by first | omega | exact ad (by omega)) hTO
    replace sq1 := sq1.ext hs.extBut (by first | omega | exact ad (by omega))
    replace it2 := it2.ext hs.extBut (by first | omega | exact ad (by omega))
    replace sq2 := sq2.ext hs.extBut (by first | omega | exact ad (by omega))
    replace hk : ∀ (c : Nat) o, (c < I ∨ c = I + 2 ∨ I + 4 < c) → s.heap.get? c = some o → g1.get? c = some o := fun c o hc e => hs.extBut _ _ (by first | omega | exact ad (by omega)) (hk c o hc e)
    replace hsz : g1.objs.size = s.heap.objs.size := by rw [hs.1, hsz]
    clear hs
    refine wpAny_bind (wpAny_seqItems hTO rfl ?_)
    refine wpAny_bind (updateSeq_arr (by simp) hTO fun g2 hTO1 hs => ?_)
    replace hTO : TupA g2 (I + 3) #[x1, y2] := hTO1
    clear hTO1
    replace hz := hs.extBut _ _ (by first | omega | exact ad (by omega)) hz
    replace it1 := it1.ext hs.extBut (by first | omega | exact ad (by omega))
    replace sq1 := sq1.ext hs.extBut (by first | omega | exact ad (by omega))
    replace it2 := it2.ext hs.extBut (by first | omega | exact ad (by omega))
    replace sq2 := sq2.ext hs.extBut (by first | omega | exact ad (by omega))
    replace hk : ∀ (c : Nat) o, (c < I ∨ c = I + 2 ∨ I + 4 < c) → s.heap.get? c = some o → g2.get? c = some o := fun c o hc e => hs.extBut _ _ (by first | omega | exact ad (by omega)) (hk c o hc e)
    replace hsz : g2.objs.size = s.heap.objs.size := by rw [hs.1, hsz]
    clear hs
    refine wpAny_bind (wpAny_letGo (wpAny_pure ?_))
    refine wpAny_bind (wpAny_bind (wpAny_onRaise ?_))
    show wpAny _ _ (Builtin.SmallTypes.nextOf (.ref (I + 1)) >>= _) _ _ _
    have e2 : xs2[k]? = none := by
      rcases hend with q | q
      · rw [e1] at q; cases q
      · exact q
    refine wpAny_bind (next_end hh it2 sq2 e2 fun g3 e hs he => ?_)
    obtain ⟨oe, hoe, hce⟩ := he
    replace hz : IsZip g3 (I + 4) (I + 2) (I + 3) .ellipsis := hs _ _ (by first | omega | exact ad (by omega)) hz
    have hez : e ≠ (I + 4) := fun x => by subst x; rw [hz] at hoe; cases hoe; simp at hce
    refine wpAny_setField_rec hz (by simp) fun g4 _ hs4 => hE g4 e (fun c o hc x => hs4.extBut _ _ (by first | omega | exact ad (by omega)) (hs _ _ (by first | omega | exact ad (by omega)) (hk c o hc x))) ⟨oe, hs4.extBut _ _ hez hoe, hce⟩
theorem py2_item {I : Nat} {l1 l2 : Nat} {b1 b2 : Bool} {k : Nat} {xs1 xs2 : Array Value} {y1 y2 : Value} {x1 x2 : Value} {Q : Option Value → Shared → Prop} (L1 : l1 < I) (L2 : l2 < I)
    (hz : IsZip s.heap (I + 4) (I + 2) (I + 3) .none) (hTI : TupA s.heap (I + 2) #[.ref I, .ref (I + 1)]) (hTO : TupA s.heap (I + 3) #[y1, y2]) (it1 : AIt s.heap b1 I l1 k) (it2 : AIt s.heap b2 (I + 1) l2 k) (sq1 : ASq s.heap b1 l1 xs1) (sq2 : ASq s.heap b2 l2 xs2) (e1 : xs1[k]? = some x1) (e2 : xs2[k]? = some x2)
    (hQ : ∀ h', IsZip h' (I + 4) (I + 2) (I + 3) (rawInt s.heap.objs.size) → TupA h' (I + 3) #[x1, x2] → AIt h' b1 I l1 (k + 1) → AIt h' b2 (I + 1) l2 (k + 1) → TupA h' s.heap.objs.size #[x1, x2] → h'.objs.size = s.heap.objs.size + 1 → (∀ (c : Nat) o, (c < I ∨ c = I + 2 ∨ I + 4 < c) → s.heap.get? c = some o → h'.get? c = some o) → Q (some (.ref s.heap.objs.size)) { s with heap := h' }) :
    wpAny (model prog w) A (pyNext (.ref (I + 4))) Q E s := by
  have hT : s.TypeIs (.ref (I + 4)) "zip" := ⟨_, hz, rfl⟩
  unfold pyNext
  exact wpAny_bind (wpAny_attempt (wpAny_callSpecial?_slot (name := Str.ofString "__next__") hT F.slot_zip_next
    (wpAny_call_entry F.slot_zip_next hT F.entry_zip_next
      (zn2_item L1 L2 hz hTI hTO it1 it2 sq1 sq2 e1 e2 fun h' a0 a1 a2 a3 a4 a5 a6 => wpAny_pure (hQ h' a0 a1 a2 a3 a4 a5 a6)) (F.args_zip_next_1 _))))
theorem py2_end {I : Nat} {l1 l2 : Nat} {b1 b2 : Bool} {k : Nat} {xs1 xs2 : Array Value} {y1 y2 : Value} {Q : Option Value → Shared → Prop} (hh : A.handled = none) (L1 : l1 < I) (L2 : l2 < I)
    (hz : IsZip s.heap (I + 4) (I + 2) (I + 3) .none) (hTI : TupA s.heap (I + 2) #[.ref I, .ref (I + 1)]) (hTO : TupA s.heap (I + 3) #[y1, y2]) (it1 : AIt s.heap b1 I l1 k) (it2 : AIt s.heap b2 (I + 1) l2 k) (sq1 : ASq s.heap b1 l1 xs1) (sq2 : ASq s.heap b2 l2 xs2) (hend : xs1[k]? = none ∨ xs2[k]? = none)
    (hQ : ∀ h', (∀ (c : Nat) o, (c < I ∨ c = I + 2 ∨ I + 4 < c) → s.heap.get? c = some o → h'.get? c = some o) → Q none { s with heap := h' }) : wpAny (model prog w) A (pyNext (.ref (I + 4))) Q E s := by
  have hT : s.TypeIs (.ref (I + 4)) "zip" := ⟨_, hz, rfl⟩
  unfold pyNext
  refine wpAny_bind (wpAny_attempt (wpAny_callSpecial?_slot (name := Str.ofString "__next__") hT F.slot_zip_next
    (wpAny_call_entry F.slot_zip_next hT F.entry_zip_next (zn2_end hh L1 L2 hz hTI hTO it1 it2 sq1 sq2 hend fun h' e hk he => ?_) (F.args_zip_next_1 _))))
  obtain ⟨o, ho, hc⟩ := he
  refine wpAny_bind (wpAny_isInstance (T := "StopIteration") (b := true) ⟨o, ho, hc⟩ isSubtype_stop ?_)
  exact wpAny_pure (hQ _ hk)
end
abbrev zH21 (h : Heap) (b1 : Bool) (l1 : Nat) : Heap := h.push (itO b1 l1)
abbrev zH22 (h : Heap) (b1 : Bool) (l1 : Nat) (b2 : Bool) (l2 : Nat) : Heap := (zH21 h b1 l1).push (itO b2 l2)
abbrev zH2T (h : Heap) (b1 : Bool) (l1 : Nat) (b2 : Bool) (l2 : Nat) : Heap := (zH22 h b1 l1 b2 l2).push { cls := .type "tuple", data := .seq #[.ref h.objs.size, .ref (zH21 h b1 l1).objs.size] }
abbrev zH2O (h : Heap) (b1 : Bool) (l1 : Nat) (b2 : Bool) (l2 : Nat) : Heap := (zH2T h b1 l1 b2 l2).push { cls := .type "tuple", data := .seq #[.none, .none] }
abbrev zH2Z (h : Heap) (b1 : Bool) (l1 : Nat) (b2 : Bool) (l2 : Nat) : Heap := (zH2O h b1 l1 b2 l2).push { cls := .type "zip", data := .fields #[.none, .bool false, .bool false, .ref (zH22 h b1 l1 b2 l2).objs.size, .ref (zH2T h b1 l1 b2 l2).objs.size] }
theorem meets2 {b1 b2 : Bool} (l1 l2 : Nat) (xs1 xs2 : Array Value) :
    Meets (Builtin.«zip.__new__» ⟨[.type "zip", .ref l1, .ref l2], []⟩) (fun _ R s => ASq s.heap b1 l1 xs1 ∧ ASq s.heap b2 l2 xs2 ∧ R (.ok (.ret (.ref (zH2O s.heap b1 l1 b2 l2).objs.size))) { s with heap := zH2Z s.heap b1 l1 b2 l2 }) :=
  .of_wp fun prog w A R s h => by
    obtain ⟨hp, g, d, tk, os⟩ := s; obtain ⟨sq1, sq2, h⟩ := h
    have hsub := sub_zip
    have hL1 : ASq (Shared.heap ⟨hp, g, d, tk, os⟩) b1 l1 xs1 := sq1
    have hL2 : ASq (Shared.heap ⟨(hp).push (itO b1 l1), g, d, tk, os⟩) b2 l2 xs2 := sq2.push _
    wp_walk using iter_any hL1, iter_any hL2
    exact ⟨_, rfl, h⟩
section
variable {prog : Program} {w : World} {A : Around} {E : Value → Shared → Prop} {s : Shared}
theorem call2 {b1 b2 : Bool} {l1 l2 : Nat} {xs1 xs2 : Array Value} {Q : Value → Shared → Prop} (sq1 : ASq s.heap b1 l1 xs1) (sq2 : ASq s.heap b2 l2 xs2)
    (h : ∀ h', IsZip h' (s.heap.objs.size + 4) (s.heap.objs.size + 2) (s.heap.objs.size + 3) .none → TupA h' (s.heap.objs.size + 2) #[.ref s.heap.objs.size, .ref (s.heap.objs.size + 1)] → TupA h' (s.heap.objs.size + 3) #[.none, .none] → AIt h' b1 s.heap.objs.size l1 0 → AIt h' b2 (s.heap.objs.size + 1) l2 0 → h'.objs.size = s.heap.objs.size + 5 → (∀ c o, s.heap.get? c = some o → h'.get? c = some o) → Q (.ref (s.heap.objs.size + 4)) { s with heap := h' }) :
    wpAny (model prog w) A (call (.type "zip") [.ref l1, .ref l2]) Q E s := by
  refine callType_new F.called_zip (by decide) (F.typeCall_zip_2 _ _ ) (F.newCall_zip_2 _ _ ) (fun obj => F.args_object_init_3 obj _ _ ) F.entry_zip_new
    (meets2 l1 l2 xs1 xs2) ⟨sq1, sq2, ?_⟩
  have z1 : (zH21 s.heap b1 l1).objs.size = s.heap.objs.size + 1 := by rw [Heap.size_push]
  have z2 : (zH22 s.heap b1 l1 b2 l2).objs.size = s.heap.objs.size + 2 := by rw [Heap.size_push, z1]
  have z3 : (zH2T s.heap b1 l1 b2 l2).objs.size = s.heap.objs.size + 3 := by rw [Heap.size_push, z2]
  have z4 : (zH2O s.heap b1 l1 b2 l2).objs.size = s.heap.objs.size + 4 := by rw [Heap.size_push, z3]
  have z5 : (zH2Z s.heap b1 l1 b2 l2).objs.size = s.heap.objs.size + 5 := by rw [Heap.size_push, z4]
  have g1 : (zH2Z s.heap b1 l1 b2 l2).get? s.heap.objs.size = some _ := Heap.get?_push_of_some _ (Heap.get?_push_of_some _ (Heap.get?_push_of_some _ (Heap.get?_push_of_some _ (Heap.get?_push_size _ (itO_free b1 l1)))))
  have g2 : (zH2Z s.heap b1 l1 b2 l2).get? (zH21 s.heap b1 l1).objs.size = some _ := Heap.get?_push_of_some _ (Heap.get?_push_of_some _ (Heap.get?_push_of_some _ (Heap.get?_push_size _ (itO_free b2 l2))))
  have g3 : (zH2Z s.heap b1 l1 b2 l2).get? (zH22 s.heap b1 l1 b2 l2).objs.size = some _ := Heap.get?_push_of_some _ (Heap.get?_push_of_some _ (Heap.get?_push_size _ rfl))
  have g4 : (zH2Z s.heap b1 l1 b2 l2).get? (zH2T s.heap b1 l1 b2 l2).objs.size = some _ := Heap.get?_push_of_some _ (Heap.get?_push_size _ rfl)
  have g5 : (zH2Z s.heap b1 l1 b2 l2).get? (zH2O s.heap b1 l1 b2 l2).objs.size = some _ := Heap.get?_push_size _ rfl
  show _ ∧ _
  rw [z1] at g2
  rw [z1, z2] at g3
  rw [z3] at g4
  rw [z2, z3, z4] at g5
  rw [z4]
  exact ⟨⟨_, g5, rfl⟩, h _ g5 g3 g4 (AIt.new g1) (AIt.new g2) z5 fun c o x => Heap.get?_push_of_some _ (Heap.get?_push_of_some _ (Heap.get?_push_of_some _ (Heap.get?_push_of_some _ (Heap.get?_push_of_some _ (x)))))⟩
end
def ItA2 (K : PySem.W.Frag) (b1 b2 : Bool) (l1 l2 : Nat) : It :=
  ⟨fun i H => ∃ (xs1 xs2 : List V) (x1 x2 : V), SqA K H b1 l1 xs1 ∧ SqA K H b2 l2 xs2 ∧ xs1[i]? = some x1 ∧ xs2[i]? = some x2,
    fun i H v H' => ∃ T x1 x2, v = .ref T ∧ H T = none ∧ H' = upd H T (.tup [x1, x2]) ∧ (∀ xs, SqA K H b1 l1 xs → xs[i]? = some x1) ∧ (∀ xs, SqA K H b2 l2 xs → xs[i]? = some x2),
    fun i H => ∃ xs1 xs2 : List V, SqA K H b1 l1 xs1 ∧ SqA K H b2 l2 xs2 ∧ (xs1.length ≤ i ∨ xs2.length ≤ i)⟩
theorem out2 {I c : Nat} (h : ¬ c ∈ [(I + 4), (I + 2), (I + 3), I, (I + 1)]) : (c < I ∨ c = I + 2 ∨ I + 4 < c) := by
  simp at h
  omega
theorem turn2 {P : Program} {w : World} {K : PySem.W.Frag} {elts : List Expr} {kk : Nat} {tpos : Pos} {b1 b2 : Bool} {l1 l2 : Nat} {I : Nat} (L1 : l1 < I) (L2 : l2 < I) :
    Turn P w K (.Tuple elts kk tpos) (ItA2 K b1 b2 l1 l2) [(I + 4), (I + 2), (I + 3), I, (I + 1)] (I + 4) (fun i h => IsZip h (I + 4) (I + 2) (I + 3) .none ∧ TupA h (I + 2) #[.ref I, .ref (I + 1)] ∧ (∃ y1 y2, TupA h (I + 3) #[y1, y2]) ∧ AIt h b1 I l1 i ∧ AIt h b2 (I + 1) l2 i) where
  mem := by simp
  obj := fun i h st c hc => by
    obtain ⟨hz, hTI, ⟨y1, y2, hTO⟩, it1, it2⟩ := st
    have e' : c = (I + 4) ∨ c = (I + 2) ∨ c = (I + 3) ∨ c = I ∨ c = (I + 1) := by simpa using hc
    rcases e' with q | q | q | q | q
    · rw [q]; exact ⟨_, hz, fun v q => nomatch q⟩
    · rw [q]; exact ⟨_, hTI, fun v q => nomatch q⟩
    · rw [q]; exact ⟨_, hTO, fun v q => nomatch q⟩
    · rw [q]; obtain ⟨o, e, d⟩ := it1.get; exact ⟨o, e, fun v q => by rw [d] at q; cases q⟩
    · rw [q]; obtain ⟨o, e, d⟩ := it2.get; exact ⟨o, e, fun v q => by rw [d] at q; cases q⟩
  keep := fun i h h' st k => by
    obtain ⟨hz, hTI, ⟨y1, y2, hTO⟩, it1, it2⟩ := st
    exact ⟨k _ (by simp) _ hz, k _ (by simp) _ hTI, ⟨y1, y2, k _ (by simp) _ hTO⟩, it1.at fun o q => k _ (by simp) o q, it2.at fun o q => k _ (by simp) o q⟩
  item := by
    intro X hP hw hK hc i pins s σ H E Iv hf st hg
    subst hP hw hK
    obtain ⟨hz, hTI, ⟨y1, y2, hTO⟩, it1, it2⟩ := st
    obtain ⟨xs1, xs2, x1, x2, q1, q2, e1, e2⟩ := hg
    obtain ⟨its1, rv1, p1⟩ := sqa_at Iv q1
    obtain ⟨u1, hu1, ru1⟩ := rv1.get e1
    obtain ⟨its2, rv2, p2⟩ := sqa_at Iv q2
    obtain ⟨u2, hu2, ru2⟩ := rv2.get e2
    have hzl : (I + 4) < s.heap.objs.size := Heap.lt_size hz
    refine py2_item L1 L2 hz hTI hTO it1 it2 p1 p2 (x1 := u1) (x2 := u2) (by simpa using hu1) (by simpa using hu2) fun h' z' TO' it1w it2w hT hsz hk => ?_
    refine ⟨_, rfl, wpAny_letOwnedTupleGo_zip (s := { s with heap := h' }) z' fun h'' z'' sb => ?_⟩
    have hT2 : h''.get? s.heap.objs.size = some { cls := .type "tuple", data := .seq #[u1, u2] } := (sb.2 _ (Nat.ne_of_gt hzl)).trans hT
    have new : ObjOk X.prog X.w (upd H s.heap.objs.size (.tup [x1, x2])) h'' s.heap.objs.size (.tup [x1, x2]) :=
      ⟨by show 2 ≤ sizeLine; decide, [u1, u2], .cons ru1 (.cons ru2 .nil), ⟨_, hT2, rfl, _, rfl⟩⟩
    have I1 : Inv X pins σ (upd H s.heap.objs.size (.tup [x1, x2])) { s with heap := h'' } :=
      Iv.turnedNew (t' := s.toks) (ch := [(I + 4), (I + 2), (I + 3), I, (I + 1)]) (fun (c : Nat) o hb q => (sb.2 c (fun q' => hb (by simp [q']))).trans (hk c o (out2 hb) q)) hf (Nat.le_refl _) new
    refine ⟨.ref s.heap.objs.size, _, I1, rfl, ⟨_, x1, x2, rfl, Iv.hok.fresh (Nat.le_refl _), rfl, fun l hl => by rw [sqa_inj Iv hl q1]; exact e1, fun l hl => by rw [sqa_inj Iv hl q2]; exact e2⟩, ⟨z'', ?_, ⟨u1, u2, ?_⟩, ?_, ?_⟩, fun (c : Nat) hcm => ?_⟩
    · exact (sb.2 _ (by first | omega | exact ad (by omega))).trans (hk _ _ (by first | omega | exact ad (by omega)) hTI)
    · exact (sb.2 _ (by first | omega | exact ad (by omega))).trans TO'
    · exact it1w.at fun o q => (sb.2 _ (by first | omega | exact ad (by omega))).trans q
    · exact it2w.at fun o q => (sb.2 _ (by first | omega | exact ad (by omega))).trans q
    · have hlt : c < s.heap.objs.size := by
        have e' : c = (I + 4) ∨ c = (I + 2) ∨ c = (I + 3) ∨ c = I ∨ c = (I + 1) := by simpa using hcm
        omega
      rw [upd_ne (Nat.ne_of_lt hlt)]
      exact (hf c hcm).1
  done := by
    intro X hP hw hK hc i pins s σ H E Iv hf st hg
    subst hP hw hK
    obtain ⟨hz, hTI, ⟨y1, y2, hTO⟩, it1, it2⟩ := st
    obtain ⟨xs1, xs2, q1, q2, hend⟩ := hg
    obtain ⟨its1, rv1, p1⟩ := sqa_at Iv q1
    have m1 := rv1.length
    obtain ⟨its2, rv2, p2⟩ := sqa_at Iv q2
    have m2 := rv2.length
    have he : its1.toArray[i]? = none ∨ its2.toArray[i]? = none := by
      rcases hend with q | q
      · exact (.inl (by simp; first | omega | exact ad (by omega)))
      · exact (.inr (by simp; first | omega | exact ad (by omega)))
    exact py2_end (Iv.ok.hd hc) L1 L2 hz hTI hTO it1 it2 p1 p2 he fun h' hk => ⟨rfl, Iv.turnedL (t' := s.toks) (ch := [(I + 4), (I + 2), (I + 3), I, (I + 1)]) (fun (c : Nat) o hb q => hk c o (out2 hb) q) hf⟩
  self := fun A i s Q E st h => wpAny_pyIter_zip st.1 h
def iZA2 (K : PySem.W.Frag) (ta : TA) : TI := fun σ H R => ta σ H fun vs H1 => ∃ (b1 b2 : Bool) (l1 l2 : Nat) (xs1 xs2 : List V), vs = [.ref l1, .ref l2] ∧ SqA K H1 b1 l1 xs1 ∧ SqA K H1 b2 l2 xs2 ∧ R (ItA2 K b1 b2 l1 l2) H1
theorem pi2 {X : Cx} {a1 a2 : Expr} {ta : TA} {p pos tpos : Pos} {elts : List Expr} {kk : Nat} (hg : Gl X "zip") (hm : X.mg "zip" = none) (ha : PA X [a1, a2] ta)
    (hs : starEach [a1, a2] X.env = (false, eval a1 X.env) :: starEach [a2] X.env := by rfl) (hpl : (backTo pos (starEach [a2] X.env)).any (·.1) = false := by rfl) :
    PI X (.Tuple elts kk tpos) (.Call (.Name "zip" p) [a1, a2] [] pos) (iZA2 X.K ta) := by
  refine ⟨fun pins s σ H R I h => ?_⟩
  refine Call_ (ld_blt I hg hm PyProof.Rows.boot_zip (PyProof.Rows.callWith_type1 (thn (ha.run pos pins s σ H _ I h) fun us s1 ⟨vs, H1, I1, r1, q1⟩ => ?_) hs hpl))
  obtain ⟨b1, b2, l1, l2, xs1, xs2, ex, q1, q2, q⟩ := q1
  subst ex
  obtain ⟨v1, us1, rfl, w1, rr1⟩ := vals_cons r1
  obtain ⟨v2, us2, rfl, w2, rr2⟩ := vals_cons rr1
  cases rr2
  cases w1
  cases w2
  obtain ⟨its1, rv1, p1⟩ := sqa_at I1 q1
  have L1 := asq_lt p1
  obtain ⟨its2, rv2, p2⟩ := sqa_at I1 q2
  have L2 := asq_lt p2
  have fresh : ∀ c, c ∈ [(s1.heap.objs.size + 4), (s1.heap.objs.size + 2), (s1.heap.objs.size + 3), s1.heap.objs.size, (s1.heap.objs.size + 1)] → FpOk X pins H1 c := fun (c : Nat) hcm => by
    have hle : s1.heap.objs.size ≤ c := by
      have e' : c = (s1.heap.objs.size + 4) ∨ c = (s1.heap.objs.size + 2) ∨ c = (s1.heap.objs.size + 3) ∨ c = s1.heap.objs.size ∨ c = (s1.heap.objs.size + 1) := by simpa using hcm
      omega
    exact I1.fpOk hle (I1.hok.fresh hle)
  refine call2 p1 p2 ?_
  intro h' hz hTI hTO it1 it2 hsz hk
  refine wpAny_pyIter_zip hz ?_
  have I2 : Inv X pins σ H1 { s1 with heap := h' } := I1.kept (t' := s1.toks) hk
  exact ⟨s1.heap.objs.size + 4, [(s1.heap.objs.size + 4), (s1.heap.objs.size + 2), (s1.heap.objs.size + 3), s1.heap.objs.size, (s1.heap.objs.size + 1)], _, _, H1, rfl, I2, turn2 L1 L2, ⟨hz, hTI, ⟨_, _, hTO⟩, it1, it2⟩, fresh, q⟩
section
variable {prog : Program} {w : World} {A : Around} {E : Value → Shared → Prop} {s : Shared}
theorem zn3_item {I : Nat} {l1 l2 l3 : Nat} {b1 b2 b3 : Bool} {k : Nat} {xs1 xs2 xs3 : Array Value} {y1 y2 y3 : Value} {x1 x2 x3 : Value} {Q : Value → Shared → Prop} (L1 : l1 < I) (L2 : l2 < I) (L3 : l3 < I)
    (hz : IsZip s.heap (I + 5) (I + 3) (I + 4) .none) (hTI : TupA s.heap (I + 3) #[.ref I, .ref (I + 1), .ref (I + 2)]) (hTO : TupA s.heap (I + 4) #[y1, y2, y3]) (it1 : AIt s.heap b1 I l1 k) (it2 : AIt s.heap b2 (I + 1) l2 k) (it3 : AIt s.heap b3 (I + 2) l3 k) (sq1 : ASq s.heap b1 l1 xs1) (sq2 : ASq s.heap b2 l2 xs2) (sq3 : ASq s.heap b3 l3 xs3) (e1 : xs1[k]? = some x1) (e2 : xs2[k]? = some x2) (e3 : xs3[k]? = some x3)
    (hQ : ∀ h', IsZip h' (I + 5) (I + 3) (I + 4) (rawInt s.heap.objs.size) → TupA h' (I + 4) #[x1, x2, x3] → AIt h' b1 I l1 (k + 1) → AIt h' b2 (I + 1) l2 (k + 1) → AIt h' b3 (I + 2) l3 (k + 1) → TupA h' s.heap.objs.size #[x1, x2, x3] → h'.objs.size = s.heap.objs.size + 1 → (∀ (c : Nat) o, (c < I ∨ c = I + 3 ∨ I + 5 < c) → s.heap.get? c = some o → h'.get? c = some o) → Q (.ref s.heap.objs.size) { s with heap := h' }) :
    wpAny (model prog w) A (Builtin.«zip.__next__» ⟨[.ref (I + 5)], []⟩) (fun fin s' => ∃ v, fin = .done (.ret v) ∧ Q v s') E s := by
  show wpAny _ _ (field (.ref (I + 5)) 2 >>= _) _ _ _
  refine wpAny_bind (wpAny_field hz rfl (x := .bool false) rfl ?_)
  show wpAny _ _ (field (.ref (I + 5)) 3 >>= _) _ _ _
  refine wpAny_bind (wpAny_field hz rfl (x := .ref (I + 3)) rfl ?_)
  refine wpAny_bind (wpAny_seqItems hTI rfl ?_)
  show wpAny _ _ (Builtin.SmallTypes.ownedTupleIsFree (.ref (I + 5)) >>= _) _ _ _
  refine wpAny_bind ?_
  unfold Builtin.SmallTypes.ownedTupleIsFree
  refine wpAny_bind (wpAny_field hz rfl (x := .none) rfl (wpAny_pure ?_))
  simp only [if_true]
  refine wpAny_bind (wpAny_rule ?_)
  refine wpAny_bind (wpAny_field hz rfl (x := .ref (I + 4)) rfl ?_)
  refine wpAny_bind (wpAny_setField_rec hz (by simp) fun g hz1 hs => ?_)
  have hk : ∀ (c : Nat) o, (c < I ∨ c = I + 3 ∨ I + 5 < c) → s.heap.get? c = some o → g.get? c = some o := fun c o hc e => hs.extBut _ _ (by first | omega | exact ad (by omega)) e
  have hsz : g.objs.size = s.heap.objs.size := hs.1
  replace hz : IsZip g (I + 5) (I + 3) (I + 4) .ellipsis := hz1
  replace hTO := hs.extBut _ _ (by first | omega | exact ad (by omega)) hTO
  replace it1 := it1.ext hs.extBut (by first | omega | exact ad (by omega))
  replace sq1 := sq1.ext hs.extBut (by first | omega | exact ad (by omega))
  replace it2 := it2.ext hs.extBut (by first | omega | exact ad (by omega))
  replace sq2 := sq2.ext hs.extBut (by first | omega | exact ad (by omega))
  replace it3 := it3.ext hs.extBut (by first | omega | exact ad (by omega))
  replace sq3 := sq3.ext hs.extBut (by first | omega | exact ad (by omega))
  clear hz1 hs
  refine wpAny_bind ?_
  simp only [List.zipIdx_cons, List.zipIdx_nil, List.forIn_cons, List.forIn_nil]
  refine wpAny_bind (wpAny_bind (wpAny_onRaise ?_))
  show wpAny _ _ (Builtin.SmallTypes.nextOf (.ref I) >>= _) _ _ _
  refine wpAny_bind (next_item it1 sq1 e1 fun g1 it1' hs => wpAny_pure ?_)
  clear it1
  have it1 := it1'
  clear it1'
  replace hz := hs.extBut _ _ (by first | omega | exact ad (by omega)) hz
  replace hTO := hs.extBut _ _ (by first | omega | exact ad (by omega)) hTO
  replace sq1 := sq1.ext hs.extBut (by first | omega | exact ad (by omega))
  replace it2 := it2.ext hs.extBut (by first | omega | exact ad (by omega))
  replace sq2 := sq2.ext hs.extBut (by first | omega | exact ad (by omega))
  replace it3 := it3.ext hs.extBut (by first | omega | exact ad (by omega))
  replace sq3 := sq3.ext hs.extBut (by first | omega | exact ad (by omega))
  replace hk : ∀ (c : Nat) o, (c < I ∨ c = I + 3 ∨ I + 5 < c) → s.heap.get? c = some o → g1.get? c = some o := fun c o hc e => hs.extBut _ _ (by first | omega | exact ad (by omega)) (hk c o hc e)
  replace hsz : g1.objs.size = s.heap.objs.size := by rw [hs.1, hsz]
  clear hs
  refine wpAny_bind (wpAny_seqItems hTO rfl ?_)
  refine wpAny_bind (updateSeq_arr (by simp) hTO fun g2 hTO1 hs => ?_)
  replace hTO : TupA g2 (I + 4) #[x1, y2, y3] := hTO1
  clear hTO1
  replace hz := hs.extBut _ _ (by first | omega | exact ad (by omega)) hz
  replace it1 := it1.ext hs.extBut (by first | omega | exact ad (by omega))
  replace sq1 := sq1.ext hs.extBut (by first | omega | exact ad (by omega))
  replace it2 := it2.ext hs.extBut (by first | omega | exact ad (by omega))
  replace sq2 := sq2.ext hs.extBut (by first | omega | exact ad (by omega))
  replace it3 := it3.ext hs.extBut (by first | omega | exact ad (by omega))
  replace sq3 := sq3.ext hs.extBut (by first | omega | exact ad (by omega))
  replace hk : ∀ (c : Nat) o, (c < I ∨ c = I + 3 ∨ I + 5 < c) → s.heap.get? c = some o → g2.get? c = some o := fun c o hc e => hs.extBut _ _ (by first | omega | exact ad (by omega)) (hk c o hc e)
  replace hsz : g2.objs.size = s.heap.objs.size := by rw [hs.1, hsz]
  clear hs
  refine wpAny_bind (wpAny_letGo (wpAny_pure ?_))
  refine wpAny_bind (wpAny_bind (wpAny_onRaise ?_))
  show wpAny _ _ (Builtin.SmallTypes.nextOf (.ref (I + 1)) >>= _) _ _ _
  refine wpAny_bind (next_item it2 sq2 e2 fun g1 it2' hs => wpAny_pure ?_)
  clear it2
  have it2 := it2'
  clear it2'
  replace hz := hs.extBut _ _ (by first | omega | exact ad (by omega)) hz
  replace hTO := hs.extBut _ _ (by first | omega | exact ad (by omega)) hTO
  replace it1 := it1.ext hs.extBut (by first | omega | exact ad (by omega))
  replace sq1 := sq1.ext hs.extBut (by first | omega | exact ad (by omega))
  replace sq2 := sq2.ext hs.extBut (by first | omega | exact ad (by omega))
  replace it3 := it3.ext hs.extBut (by first | omega | exact ad (by omega))
  replace sq3 := sq3.ext hs.extBut (by first | omega | exact ad (by omega))
  replace hk : ∀ (c : Nat) o, (c < I ∨ c = I + 3 ∨ I + 5 < c) → s.heap.get? c = some o → g1.get? c = some o := fun c o hc e => hs.extBut _ _ (by first | omega | exact ad (by omega)) (hk c o hc e)
  replace hsz : g1.objs.size = s.heap.objs.size := by rw [hs.1, hsz]
  clear hs
  refine wpAny_bind (wpAny_seqItems hTO rfl ?_)
  refine wpAny_bind (updateSeq_arr (by simp) hTO fun g2 hTO1 hs => ?_)
  replace hTO : TupA g2 (I + 4) #[x1, x2, y3] := hTO1
  clear hTO1
  replace hz := hs.extBut _ _ (by first | omega | exact ad (by omega)) hz
  replace it1 := it1.ext hs.extBut (by first | omega | exact ad (by omega))
  replace sq1 := sq1.ext hs.extBut (by first | omega | exact ad (by omega))
  replace it2 := it2.ext hs.extBut (by first | omega | exact ad (by omega))
  replace sq2 := sq2.ext hs.extBut (by first | omega | exact ad (by omega))
  replace it3 := it3.ext hs.extBut (by first | omega | exact ad (by omega))
  replace sq3 := sq3.ext hs.extBut (by first | omega | exact ad (by omega))
  replace hk : ∀ (c : Nat) o, (c < I ∨ c = I + 3 ∨ I + 5 < c) → s.heap.get? c = some o → g2.get? c = some o := fun c o hc e => hs.extBut _ _ (by first | omega | exact ad (by omega)) (hk c o hc e)
  replace hsz : g2.objs.size = s.heap.objs.size := by rw [hs.1, hsz]
  clear hs
  refine wpAny_bind (wpAny_letGo (wpAny_pure ?_))
  refine wpAny_bind (wpAny_bind (wpAny_onRaise ?_))
  show wpAny _ _ (Builtin.SmallTypes.nextOf (.ref (I + 2)) >>= _) _ _ _
  refine wpAny_bind (next_item it3 sq3 e3 fun g1 it3' hs => wpAny_pure ?_)
  clear it3
  have it3 := it3'
  clear it3'
  replace hz := hs.extBut _ _ (by first | omega | exact ad (by omega)) hz
  replace hTO := hs.extBut _ _ (by first | omega | exact ad (by omega)) hTO
  replace it1 := it1.ext hs.extBut (by first | omega | exact ad (by omega))
  replace sq1 := sq1.ext hs.extBut (by first | omega | exact ad (by omega))
  replace it2 := it2.ext hs.extBut (by first | omega | exact ad (by omega))
  replace sq2 := sq2.ext hs.extBut (by first | omega | exact ad (by omega))
  replace sq3 := sq3.ext hs.extBut (by first | omega | exact ad (by omega))
  replace hk : ∀ (c : Nat) o, (c < I ∨ c = I + 3 ∨ I + 5 < c) → s.heap.get? c = some o → g1.get? c = some o := fun c o hc e => hs.extBut _ _ (by first | omega | exact ad (by omega)) (hk c o hc e)
  replace hsz : g1.objs.size = s.heap.objs.size := by rw [hs.1, hsz]
  clear hs
  refine wpAny_bind (wpAny_seqItems hTO rfl ?_)
  refine wpAny_bind (updateSeq_arr (by simp) hTO fun g2 hTO1 hs => ?_)
  replace hTO : TupA g2 (I + 4) #[x1, x2, x3] := hTO1
  clear hTO1
  replace hz := hs.extBut _ _ (by first | omega | exact ad (by omega)) hz
  replace it1 := it1.ext hs.extBut (by first | omega | exact ad (by omega))
  replace sq1 := sq1.ext hs.extBut (by first | omega | exact ad (by omega))
  replace it2 := it2.ext hs.extBut (by first | omega | exact ad (by omega))
  replace sq2 := sq2.ext hs.extBut (by first | omega | exact ad (by omega))
  replace it3 := it3.ext hs.extBut (by first | omega | exact ad (by omega))
  replace sq3 := sq3.ext hs.extBut (by first | omega | exact ad (by omega))
  replace hk : ∀ (c : Nat) o, (c < I ∨ c = I + 3 ∨ I + 5 < c) → s.heap.get? c = some o → g2.get? c = some o := fun c o hc e => hs.extBut _ _ (by first | omega | exact ad (by omega)) (hk c o hc e)
  replace hsz : g2.objs.size = s.heap.objs.size := by rw [hs.1, hsz]
  clear hs
  refine wpAny_bind (wpAny_letGo (wpAny_pure (wpAny_pure ?_)))
  refine wpAny_bind (wpAny_seqItems hTO rfl ?_)
  refine wpAny_bind (wpAny_newTuple ?_)
  have hzlt : (I + 5) < g2.objs.size := Heap.lt_size hz
  have hTOlt : (I + 4) < g2.objs.size := Heap.lt_size hTO
  show wpAny _ _ (Builtin.SmallTypes.ownedTupleHandOut (.ref (I + 5)) (.ref g2.objs.size) >>= _) _ _ _
  refine wpAny_bind ?_
  unfold Builtin.SmallTypes.ownedTupleHandOut
  have hz₆ : IsZip (g2.push { cls := .type "tuple", data := .seq #[x1, x2, x3] }) (I + 5) (I + 3) (I + 4) .ellipsis := Heap.get?_push_of_some _ hz
  refine wpAny_bind (wpAny_setField_rec hz₆ (by simp) fun h₇ hz₇ hs₇ => ?_)
  replace hz₇ : IsZip h₇ (I + 5) (I + 3) (I + 4) (rawInt g2.objs.size) := hz₇
  refine wpAny_setField_rec hz₇ (by simp) fun h₈ hz₈ hs₈ => ?_
  replace hz₈ : IsZip h₈ (I + 5) (I + 3) (I + 4) (rawInt g2.objs.size) := hz₈
  have up : ∀ (c : Nat) o, c ≠ (I + 5) → g2.get? c = some o → h₈.get? c = some o := fun c o c1 e => hs₈.extBut _ _ c1 (hs₇.extBut _ _ c1 (Heap.get?_push_of_some _ e))
  have hT₈ : TupA h₈ g2.objs.size #[x1, x2, x3] := hs₈.extBut _ _ (Nat.ne_of_gt hzlt) (hs₇.extBut _ _ (Nat.ne_of_gt hzlt) (Heap.get?_push_size _ rfl))
  have hz8 : h₈.objs.size = g2.objs.size + 1 := by rw [hs₈.1, hs₇.1, Heap.size_push]
  rw [hsz] at hz₈ hT₈ hz8
  refine wpAny_pure ⟨_, rfl, ?_⟩
  show Q (.ref g2.objs.size) _
  rw [hsz]
  exact hQ h₈ hz₈ (up _ _ (by first | omega | exact ad (by omega)) hTO) (it1.at fun o e => up _ o (by first | omega | exact ad (by omega)) e) (it2.at fun o e => up _ o (by first | omega | exact ad (by omega)) e) (it3.at fun o e => up _ o (by first | omega | exact ad (by omega)) e) hT₈ hz8 fun c o hc e => up c o (by first | omega | exact ad (by omega)) (hk c o hc e)
theorem zn3_end {I : Nat} {l1 l2 l3 : Nat} {b1 b2 b3 : Bool} {k : Nat} {xs1 xs2 xs3 : Array Value} {y1 y2 y3 : Value} {Q : Fin → Shared → Prop} (hh : A.handled = none) (L1 : l1 < I) (L2 : l2 < I) (L3 : l3 < I)
    (hz : IsZip s.heap (I + 5) (I + 3) (I + 4) .none) (hTI : TupA s.heap (I + 3) #[.ref I, .ref (I + 1), .ref (I + 2)]) (hTO : TupA s.heap (I + 4) #[y1, y2, y3]) (it1 : AIt s.heap b1 I l1 k) (it2 : AIt s.heap b2 (I + 1) l2 k) (it3 : AIt s.heap b3 (I + 2) l3 k) (sq1 : ASq s.heap b1 l1 xs1) (sq2 : ASq s.heap b2 l2 xs2) (sq3 : ASq s.heap b3 l3 xs3) (hend : xs1[k]? = none ∨ xs2[k]? = none ∨ xs3[k]? = none)
    (hE : ∀ h' e, (∀ (c : Nat) o, (c < I ∨ c = I + 3 ∨ I + 5 < c) → s.heap.get? c = some o → h'.get? c = some o) → (∃ o, h'.get? e = some o ∧ o.cls = .type "StopIteration") → E (.ref e) { s with heap := h' }) :
    wpAny (model prog w) A (Builtin.«zip.__next__» ⟨[.ref (I + 5)], []⟩) Q E s := by
  show wpAny _ _ (field (.ref (I + 5)) 2 >>= _) _ _ _
  refine wpAny_bind (wpAny_field hz rfl (x := .bool false) rfl ?_)
  show wpAny _ _ (field (.ref (I + 5)) 3 >>= _) _ _ _
  refine wpAny_bind (wpAny_field hz rfl (x := .ref (I + 3)) rfl ?_)
  refine wpAny_bind (wpAny_seqItems hTI rfl ?_)
  show wpAny _ _ (Builtin.SmallTypes.ownedTupleIsFree (.ref (I + 5)) >>= _) _ _ _
  refine wpAny_bind ?_
  unfold Builtin.SmallTypes.ownedTupleIsFree
  refine wpAny_bind (wpAny_field hz rfl (x := .none) rfl (wpAny_pure ?_))
  simp only [if_true]
  refine wpAny_bind (wpAny_rule ?_)
  refine wpAny_bind (wpAny_field hz rfl (x := .ref (I + 4)) rfl ?_)
  refine wpAny_bind (wpAny_setField_rec hz (by simp) fun g hz1 hs => ?_)
  have hk : ∀ (c : Nat) o, (c < I ∨ c = I + 3 ∨ I + 5 < c) → s.heap.get? c = some o → g.get? c = some o := fun c o hc e => hs.extBut _ _ (by first | omega | exact ad (by omega)) e
  have hsz : g.objs.size = s.heap.objs.size := hs.1
  replace hz : IsZip g (I + 5) (I + 3) (I + 4) .ellipsis := hz1
  replace hTO := hs.extBut _ _ (by first | omega | exact ad (by omega)) hTO
  replace it1 := it1.ext hs.extBut (by first | omega | exact ad (by omega))
  replace sq1 := sq1.ext hs.extBut (by first | omega | exact ad (by omega))
  replace it2 := it2.ext hs.extBut (by first | omega | exact ad (by omega))
  replace sq2 := sq2.ext hs.extBut (by first | omega | exact ad (by omega))
  replace it3 := it3.ext hs.extBut (by first | omega | exact ad (by omega))
  replace sq3 := sq3.ext hs.extBut (by first | omega | exact ad (by omega))
  clear hz1 hs
  refine wpAny_bind ?_
  simp only [List.zipIdx_cons, List.zipIdx_nil, List.forIn_cons, List.forIn_nil]
  refine wpAny_bind (wpAny_bind (wpAny_onRaise ?_))
  show wpAny _ _ (Builtin.SmallTypes.nextOf (.ref I) >>= _) _ _ _
  cases e1 : xs1[k]? with
  | none =>
    refine wpAny_bind (next_end hh it1 sq1 e1 fun g3 e hs he => ?_)
    obtain ⟨oe, hoe, hce⟩ := he
    replace hz : IsZip g3 (I + 5) (I + 3) (I + 4) .ellipsis := hs _ _ (by first | omega | exact ad (by omega)) hz
    have hez : e ≠ (I + 5) := fun x => by subst x; rw [hz] at hoe; cases hoe; simp at hce
    refine wpAny_setField_rec hz (by simp) fun g4 _ hs4 => hE g4 e (fun c o hc x => hs4.extBut _ _ (by first | omega | exact ad (by omega)) (hs _ _ (by first | omega | exact ad (by omega)) (hk c o hc x))) ⟨oe, hs4.extBut _ _ hez hoe, hce⟩
  | some x1 =>
    refine wpAny_bind (next_item it1 sq1 e1 fun g1 it1' hs => wpAny_pure ?_)
    clear it1
    have it1 := it1'
    clear it1'
    replace hz := hs.extBut _ _ (by first | omega | exact ad (by omega)) hz
    replace hTO := hs.extBut _ _ (by first | omega | exact ad (by omega)) hTO
    replace sq1 := sq1.ext hs.extBut (by first | omega | exact ad (by omega))
    replace it2 := it2.ext hs.extBut (by first | omega | exact ad (by omega))
    replace sq2 := sq2.ext hs.extBut (by first | omega | exact ad (by omega))
    replace it3 := it3.ext hs.extBut (by first | omega | exact ad (by omega))
    replace sq3 := sq3.ext hs.extBut (by first | omega | exact ad (by omega))
    replace hk : ∀ (c : Nat) o, (c < I ∨ c = I + 3 ∨ I + 5 < c) → s.heap.get? c = some o → g1.get? c = some o := fun c o hc e => hs.extBut _ _ (by first | omega | exact ad (by omega)) (hk c o hc e)
    replace hsz : g1.objs.size = s.heap.objs.size := by rw [hs.1, hsz]
    clear hs
    refine wpAny_bind (wpAny_seqItems hTO rfl ?_)
    refine wpAny_bind (updateSeq_arr (by simp) hTO fun g2 hTO1 hs => ?_)
    replace hTO : TupA g2 (I + 4) #[x1, y2, y3] := hTO1
    clear hTO1
    replace hz := hs.extBut _ _ (by first | omega | exact ad (by omega)) hz
    replace it1 := it1.ext hs.extBut (by first | omega | exact ad (by omega))
    replace sq1 := sq1.ext hs.extBut (by first | omega | exact ad (by omega))
    replace it2 := it2.ext hs.extBut (by first | omega | exact ad (by omega))
    replace sq2 := sq2.ext hs.extBut (by first | omega | exact ad (by omega))
    replace it3 := it3.ext hs.extBut (by first | omega | exact ad (by omega))
    replace sq3 := sq3.ext hs.extBut (by first | omega | exact ad (by omega))
    replace hk : ∀ (c : Nat) o, (c < I ∨ c = I + 3 ∨ I + 5 < c) → s.heap.get? c = some o → g2.get? c = some o := fun c o hc e => hs.extBut _ _ (by first | omega | exact ad (by omega)) (hk c o hc e)
    replace hsz : g2.objs.size = s.heap.objs.size := by rw [hs.1, hsz]
    clear hs
    refine wpAny_bind (wpAny_letGo (wpAny_pure ?_))
    refine wpAny_bind (wpAny_bind (wpAny_onRaise ?_))
    show wpAny _ _ (Builtin.SmallTypes.nextOf (.ref (I + 1)) >>= _) _ _ _
    cases e2 : xs2[k]? with
    | none =>
      refine wpAny_bind (next_end hh it2 sq2 e2 fun g3 e hs he => ?_)
      obtain ⟨oe, hoe, hce⟩ := he
      replace hz : IsZip g3 (I + 5) (I + 3) (I + 4) .ellipsis := hs _ _ (by first | omega | exact ad (by omega)) hz
      have hez : e ≠ (I + 5) := fun x => by subst x; rw [hz] at hoe; cases hoe; simp at hce
      refine wpAny_setField_rec hz (by simp) fun g4 _ hs4 => hE g4 e (fun c o hc x => hs4.extBut _ _ (by first | omega | exact ad (by omega)) (hs _ _ (by first | omega | exact ad (by omega)) (hk c o hc x))) ⟨oe, hs4.extBut _ _ hez hoe, hce⟩
    | some x2 =>
      refine wpAny_bind (next_item it2 sq2 e2 fun g1 it2' hs => wpAny_pure ?_)
      clear it2
      have it2 := it2'
      clear it2'
      replace hz := hs.extBut _ _ (by first | omega | exact ad (by omega)) hz
      replace hTO := hs.extBut _ _ (by first | omega | exact ad (by omega)) hTO
      replace it1 := it1.ext hs.extBut (by first | omega | exact ad (by omega))
      replace sq1 := sq1.ext hs.extBut (by first | omega | exact ad (by omega))
      replace sq2 := sq2.ext hs.extBut (by first | omega | exact ad (by omega))
      replace it3 := it3.ext hs.extBut (by first | omega | exact ad (by omega))
      replace sq3 := sq3.ext hs.extBut (by first | omega | exact ad (by omega))
      replace hk : ∀ (c : Nat) o, (c < I ∨ c = I + 3 ∨ I + 5 < c) → s.heap.get? c = some o → g1.get? c = some o := fun c o hc e => hs.extBut _ _ (by first | omega | exact ad (by omega)) (hk c o hc e)
      replace hsz : g1.objs.size = s.heap.objs.size := by rw [hs.1, hsz]
      clear hs
      refine wpAny_bind (wpAny_seqItems hTO rfl ?_)
      refine wpAny_bind (updateSeq_arr (by simp) hTO fun g2 hTO1 hs => ?_)
      replace hTO : TupA g2 (I + 4) #[x1, x2, y3] := hTO1
      clear hTO1
      replace hz := hs.extBut _ _ (by first | omega | exact ad (by omega)) hz
      replace it1 := it1.ext hs.extBut (by first | omega | exact ad (by omega))
      replace sq1 := sq1.ext hs.extBut (by first | omega | exact ad (by omega))
      replace it2 := it2.ext hs.extBut (by first | omega | exact ad (by omega))
      replace sq2 := sq2.ext hs.extBut (by first | omega | exact ad (by omega))
      replace it3 := it3.ext hs.extBut (by first | omega | exact ad (by omega))
      replace sq3 := sq3.ext hs.extBut (by first | omega | exact ad (by omega))
      replace hk : ∀ (c : Nat) o, (c < I ∨ c = I + 3 ∨ I + 5 < c) → s.heap.get? c = some o → g2.get? c = some o := fun c o hc e => hs.extBut _ _ (by first | omega | exact ad (by omega)) (hk c o hc e)
      replace hsz : g2.objs.size = s.heap.objs.size := by rw [hs.1, hsz]
      clear hs
      refine wpAny_bind (wpAny_letGo (wpAny_pure ?_))
      refine wpAny_bind (wpAny_bind (wpAny_onRaise ?_))
      show wpAny _ _ (Builtin.SmallTypes.nextOf (.ref (I + 2)) >>= _) _ _ _
      have e3 : xs3[k]? = none := by
        rcases hend with q | q | q
        · rw [e1] at q; cases q
        · rw [e2] at q; cases q
        · exact q
      refine wpAny_bind (next_end hh it3 sq3 e3 fun g3 e hs he => ?_)
      obtain ⟨oe, hoe, hce⟩ := he
      replace hz : IsZip g3 (I + 5) (I + 3) (I + 4) .ellipsis := hs _ _ (by first | omega | exact ad (by omega)) hz
      have hez : e ≠ (I + 5) := fun x => by subst x; rw [hz] at hoe; cases hoe; simp at hce
      refine wpAny_setField_rec hz (by simp) fun g4 _ hs4 => hE g4 e (fun c o hc x => hs4.extBut _ _ (by first | omega | exact ad (by omega)) (hs _ _ (by first | omega | exact ad (by omega)) (hk c o hc x))) ⟨oe, hs4.extBut _ _ hez hoe, hce⟩
theorem py3_item {I : Nat} {l1 l2 l3 : Nat} {b1 b2 b3 : Bool} {k : Nat} {xs1 xs2 xs3 : Array Value} {y1 y2 y3 : Value} {x1 x2 x3 : Value} {Q : Option Value → Shared → Prop} (L1 : l1 < I) (L2 : l2 < I) (L3 : l3 < I)
    (hz : IsZip s.heap (I + 5) (I + 3) (I + 4) .none) (hTI : TupA s.heap (I + 3) #[.ref I, .ref (I + 1), .ref (I + 2)]) (hTO : TupA s.heap (I + 4) #[y1, y2, y3]) (it1 : AIt s.heap b1 I l1 k) (it2 : AIt s.heap b2 (I + 1) l2 k) (it3 : AIt s.heap b3 (I + 2) l3 k) (sq1 : ASq s.heap b1 l1 xs1) (sq2 : ASq s.heap b2 l2 xs2) (sq3 : ASq s.heap b3 l3 xs3) (e1 : xs1[k]? = some x1) (e2 : xs2[k]? = some x2) (e3 : xs3[k]? = some x3)
    (hQ : ∀ h', IsZip h' (I + 5) (I + 3) (I + 4) (rawInt s.heap.objs.size) → TupA h' (I + 4) #[x1, x2, x3] → AIt h' b1 I l1 (k + 1) → AIt h' b2 (I + 1) l2 (k + 1) → AIt h' b3 (I + 2) l3 (k + 1) → TupA h' s.heap.objs.size #[x1, x2, x3] → h'.objs.size = s.heap.objs.size + 1 → (∀ (c : Nat) o, (c < I ∨ c = I + 3 ∨ I + 5 < c) → s.heap.get? c = some o → h'.get? c = some o) → Q (some (.ref s.heap.objs.size)) { s with heap := h' }) :
    wpAny (model prog w) A (pyNext (.ref (I + 5))) Q E s := by
  have hT : s.TypeIs (.ref (I + 5)) "zip" := ⟨_, hz, rfl⟩
  unfold pyNext
  exact wpAny_bind (wpAny_attempt (wpAny_callSpecial?_slot (name := Str.ofString "__next__") hT F.slot_zip_next
    (wpAny_call_entry F.slot_zip_next hT F.entry_zip_next
      (zn3_item L1 L2 L3 hz hTI hTO it1 it2 it3 sq1 sq2 sq3 e1 e2 e3 fun h' a0 a1 a2 a3 a4 a5 a6 a7 => wpAny_pure (hQ h' a0 a1 a2 a3 a4 a5 a6 a7)) (F.args_zip_next_1 _))))
theorem py3_end {I : Nat} {l1 l2 l3 : Nat} {b1 b2 b3 : Bool} {k : Nat} {xs1 xs2 xs3 : Array Value} {y1 y2 y3 : Value} {Q : Option Value → Shared → Prop} (hh : A.handled = none) (L1 : l1 < I) (L2 : l2 < I) (L3 : l3 < I)
    (hz : IsZip s.heap (I + 5) (I + 3) (I + 4) .none) (hTI : TupA s.heap (I + 3) #[.ref I, .ref (I + 1), .ref (I + 2)]) (hTO : TupA s.heap (I + 4) #[y1, y2, y3]) (it1 : AIt s.heap b1 I l1 k) (it2 : AIt s.heap b2 (I + 1) l2 k) (it3 : AIt s.heap b3 (I + 2) l3 k) (sq1 : ASq s.heap b1 l1 xs1) (sq2 : ASq s.heap b2 l2 xs2) (sq3 : ASq s.heap b3 l3 xs3) (hend : xs1[k]? = none ∨ xs2[k]? = none ∨ xs3[k]? = none)
    (hQ : ∀ h', (∀ (c : Nat) o, (c < I ∨ c = I + 3 ∨ I + 5 < c) → s.heap.get? c = some o → h'.get? c = some o) → Q none { s with heap := h' }) : wpAny (model prog w) A (pyNext (.ref (I + 5))) Q E s := by
  have hT : s.TypeIs (.ref (I + 5)) "zip" := ⟨_, hz, rfl⟩
  unfold pyNext
  refine wpAny_bind (wpAny_attempt (wpAny_callSpecial?_slot (name := Str.ofString "__next__") hT F.slot_zip_next
    (wpAny_call_entry F.slot_zip_next hT F.entry_zip_next (zn3_end hh L1 L2 L3 hz hTI hTO it1 it2 it3 sq1 sq2 sq3 hend fun h' e hk he => ?_) (F.args_zip_next_1 _))))
  obtain ⟨o, ho, hc⟩ := he
  refine wpAny_bind (wpAny_isInstance (T := "StopIteration") (b := true) ⟨o, ho, hc⟩ isSubtype_stop ?_)
  exact wpAny_pure (hQ _ hk)
end
abbrev zH31 (h : Heap) (b1 : Bool) (l1 : Nat) : Heap := h.push (itO b1 l1)
abbrev zH32 (h : Heap) (b1 : Bool) (l1 : Nat) (b2 : Bool) (l2 : Nat) : Heap := (zH31 h b1 l1).push (itO b2 l2)
abbrev zH33 (h : Heap) (b1 : Bool) (l1 : Nat) (b2 : Bool) (l2 : Nat) (b3 : Bool) (l3 : Nat) : Heap := (zH32 h b1 l1 b2 l2).push (itO b3 l3)
abbrev zH3T (h : Heap) (b1 : Bool) (l1 : Nat) (b2 : Bool) (l2 : Nat) (b3 : Bool) (l3 : Nat) : Heap := (zH33 h b1 l1 b2 l2 b3 l3).push { cls := .type "tuple", data := .seq #[.ref h.objs.size, .ref (zH31 h b1 l1).objs.size, .ref (zH32 h b1 l1 b2 l2).objs.size] }
abbrev zH3O (h : Heap) (b1 : Bool) (l1 : Nat) (b2 : Bool) (l2 : Nat) (b3 : Bool) (l3 : Nat) : Heap := (zH3T h b1 l1 b2 l2 b3 l3).push { cls := .type "tuple", data := .seq #[.none, .none, .none] }
abbrev zH3Z (h : Heap) (b1 : Bool) (l1 : Nat) (b2 : Bool) (l2 : Nat) (b3 : Bool) (l3 : Nat) : Heap := (zH3O h b1 l1 b2 l2 b3 l3).push { cls := .type "zip", data := .fields #[.none, .bool false, .bool false, .ref (zH33 h b1 l1 b2 l2 b3 l3).objs.size, .ref (zH3T h b1 l1 b2 l2 b3 l3).objs.size] }
theorem meets3 {b1 b2 b3 : Bool} (l1 l2 l3 : Nat) (xs1 xs2 xs3 : Array Value) :
    Meets (Builtin.«zip.__new__» ⟨[.type "zip", .ref l1, .ref l2, .ref l3], []⟩) (fun _ R s => ASq s.heap b1 l1 xs1 ∧ ASq s.heap b2 l2 xs2 ∧ ASq s.heap b3 l3 xs3 ∧ R (.ok (.ret (.ref (zH3O s.heap b1 l1 b2 l2 b3 l3).objs.size))) { s with heap := zH3Z s.heap b1 l1 b2 l2 b3 l3 }) :=
  .of_wp fun prog w A R s h => by
    obtain ⟨hp, g, d, tk, os⟩ := s; obtain ⟨sq1, sq2, sq3, h⟩ := h
    have hsub := sub_zip
    have hL1 : ASq (Shared.heap ⟨hp, g, d, tk, os⟩) b1 l1 xs1 := sq1
    have hL2 : ASq (Shared.heap ⟨(hp).push (itO b1 l1), g, d, tk, os⟩) b2 l2 xs2 := sq2.push _
    have hL3 : ASq (Shared.heap ⟨((hp).push (itO b1 l1)).push (itO b2 l2), g, d, tk, os⟩) b3 l3 xs3 := (sq3.push _).push _
    wp_walk using iter_any hL1, iter_any hL2, iter_any hL3
    exact ⟨_, rfl, h⟩
section
variable {prog : Program} {w : World} {A : Around} {E : Value → Shared → Prop} {s : Shared}
theorem call3 {b1 b2 b3 : Bool} {l1 l2 l3 : Nat} {xs1 xs2 xs3 : Array Value} {Q : Value → Shared → Prop} (sq1 : ASq s.heap b1 l1 xs1) (sq2 : ASq s.heap b2 l2 xs2) (sq3 : ASq s.heap b3 l3 xs3)
    (h : ∀ h', IsZip h' (s.heap.objs.size + 5) (s.heap.objs.size + 3) (s.heap.objs.size + 4) .none → TupA h' (s.heap.objs.size + 3) #[.ref s.heap.objs.size, .ref (s.heap.objs.size + 1), .ref (s.heap.objs.size + 2)] → TupA h' (s.heap.objs.size + 4) #[.none, .none, .none] → AIt h' b1 s.heap.objs.size l1 0 → AIt h' b2 (s.heap.objs.size + 1) l2 0 → AIt h' b3 (s.heap.objs.size + 2) l3 0 → h'.objs.size = s.heap.objs.size + 6 → (∀ c o, s.heap.get? c = some o → h'.get? c = some o) → Q (.ref (s.heap.objs.size + 5)) { s with heap := h' }) :
    wpAny (model prog w) A (call (.type "zip") [.ref l1, .ref l2, .ref l3]) Q E s := by
  refine callType_new F.called_zip (by decide) (typeCall_zip_3 _ _ _ ) (newCall_zip_3 _ _ _ ) (fun obj => args_object_init_4 obj _ _ _ ) F.entry_zip_new
    (meets3 l1 l2 l3 xs1 xs2 xs3) ⟨sq1, sq2, sq3, ?_⟩
  have z1 : (zH31 s.heap b1 l1).objs.size = s.heap.objs.size + 1 := by rw [Heap.size_push]
  have z2 : (zH32 s.heap b1 l1 b2 l2).objs.size = s.heap.objs.size + 2 := by rw [Heap.size_push, z1]
  have z3 : (zH33 s.heap b1 l1 b2 l2 b3 l3).objs.size = s.heap.objs.size + 3 := by rw [Heap.size_push, z2]
  have z4 : (zH3T s.heap b1 l1 b2 l2 b3 l3).objs.size = s.heap.objs.size + 4 := by rw [Heap.size_push, z3]
  have z5 : (zH3O s.heap b1 l1 b2 l2 b3 l3).objs.size = s.heap.objs.size + 5 := by rw [Heap.size_push, z4]
  have z6 : (zH3Z s.heap b1 l1 b2 l2 b3 l3).objs.size = s.heap.objs.size + 6 := by rw [Heap.size_push, z5]
  have g1 : (zH3Z s.heap b1 l1 b2 l2 b3 l3).get? s.heap.objs.size = some _ := Heap.get?_push_of_some _ (Heap.get?_push_of_some _ (Heap.get?_push_of_some _ (Heap.get?_push_of_some _ (Heap.get?_push_of_some _ (Heap.get?_push_size _ (itO_free b1 l1))))))
  have g2 : (zH3Z s.heap b1 l1 b2 l2 b3 l3).get? (zH31 s.heap b1 l1).objs.size = some _ := Heap.get?_push_of_some _ (Heap.get?_push_of_some _ (Heap.get?_push_of_some _ (Heap.get?_push_of_some _ (Heap.get?_push_size _ (itO_free b2 l2)))))
  have g3 : (zH3Z s.heap b1 l1 b2 l2 b3 l3).get? (zH32 s.heap b1 l1 b2 l2).objs.size = some _ := Heap.get?_push_of_some _ (Heap.get?_push_of_some _ (Heap.get?_push_of_some _ (Heap.get?_push_size _ (itO_free b3 l3))))
  have g4 : (zH3Z s.heap b1 l1 b2 l2 b3 l3).get? (zH33 s.heap b1 l1 b2 l2 b3 l3).objs.size = some _ := Heap.get?_push_of_some _ (Heap.get?_push_of_some _ (Heap.get?_push_size _ rfl))
  have g5 : (zH3Z s.heap b1 l1 b2 l2 b3 l3).get? (zH3T s.heap b1 l1 b2 l2 b3 l3).objs.size = some _ := Heap.get?_push_of_some _ (Heap.get?_push_size _ rfl)
  have g6 : (zH3Z s.heap b1 l1 b2 l2 b3 l3).get? (zH3O s.heap b1 l1 b2 l2 b3 l3).objs.size = some _ := Heap.get?_push_size _ rfl
  show _ ∧ _
  rw [z1] at g2
  rw [z2] at g3
  rw [z1, z2, z3] at g4
  rw [z4] at g5
  rw [z3, z4, z5] at g6
  rw [z5]
  exact ⟨⟨_, g6, rfl⟩, h _ g6 g4 g5 (AIt.new g1) (AIt.new g2) (AIt.new g3) z6 fun c o x => Heap.get?_push_of_some _ (Heap.get?_push_of_some _ (Heap.get?_push_of_some _ (Heap.get?_push_of_some _ (Heap.get?_push_of_some _ (Heap.get?_push_of_some _ (x))))))⟩
end
def ItA3 (K : PySem.W.Frag) (b1 b2 b3 : Bool) (l1 l2 l3 : Nat) : It :=
  ⟨fun i H => ∃ (xs1 xs2 xs3 : List V) (x1 x2 x3 : V), SqA K H b1 l1 xs1 ∧ SqA K H b2 l2 xs2 ∧ SqA K H b3 l3 xs3 ∧ xs1[i]? = some x1 ∧ xs2[i]? = some x2 ∧ xs3[i]? = some x3,
    fun i H v H' => ∃ T x1 x2 x3, v = .ref T ∧ H T = none ∧ H' = upd H T (.tup [x1, x2, x3]) ∧ (∀ xs, SqA K H b1 l1 xs → xs[i]? = some x1) ∧ (∀ xs, SqA K H b2 l2 xs → xs[i]? = some x2) ∧ (∀ xs, SqA K H b3 l3 xs → xs[i]? = some x3),
    fun i H => ∃ xs1 xs2 xs3 : List V, SqA K H b1 l1 xs1 ∧ SqA K H b2 l2 xs2 ∧ SqA K H b3 l3 xs3 ∧ (xs1.length ≤ i ∨ xs2.length ≤ i ∨ xs3.length ≤ i)⟩
theorem out3 {I c : Nat} (h : ¬ c ∈ [(I + 5), (I + 3), (I + 4), I, (I + 1), (I + 2)]) : (c < I ∨ c = I + 3 ∨ I + 5 < c) := by
  simp at h
  omega
theorem turn3 {P : Program} {w : World} {K : PySem.W.Frag} {elts : List Expr} {kk : Nat} {tpos : Pos} {b1 b2 b3 : Bool} {l1 l2 l3 : Nat} {I : Nat} (L1 : l1 < I) (L2 : l2 < I) (L3 : l3 < I) :
    Turn P w K (.Tuple elts kk tpos) (ItA3 K b1 b2 b3 l1 l2 l3) [(I + 5), (I + 3), (I + 4), I, (I + 1), (I + 2)] (I + 5) (fun i h => IsZip h (I + 5) (I + 3) (I + 4) .none ∧ TupA h (I + 3) #[.ref I, .ref (I + 1), .ref (I + 2)] ∧ (∃ y1 y2 y3, TupA h (I + 4) #[y1, y2, y3]) ∧ AIt h b1 I l1 i ∧ AIt h b2 (I + 1) l2 i ∧ AIt h b3 (I + 2) l3 i) where
  mem := by simp
  obj := fun i h st c hc => by
    obtain ⟨hz, hTI, ⟨y1, y2, y3, hTO⟩, it1, it2, it3⟩ := st
    have e' : c = (I + 5) ∨ c = (I + 3) ∨ c = (I + 4) ∨ c = I ∨ c = (I + 1) ∨ c = (I + 2) := by simpa using hc
    rcases e' with q | q | q | q | q | q
    · rw [q]; exact ⟨_, hz, fun v q => nomatch q⟩
    · rw [q]; exact ⟨_, hTI, fun v q => nomatch q⟩
    · rw [q]; exact ⟨_, hTO, fun v q => nomatch q⟩
    · rw [q]; obtain ⟨o, e, d⟩ := it1.get; exact ⟨o, e, fun v q => by rw [d] at q; cases q⟩
    · rw [q]; obtain ⟨o, e, d⟩ := it2.get; exact ⟨o, e, fun v q => by rw [d] at q; cases q⟩
    · rw [q]; obtain ⟨o, e, d⟩ := it3.get; exact ⟨o, e, fun v q => by rw [d] at q; cases q⟩
  keep := fun i h h' st k => by
    obtain ⟨hz, hTI, ⟨y1, y2, y3, hTO⟩, it1, it2, it3⟩ := st
    exact ⟨k _ (by simp) _ hz, k _ (by simp) _ hTI, ⟨y1, y2, y3, k _ (by simp) _ hTO⟩, it1.at fun o q => k _ (by simp) o q, it2.at fun o q => k _ (by simp) o q, it3.at fun o q => k _ (by simp) o q⟩
  item := by
    intro X hP hw hK hc i pins s σ H E Iv hf st hg
    subst hP hw hK
    obtain ⟨hz, hTI, ⟨y1, y2, y3, hTO⟩, it1, it2, it3⟩ := st
    obtain ⟨xs1, xs2, xs3, x1, x2, x3, q1, q2, q3, e1, e2, e3⟩ := hg
    obtain ⟨its1, rv1, p1⟩ := sqa_at Iv q1
    obtain ⟨u1, hu1, ru1⟩ := rv1.get e1
    obtain ⟨its2, rv2, p2⟩ := sqa_at Iv q2
    obtain ⟨u2, hu2, ru2⟩ := rv2.get e2
    obtain ⟨its3, rv3, p3⟩ := sqa_at Iv q3
    obtain ⟨u3, hu3, ru3⟩ := rv3.get e3
    have hzl : (I + 5) < s.heap.objs.size := Heap.lt_size hz
    refine py3_item L1 L2 L3 hz hTI hTO it1 it2 it3 p1 p2 p3 (x1 := u1) (x2 := u2) (x3 := u3) (by simpa using hu1) (by simpa using hu2) (by simpa using hu3) fun h' z' TO' it1w it2w it3w hT hsz hk => ?_
    refine ⟨_, rfl, wpAny_letOwnedTupleGo_zip (s := { s with heap := h' }) z' fun h'' z'' sb => ?_⟩
    have hT2 : h''.get? s.heap.objs.size = some { cls := .type "tuple", data := .seq #[u1, u2, u3] } := (sb.2 _ (Nat.ne_of_gt hzl)).trans hT
    have new : ObjOk X.prog X.w (upd H s.heap.objs.size (.tup [x1, x2, x3])) h'' s.heap.objs.size (.tup [x1, x2, x3]) :=
      ⟨by show 3 ≤ sizeLine; decide, [u1, u2, u3], .cons ru1 (.cons ru2 (.cons ru3 .nil)), ⟨_, hT2, rfl, _, rfl⟩⟩
    have I1 : Inv X pins σ (upd H s.heap.objs.size (.tup [x1, x2, x3])) { s with heap := h'' } :=
      Iv.turnedNew (t' := s.toks) (ch := [(I + 5), (I + 3), (I + 4), I, (I + 1), (I + 2)]) (fun (c : Nat) o hb q => (sb.2 c (fun q' => hb (by simp [q']))).trans (hk c o (out3 hb) q)) hf (Nat.le_refl _) new
    refine ⟨.ref s.heap.objs.size, _, I1, rfl, ⟨_, x1, x2, x3, rfl, Iv.hok.fresh (Nat.le_refl _), rfl, fun l hl => by rw [sqa_inj Iv hl q1]; exact e1, fun l hl => by rw [sqa_inj Iv hl q2]; exact e2, fun l hl => by rw [sqa_inj Iv hl q3]; exact e3⟩, ⟨z'', ?_, ⟨u1, u2, u3, ?_⟩, ?_, ?_, ?_⟩, fun (c : Nat) hcm => ?_⟩
    · exact (sb.2 _ (by first | omega | exact ad (by omega))).trans (hk _ _ (by first | omega | exact ad (by omega)) hTI)
    · exact (sb.2 _ (by first | omega | exact ad (by omega))).trans TO'
    · exact it1w.at fun o q => (sb.2 _ (by first | omega | exact ad (by omega))).trans q
    · exact it2w.at fun o q => (sb.2 _ (by first | omega | exact ad (by omega))).trans q
    · exact it3w.at fun o q => (sb.2 _ (by first | omega | exact ad (by omega))).trans q
    · have hlt : c < s.heap.objs.size := by
        have e' : c = (I + 5) ∨ c = (I + 3) ∨ c = (I + 4) ∨ c = I ∨ c = (I + 1) ∨ c = (I + 2) := by simpa using hcm
        omega
      rw [upd_ne (Nat.ne_of_lt hlt)]
      exact (hf c hcm).1
  done := by
    intro X hP hw hK hc i pins s σ H E Iv hf st hg
    subst hP hw hK
    obtain ⟨hz, hTI, ⟨y1, y2, y3, hTO⟩, it1, it2, it3⟩ := st
    obtain ⟨xs1, xs2, xs3, q1, q2, q3, hend⟩ := hg
    obtain ⟨its1, rv1, p1⟩ := sqa_at Iv q1
    have m1 := rv1.length
    obtain ⟨its2, rv2, p2⟩ := sqa_at Iv q2
    have m2 := rv2.length
    obtain ⟨its3, rv3, p3⟩ := sqa_at Iv q3
    have m3 := rv3.length
    have he : its1.toArray[i]? = none ∨ its2.toArray[i]? = none ∨ its3.toArray[i]? = none := by
      rcases hend with q | q | q
      · exact (.inl (by simp; first | omega | exact ad (by omega)))
      · exact (.inr (.inl (by simp; first | omega | exact ad (by omega))))
      · exact (.inr (.inr (by simp; first | omega | exact ad (by omega))))
    exact py3_end (Iv.ok.hd hc) L1 L2 L3 hz hTI hTO it1 it2 it3 p1 p2 p3 he fun h' hk => ⟨rfl, Iv.turnedL (t' := s.toks) (ch := [(I + 5), (I + 3), (I + 4), I, (I + 1), (I + 2)]) (fun (c : Nat) o hb q => hk c o (out3 hb) q) hf⟩
  self := fun A i s Q E st h => wpAny_pyIter_zip st.1 h
def iZA3 (K : PySem.W.Frag) (ta : TA) : TI := fun σ H R => ta σ H fun vs H1 => ∃ (b1 b2 b3 : Bool) (l1 l2 l3 : Nat) (xs1 xs2 xs3 : List V), vs = [.ref l1, .ref l2, .ref l3] ∧ SqA K H1 b1 l1 xs1 ∧ SqA K H1 b2 l2 xs2 ∧ SqA K H1 b3 l3 xs3 ∧ R (ItA3 K b1 b2 b3 l1 l2 l3) H1
theorem pi3 {X : Cx} {a1 a2 a3 : Expr} {ta : TA} {p pos tpos : Pos} {elts : List Expr} {kk : Nat} (hg : Gl X "zip") (hm : X.mg "zip" = none) (ha : PA X [a1, a2, a3] ta)
    (hs : starEach [a1, a2, a3] X.env = (false, eval a1 X.env) :: starEach [a2, a3] X.env := by rfl) (hpl : (backTo pos (starEach [a2, a3] X.env)).any (·.1) = false := by rfl) :
    PI X (.Tuple elts kk tpos) (.Call (.Name "zip" p) [a1, a2, a3] [] pos) (iZA3 X.K ta) := by
  refine ⟨fun pins s σ H R I h => ?_⟩
  refine Call_ (ld_blt I hg hm PyProof.Rows.boot_zip (PyProof.Rows.callWith_type1 (thn (ha.run pos pins s σ H _ I h) fun us s1 ⟨vs, H1, I1, r1, q1⟩ => ?_) hs hpl))
  obtain ⟨b1, b2, b3, l1, l2, l3, xs1, xs2, xs3, ex, q1, q2, q3, q⟩ := q1
  subst ex
  obtain ⟨v1, us1, rfl, w1, rr1⟩ := vals_cons r1
  obtain ⟨v2, us2, rfl, w2, rr2⟩ := vals_cons rr1
  obtain ⟨v3, us3, rfl, w3, rr3⟩ := vals_cons rr2
  cases rr3
  cases w1
  cases w2
  cases w3
  obtain ⟨its1, rv1, p1⟩ := sqa_at I1 q1
  have L1 := asq_lt p1
  obtain ⟨its2, rv2, p2⟩ := sqa_at I1 q2
  have L2 := asq_lt p2
  obtain ⟨its3, rv3, p3⟩ := sqa_at I1 q3
  have L3 := asq_lt p3
  have fresh : ∀ c, c ∈ [(s1.heap.objs.size + 5), (s1.heap.objs.size + 3), (s1.heap.objs.size + 4), s1.heap.objs.size, (s1.heap.objs.size + 1), (s1.heap.objs.size + 2)] → FpOk X pins H1 c := fun (c : Nat) hcm => by
    have hle : s1.heap.objs.size ≤ c := by
      have e' : c = (s1.heap.objs.size + 5) ∨ c = (s1.heap.objs.size + 3) ∨ c = (s1.heap.objs.size + 4) ∨ c = s1.heap.objs.size ∨ c = (s1.heap.objs.size + 1) ∨ c = (s1.heap.objs.size + 2) := by simpa using hcm
      omega
    exact I1.fpOk hle (I1.hok.fresh hle)
  refine call3 p1 p2 p3 ?_
  intro h' hz hTI hTO it1 it2 it3 hsz hk
  refine wpAny_pyIter_zip hz ?_
  have I2 : Inv X pins σ H1 { s1 with heap := h' } := I1.kept (t' := s1.toks) hk
  exact ⟨s1.heap.objs.size + 5, [(s1.heap.objs.size + 5), (s1.heap.objs.size + 3), (s1.heap.objs.size + 4), s1.heap.objs.size, (s1.heap.objs.size + 1), (s1.heap.objs.size + 2)], _, _, H1, rfl, I2, turn3 L1 L2 L3, ⟨hz, hTI, ⟨_, _, _, hTO⟩, it1, it2, it3⟩, fresh, q⟩
end DZ

/-! part DZ2 -/
/-! DZ2: zip over data; min and max of a list of alike data. -/
namespace DZ
open PySem PySem.Spec PyProof.Rows L2 DL DQ DX
section
variable {X : Cx} {W : WX}
/-! ### zip -/
def zipD2 : List D → List D → List D
  | x :: xs, y :: ys => .tup [x, y] :: zipD2 xs ys
  | _, _ => []
def zipD3 : List D → List D → List D → List D
  | x :: xs, y :: ys, z :: zs => .tup [x, y, z] :: zipD3 xs ys zs
  | _, _, _ => []
theorem zipD2_len : ∀ (l m : List D), (zipD2 l m).length = min l.length m.length
  | [], _ => by simp [zipD2]
  | _ :: _, [] => by simp [zipD2]
  | x :: xs, y :: ys => by
    simp only [zipD2, List.length_cons, zipD2_len xs ys]
    omega
theorem zipD3_len : ∀ (l m n : List D), (zipD3 l m n).length = min l.length (min m.length n.length)
  | [], _, _ => by simp [zipD3]
  | _ :: _, [], _ => by simp [zipD3]
  | _ :: _, _ :: _, [] => by simp [zipD3]
  | x :: xs, y :: ys, z :: zs => by
    simp only [zipD3, List.length_cons, zipD3_len xs ys zs]
    omega
theorem zipD2_get : ∀ {l m : List D} {i : Nat} {x y : D}, l[i]? = some x → m[i]? = some y → (zipD2 l m)[i]? = some (.tup [x, y])
  | [], _, _, _, _, h, _ => by simp at h
  | _ :: _, [], _, _, _, _, h => by simp at h
  | _ :: _, _ :: _, 0, _, _, h, h2 => by
    simp at h h2
    subst h h2
    rfl
  | _ :: l, _ :: m, i + 1, x, y, h, h2 => by
    have := zipD2_get (l := l) (m := m) (i := i) (by simpa using h) (by simpa using h2)
    simpa [zipD2] using this
theorem zipD3_get : ∀ {l m n : List D} {i : Nat} {x y z : D}, l[i]? = some x → m[i]? = some y → n[i]? = some z → (zipD3 l m n)[i]? = some (.tup [x, y, z])
  | [], _, _, _, _, _, _, h, _, _ => by simp at h
  | _ :: _, [], _, _, _, _, _, _, h, _ => by simp at h
  | _ :: _, _ :: _, [], _, _, _, _, _, _, h => by simp at h
  | _ :: _, _ :: _, _ :: _, 0, _, _, _, h, h2, h3 => by
    simp at h h2 h3
    subst h h2 h3
    rfl
  | _ :: l, _ :: m, _ :: n, i + 1, x, y, z, h, h2, h3 => by
    have := zipD3_get (l := l) (m := m) (n := n) (i := i) (by simpa using h) (by simpa using h2) (by simpa using h3)
    simpa [zipD3] using this
/-- no pointer among the items -/
def npD : D → Bool
  | .ptr _ => false
  | _ => true
theorem np_of {d : D} (h : npD d = true) : np d := by cases d <;> first | trivial | cases h
def okZ (x : D) (l : List D) : Sto → Prop := fun mu => okS x l mu
def iZip2 (da : DA) : DI := fun ga mu P F => da ga mu P fun ds mu1 => match ds with
  | [x, y] => ∃ l m, pv_ mu1 x = some l ∧ pv_ mu1 y = some m ∧ l.all npD = true ∧ m.all npD = true ∧ F (zipD2 l m) (fun mu2 => okS x l mu2 ∧ okS y m mu2) mu1
  | _ => False
def iZip3 (da : DA) : DI := fun ga mu P F => da ga mu P fun ds mu1 => match ds with
  | [x, y, z] => ∃ l m n, pv_ mu1 x = some l ∧ pv_ mu1 y = some m ∧ pv_ mu1 z = some n ∧ l.all npD = true ∧ m.all npD = true ∧ n.all npD = true ∧ F (zipD3 l m n) (fun mu2 => okS x l mu2 ∧ okS y m mu2 ∧ okS z n mu2) mu1
  | _ => False
def kindB : D → Bool
  | .tup _ => false
  | _ => true
theorem sq_of {K : PySem.W.Frag} {x : D} {l : List D} {hd hd0 : List Addr} {H H0 : Hp} {mu : Sto} {al al0 : List Addr} {p : Addr} (r : Rep K (al0 ++ hd0) H0 al0 x (.ref p)) (g : Fz H0 (al0 ++ hd0) H (al ++ hd)) (pr : Pre al0 al) (o : Okay K hd H mu al) (h : okS x l mu) :
    ∃ xs, SqA K H (kindB x) p xs ∧ RepL K (al ++ hd) H al l xs := by
  rcases seqKind r g pr o h with ⟨⟨t, rfl⟩, q⟩ | ⟨hn, q⟩
  · exact q
  · cases x <;> first | exact q | exact (hn _ rfl).elim
theorem all_at {l : List D} (h : l.all npD = true) {i : Nat} {d : D} (e : l[i]? = some d) : np d := np_of (List.all_eq_true.mp h d (List.mem_of_getElem? e))
theorem wk_zip2 {K : PySem.W.Frag} {x y : D} {p q : Addr} {l m : List D} {hd0 : List Addr} {H0 : Hp} {al0 : List Addr} (r : Rep K (al0 ++ hd0) H0 al0 x (.ref p)) (r2 : Rep K (al0 ++ hd0) H0 al0 y (.ref q)) (hl : l.all npD = true) (hm : m.all npD = true) :
    WkOk K (ItA2 K (kindB x) (kindB y) p q) (zipD2 l m) (fun mu2 => okS x l mu2 ∧ okS y m mu2) hd0 H0 al0 := by
  refine ⟨fun hd H mu al g pr o h => ?_, fun hd H mu al i g pr o h hi => ?_, fun hd H mu al i v H' g pr o h hi y => ?_⟩
  · obtain ⟨xs, s, r1⟩ := sq_of r g pr o h.1
    obtain ⟨ys, t, r3⟩ := sq_of r2 g pr o h.2
    refine ⟨xs, ys, s, t, ?_⟩
    rw [zipD2_len, r1.len, r3.len]
    omega
  · obtain ⟨xs, s, r1⟩ := sq_of r g pr o h.1
    obtain ⟨ys, t, r3⟩ := sq_of r2 g pr o h.2
    rw [zipD2_len, r1.len, r3.len] at hi
    have h1 : i < xs.length := by omega
    have h2 : i < ys.length := by omega
    exact ⟨xs, ys, xs[i], ys[i], s, t, List.getElem?_eq_getElem h1, List.getElem?_eq_getElem h2⟩
  · obtain ⟨xs, s, r1⟩ := sq_of r g pr o h.1
    obtain ⟨ys, t, r3⟩ := sq_of r2 g pr o h.2
    obtain ⟨T, x1, x2, rfl, hT, rfl, q1, q2⟩ := y
    obtain ⟨d, e1, r4⟩ := r1.get (q1 xs s)
    obtain ⟨e, e2, r5⟩ := r3.get (q2 ys t)
    have gl := Go.lay (hd := hd) (al := al) (u := .tup [x1, x2]) o hT
    refine ⟨_, zipD2_get e1 e2, o.lay hT, gl, ?_⟩
    exact .tup ⟨o.new hT, upd_same⟩ (.cons ((r4.np (all_at hl e1)).go gl (Pre.refl _)) (.cons ((r5.np (all_at hm e2)).go gl (Pre.refl _)) .nil))
theorem wk_zip3 {K : PySem.W.Frag} {x y z : D} {p q w : Addr} {l m n : List D} {hd0 : List Addr} {H0 : Hp} {al0 : List Addr} (r : Rep K (al0 ++ hd0) H0 al0 x (.ref p)) (r2 : Rep K (al0 ++ hd0) H0 al0 y (.ref q)) (r3 : Rep K (al0 ++ hd0) H0 al0 z (.ref w)) (hl : l.all npD = true) (hm : m.all npD = true) (hn : n.all npD = true) :
    WkOk K (ItA3 K (kindB x) (kindB y) (kindB z) p q w) (zipD3 l m n) (fun mu2 => okS x l mu2 ∧ okS y m mu2 ∧ okS z n mu2) hd0 H0 al0 := by
  refine ⟨fun hd H mu al g pr o h => ?_, fun hd H mu al i g pr o h hi => ?_, fun hd H mu al i v H' g pr o h hi y => ?_⟩
  · obtain ⟨xs, s, a1⟩ := sq_of r g pr o h.1
    obtain ⟨ys, t, a2⟩ := sq_of r2 g pr o h.2.1
    obtain ⟨zs, u, a3⟩ := sq_of r3 g pr o h.2.2
    refine ⟨xs, ys, zs, s, t, u, ?_⟩
    rw [zipD3_len, a1.len, a2.len, a3.len]
    omega
  · obtain ⟨xs, s, a1⟩ := sq_of r g pr o h.1
    obtain ⟨ys, t, a2⟩ := sq_of r2 g pr o h.2.1
    obtain ⟨zs, u, a3⟩ := sq_of r3 g pr o h.2.2
    rw [zipD3_len, a1.len, a2.len, a3.len] at hi
    have h1 : i < xs.length := by omega
    have h2 : i < ys.length := by omega
    have h3 : i < zs.length := by omega
    exact ⟨xs, ys, zs, xs[i], ys[i], zs[i], s, t, u, List.getElem?_eq_getElem h1, List.getElem?_eq_getElem h2, List.getElem?_eq_getElem h3⟩
  · obtain ⟨xs, s, a1⟩ := sq_of r g pr o h.1
    obtain ⟨ys, t, a2⟩ := sq_of r2 g pr o h.2.1
    obtain ⟨zs, u, a3⟩ := sq_of r3 g pr o h.2.2
    obtain ⟨T, x1, x2, x3, rfl, hT, rfl, q1, q2, q3⟩ := y
    obtain ⟨d, e1, r4⟩ := a1.get (q1 xs s)
    obtain ⟨e, e2, r5⟩ := a2.get (q2 ys t)
    obtain ⟨f, e3, r6⟩ := a3.get (q3 zs u)
    have gl := Go.lay (hd := hd) (al := al) (u := .tup [x1, x2, x3]) o hT
    refine ⟨_, zipD3_get e1 e2 e3, o.lay hT, gl, ?_⟩
    exact .tup ⟨o.new hT, upd_same⟩ (.cons ((r4.np (all_at hl e1)).go gl (Pre.refl _)) (.cons ((r5.np (all_at hm e2)).go gl (Pre.refl _)) (.cons ((r6.np (all_at hn e3)).go gl (Pre.refl _)) .nil)))
theorem di_zip2 {a1 a2 : Expr} {da : DA} {p pos tpos : Pos} {elts : List Expr} {kk : Nat} (hm : X.mg "zip" = none) (ha : PA X [a1, a2] (liftA X.K W da)) (hg : Gl X "zip" := by rfl)
    (hs : starEach [a1, a2] X.env = (false, eval a1 X.env) :: starEach [a2] X.env := by rfl) (hpl : (backTo pos (starEach [a2] X.env)).any (·.1) = false := by rfl) :
    PI X (.Tuple elts kk tpos) (.Call (.Name "zip" p) [a1, a2] [] pos) (liftI X.K W (iZip2 da)) := by
  refine pi_wk (pi2 hg hm ha hs hpl) fun sg H R ⟨ga, mu, al, hd, P, F, a, h, k, kx⟩ => ?_
  refine ⟨ga, mu, al, hd, P, _, a, h, ⟨fun ds mu1 vs H1 al1 h1 o1 g1 r1 => ?_⟩, kx⟩
  split at h1
  · obtain ⟨l, m, hl, hm, nl, nm, h2⟩ := h1
    obtain ⟨v, ys, rfl, r2, r3⟩ := r1.cons_
    obtain ⟨v2, ys2, rfl, r4, r5⟩ := r3.cons_
    cases r5.nil_
    obtain ⟨q, xs, rfl, _, _⟩ := r2.pv_ o1 hl
    obtain ⟨q2, xs2, rfl, _, _⟩ := r4.pv_ o1 hm
    obtain ⟨us, s1, _⟩ := sq_of (hd0 := hd) (H0 := H1) (al0 := al1) r2 (Fz.refl _ _) (Pre.refl _) o1 hl
    obtain ⟨us2, s2, _⟩ := sq_of (hd0 := hd) (H0 := H1) (al0 := al1) r4 (Fz.refl _ _) (Pre.refl _) o1 hm
    exact ⟨_, _, q, q2, us, us2, rfl, s1, s2, k _ _ _ _ _ _ h2 o1 g1 (wk_zip2 r2 r4 nl nm)⟩
  · exact h1.elim
theorem di_zip3 {a1 a2 a3 : Expr} {da : DA} {p pos tpos : Pos} {elts : List Expr} {kk : Nat} (hm : X.mg "zip" = none) (ha : PA X [a1, a2, a3] (liftA X.K W da)) (hg : Gl X "zip" := by rfl)
    (hs : starEach [a1, a2, a3] X.env = (false, eval a1 X.env) :: starEach [a2, a3] X.env := by rfl) (hpl : (backTo pos (starEach [a2, a3] X.env)).any (·.1) = false := by rfl) :
    PI X (.Tuple elts kk tpos) (.Call (.Name "zip" p) [a1, a2, a3] [] pos) (liftI X.K W (iZip3 da)) := by
  refine pi_wk (pi3 hg hm ha hs hpl) fun sg H R ⟨ga, mu, al, hd, P, F, a, h, k, kx⟩ => ?_
  refine ⟨ga, mu, al, hd, P, _, a, h, ⟨fun ds mu1 vs H1 al1 h1 o1 g1 r1 => ?_⟩, kx⟩
  split at h1
  · obtain ⟨l, m, n, hl, hm, hn, nl, nm, nn, h2⟩ := h1
    obtain ⟨v, ys, rfl, r2, r3⟩ := r1.cons_
    obtain ⟨v2, ys2, rfl, r4, r5⟩ := r3.cons_
    obtain ⟨v3, ys3, rfl, r6, r7⟩ := r5.cons_
    cases r7.nil_
    obtain ⟨q, xs, rfl, _, _⟩ := r2.pv_ o1 hl
    obtain ⟨q2, xs2, rfl, _, _⟩ := r4.pv_ o1 hm
    obtain ⟨q3, xs3, rfl, _, _⟩ := r6.pv_ o1 hn
    obtain ⟨us, s1, _⟩ := sq_of (hd0 := hd) (H0 := H1) (al0 := al1) r2 (Fz.refl _ _) (Pre.refl _) o1 hl
    obtain ⟨us2, s2, _⟩ := sq_of (hd0 := hd) (H0 := H1) (al0 := al1) r4 (Fz.refl _ _) (Pre.refl _) o1 hm
    obtain ⟨us3, s3, _⟩ := sq_of (hd0 := hd) (H0 := H1) (al0 := al1) r6 (Fz.refl _ _) (Pre.refl _) o1 hn
    exact ⟨_, _, _, q, q2, q3, us, us2, us3, rfl, s1, s2, s3, k _ _ _ _ _ _ h2 o1 g1 (wk_zip3 r2 r4 r6 nl nm nn)⟩
  · exact h1.elim
theorem unit65 {A : Around} (r : Room 0 A) : A.units + 65 < cLine := by
  have := r.un
  omega
/-! ### data as PyData -/
mutual
def toPy : D → PyData
  | .bl b => .bool b
  | .int i => .int i
  | .str x => .str x
  | .tup l => .tuple (toPyL l)
  | .lst l => .list (toPyL l)
  | _ => .none
def toPyL : List D → List PyData
  | [] => []
  | d :: l => toPy d :: toPyL l
end
mutual
def isPy : D → Bool
  | .non => true
  | .bl _ => true
  | .int _ => true
  | .str _ => true
  | .tup l => isPyL l
  | .lst l => isPyL l
  | _ => false
def isPyL : List D → Bool
  | [] => true
  | d :: l => isPy d && isPyL l
end
mutual
def frPy : PyData → D
  | .none => .non
  | .bool b => .bl b
  | .int i => .int i
  | .str x => .str x
  | .list l => .lst (frPyL l)
  | .tuple l => .tup (frPyL l)
  | .dict _ => .non
def frPyL : List PyData → List D
  | [] => []
  | d :: l => frPy d :: frPyL l
end
mutual
theorem fr_to : ∀ d : D, isPy d = true → frPy (toPy d) = d
  | .non, _ => by simp [toPy, frPy]
  | .bl _, _ => by simp [toPy, frPy]
  | .int _, _ => by simp [toPy, frPy]
  | .str _, _ => by simp [toPy, frPy]
  | .tup l, h => by
    simp only [toPy, frPy]
    rw [frL_to l (by simpa [isPy] using h)]
  | .lst l, h => by
    simp only [toPy, frPy]
    rw [frL_to l (by simpa [isPy] using h)]
  | .adr _, h => by simp [isPy] at h
  | .ptr _, h => by simp [isPy] at h
  | .obj _ _, h => by simp [isPy] at h
  | .err _ _ _ _, h => by simp [isPy] at h
theorem frL_to : ∀ l : List D, isPyL l = true → frPyL (toPyL l) = l
  | [], _ => by simp [toPyL, frPyL]
  | d :: l, h => by
    simp only [isPyL, Bool.and_eq_true] at h
    simp only [toPyL, frPyL]
    rw [fr_to d h.1, frL_to l h.2]
end
theorem toPyL_map : ∀ l : List D, toPyL l = l.map toPy
  | [] => by simp [toPyL]
  | d :: l => by rw [toPyL, toPyL_map l, List.map_cons]
mutual
theorem rep_dp {K : PySem.W.Frag} {al pt : List Addr} {H : Hp} : ∀ {d : D} {v : V}, isPy d = true → Rep K al H pt d v → Dp K H v (toPy d)
  | .non, _, _, .non => by simp only [toPy]; exact .non
  | .bl _, _, _, .bl => by simp only [toPy]; exact .bl _
  | .int _, _, _, .int => by simp only [toPy]; exact .int _
  | .str _, _, _, .str => by simp only [toPy]; exact .str _
  | .tup l, _, h, .tup z r => by
    simp only [toPy]
    exact .tup z.sq (repL_dp (by simpa [isPy] using h) r)
  | .lst l, _, h, .lst z r => by
    simp only [toPy]
    exact .lst z.sq (repL_dp (by simpa [isPy] using h) r)
theorem repL_dp {K : PySem.W.Frag} {al pt : List Addr} {H : Hp} : ∀ {l : List D} {vs : List V}, isPyL l = true → RepL K al H pt l vs → DpAll K H vs (toPyL l)
  | [], _, _, .nil => by simp only [toPyL]; exact .nil
  | d :: l, _, h, .cons a r => by
    simp only [isPyL, Bool.and_eq_true] at h
    simp only [toPyL]
    exact .cons (rep_dp h.1 a) (repL_dp h.2 r)
end
end
/-! ### min and max of a list of alike data -/
theorem fold_mem {f : PyData → PyData → Bool} : ∀ (xs : List PyData) (x : PyData), xs.foldl (fun a y => if f y a then y else a) x ∈ x :: xs
  | [], x => by simp
  | y :: ys, x => by
    rw [List.foldl_cons]
    rcases List.mem_cons.mp (fold_mem ys (if f y x then y else x)) with h | h
    · rw [h]
      split <;> simp
    · exact List.mem_cons_of_mem _ (List.mem_cons_of_mem _ h)
def rMinD (K : PySem.W.Frag) : List V → Hp → VK → Prop := fun vs H Q => ∃ (a : Addr) (xs : List V) (d : PyData) (ds : List PyData), vs = [.ref a] ∧ SqL K H a xs ∧ DpAll K H xs (d :: ds) ∧ PySem.W.AlikeAll (d :: ds) ∧ PyData.depthAll (d :: ds) ≤ 60 ∧ ∀ (i : Nat) (x : V), xs[i]? = some x → (d :: ds)[i]? = some (PySem.W.minD d ds) → Q x H
theorem foldg_mem {f : PyData → PyData → Bool} (xs : List PyData) (x : PyData) : xs.foldl (fun a y => if f y a = true then y else a) x ∈ x :: xs := fold_mem xs x
theorem minD_mem (x : PyData) (xs : List PyData) : PySem.W.minD x xs ∈ x :: xs := fold_mem (f := PySem.W.dataLt) xs x
section
variable {X : Cx}
theorem cr_minD (hc : X.calm = true) (hu : X.A.units + 65 < cLine) : CallR X (.builtin "min") (rMinD X.K) := by
  intro pins s σ H vs us Q I r h
  obtain ⟨a, xs, d, ds, rfl, hs, hd, ha, hde, q⟩ := h
  obtain ⟨its, rv, hl, _⟩ := I.list hs
  rw [Vals.ref1 r]
  obtain ⟨as, hr⟩ := Dp.readsAll I (d :: ds) xs its hd rv
  refine PySem.W.min_list_data (I.ok.hd hc) hl.isList (by simpa using hr) ha (by omega) fun i v h' tk bs hv hrd hk => ?_
  have hv' : its[i]? = some v := by simpa using hv
  have hlen := rv.length
  have hi : i < xs.length := by have := (List.getElem?_eq_some_iff.mp hv').1; omega
  obtain ⟨u, hu', ru⟩ := rv.get (List.getElem?_eq_getElem hi)
  have eu : u = v := Option.some.inj (hu'.symm.trans hv')
  subst eu
  obtain ⟨cs, r1, hlt, hmem, _⟩ := PySem.W.readsAll_at hr i u hv'
  have r2 := PySem.W.reads_keeps hk r1
  have e := PySem.W.alike_unique _ _ _ _ _ (ha.1 _ hmem _ (minD_mem d ds)) r2 hrd
  refine ⟨xs[i], H, I.kept hk, ru, q i xs[i] (List.getElem?_eq_getElem hi) ?_⟩
  rw [← e, List.getD_eq_getElem?_getD, List.getElem?_eq_getElem hlt]
  rfl
/-- min of a list of alike data -/
def minDD (d : D) (l : List D) : D := frPy (PySem.W.minD (toPy d) (toPyL l))
def bMinD : GL := fun ds mu F => match ds with
  | [x] => ∃ d l, lv mu x = some (d :: l) ∧ isPyL (d :: l) = true ∧ PySem.W.AlikeAll (toPyL (d :: l)) ∧ PyData.depthAll (toPyL (d :: l)) ≤ 60 ∧ F (minDD d l) mu
  | _ => False
theorem isPyL_at : ∀ {l : List D} {i : Nat} {d : D}, isPyL l = true → l[i]? = some d → isPy d = true
  | [], _, _, _, h => by simp at h
  | x :: l, 0, d, h, e => by
    simp only [isPyL, Bool.and_eq_true] at h
    simp at e
    subst e
    exact h.1
  | x :: l, i + 1, d, h, e => by
    simp only [isPyL, Bool.and_eq_true] at h
    exact isPyL_at h.2 (by simpa using e)
theorem minDD_mem {d : D} {l : List D} (h : isPyL (d :: l) = true) : minDD d l ∈ d :: l := by
  have m := minD_mem (toPy d) (toPyL l)
  have e : toPy d :: toPyL l = (d :: l).map toPy := by rw [toPyL_map]; rfl
  rw [e] at m
  obtain ⟨x, hx, ex⟩ := List.mem_map.mp m
  obtain ⟨i, hi, e2⟩ := List.mem_iff_getElem.mp hx
  have hp : isPy x = true := isPyL_at h (by rw [List.getElem?_eq_getElem hi, e2])
  unfold minDD
  rw [← ex, fr_to x hp]
  exact hx
theorem b_minD (hc : X.calm = true) (hu : X.A.units + 65 < cLine) : CbS X (.builtin "min") bMinD := by
  refine ⟨_, cr_minD hc hu, fun H mu al hd ds vs F Q o r hg kv => ?_⟩
  unfold bMinD at hg
  split at hg
  · rename_i x
    obtain ⟨v, ys, rfl, r1, r2⟩ := r.cons_
    cases r2.nil_
    obtain ⟨d, l, hl, hp, ha, hde, hF⟩ := hg
    obtain ⟨p, xs, rfl, s, r3⟩ := r1.lv o hl
    have hdp := repL_dp hp r3
    refine ⟨p, xs, toPy d, toPyL l, rfl, .inl s, hdp, ha, hde, fun i x hx hm => ?_⟩
    obtain ⟨d', e1, r4⟩ := r3.get hx
    have e2 : (toPy d :: toPyL l)[i]? = some (toPy d') := by
      have e : toPy d :: toPyL l = (d :: l).map toPy := by rw [toPyL_map]; rfl
      rw [e, List.getElem?_map, e1]
      rfl
    have e3 : toPy d' = PySem.W.minD (toPy d) (toPyL l) := Option.some.inj (e2.symm.trans hm)
    have e4 : d' = minDD d l := by
      unfold minDD
      rw [← e3, fr_to d' (isPyL_at hp e1)]
    subst e4
    exact kv.now o hF (r4.fz (Fz.refl _ _) (Pre.nil _))
  · exact hg.elim
end
end DZ

/-! part DZ3 -/
/-! DZ3: enumerate of a tuple, range with a step, over data. -/
namespace DZ
open PySem PySem.Spec PyProof.Rows L2 DL DQ DX
theorem meets_enumT (l : Addr) (items : Array Value) :
    Meets (Builtin.«enumerate.__new__» ⟨[.type "enumerate", .ref l], []⟩) (fun _ R s => s.heap.IsTuple l items ∧
      R (.ok (.ret (.ref (s.heap.push { cls := .type "tuple_iterator", data := .fields #[.ref l, .int 0 0] }).objs.size)))
        { s with heap := (s.heap.push { cls := .type "tuple_iterator", data := .fields #[.ref l, .int 0 0] }).push { cls := .type "enumerate", data := .fields #[.none, .bool false, .ref s.heap.objs.size, rawInt 0, .none, .none] } }) :=
  .of_wp fun prog w A R s h => by
    obtain ⟨hp, g, d, tk, os⟩ := s; obtain ⟨hl, h⟩ := h
    have hsub := sub_enumerate
    have hL : Heap.IsTuple (Shared.heap ⟨hp, g, d, tk, os⟩) l items := hl
    wp_walk using wpAny_pyIter_tuple hL
    refine wpAny_stack_any fun st => wpAny_pure ?_
    split
    · rename_i c _ _ _ _ _
      cases (c == Value.type "enumerate")
      · wp_walk using wpAny_pyIter_tuple hL
        exact ⟨_, rfl, h⟩
      · wp_walk using wpAny_pyIter_tuple hL
        exact ⟨_, rfl, h⟩
    · wp_walk using wpAny_pyIter_tuple hL
      exact ⟨_, rfl, h⟩
section
variable {prog : Program} {w : World} {A : Around} {E : Value → Shared → Prop} {s : Shared}
theorem call_enumT {l : Addr} {items : Array Value} {Q : Value → Shared → Prop} (hL : s.heap.IsTuple l items)
    (h : ∀ h', IsEnum h' (s.heap.objs.size + 1) s.heap.objs.size 0 .none → h'.IsTupleIter s.heap.objs.size l 0 → h'.objs.size = s.heap.objs.size + 2 →
      (∀ b o, s.heap.get? b = some o → h'.get? b = some o) → Q (.ref (s.heap.objs.size + 1)) { s with heap := h' }) :
    wpAny (model prog w) A (call (.type "enumerate") [.ref l]) Q E s := by
  refine callType_new F.called_enumerate (by decide) (F.typeCall_enumerate_1 _) (F.newCall_enumerate_1 _) (fun obj => F.args_object_init_2 obj _) F.entry_enumerate_new
    (meets_enumT l items) ⟨hL, ?_⟩
  have hz : (s.heap.push { cls := .type "tuple_iterator", data := .fields #[.ref l, .int 0 0] }).objs.size = s.heap.objs.size + 1 := Heap.size_push ..
  show _ ∧ _
  rw [hz]
  have he : IsEnum ((s.heap.push { cls := .type "tuple_iterator", data := .fields #[.ref l, .int 0 0] }).push
      { cls := .type "enumerate", data := .fields #[.none, .bool false, .ref s.heap.objs.size, rawInt 0, .none, .none] }) (s.heap.objs.size + 1) s.heap.objs.size 0 .none := by
    have := Heap.get?_push_size (s.heap.push { cls := .type "tuple_iterator", data := .fields #[.ref l, .int 0 0] })
      (o := { cls := .type "enumerate", data := .fields #[.none, .bool false, .ref s.heap.objs.size, rawInt 0, .none, .none] }) rfl
    rw [hz] at this; exact this
  refine ⟨⟨_, he, rfl⟩, h _ he ⟨_, Heap.get?_push_of_some _ (Heap.get?_push_size _ rfl), rfl, rfl⟩ (by rw [Heap.size_push, hz]) fun b o x => Heap.get?_push_of_some _ (Heap.get?_push_of_some _ x)⟩
end
/-- the tuple at a, each item in a new pair -/
def IteT (K : PySem.W.Frag) (a : Addr) : It :=
  ⟨fun i H => ∃ (xs : List V) (x : V), SqT K H a xs ∧ xs[i]? = some x, fun i H v H' => ∃ T x, v = .ref T ∧ H T = none ∧ H' = upd H T (.tup [.int (i : Nat), x]) ∧ ∀ xs, SqT K H a xs → xs[i]? = some x, fun i H => ∃ xs : List V, SqT K H a xs ∧ xs.length ≤ i⟩
theorem turn_enumT {P : Program} {w : World} {K : PySem.W.Frag} {elts : List Expr} {kk : Nat} {tpos : Pos} (a e it : Addr) :
    Turn P w K (.Tuple elts kk tpos) (IteT K a) [e, it] e (fun i h => (∃ old, IsEnum h e it ((i : Nat) : Int) old) ∧ h.IsTupleIter it a i ∧ e ≠ it ∧ a ≠ it ∧ e ≠ a) where
  mem := by simp
  obj := fun i h st b hb => by
    obtain ⟨⟨old, he⟩, ⟨o, ho, hc, hd⟩, _⟩ := st
    have e' : b = e ∨ b = it := by simpa using hb
    rcases e' with z | z
    · rw [z]; exact ⟨_, he, fun v q => nomatch q⟩
    · rw [z]; exact ⟨o, ho, fun v q => by rw [hd] at q; cases q⟩
  keep := fun i h h' st k => let ⟨⟨old, he⟩, hi, hne⟩ := st; ⟨⟨old, k e (by simp) _ he⟩, hi.at fun o q => k it (by simp) o q, hne⟩
  item := by
    intro X hP hw hK hc i pins s σ H E I hf st hg
    subst hP hw hK
    obtain ⟨⟨old, he⟩, hit, hne, hai, hea⟩ := st
    obtain ⟨xs, x, hq, hx⟩ := hg
    obtain ⟨its, rv, p, hz⟩ := I.tuple hq
    obtain ⟨u, hu, ru⟩ := rv.get hx
    have hel : e < s.heap.objs.size := Heap.lt_size he
    have hil : it < s.heap.objs.size := by obtain ⟨_, q, _⟩ := hit; exact Heap.lt_size q
    have hlt : i < its.length := (List.getElem?_eq_some_iff.mp hu).1
    refine wpAny_pyNext_enum_itemD (Draws.tuple (prog := X.prog) (w := X.w) (A := X.A.in1) (by exact I.ok.hd hc) it a hai its.toArray) he ⟨hit, p⟩ (by simpa using hlt) hne (by simp; exact ⟨hne, hea⟩) fun u' h' tk hu' ho hst' hT hsz hk => ?_
    have eu : u' = u := by
      have h1 : its.toArray[i]? = some u := by simpa using hu
      rw [h1] at hu'
      exact (Option.some.inj hu').symm
    subst eu
    obtain ⟨hit', _⟩ := hst'
    refine ⟨_, rfl, wpAny_letOwnedTupleGo_enum (s := { s with heap := h', toks := tk + 1 }) ho fun h'' he' sb => ?_⟩
    have hT2 : h''.get? s.heap.objs.size = some { cls := .type "tuple", data := .seq #[.int i tk, u'] } := (sb.2 _ (Nat.ne_of_gt hel)).trans hT
    have new : ObjOk X.prog X.w (upd H s.heap.objs.size (.tup [.int (i : Nat), x])) h'' s.heap.objs.size (.tup [.int (i : Nat), x]) :=
      ⟨by show 2 ≤ sizeLine; decide, [.int i tk, u'], .cons ⟨_, rfl⟩ (.cons ru .nil), ⟨_, hT2, rfl, _, rfl⟩⟩
    have I1 : Inv X pins σ (upd H s.heap.objs.size (.tup [.int (i : Nat), x])) { s with heap := h'', toks := tk + 1 } :=
      I.turnedNew (ch := [e, it]) (fun b ob hb q => (sb.2 b (fun z => hb (by simp [z]))).trans (hk b ob (fun z => hb (by simp [z])) (fun z => hb (by simp [z])) q)) hf (Nat.le_refl _) new
    refine ⟨.ref s.heap.objs.size, _, I1, rfl, ⟨_, x, rfl, I.hok.fresh (Nat.le_refl _), rfl, fun ys hy => by rw [I.tuple_inj hy hq]; exact hx⟩, ⟨⟨u', ?_⟩, hit'.at fun o q => (sb.2 it (Ne.symm hne)).trans q, hne, hai, hea⟩, fun b hb => ?_⟩
    · have e1 : ((i + 1 : Nat) : Int) = (i : Int) + 1 := by omega
      rw [e1]; exact he'
    · have hb' : b < s.heap.objs.size := by
        have e' : b = e ∨ b = it := by simpa using hb
        rcases e' with z | z
        · rw [z]; exact hel
        · rw [z]; exact hil
      rw [upd_ne (Nat.ne_of_lt hb')]
      exact (hf b hb).1
  done := by
    intro X hP hw hK hc i pins s σ H E I hf st hg
    subst hP hw hK
    obtain ⟨⟨old, he⟩, hit, hne, hai, hea⟩ := st
    obtain ⟨xs, hq, hx⟩ := hg
    obtain ⟨its, rv, p, hz⟩ := I.tuple hq
    obtain ⟨f0, f1, f2, f3, f4, f5⟩ := hf it (by simp)
    have hl := rv.length
    have hT : s.TypeIs (.ref e) "enumerate" := ⟨_, he, rfl⟩
    unfold pyNext
    refine wpAny_bind (wpAny_attempt (wpAny_callSpecial?_slot (name := Str.ofString "__next__") hT F.slot_enumerate_next
      (wpAny_call_entry F.slot_enumerate_next hT F.entry_enumerate_next ?_ (F.args_enumerate_next_1 _))))
    show wpAny _ _ (field (.ref e) 2 >>= _) _ _ _
    refine wpAny_bind (wpAny_field he rfl (x := .ref it) rfl ?_)
    refine wpAny_bind (next_end (k := false) (by exact I.ok.hd hc) hit p (by simp; omega) fun h' x he' hx' => ?_)
    obtain ⟨o, ho, hcc⟩ := hx'
    refine wpAny_bind (wpAny_isInstance (T := "StopIteration") (b := true) ⟨o, ho, hcc⟩ isSubtype_stop ?_)
    exact wpAny_pure ⟨rfl, I.turned (t' := s.toks) (fun b o hb q => he' b o hb q) f0 f1 f3 f4 f5⟩
  self := fun A i s Q E st h => let ⟨⟨_, he⟩, _⟩ := st; wpAny_pyIter_enum he h
def iEnumT (K : PySem.W.Frag) (ta : TA) : TI := fun σ H R => ta σ H fun vs H1 => ∃ a xs, vs = [.ref a] ∧ (SqL K H1 a xs ∧ R (Ite K a) H1 ∨ SqT K H1 a xs ∧ R (IteT K a) H1)
theorem pi_enumA {X : Cx} {e : Expr} {ta : TA} {p pos tpos : Pos} {elts : List Expr} {kk : Nat} (hg : Gl X "enumerate") (hm : X.mg "enumerate" = none) (ha : PA X [e] ta) (hs : starEach [e] X.env = [(false, eval e X.env)] := by rfl) :
    PI X (.Tuple elts kk tpos) (.Call (.Name "enumerate" p) [e] [] pos) (iEnumT X.K ta) := by
  refine ⟨fun pins s σ H R I h => ?_⟩
  refine Call_ (ld_blt I hg hm boot_enumerate (PyProof.Rows.callWith_type1 (thn (ha.run pos pins s σ H _ I h) fun us s1 ⟨vs, H1, I1, r1, q1⟩ => ?_) hs rfl))
  obtain ⟨a, xs, ex, q⟩ := q1
  subst ex
  cases r1 with
  | cons r rr =>
    cases rr
    cases r
    rcases q with ⟨hq, q⟩ | ⟨hq, q⟩
    · obtain ⟨its, rv, p', hz⟩ := I1.list hq
      refine call_enumerate_list p'.isList fun h' he hit hsz hk => wpAny_pyIter_enum he ?_
      have I2 : Inv X pins σ H1 { s1 with heap := h' } := I1.kept (t' := s1.toks) hk
      refine ⟨s1.heap.objs.size + 1, [s1.heap.objs.size + 1, s1.heap.objs.size], _, _, H1, rfl, I2, turn_enum a (s1.heap.objs.size + 1) s1.heap.objs.size, ⟨⟨.none, he⟩, hit, Nat.succ_ne_self _⟩, fun b hb => ?_, q⟩
      have e' : b = s1.heap.objs.size + 1 ∨ b = s1.heap.objs.size := by simpa using hb
      have hle : s1.heap.objs.size ≤ b := by
        rcases e' with z | z
        · rw [z]; exact Nat.le_add_right _ _
        · rw [z]; exact Nat.le_refl _
      exact I1.fpOk hle (I1.hok.fresh hle)
    · obtain ⟨its, rv, p', hz⟩ := I1.tuple hq
      have hal : a < s1.heap.objs.size := asq_lt (b := false) p'
      refine call_enumT p' fun h' he hit hsz hk => wpAny_pyIter_enum he ?_
      have I2 : Inv X pins σ H1 { s1 with heap := h' } := I1.kept (t' := s1.toks) hk
      refine ⟨s1.heap.objs.size + 1, [s1.heap.objs.size + 1, s1.heap.objs.size], _, _, H1, rfl, I2, turn_enumT a (s1.heap.objs.size + 1) s1.heap.objs.size, ⟨⟨.none, he⟩, hit, Nat.succ_ne_self _, Nat.ne_of_lt hal, Nat.ne_of_gt (Nat.lt_succ_of_lt hal)⟩, fun b hb => ?_, q⟩
      have e' : b = s1.heap.objs.size + 1 ∨ b = s1.heap.objs.size := by simpa using hb
      have hle : s1.heap.objs.size ≤ b := by
        rcases e' with z | z
        · rw [z]; exact Nat.le_add_right _ _
        · rw [z]; exact Nat.le_refl _
      exact I1.fpOk hle (I1.hok.fresh hle)
section
variable {X : Cx} {W : WX}
def iEnA (da : DA) : DI := fun ga mu P F => da ga mu P fun ds mu1 => match ds with
  | [x] => ∃ l, pv_ mu1 x = some l ∧ l.all npD = true ∧ F (enF 0 l) (okS x l) mu1
  | _ => False
theorem wk_enL {K : PySem.W.Frag} {x : D} {p : Addr} {l : List D} {hd0 : List Addr} {H0 : Hp} {al0 : List Addr} (r : Rep K (al0 ++ hd0) H0 al0 x (.ref p)) (hl : l.all npD = true) (hx : kindB x = true) : WkOk K (Ite K p) (enF 0 l) (okS x l) hd0 H0 al0 := by
  have key : ∀ hd H mu al, Fz H0 (al0 ++ hd0) H (al ++ hd) → Pre al0 al → Okay K hd H mu al → okS x l mu → ∃ xs, SqL K H p xs ∧ RepL K (al ++ hd) H al l xs := fun hd H mu al g pr o h => by
    have := sq_of r g pr o h
    rw [hx] at this
    exact this
  refine ⟨fun hd H mu al g pr o h => ?_, fun hd H mu al i g pr o h hi => ?_, fun hd H mu al i v H' g pr o h hi y => ?_⟩
  · obtain ⟨xs, s, r1⟩ := key hd H mu al g pr o h
    exact ⟨xs, s, by rw [enF_len, r1.len]; exact Nat.le_refl _⟩
  · obtain ⟨xs, s, r1⟩ := key hd H mu al g pr o h
    rw [enF_len, r1.len] at hi
    exact ⟨xs, xs[i], s, List.getElem?_eq_getElem hi⟩
  · obtain ⟨xs, s, r1⟩ := key hd H mu al g pr o h
    obtain ⟨T, z, rfl, hT, rfl, q⟩ := y
    obtain ⟨d, e1, r2⟩ := r1.get (q xs s)
    have gl := Go.lay (hd := hd) (al := al) (u := .tup [.int (i : Nat), z]) o hT
    refine ⟨_, enF_get l 0 i d e1, o.lay hT, gl, ?_⟩
    rw [Nat.zero_add]
    exact .tup ⟨o.new hT, upd_same⟩ (.cons .int (.cons ((r2.np (all_at hl e1)).go gl (Pre.refl _)) .nil))
theorem wk_enT {K : PySem.W.Frag} {x : D} {p : Addr} {l : List D} {hd0 : List Addr} {H0 : Hp} {al0 : List Addr} (r : Rep K (al0 ++ hd0) H0 al0 x (.ref p)) (hl : l.all npD = true) (hx : kindB x = false) : WkOk K (IteT K p) (enF 0 l) (okS x l) hd0 H0 al0 := by
  have key : ∀ hd H mu al, Fz H0 (al0 ++ hd0) H (al ++ hd) → Pre al0 al → Okay K hd H mu al → okS x l mu → ∃ xs, SqT K H p xs ∧ RepL K (al ++ hd) H al l xs := fun hd H mu al g pr o h => by
    have := sq_of r g pr o h
    rw [hx] at this
    exact this
  refine ⟨fun hd H mu al g pr o h => ?_, fun hd H mu al i g pr o h hi => ?_, fun hd H mu al i v H' g pr o h hi y => ?_⟩
  · obtain ⟨xs, s, r1⟩ := key hd H mu al g pr o h
    exact ⟨xs, s, by rw [enF_len, r1.len]; exact Nat.le_refl _⟩
  · obtain ⟨xs, s, r1⟩ := key hd H mu al g pr o h
    rw [enF_len, r1.len] at hi
    exact ⟨xs, xs[i], s, List.getElem?_eq_getElem hi⟩
  · obtain ⟨xs, s, r1⟩ := key hd H mu al g pr o h
    obtain ⟨T, z, rfl, hT, rfl, q⟩ := y
    obtain ⟨d, e1, r2⟩ := r1.get (q xs s)
    have gl := Go.lay (hd := hd) (al := al) (u := .tup [.int (i : Nat), z]) o hT
    refine ⟨_, enF_get l 0 i d e1, o.lay hT, gl, ?_⟩
    rw [Nat.zero_add]
    exact .tup ⟨o.new hT, upd_same⟩ (.cons .int (.cons ((r2.np (all_at hl e1)).go gl (Pre.refl _)) .nil))
theorem di_enumA {e : Expr} {da : DA} {p pos tpos : Pos} {elts : List Expr} {kk : Nat} (hm : X.mg "enumerate" = none) (ha : PA X [e] (liftA X.K W da)) (hg : Gl X "enumerate" := by rfl) (hs : starEach [e] X.env = [(false, eval e X.env)] := by rfl) :
    PI X (.Tuple elts kk tpos) (.Call (.Name "enumerate" p) [e] [] pos) (liftI X.K W (iEnA da)) := by
  refine pi_wk (pi_enumA hg hm ha hs) fun sg H R ⟨ga, mu, al, hd, P, F, a, h, k, kx⟩ => ?_
  refine ⟨ga, mu, al, hd, P, _, a, h, ⟨fun ds mu1 vs H1 al1 h1 o1 g1 r1 => ?_⟩, kx⟩
  split at h1
  · rename_i x
    obtain ⟨l, hl, nl, h2⟩ := h1
    obtain ⟨v, ys, rfl, r2, r3⟩ := r1.cons_
    cases r3.nil_
    obtain ⟨q, xs, rfl, _, r4⟩ := r2.pv_ o1 hl
    obtain ⟨us, s1, _⟩ := sq_of (hd0 := hd) (H0 := H1) (al0 := al1) r2 (Fz.refl _ _) (Pre.refl _) o1 hl
    cases hx : kindB x with
    | true =>
      rw [hx] at s1
      exact ⟨q, us, rfl, .inl ⟨s1, k _ _ _ _ _ _ h2 o1 g1 (wk_enL r2 nl hx)⟩⟩
    | false =>
      rw [hx] at s1
      exact ⟨q, us, rfl, .inr ⟨s1, k _ _ _ _ _ _ h2 o1 g1 (wk_enT r2 nl hx)⟩⟩
  · exact h1.elim
/-! ### range(i, j, -1) -/
def rngD (i : Int) (n : Nat) : List D := (List.range n).map fun (k : Nat) => D.int (i + (k : Int) * (-1))
def iR3 (da : DA) : DI := fun ga mu P F => da ga mu P fun ds mu1 => match ds with
  | [.int i, .int j, .int c] => (c = -1 ∧ -(2 ^ 62) ≤ i ∧ i < 2 ^ 62 ∧ -(2 ^ 62) ≤ j ∧ j < 2 ^ 62) ∧ F (rngD i (i - j).toNat) (fun _ => True) mu1
  | _ => False
theorem rngD_len (lo : Int) (n : Nat) : (rngD lo n).length = n := by unfold rngD; rw [List.length_map, List.length_range]
theorem rngD_get {lo : Int} {n i : Nat} (h : i < n) : (rngD lo n)[i]? = some (.int (lo + (i : Int) * (-1))) := by
  unfold rngD
  rw [List.getElem?_map, List.getElem?_range h]
  rfl
theorem wk_rangeC {K : PySem.W.Frag} {lo : Int} {n : Nat} {hd0 : List Addr} {H0 : Hp} {al0 : List Addr} : WkOk K (Itc lo (-1) n) (rngD lo n) (fun _ => True) hd0 H0 al0 := by
  refine ⟨fun hd H mu al g pr o h => ?_, fun hd H mu al i g pr o h hi => ?_, fun hd H mu al i v H' g pr o h hi y => ?_⟩
  · rw [rngD_len]
    exact Nat.le_refl _
  · rw [rngD_len] at hi
    exact hi
  · rw [rngD_len] at hi
    obtain ⟨e, q⟩ := y
    subst e q
    exact ⟨_, rngD_get hi, o, Go.refl _ _, .int⟩
theorem di_range3 {tg a b c : Expr} {da : DA} {p pos : Pos} (hm : X.mg "range" = none) (ha : PA X [a, b, c] (liftA X.K W da)) (hg : Gl X "range" := by rfl)
    (hs : starEach [a, b, c] X.env = (false, eval a X.env) :: starEach [b, c] X.env := by rfl) (hpl : (backTo pos (starEach [b, c] X.env)).any (·.1) = false := by rfl) : PI X tg (.Call (.Name "range" p) [a, b, c] [] pos) (liftI X.K W (iR3 da)) := by
  refine pi_wk (pi_range3 hg hm ha hs hpl) fun sg H R ⟨ga, mu, al, hd, P, F, a, h, k, kx⟩ => ?_
  refine ⟨ga, mu, al, hd, P, _, a, h, ⟨fun ds mu1 vs H1 al1 h1 o1 g1 r1 => ?_⟩, kx⟩
  split at h1
  · obtain ⟨v, ys, rfl, r2, r3⟩ := r1.cons_
    obtain ⟨v2, ys2, rfl, r4, r5⟩ := r3.cons_
    obtain ⟨v3, ys3, rfl, r6, r7⟩ := r5.cons_
    cases r7.nil_
    cases r2.int_
    cases r4.int_
    cases r6.int_
    obtain ⟨⟨rfl, h1, h2, h3, h4⟩, hF⟩ := h1
    exact ⟨_, _, _, _, rfl, RgC.neg h1 h2 h3 h4, k _ _ _ _ _ _ hF o1 g1 wk_rangeC⟩
  · exact h1.elim
end
end DZ

/-! part DZ4 -/
/-! DZ4: x in y by the text's own __contains__; a lambda handed to a def that tells whether it raises. -/
namespace DZ
open PySem PySem.Spec PyProof.Rows L2 DL DQ DX
open PySem.W in
theorem contains_K {prog : Program} {w : World} {A : Around} {E : Value → Shared → Prop} {s : Shared} {K : Frag} {x C f : Addr} {ox : Obj} {od : Option Obj} {v : Value} {Q : Bool → Shared → Prop} (X : K.In s.heap) (I : InstAt s.heap x ox C od)
    (hs : findIn K (.ref C) "__contains__" = some (some (.ref f))) (hf : typeIn K (.ref f) = some (.type "function")) (h : wpAny (model prog w) A (call (.ref f) [.ref x, v]) (fun r s' => ∃ b, r = .bool b ∧ Q b s') E s) : wpAny (model prog w) A (contains (.ref x) v) Q E s := by
  unfold contains
  refine wpAny_holding ?_
  show wpAny _ _ (specialOf (.ref x) "__contains__" >>= _) _ _ _
  refine wpAny_bind (wpAny_bind (I.type.here ((looks_findIn X hs).here ?_)))
  have e : ((some (Value.ref f) : Option Value) == some .none) = false := rfl
  simp only [e, Bool.false_eq_true, if_false]
  show wpAny _ _ (callSpecialUnlessNone? (.ref x) "__contains__" [v] _ >>= _) _ _ _
  refine wpAny_bind ?_
  unfold callSpecialUnlessNone?
  refine wpAny_bind (wpAny_bind (I.type.here ((looks_findIn X hs).here ?_)))
  refine wpAny_holding (wpAny_bind ((bind_fn X _ hf).here ?_))
  have e2 : ((Value.ref f) == Value.none) = false := rfl
  simp only [e2, Bool.false_eq_true, if_false]
  refine wpAny_bind (wpAny_mono h (fun r s' hr => ?_) fun _ _ z => z)
  obtain ⟨b, rfl, hq⟩ := hr
  exact wpAny_pure (wpAny_truthy_bool hq)
section
variable {X : Cx} {W : WX}
/-- x in y, y of class c -/
def gInO (c : Nat) (sp : DSp) : G2 := fun x y mu P F => clsD mu y = some c ∧ sp [y, x] mu P fun d mu' => match d with
  | .bl b => F (.bl b) mu'
  | _ => False
theorem o_inO {k c : Nat} {f : Addr} {sp : DSp} (Pm : Prom X.prog X.w X.K X.mg X.base k f 2 sp) (hM : Meth X.K (He.ga X.K (cn c)) "__contains__" f) (hr : Room k X.A) (tk : Takes X W) : OpS X (compareOp .In) (liftR X.K W (gInO c sp)) := by
  intro pins s sg H x y v u Q I rx ry h
  obtain ⟨mu, al, hd, d, e, P, F, o, r1, r2, ⟨c2, hsp⟩, kv, kx⟩ := h
  obtain ⟨b, dy, ys, rfl, _, eb⟩ := r2.cls o c2
  cases (show u = Value.ref b from ry)
  obtain ⟨mB, J', _⟩ := ins_get I.hok eb
  obtain ⟨od', J', _⟩ := J'.look
  obtain ⟨fd, ps, hn, G, bb⟩ := Pm.ok
  show wpAny _ _ (contains (.ref b) v >>= fun r => pure (Value.bool r)) _ _ _
  refine wpAny_bind (contains_K I.kIn J' hM.at_ (beq_iff_eq.mp hM.fn) ?_)
  have kv' : Kv X.K hd H al (fun d mu' => match d with
    | .bl b => F (.bl b) mu'
    | _ => False) (fun v H' => ∃ bo, v = .bl bo ∧ Q (.bl bo) H') := ⟨fun d' mu' v' H' al' hF o' g' r' => by
      cases d' <;> try exact hF.elim
      rename_i bo
      exact ⟨bo, r'.bl_, kv.go _ _ _ _ _ hF o' g' .bl⟩⟩
  refine wpAny_mono (run_fnS (us := [.ref b, v]) (vs := [.ref b, x]) G hr bb (passAt tk sg) I (.cons rfl (.cons rx .nil)) (args_in Pm.ar hsp o (Go.refl _ _) (.cons r2 (.cons r1 .nil)) kv' kx)) (fun w s' z => ?_) fun _ _ x => x
  obtain ⟨z', H', I', rz, bo, rfl, qz⟩ := z
  have ew : w = .bool bo := rz
  exact ⟨bo, ew, wpAny_pure ⟨.bl bo, H', I', rfl, qz⟩⟩
end
/-! ### flag = False; try: x() / except ..; return flag -/
def TTE (K : PySem.W.Frag) (n : Nat) (l : List Cl1) : (XK → Hp → VK → Prop) → Hp → VK → Prop := fun tl H Q =>
  tl (fun cls d H' => ∀ q : L2.St, q.length = n → wMix K DX.W0 { nx := fun σ H' => ∃ v, σ[1]? = some (some v) ∧ Q v H', rt := Q } (l.map (hcl K)) cls d q H') H (fun _ H1 => ∃ v, (some (some (V.bl false)) : Option (Option V)) = some (some v) ∧ Q v H1)
section
variable {X : Cx}
theorem gives_E {Ng : List Str} {x a fl q : Str} {sg : Scope} {g : Addr} {cdg : Value} {h0 : ExceptHandler} {hds : List ExceptHandler} {l : List Cl1} {n : Nat} {p0 p1 p2 p3 p4 p5 p6 p7 p8 : Pos} {jx}
    (hN : Ng.Nodup) (hn : Ng.length = n) (hst : ∀ f : Addr, L2.start Ng [V.ref f] = [some (V.ref f), none]) (hfl : Ng[1]? = some fl) (hlo : Loc sg fl) (hlk : sg.names.lookup fl = some .local) (hvi : Vis sg fl)
    (hsw : ∀ env : Env, swapsWith (.Call (.Name a p2) [] [] p3) none p4.line env = pure false) (hsw2 : ∀ env : Env, swapsWith (.Constant (.bool false) jx p1) (some (.Name fl p0)) p7.line env = pure false)
    (hd : (fl == ("__debug__" : Str)) = false) (hcd : (fl == ("__classdict__" : Str)) = false)
    (hh : ∀ (s : Shared) (H : Hp), HdsMix (cxOf C8.CX0 X.prog X.w X.K X.mg X.base Ng x sg g cdg X.A X.stack s H C8.E0).nox (h0 :: hds) (l.map (hcl X.K))) :
    LamX.GivesTo X Ng x sg g cdg [.Assign [.Name fl p0] (.Constant (.bool false) jx p1) p7, .Try [.Expr (.Call (.Name a p2) [] [] p3) p4] (h0 :: hds) [] [] p5, .Return (some (.Name fl p8)) p6] a q (TTE X.K n l) := by
  intro f c' s H Q tl act hc h
  refine ⟨_, pss_cons (ps_set (i := 1) hN hfl hlo pe_bl (hsw2 _) (.inr hlk)) (pss_cons (ps_try_mix (X := (cxOf C8.CX0 X.prog X.w X.K X.mg X.base Ng x sg g cdg X.A X.stack s H C8.E0).nox)
      (tb := fun W D σ H => ∃ Ech : XK, (∀ cls d σ' H', Ech cls d H' → W cls d σ' H') ∧ σ[0]? = some (some (.ref f)) ∧ H c' = some (LamX.CodeO c' q) ∧ tl Ech H (fun v H1 => D.nx σ H1))
      rfl rfl hN takes0' (fun W pn xe tk _ => ?_) (hh s H)) (pss_one (ps_ret (pe_var (i := 1) hfl hvi hd hcd)))), ?_⟩
  · refine ⟨fun pins s' σ H' D I h' => ?_⟩
    obtain ⟨Ech, hW, h1, h2, h3⟩ := h'
    have hp := act W pn xe Ech p2 p3 tk hW
    have hq := pss_one (ps_expr (pos := p4) hp (hsw _))
    exact hq.run pins s' σ H' D I ⟨h1, h2, h3⟩
  · rw [hst]
    exact ⟨fun cls d H' => ∀ q : L2.St, q.length = n → wMix X.K DX.W0 { nx := fun σ H' => ∃ v, σ[1]? = some (some v) ∧ Q v H', rt := Q } (l.map (hcl X.K)) cls d q H', fun cls d σ' H' z hl => z σ' (hl.trans hn), rfl, hc, h⟩
end
def dLamE (T : List (Addr × Str)) (es : List Nat) (n : Nat) (l : List Cl1) (dc : DE) : DE := fun ga mu _ F => tabsOf mu = T ∧ dc ga mu (fun x mu1 => x.1 ∈ es ∧ pick n { nx := fun ga2 mu2 => ∃ d, ga2[1]? = some (some d) ∧ F d mu2, rt := F, ex := fun _ _ => False } x mu1 l) fun _ mu1 => F (.bl false) mu1
section
variable {X : Cx} {W : WX} {T : List (Addr × Str)} {es ys : List Nat} {n : Nat} {l : List Cl1} {dc : DE} {x a : Str} {g c P : Addr} {k : Nat} {pg : Arguments} {bg : List Stmt} {sg : Scope} {Ng : List Str} {params : Arguments} {body : Expr} {scope : Scope} {p lpos pos : Pos}
theorem d_lamE (hm : X.mg x = some (.ref g)) (F : ∃ fd, FunD X.K x x pg bg sg [] [] g fd)
    (hps : ∀ (kV doc pm : Value) (an : Option Addr) (cdv ct : Value) (us : List Value), us.length = [a].length → bindArgs (PySem.W.fnOf x x pg bg sg .none kV doc pm an cdv ct) ⟨us, []⟩ = pure ([a].zip us))
    (Sg : FnScope Ng [a] sg) (hG : ∀ cdv : Value, LamX.GivesTo X Ng x sg g cdv bg a (X.env.qual ++ "<lambda>") (TTE X.K n l)) (hx : exmB X.K es ys = true) (hy : ∀ t ∈ l, t.1 ∈ ys)
    (TB : LamX.TabB X.base X.mg c P) (hcode : X.env.code = .ref c) (hmT : (P, X.env.qual ++ "<lambda>") ∈ T) (hu : ∀ p ∈ T, p.1 = P → p.2 = X.env.qual ++ "<lambda>") (hr : Room (k + 2) X.A) (L : LamX.LamS X.env.scope scope)
    (hbody : ∀ (A : Around) (outer : List Env) (s : Shared) (H : Hp) (E : XK) (f c' : Addr), Room k (A.deeper (LamX.lamEnv X scope s.heap.objs.size f c')) → PE (LamX.lamCx X A outer s H E scope f c') body (liftE X.K (fun c d _ h => E c d h) dc))
    (hg : Gl X x := by rfl) (hNg : Ng[0]? = some a := by rfl) (hva : Vis sg a := by first | exact Or.inl rfl | exact Or.inr (Or.inl rfl) | exact Or.inr (Or.inr rfl)) (hdef : defaultsOf params X.env = ([], []) := by rfl)
    (hbind : ∀ (q : Str) (cl : List (Str × Addr)) (pm cv ctv : Value), bindArgs (PySem.W.kla_fn "<lambda>" q params body scope cl pm cv ctv) ⟨[], []⟩ = pure [] := by intro _ _ _ _ _; rfl)
    (hdb : (x == ("__debug__" : Str)) = false := by decide) (hd1 : (a == ("__debug__" : Str)) = false := by decide) (hcd1 : (a == ("__classdict__" : Str)) = false := by decide) :
    PE X (.Call (.Name x p) [.Lambda params body scope lpos] [] pos) (liftE X.K W (dLamE T es n l dc)) := by
  obtain ⟨fd, F⟩ := F
  obtain ⟨oc, od, dV, kV, doc, pm, an, cdv, ct, osl, hfd, lk, hcd, hdv, _⟩ := F.ex
  have hdv0 : dV = .none := by
    rcases hdv with ⟨_, e⟩ | ⟨e, _⟩
    · exact e
    · exact (e rfl).elim
  subst hdv0 hfd
  have hb : L2.Binds X.K (PySem.W.fnOf x x pg bg sg .none kV doc pm an cdv ct) [a] [] := F.bindsN hps
  refine pe_wk (LamX.pe_lamcall (TT := TTE X.K n l) (t := fun E => liftE X.K (fun c d _ h => E c d h) dc) hg hm F.kp lk hcd hb Sg hNg hva (hG cdv) TB hcode hmT hu hr L hdef hbind hbody hdb hd1 hcd1) fun σ H Q ⟨ga, mu, al, hd, P, F, at_, h, kv, kx⟩ => ?_
  obtain ⟨hT0, h⟩ := h
  refine ⟨tabs_of at_.ok hT0, fun H1 eN T1 => ?_⟩
  have o1 := okay_tabs at_.ok hT0 eN T1
  have g1 := go_tabs at_.ok eN
  have kv1 := kv.to g1
  refine ⟨ga, mu, al, hd, _, _, at_.to o1 g1, h, ⟨fun d mu1 v H2 al2 h2 o2 g2 r2 => ⟨_, rfl, kv1.go _ _ _ _ _ h2 o2 g2 .bl⟩⟩, ⟨fun y mu1 cls dd H2 al2 h2 o2 g2 r2 q hq => ?_⟩⟩
  refine pick_mix (Wo := DX.W0) (H := H1) (al := al) (D := { nx := fun σ H' => ∃ v, σ[1]? = some (some v) ∧ Q v H', rt := Q }) (E := { nx := fun ga2 mu2 => ∃ d, ga2[1]? = some (some d) ∧ F d mu2, rt := F, ex := fun _ _ => False }) ⟨fun ga mu sg H' al' z a g => ?_, kv1, fun _ => ⟨fun _ _ _ _ _ _ z => z.elim⟩, fun _ _ _ _ _ z _ _ => z.elim, fun _ _ _ _ _ z _ _ => z.elim⟩ hx h2.1 o2 g2 r2 hq l hy h2.2
  obtain ⟨d, e, z⟩ := z
  obtain ⟨v, hv, r⟩ := a.sl.at_ 1 d e
  exact ⟨v, hv, kv1.go _ _ _ _ _ z a.ok g r⟩
end
end DZ

/-! part DZ5 -/
/-! DZ5: dicts with keys that are tuples of numbers and texts; sorted of alike data. -/
namespace DZ
open PySem PySem.Spec PyProof.Rows L2 DL

/-! ### keys -/
def keyD : D → Option Key
  | .int i => some (.inl i)
  | .str x => some (.inr x)
  | _ => none
def keyL : List D → Option (List Key)
  | [] => some []
  | d :: l => match keyD d, keyL l with
    | some k, some r => some (k :: r)
    | _, _ => none
def dK : Key → D
  | .inl i => .int i
  | .inr x => .str x
theorem keyL_ints : ∀ l : List Int, keyL (l.map D.int) = some (l.map Sum.inl)
  | [] => rfl
  | x :: l => by rw [List.map_cons, keyL, keyL_ints l]; rfl
theorem rep_key {K : PySem.W.Frag} {al pt : List Addr} {H : Hp} {d : D} {v : V} {k : Key} (r : Rep K al H pt d v) (h : keyD d = some k) : v = kV k := by
  cases r <;> cases h <;> rfl
theorem rep_keyL {K : PySem.W.Frag} {al pt : List Addr} {H : Hp} : ∀ {l : List D} {xs : List V} {k : List Key}, RepL K al H pt l xs → keyL l = some k → xs = k.map kV
  | _, _, k, .nil, h => by cases h; rfl
  | d :: l, v :: xs, k, .cons r s, h => by
    rw [keyL] at h
    split at h
    · rename_i k0 k1 h0 h1
      cases h
      rw [List.map_cons, ← rep_key r h0, ← rep_keyL s h1]
    · cases h
theorem rep_dK {K : PySem.W.Frag} {al pt : List Addr} {H : Hp} : ∀ k : Key, Rep K al H pt (dK k) (kV k)
  | .inl _ => .int
  | .inr _ => .str
theorem repL_dK {K : PySem.W.Frag} {al pt : List Addr} {H : Hp} : ∀ k : List Key, RepL K al H pt (k.map dK) (k.map kV)
  | [] => .nil
  | x :: k => .cons (rep_dK x) (repL_dK k)
/-! ### tables -/
def valD (kvs : List (List Key × D)) (k : List Key) : Option D := (kvs.find? fun kv => decide (kv.1 = k)).map (·.2)
def putD (kvs : List (List Key × D)) (k : List Key) (d : D) : List (List Key × D) :=
  if (kvs.any fun kv => decide (kv.1 = k)) = true then kvs.map (fun kv => if kv.1 = k then (kv.1, d) else kv) else kvs ++ [(k, d)]
section
variable {K : PySem.W.Frag} {al : List Addr} {H : Hp}
theorem kv_len : ∀ {l : List (List Key × D)} {xs : List (List Key × V)}, RepKV K al H l xs → l.length = xs.length
  | [], [], _ => rfl
  | (k, d) :: l, (j, v) :: xs, h => congrArg Nat.succ (kv_len h.2.2)
  | [], _ :: _, h => h.elim
  | _ :: _, [], h => h.elim
theorem kv_val (k0 : List Key) : ∀ {l : List (List Key × D)} {xs : List (List Key × V)}, RepKV K al H l xs → (valD l k0 = none ∧ valV xs k0 = none) ∨ ∃ d v, valD l k0 = some d ∧ valV xs k0 = some v ∧ Rep K al H [] d v
  | [], [], _ => .inl ⟨rfl, rfl⟩
  | (k, d) :: l, (j, v) :: xs, h => by
    obtain ⟨rfl, h1, h2⟩ := h
    by_cases e : k = k0
    · exact .inr ⟨d, v, by simp [valD, List.find?_cons, e], valV_pos e, h1⟩
    · have ih := kv_val k0 h2
      have e1 : valD ((k, d) :: l) k0 = valD l k0 := by simp [valD, List.find?_cons, e]
      rw [e1, valV_neg (p := (k, v)) e]
      exact ih
  | [], _ :: _, h => h.elim
  | _ :: _, [], h => h.elim
theorem kv_app : ∀ {l l' : List (List Key × D)} {xs xs' : List (List Key × V)}, RepKV K al H l xs → RepKV K al H l' xs' → RepKV K al H (l ++ l') (xs ++ xs')
  | [], _, [], _, _, h => h
  | (k, d) :: l, _, (j, v) :: xs, _, h, h' => ⟨h.1, h.2.1, kv_app h.2.2 h'⟩
  | [], _, _ :: _, _, h, _ => h.elim
  | _ :: _, _, [], _, h, _ => h.elim
theorem kv_any (k0 : List Key) : ∀ {l : List (List Key × D)} {xs : List (List Key × V)}, RepKV K al H l xs → (l.any fun kv => decide (kv.1 = k0)) = (xs.any fun kv => decide (kv.1 = k0))
  | [], [], _ => rfl
  | (k, d) :: l, (j, v) :: xs, h => by
    obtain ⟨rfl, h1, h2⟩ := h
    rw [List.any_cons, List.any_cons, kv_any k0 h2]
  | [], _ :: _, h => h.elim
  | _ :: _, [], h => h.elim
theorem kv_map (k0 : List Key) {d0 : D} {v0 : V} (r : Rep K al H [] d0 v0) : ∀ {l : List (List Key × D)} {xs : List (List Key × V)}, RepKV K al H l xs → RepKV K al H (l.map (fun kv => if kv.1 = k0 then (kv.1, d0) else kv)) (xs.map (fun kv => if kv.1 = k0 then (kv.1, v0) else kv))
  | [], [], _ => trivial
  | (k, d) :: l, (j, v) :: xs, h => by
    obtain ⟨rfl, h1, h2⟩ := h
    have ih := kv_map k0 r h2
    rw [List.map_cons, List.map_cons]
    by_cases e : k = k0
    · rw [if_pos (by exact e), if_pos (by exact e)]
      exact ⟨rfl, r, ih⟩
    · rw [if_neg (by exact e), if_neg (by exact e)]
      exact ⟨rfl, h1, ih⟩
  | [], _ :: _, h => h.elim
  | _ :: _, [], h => h.elim
theorem kv_put {k : List Key} {d : D} {v : V} {l : List (List Key × D)} {xs : List (List Key × V)} (h : RepKV K al H l xs) (r : Rep K al H [] d v) : RepKV K al H (putD l k d) (putK xs k v) := by
  unfold putD putK
  rw [kv_any k h]
  split
  · exact kv_map k r h
  · exact kv_app h ⟨rfl, r, trivial⟩
end
section
variable {X : Cx} {W : WX}
/-- {}, with tuples as keys -/
def dDitN : DE := fun _ mu _ F => F (.ptr mu.length) (mu ++ [.dit []])
theorem d_ditN {pos : Pos} : PE X (.Dict [] [] pos) (liftE X.K W dDitN) := pe_wk pe_dnewT fun sg H Q ⟨ga, mu, al, hd, P, F, a, h, kv, kx⟩ => fun p hp =>
  kv.cel a.ok hp (upd_keep hp) h fun g => ⟨[], upd_same, trivial⟩
/-- d.get(k, x) -/
def dDGet (do_ de df : DE) : DE := fun ga mu P F => do_ ga mu P fun x mu1 => (∃ n kvs, x = .ptr n ∧ mu1[n]? = some (.dit kvs)) ∧ de ga mu1 P fun y mu2 => df ga mu2 P fun z mu3 => match x, y with
  | .ptr n, .tup l => ∃ kvs k, mu3[n]? = some (.dit kvs) ∧ keyL l = some k ∧ F ((valD kvs k).getD z) mu3
  | _, _ => False
theorem d_dget {o e f : Expr} {apos cpos : Pos} {do_ de df : DE} (hu : X.A.units + 1 < cLine) (ho : PE X o (liftE X.K W do_)) (he : PE X e (liftE X.K W de)) (hf : PE X f (liftE X.K W df))
    (m : M2 X o "get" apos e f cpos := by exact ⟨rfl, rfl, rfl, rfl⟩) : PE X (.Call (.Attribute o "get" apos) [e, f] [] cpos) (liftE X.K W (dDGet do_ de df)) := by
  refine pe_wk (pe_dget2 hu ho he hf m) fun sg H Q ⟨ga, mu, al, hd, P, F, a, h, kv, kx⟩ => ?_
  refine ⟨ga, mu, al, hd, P, _, a, h, ⟨fun x mu1 xv H1 al1 h1 o1 g1 r1 => ?_⟩, kx⟩
  obtain ⟨⟨n, kvs, rfl, hn⟩, h1⟩ := h1
  cases r1 with
  | ptr ep =>
    rename_i p
    obtain ⟨vs, e1, _⟩ := o1.at_ n _ p hn ep
    refine ⟨p, rfl, .inr ⟨vs, .inl e1⟩, ga, mu1, al1, hd, P, _, a.to o1 g1, h1, ⟨fun y mu2 yv H2 al2 h2 o2 g2 r2 => ⟨ga, mu2, al2, hd, P, _, a.to o2 (g1.trans g2), h2, ⟨fun z mu3 zv H3 al3 h3 o3 g3 r3 => ?_⟩, kx.to (g1.trans g2)⟩⟩, kx.to g1⟩
    cases y <;> try exact h3.elim
    rename_i l
    obtain ⟨kvs3, k, q3, hk, hF⟩ := h3
    obtain ⟨b, xs, rfl, _, eb, sx⟩ := (r2.go g3 g3.pre).tv (l := l) rfl
    rw [rep_keyL sx hk] at eb
    have ep3 := (g2.trans g3).pre n p ep
    obtain ⟨vs3, e3, rk⟩ := o3.at_ n _ p q3 ep3
    refine ⟨_, DGet.t e3 eb, ?_⟩
    have kv3 := kv.to ((g1.trans g2).trans g3)
    rcases kv_val k rk with ⟨n1, n2⟩ | ⟨d, v, n1, n2, rv⟩
    · rw [n2]
      rw [n1] at hF
      exact kv3.now o3 hF r3
    · rw [n2]
      rw [n1] at hF
      exact kv3.now o3 hF (rv.fz (Fz.refl _ _) (Pre.nil _))
/-- d[k] -/
def dDIx (do_ de : DE) : DE := fun ga mu P F => do_ ga mu P fun x mu1 => de ga mu1 P fun y mu2 => match x, y with
  | .ptr n, .tup l => ∃ kvs k d, mu2[n]? = some (.dit kvs) ∧ keyL l = some k ∧ valD kvs k = some d ∧ F d mu2
  | _, _ => False
theorem d_dix2 {o e : Expr} {pos : Pos} {do_ de : DE} (hu : X.A.units + 1 < cLine) (ho : PE X o (liftE X.K W do_)) (he : PE X e (liftE X.K W de)) (hs : NoSl e) : PE X (.Subscript o e pos) (liftE X.K W (dDIx do_ de)) := by
  refine pe_wk (pe_dget hu ho he hs) fun sg H Q ⟨ga, mu, al, hd, P, F, a, h, kv, kx⟩ => ?_
  refine ⟨ga, mu, al, hd, P, _, a, h, ⟨fun x mu1 xv H1 al1 h1 o1 g1 r1 => ⟨ga, mu1, al1, hd, P, _, a.to o1 g1, h1, ⟨fun y mu2 yv H2 al2 h2 o2 g2 r2 => ?_⟩, kx.to g1⟩⟩, kx⟩
  cases x <;> try exact h2.elim
  cases y <;> try exact h2.elim
  rename_i n l
  obtain ⟨kvs, k, d, q, hk, hv, hF⟩ := h2
  cases r1 with
  | ptr ep =>
    rename_i p
    obtain ⟨b, xs, rfl, _, eb, sx⟩ := r2.tv (l := l) rfl
    rw [rep_keyL sx hk] at eb
    obtain ⟨vs, e3, rk⟩ := o2.at_ n _ p q (g2.pre n p ep)
    rcases kv_val k rk with ⟨n1, n2⟩ | ⟨d', v, n1, n2, rv⟩
    · rw [hv] at n1
      cases n1
    · rw [hv] at n1
      cases n1
      refine ⟨p, v, rfl, ?_, (kv.to (g1.trans g2)).now o2 hF (rv.fz (Fz.refl _ _) (Pre.nil _))⟩
      rw [← n2]
      exact DGet.t e3 eb
/-- k in d -/
def dDIn (de do_ : DE) : DE := fun ga mu P F => de ga mu P fun y mu1 => do_ ga mu1 P fun x mu2 => match x, y with
  | .ptr n, .tup l => ∃ kvs k, mu2[n]? = some (.dit kvs) ∧ keyL l = some k ∧ F (.bl (valD kvs k).isSome) mu2
  | _, _ => False
/-- d[k] = e -/
def dDPut (do_ di de : DE) : DS := fun E ga mu => de ga mu E.ex fun v mu1 => do_ ga mu1 E.ex fun x mu2 => di ga mu2 E.ex fun y mu3 => match x, y with
  | .ptr n, .tup l => ∃ kvs k, mu3[n]? = some (.dit kvs) ∧ keyL l = some k ∧ np v ∧ kvs.length < 16777216 ∧ E.nx ga (mu3.set n (.dit (putD kvs k v)))
  | _, _ => False
theorem ds_dput {o i e : Expr} {do_ di de : DE} {pos pos' : Pos} (hu : X.A.units + 1 < cLine) (ho : PE X o (liftE X.K W do_)) (hi : PE X i (liftE X.K W di)) (he : PE X e (liftE X.K W de))
    (hs : swapsWith e (some (.Subscript o i pos')) pos.line X.env = pure false := by rfl) : PS X (.Assign [.Subscript o i pos'] e pos) (liftS X.K W (dDPut do_ di de)) := by
  refine ps_wk (ps_dput hu ho hi he hs) fun Q sg H ⟨ga, mu, al, hd, E, a, h, k⟩ => ?_
  refine ⟨ga, mu, al, hd, _, _, a, h, ⟨fun v mu1 vv H1 al1 h1 o1 g1 r1 => ⟨ga, mu1, al1, hd, _, _, a.to o1 g1, h1, ⟨fun x mu2 xv H2 al2 h2 o2 g2 r2 => ⟨ga, mu2, al2, hd, _, _, a.to o2 (g1.trans g2), h2, ⟨fun y mu3 yv H3 al3 h3 o3 g3 r3 => ?_⟩, (k.ex sg).to (g1.trans g2)⟩⟩, (k.ex sg).to g1⟩⟩, k.ex sg⟩
  cases x <;> try exact h3.elim
  cases y <;> try exact h3.elim
  rename_i n l
  obtain ⟨kvs, kk, q, hk, hnp, hz, hN⟩ := h3
  cases r2 with
  | ptr ep =>
    rename_i p
    obtain ⟨b, xs, rfl, _, eb, sx⟩ := r3.tv (l := l) rfl
    rw [rep_keyL sx hk] at eb
    have ep3 := g3.pre n p ep
    obtain ⟨vs, e3, rk⟩ := o3.at_ n _ p q ep3
    have g123 := (g1.trans g2).trans g3
    have rv := r1.go (g2.trans g3) (g2.trans g3).pre
    have gw := Go.write (hd := hd) (H' := upd H3 p (.dT (putK vs kk vv))) o3 ep3 fun b hb => upd_ne hb
    refine ⟨p, _, rfl, DPut.t e3 eb (by rw [← kv_len rk, sizeLine_eq]; exact hz), ?_⟩
    exact k.nx _ _ _ _ _ hN ⟨o3.write ep3 (fun b hb => upd_ne hb) ⟨_, upd_same, RepKV.go gw (kv_put rk (rv.np hnp))⟩, a.sl.go (g123.trans gw)⟩ (g123.trans gw)
/-! ### list(d) -/
def noTpl (mu : Sto) : Bool := mu.all fun m => match m with
  | .tpl _ => false
  | _ => true
theorem tup_out {K : PySem.W.Frag} {hd al : List Addr} {H : Hp} {mu : Sto} (o : Okay K hd H mu al) (h : noTpl mu = true) {b : Addr} {xs : List V} (e : H b = some (.tup xs)) : ¬ b ∈ al ++ hd := fun z => by
  rcases List.mem_append.mp z with z | z
  · obtain ⟨n, hn, e1⟩ := List.mem_iff_getElem.mp z
    have hm : n < mu.length := by rw [← o.len]; exact hn
    have m := o.at_ n mu[n] b (List.getElem?_eq_getElem hm) (by rw [List.getElem?_eq_getElem hn, e1])
    have hq := List.all_eq_true.mp h mu[n] (List.getElem_mem hm)
    cases q : mu[n] with
    | lst l => rw [q] at m; obtain ⟨_, z, _⟩ := m; rw [e] at z; cases z
    | lsp l => rw [q] at m; obtain ⟨_, z, _⟩ := m; rw [e] at z; cases z
    | ins c l => rw [q] at m; obtain ⟨_, _, z, _⟩ := m; rw [e] at z; cases z
    | dic l => rw [q] at m; obtain ⟨_, z, _⟩ := m; rw [e] at z; cases z
    | dit l => rw [q] at m; obtain ⟨_, z, _⟩ := m; rw [e] at z; cases z
    | dlk od ws l => rw [q] at m; obtain ⟨_, z, _⟩ := m; rw [e] at z; cases z
    | dlc od ws l => rw [q] at m; obtain ⟨_, z, _⟩ := m; rw [e] at z; cases z
    | tab P0 q0 => rw [q] at m; obtain ⟨_, _, z, _⟩ := m; rw [e] at z; cases z
    | tpl l => rw [q] at hq; cases hq
  · have := o.hx b z _ e
    cases this
abbrev kT (k : List Key) : D := .tup (k.map dK)
theorem keys_rep {K : PySem.W.Frag} {hd al : List Addr} {H : Hp} {mu : Sto} (o : Okay K hd H mu al) (h : noTpl mu = true) : ∀ {l : List (List Key × D)} {xs : List (List Key × V)} {bs : List Addr}, RepKV K (al ++ hd) H l xs → IsKeys H xs bs → RepL K (al ++ hd) H [] (l.map fun p => kT p.1) (bs.map V.ref)
  | [], [], _, _, .nil => .nil
  | (k, d) :: l, (j, v) :: xs, _, r, .cons h1 t => by
    obtain ⟨rfl, r1, r2⟩ := r
    exact .cons (.tup ⟨tup_out o h h1, h1⟩ (repL_dK _)) (keys_rep o h r2 t)
  | [], _ :: _, _, r, _ => r.elim
  | _ :: _, [], _, r, _ => r.elim
def bListD (m : Nat) : GL := fun ds mu F => match ds with
  | [.ptr n] => ∃ kvs, mu[n]? = some (.dit kvs) ∧ noTpl mu = true ∧ retN m (kvs.map fun p => kT p.1) mu F
  | _ => False
theorem b_listD (m : Nat) (hc : X.calm = true) : CbS X (.type "list") (bListD m) := by
  refine ⟨_, call_list_dT hc, fun H mu al hd ds vs F Q o r hg kv => ?_⟩
  unfold bListD at hg
  split at hg
  · rename_i n
    obtain ⟨v, ys, rfl, r1, r2⟩ := r.cons_
    cases r2.nil_
    obtain ⟨kvs, q, hn, hF⟩ := hg
    cases r1 with
    | ptr e =>
      rename_i p
      obtain ⟨xs, e1, rk⟩ := o.at_ n _ p q e
      exact ⟨p, xs, rfl, .inl e1, fun b bs hb hk => kv.listN o hb (keys_rep o hn rk hk) hF⟩
  · exact hg.elim
def bLenD : GL := fun ds mu F => match ds with
  | [.ptr n] => ∃ kvs, mu[n]? = some (.dit kvs) ∧ F (.int (kvs.length : Nat)) mu
  | _ => False
/-! ### sorted of alike data -/
def rSortD (K : PySem.W.Frag) : List V → Hp → VK → Prop := fun vs H Q => ∃ (a : Addr) (bs : List (D × V)), vs = [V.ref a] ∧ SqL K H a (bs.map (·.2)) ∧ (∀ b ∈ bs, Dp K H b.2 (toPy b.1)) ∧ PySem.W.AllAlike (bs.map fun b => toPy b.1) ∧ PySem.W.Sortable (bs.map fun b => toPy b.1) ∧ (∀ b ∈ bs, (toPy b.1).depth ≤ 60) ∧
  ∀ p : Addr, H p = none → Q (.ref p) (upd H p (.lst ((bs.mergeSort (PySem.W.dataLe false fun b => toPy b.1)).map (·.2))))
theorem each_zip {R : Value → D × V → Prop} : ∀ {us : List Value} {bs : List (D × V)}, Vals (bs.map (·.2)) us → (∀ b ∈ bs, ∀ u, RelV b.2 u → R u b) → PySem.W.EachIs R us bs
  | [], [], _, _ => .nil
  | u :: us, b :: bs, r, h => by
    cases r with
    | cons r1 r2 => exact .cons (h b (List.mem_cons_self ..) u r1) (each_zip r2 fun c hc => h c (List.mem_cons_of_mem _ hc))
  | [], _ :: _, r, _ => by cases r
  | _ :: _, [], r, _ => by cases r
theorem zip_each : ∀ {us : List Value} {bs : List (D × V)}, PySem.W.EachIs (fun u (b : D × V) => RelV b.2 u) us bs → Vals (bs.map (·.2)) us
  | _, _, .nil => .nil
  | _, _, .cons h t => .cons h (zip_each t)
theorem cr_sortD (hc : X.calm = true) (hu : X.A.units + 65 < cLine) : CallR X (.builtin "sorted") (rSortD X.K) := by
  intro pins s σ H vs us Q I r h
  obtain ⟨a, bs, rfl, hs, hd, hal, hso, hde, q⟩ := h
  obtain ⟨its, rv, hl, hz⟩ := I.list hs
  rw [Vals.ref1 r]
  have hz' : bs.length ≤ sizeLine := by
    rw [List.length_map] at hz
    exact hz
  refine PySem.W.sorted_data (R := fun u (b : D × V) => RelV b.2 u) (enc := fun b => toPy b.1) hl.isList (each_zip rv fun b _ u ru => ru) (each_zip rv fun b hb u ru => ?_) hal hso hz' (fun b hb => by have := hde b hb; omega) fun out ho eo => ?_
  · obtain ⟨as, h1⟩ := Dp.readsAll I [toPy b.1] [b.2] [u] (.cons (hd b hb) .nil) (.cons ru .nil)
    cases h1 with
    | cons h1 _ => exact ⟨_, h1⟩
  · obtain ⟨ep, he'⟩ := PyProof.Rows.sortedAll_at s.heap its out.toArray
    have ev := zip_each eo
    have hlen : ((bs.mergeSort (PySem.W.dataLe false fun b => toPy b.1)).map (·.2)).length ≤ sizeLine := by
      rw [List.length_map, List.length_mergeSort]
      exact hz'
    exact ⟨.ref _, _, I.laid (t' := s.toks) (o := .lst ((bs.mergeSort (PySem.W.dataLe false fun b => toPy b.1)).map (·.2))) (fun _ _ => PyProof.Rows.sortedAll_old) (Nat.le_succ _) ⟨hlen, out, ep, ev, he'⟩, rfl, q _ (I.hok.fresh (Nat.le_succ _))⟩
def leD (a b : D) : Bool := PySem.W.dataLe false toPy a b
def sortD (l : List D) : List D := l.mergeSort leD
def bSorted (m : Nat) : GL := fun ds mu F => match ds with
  | [x] => ∃ l, lv mu x = some l ∧ isPyL l = true ∧ PySem.W.AllAlike (l.map toPy) ∧ PySem.W.Sortable (l.map toPy) ∧ (∀ d ∈ l, (toPy d).depth ≤ 60) ∧ retN m (sortD l) mu F
  | _ => False
theorem zip_fst : ∀ {l : List D} {xs : List V}, l.length = xs.length → (l.zip xs).map (·.1) = l := fun h => List.map_fst_zip (by omega)
theorem zip_snd : ∀ {l : List D} {xs : List V}, l.length = xs.length → (l.zip xs).map (·.2) = xs := fun h => List.map_snd_zip (by omega)
theorem repL_of {K : PySem.W.Frag} {al pt : List Addr} {H : Hp} : ∀ {bs : List (D × V)}, (∀ b ∈ bs, Rep K al H pt b.1 b.2) → RepL K al H pt (bs.map (·.1)) (bs.map (·.2))
  | [], _ => .nil
  | b :: bs, h => .cons (h b (List.mem_cons_self ..)) (repL_of fun c hc => h c (List.mem_cons_of_mem _ hc))
theorem rep_zip {K : PySem.W.Frag} {al pt : List Addr} {H : Hp} : ∀ {l : List D} {xs : List V}, RepL K al H pt l xs → ∀ b ∈ l.zip xs, Rep K al H pt b.1 b.2
  | _, _, .nil, b, hb => by simp at hb
  | _, _, .cons r s, b, hb => by
    rcases List.mem_cons.mp hb with rfl | hb
    · exact r
    · exact rep_zip s b hb
theorem b_sortD (m : Nat) (hc : X.calm = true) (hu : X.A.units + 65 < cLine) : CbS X (.builtin "sorted") (bSorted m) := by
  refine ⟨_, cr_sortD hc hu, fun H mu al hd ds vs F Q o r hg kv => ?_⟩
  unfold bSorted at hg
  split at hg
  · rename_i x
    obtain ⟨v, ys, rfl, r1, r2⟩ := r.cons_
    cases r2.nil_
    obtain ⟨l, hl, hp, hal, hso, hde, hF⟩ := hg
    obtain ⟨p, xs, rfl, s, r3⟩ := r1.lv o hl
    have e1 := zip_fst r3.len
    have e2 := zip_snd r3.len
    have e3 : (l.zip xs).map (fun b => toPy b.1) = l.map toPy := by
      have z : (l.zip xs).map (fun b => toPy b.1) = ((l.zip xs).map (·.1)).map toPy := by rw [List.map_map]; rfl
      rw [z, e1]
    have rz := rep_zip r3
    refine ⟨p, l.zip xs, rfl, by rw [e2]; exact .inl s, fun b hb => rep_dp ?_ (rz b hb), by rw [e3]; exact hal, by rw [e3]; exact hso, fun b hb => hde _ ?_, fun b hb => ?_⟩
    · obtain ⟨i, hi, e⟩ := List.mem_iff_getElem.mp (show b.1 ∈ l by rw [← e1]; exact List.mem_map.mpr ⟨b, hb, rfl⟩)
      exact isPyL_at hp (by rw [List.getElem?_eq_getElem hi, e])
    · rw [← e1]
      exact List.mem_map.mpr ⟨b, hb, rfl⟩
    · refine kv.listN (m := m) o hb (l := ((l.zip xs).mergeSort (PySem.W.dataLe false fun b => toPy b.1)).map (·.1)) (repL_of fun c hc => rz c ((List.mergeSort_perm _ _).mem_iff.mp hc)) ?_
      have z : ((l.zip xs).mergeSort (PySem.W.dataLe false fun b => toPy b.1)).map (·.1) = ((l.zip xs).map (·.1)).mergeSort leD := List.map_mergeSort (fun a _ b _ => rfl)
      rw [z, e1]
      exact hF
  · exact hg.elim
end
end DZ

/-! part DZ6 -/
/-! DZ6: dicts with tuple keys: locked while walked, in; lists backwards. -/
namespace DZ
open PySem PySem.Spec PyProof.Rows L2 DL
theorem kv_get {K : PySem.W.Frag} {al : List Addr} {H : Hp} : ∀ {l : List (List Key × D)} {xs : List (List Key × V)} {i : Nat} {k : List Key} {v : V}, RepKV K al H l xs → xs[i]? = some (k, v) → ∃ d, l[i]? = some (k, d)
  | [], [], _, _, _, _, e => by simp at e
  | (k0, d) :: l, (j, w) :: xs, 0, k, v, h, e => by
    simp at e
    exact ⟨d, by simp [h.1, e.1]⟩
  | (k0, d) :: l, (j, w) :: xs, i + 1, k, v, h, e => by
    obtain ⟨d', e'⟩ := kv_get (i := i) h.2.2 (by simpa using e)
    exact ⟨d', by simpa using e'⟩
  | [], _ :: _, _, _, _, h, _ => h.elim
  | _ :: _, [], _, _, _, h, _ => h.elim
section
variable {X : Cx} {W : WX}
theorem at_cell {K : PySem.W.Frag} {hd : List Addr} {H : Hp} {mu : Sto} {al : List Addr} {n : Nat} {mo : MO} (o : Okay K hd H mu al) (h : mu[n]? = some mo) : ∃ p, al[n]? = some p ∧ MAt K hd al H p mo := by
  have hn : n < al.length := by rw [o.len]; exact (List.getElem?_eq_some_iff.mp h).1
  exact ⟨al[n], List.getElem?_eq_getElem hn, o.at_ n mo _ h (List.getElem?_eq_getElem hn)⟩
/-- an expression while the dict at cell n is locked -/
def dLock (de : DE) : DE := fun ga mu P F => ∃ n kvs, mu[n]? = some (.dit kvs) ∧ ∀ od vs, de ga (mu.set n (.dlk od vs kvs)) (fun _ _ => False) fun d mu' => mu'[n]? = some (.dlk od vs kvs) ∧ F d (mu'.set n (.dit kvs))
theorem d_lock {e : Expr} {de : DE} (h : PE X e (liftE X.K W de)) : PE X e (liftE X.K W (dLock de)) := by
  refine pe_wk (pe_lock h) fun sg H Q ⟨ga, mu, al, hd, P, F, a, hw, kv, kx⟩ => ?_
  obtain ⟨n, kvs, hn, hw⟩ := hw
  obtain ⟨p, hp, vs, e1, rk⟩ := at_cell a.ok hn
  refine ⟨p, .dT vs, e1, trivial, fun od => ?_⟩
  have gw := Go.write (hd := hd) (H' := upd H p (.frz od (.dT vs))) a.ok hp fun b hb => upd_ne hb
  refine ⟨ga, _, al, hd, _, _, ⟨a.ok.write (mo := .dlk od vs kvs) hp (fun b hb => upd_ne hb) ⟨(), upd_same, RepKV.go gw rk⟩, a.sl.go gw⟩, hw od vs, ⟨fun d mu' v H' al' hF o' g' r' => ?_⟩, ⟨fun _ _ _ _ _ _ z => z.elim⟩⟩
  have hp' := g'.pre n p hp
  obtain ⟨_, e2, rk2⟩ := o'.at_ n _ p hF.1 hp'
  refine ⟨e2, ?_⟩
  have gw2 := Go.write (hd := hd) (H' := upd H' p (.dT vs)) o' hp' fun b hb => upd_ne hb
  exact kv.go d _ v _ al' hF.2 (o'.write (mo := .dit kvs) hp' (fun b hb => upd_ne hb) ⟨vs, upd_same, RepKV.go gw2 rk2⟩) ((gw.trans g').trans gw2) (r'.go gw2 gw2.pre)
/-- a statement while the dict at cell n is locked -/
def dLockS (ds : DS) : DS := fun E ga mu => ∃ n kvs, mu[n]? = some (.dit kvs) ∧ ∀ od vs, ds { nx := fun ga' mu' => mu'[n]? = some (.dlk od vs kvs) ∧ E.nx ga' (mu'.set n (.dit kvs)), rt := fun d mu' => mu'[n]? = some (.dlk od vs kvs) ∧ E.rt d (mu'.set n (.dit kvs)), ex := fun _ _ => False, bk := fun ga' mu' => mu'[n]? = some (.dlk od vs kvs) ∧ E.bk ga' (mu'.set n (.dit kvs)), ct := fun ga' mu' => mu'[n]? = some (.dlk od vs kvs) ∧ E.ct ga' (mu'.set n (.dit kvs)) } ga (mu.set n (.dlk od vs kvs))
theorem ds_lock {s : Stmt} {ds : DS} (h : PS X s (liftS X.K W ds)) : PS X s (liftS X.K W (dLockS ds)) := by
  refine ps_wk (ps_lock h) fun Q sg H ⟨ga, mu, al, hd, E, a, hw, k⟩ => ?_
  obtain ⟨n, kvs, hn, hw⟩ := hw
  obtain ⟨p, hp, vs, e1, rk⟩ := at_cell a.ok hn
  refine ⟨p, .dT vs, e1, trivial, fun od => ?_⟩
  have gw := Go.write (hd := hd) (H' := upd H p (.frz od (.dT vs))) a.ok hp fun b hb => upd_ne hb
  have key : ∀ (N : Gam → Sto → Prop) (R : L2.St → Hp → Prop), Kn X.K hd H al N R → Kn X.K hd (upd H p (.frz od (.dT vs))) al (fun ga' mu' => mu'[n]? = some (.dlk od vs kvs) ∧ N ga' (mu'.set n (.dit kvs))) (fun sg' H' => H' p = some (.frz od (.dT vs)) ∧ R sg' (upd H' p (.dT vs))) := fun N R kn ga' mu' sg' H' al' hN a' g' => by
    have hp' := g'.pre n p hp
    obtain ⟨_, e2, rk2⟩ := a'.ok.at_ n _ p hN.1 hp'
    have gw2 := Go.write (hd := hd) (H' := upd H' p (.dT vs)) a'.ok hp' fun b hb => upd_ne hb
    exact ⟨e2, kn ga' _ sg' _ al' hN.2 ⟨a'.ok.write (mo := .dit kvs) hp' (fun b hb => upd_ne hb) ⟨vs, upd_same, RepKV.go gw2 rk2⟩, a'.sl.go gw2⟩ ((gw.trans g').trans gw2)⟩
  refine ⟨ga, _, al, hd, _, ⟨a.ok.write (mo := .dlk od vs kvs) hp (fun b hb => upd_ne hb) ⟨(), upd_same, RepKV.go gw rk⟩, a.sl.go gw⟩, hw od vs, ⟨key _ _ k.nx, ⟨fun d mu' v H' al' hF o' g' r' => ?_⟩, fun _ => ⟨fun _ _ _ _ _ _ z => z.elim⟩, key _ _ k.bk, key _ _ k.ct⟩⟩
  have hp' := g'.pre n p hp
  obtain ⟨_, e2, rk2⟩ := o'.at_ n _ p hF.1 hp'
  have gw2 := Go.write (hd := hd) (H' := upd H' p (.dT vs)) o' hp' fun b hb => upd_ne hb
  exact ⟨e2, k.rt.go d _ v _ al' hF.2 (o'.write (mo := .dit kvs) hp' (fun b hb => upd_ne hb) ⟨vs, upd_same, RepKV.go gw2 rk2⟩) ((gw.trans g').trans gw2) (r'.go gw2 gw2.pre)⟩
/-- for k in d, the dict locked -/
def okDk (n : Nat) (od : Obj) (vs : List (List Key × V)) (kvs : List (List Key × D)) : Sto → Prop := fun mu => mu[n]? = some (.dlk od vs kvs) ∧ noTpl mu = true
def iKeysD (de : DE) : DI := fun ga mu P F => de ga mu P fun x mu1 => match x with
  | .ptr n => ∃ od vs kvs, mu1[n]? = some (.dlk od vs kvs) ∧ F (kvs.map fun p => kT p.1) (okDk n od vs kvs) mu1
  | _ => False
theorem wk_keys {K : PySem.W.Frag} {n : Nat} {p : Addr} {od : Obj} {vs : List (List Key × V)} {kvs : List (List Key × D)} {hd0 : List Addr} {H0 : Hp} {al0 : List Addr} (hp : al0[n]? = some p) : WkOk K (Itkt p od vs) (kvs.map fun p => kT p.1) (okDk n od vs kvs) hd0 H0 al0 := by
  refine ⟨fun hd H mu al g pr o h => ?_, fun hd H mu al i g pr o h hi => ?_, fun hd H mu al i v H' g pr o h hi y => ?_⟩
  · obtain ⟨_, e, rk⟩ := o.at_ n _ p h.1 (pr n p hp)
    exact ⟨e, by rw [List.length_map, kv_len rk]; exact Nat.le_refl _⟩
  · obtain ⟨_, e, rk⟩ := o.at_ n _ p h.1 (pr n p hp)
    exact ⟨e, by rw [List.length_map, kv_len rk] at hi; exact hi⟩
  · obtain ⟨_, e, rk⟩ := o.at_ n _ p h.1 (pr n p hp)
    obtain ⟨rfl, k, w, q, e1, rfl, e2⟩ := y
    obtain ⟨d, e3⟩ := kv_get rk e1
    exact ⟨kT k, by rw [List.getElem?_map, e3]; rfl, o, Go.refl _ _, .tup ⟨tup_out o h.2 e2, e2⟩ (repL_dK k)⟩
theorem di_keysD {tg e : Expr} {de : DE} (h : PE X e (liftE X.K W de)) : PI X tg e (liftI X.K W (iKeysD de)) := by
  refine pi_wk (pi_keys h) fun sg H R ⟨ga, mu, al, hd, P, F, a, h, k, kx⟩ => ?_
  refine ⟨ga, mu, al, hd, P, _, a, h, ⟨fun d mu1 v H1 al1 h1 o1 g1 r1 => ?_⟩, kx⟩
  cases d <;> try exact h1.elim
  rename_i n
  obtain ⟨od, vs, kvs, hn, hF⟩ := h1
  cases r1 with
  | ptr ep =>
    rename_i p
    obtain ⟨_, e1, rk⟩ := o1.at_ n _ p hn ep
    exact ⟨p, od, rfl, .inr ⟨vs, e1, k _ _ _ _ _ _ hF o1 g1 (wk_keys ep)⟩⟩
/-- k in d -/
def dAt (mu : Sto) (n : Nat) (kvs : List (List Key × D)) : Prop := mu[n]? = some (.dit kvs) ∨ ∃ od vs, mu[n]? = some (.dlk od vs kvs)
theorem dAt_get {K : PySem.W.Frag} {hd al : List Addr} {H : Hp} {mu : Sto} {n : Nat} {p : Addr} {kvs : List (List Key × D)} (o : Okay K hd H mu al) (h : dAt mu n kvs) (ep : al[n]? = some p) : ∃ vs, Rd H p (.dT vs) ∧ RepKV K (al ++ hd) H kvs vs := by
  rcases h with h | ⟨od, vs, h⟩
  · obtain ⟨vs, e, rk⟩ := o.at_ n _ p h ep
    exact ⟨vs, .inl e, rk⟩
  · obtain ⟨_, e, rk⟩ := o.at_ n _ p h ep
    exact ⟨vs, .inr ⟨od, e⟩, rk⟩
def gDIn : G2 := fun x y mu _ F => match y, x with
  | .ptr n, .tup l => ∃ kvs k, dAt mu n kvs ∧ keyL l = some k ∧ F (.bl (valD kvs k).isSome) mu
  | _, _ => False
def gDNotIn : G2 := fun x y mu _ F => match y, x with
  | .ptr n, .tup l => ∃ kvs k, dAt mu n kvs ∧ keyL l = some k ∧ F (.bl (!(valD kvs k).isSome)) mu
  | _, _ => False
theorem val_some {K : PySem.W.Frag} {al : List Addr} {H : Hp} {kvs : List (List Key × D)} {vs : List (List Key × V)} (rk : RepKV K al H kvs vs) (k : List Key) : (valV vs k).isSome = (valD kvs k).isSome := by
  rcases kv_val k rk with ⟨e1, e2⟩ | ⟨d, v, e1, e2, _⟩
  · rw [e1, e2]; rfl
  · rw [e1, e2]; rfl
theorem o_dIn (hu : X.A.units + 1 < cLine) : OpS X (compareOp .In) (liftR X.K W gDIn) := by
  intro pins s sg H x y v u Q I rx ry ⟨mu, al, hd, d, e, P, F, o, r1, r2, hg, kv, kx⟩
  unfold gDIn at hg
  split at hg
  · rename_i n l
    obtain ⟨kvs, k, hn, hk, hF⟩ := hg
    cases r2 with
    | ptr ep =>
      rename_i p
      obtain ⟨b, xs, rfl, _, eb, sx⟩ := r1.tv (l := l) rfl
      rw [rep_keyL sx hk] at eb
      obtain ⟨vs, ev, rk⟩ := dAt_get o hn ep
      obtain rfl : u = Value.ref p := ry
      have g : DGet H p (.ref b) (valV vs k) := .inr ⟨vs, k, b, ev, rfl, eb, rfl⟩
      rw [← val_some rk k] at hF
      exact d_in hu I g rx fun s' I' => ⟨.bl (valV vs k).isSome, H, I', rfl, kv.now o hF .bl⟩
  · exact hg.elim
theorem o_dNotIn (hu : X.A.units + 1 < cLine) : OpS X (compareOp .NotIn) (liftR X.K W gDNotIn) := by
  intro pins s sg H x y v u Q I rx ry ⟨mu, al, hd, d, e, P, F, o, r1, r2, hg, kv, kx⟩
  unfold gDNotIn at hg
  split at hg
  · rename_i n l
    obtain ⟨kvs, k, hn, hk, hF⟩ := hg
    cases r2 with
    | ptr ep =>
      rename_i p
      obtain ⟨b, xs, rfl, _, eb, sx⟩ := r1.tv (l := l) rfl
      rw [rep_keyL sx hk] at eb
      obtain ⟨vs, ev, rk⟩ := dAt_get o hn ep
      obtain rfl : u = Value.ref p := ry
      have g : DGet H p (.ref b) (valV vs k) := .inr ⟨vs, k, b, ev, rfl, eb, rfl⟩
      rw [← val_some rk k] at hF
      exact d_notIn hu I g rx fun s' I' => ⟨.bl (!(valV vs k).isSome), H, I', rfl, kv.now o hF .bl⟩
  · exact hg.elim
/-- xs[::-1] -/
def dRev (m : Nat) (de : DE) : DE := fun ga mu P F => de ga mu P fun x mu1 => ∃ l, lv mu1 x = some l ∧ retN m l.reverse mu1 F
theorem d_rev (m : Nat) {e : Expr} {de : DE} {k : Nat} {p1 p2 p3 pos : Pos} (he : PE X e (liftE X.K W de)) : PE X (.Subscript e (.Slice none none (some (.UnaryOp .USub (.Constant (.int 1) k p1) p2)) p3) pos) (liftE X.K W (dRev m de)) := by
  refine pe_wk (pe_revL he) fun sg H Q ⟨ga, mu, al, hd, P, F, a, h, kv, kx⟩ => ?_
  refine ⟨ga, mu, al, hd, P, _, a, h, ⟨fun x mu1 xv H1 al1 h1 o1 g1 r1 => ?_⟩, kx⟩
  obtain ⟨l, hl, hF⟩ := h1
  obtain ⟨p, xs, rfl, s, r2⟩ := r1.lv o1 hl
  exact ⟨p, xs, rfl, .inl s, fun b hb => (kv.to g1).listN (m := m) o1 hb r2.reverse hF⟩
/-! ### a, b = x, y with cells among x, y -/
def liftGsP (K : PySem.W.Frag) (W : WX) (g : DGs) : TGs := fun vs sg H Q => ∃ (ds : List D) (ga : Gam) (mu : Sto) (al hd : List Addr) (P : KX) (N : Gam → Sto → Prop), At K hd ga mu al sg H ∧ RepL K (al ++ hd) H al ds vs ∧ g ds ga mu P N ∧ Kn K hd H al N Q ∧ ∀ sg, Kx K hd (fun c d h => W c d sg h) H al P
theorem dgsP_nil : PGs X [] (liftGsP X.K W gsNil) := pgs_wk pgs_nil fun v sg H Q ⟨ds, ga, mu, al, hd, P, N, a, r, h, k, kx⟩ => by
  cases r with
  | nil => exact ⟨rfl, k _ _ _ _ _ h a (Go.refl _ _)⟩
  | cons _ _ => exact h.elim
theorem dgsP_cons {e : Expr} {es : List Expr} {g : DG} {h : DGs} (h1 : PG X e (liftG X.K W g)) (h2 : PGs X es (liftGsP X.K W h)) (hs : (assignEach (e :: es) X.env).map (·.2) = assign e X.env :: (assignEach es X.env).map (·.2) := by rfl) : PGs X (e :: es) (liftGsP X.K W (gsCons g h)) :=
  pgs_wk (pgs_cons h1 h2 hs) fun v sg H Q ⟨ds, ga, mu, al, hd, P, N, a, r, h, k, kx⟩ => by
    cases r with
    | nil => exact h.elim
    | cons r1 r2 =>
      exact ⟨_, _, rfl, _, ga, mu, al, hd, P, _, a, r1, h, fun ga1 mu1 sg1 H1 al1 h1 a1 g1 => ⟨_, ga1, mu1, al1, hd, P, N, a1, r2.go g1 g1.pre, h1, k.to g1, fun sg => (kx sg).to g1⟩, kx⟩
def dAsgP (n : Nat) (da : DA) (g : DGs) : DS := fun E ga mu => da ga mu E.ex fun ds mu1 => (ds.length = n ∧ ds.length ≤ 16777216) ∧ g ds ga mu1 E.ex E.nx
theorem ds_asgP {es elts : List Expr} {k x1 n : Nat} {da : DA} {g : DGs} {p1 p2 pos : Pos} (hc : X.calm = true) (ha : PA X elts (liftA X.K W da)) (hg : PGs X es (liftGsP X.K W g)) (hn : (assignEach es X.env).length = n := by rfl) (hst : (assignEach es X.env).findIdx? (·.1) = none := by rfl)
    (hs : swapsWithSole [.Tuple es k p1] (.Tuple elts x1 p2) pos.line X.env = pure false := by rfl) (hw : swappedStores [.Tuple es k p1] (.Tuple elts x1 p2) X.env = pure none := by rfl) (h1 : (assignEach [.Tuple es k p1] X.env).map (·.2) = [assign (.Tuple es k p1) X.env] := by rfl) :
    PS X (.Assign [.Tuple es k p1] (.Tuple elts x1 p2) pos) (liftS X.K W (dAsgP n da g)) :=
  ps_wk (ps_asg (pe_tup ha) (pg_tup hc hg hn hst) hs hw h1) fun Q sg H ⟨ga, mu, al, hd, E, a, h, k⟩ => ⟨ga, mu, al, hd, E.ex, _, a, h, ⟨fun ds mu1 vs H1 al1 h1 o1 g1 r1 => ⟨by rw [← r1.len, sizeLine_eq]; exact h1.1.2, fun p hp => by
    have gl := Go.lay (hd := hd) (al := al1) (u := .tup vs) o1 hp
    exact ⟨p, vs, rfl, .inl (.inl upd_same), by rw [← r1.len]; exact h1.1.1, ds, ga, mu1, al1, hd, E.ex, E.nx, ⟨o1.lay hp, (a.sl.go g1).go gl⟩, r1.go gl gl.pre, h1.2, k.nx.to (g1.trans gl), fun sg => (k.ex sg).to (g1.trans gl)⟩⟩⟩, k.ex sg⟩
end
end DZ

/-! part DZ7 -/
/-! DZ7: extend, reverse; dicts with numbers or texts as keys. -/
namespace DZ
open PySem PySem.Spec PyProof.Rows L2 DL
section
variable {X : Cx} {W : WX}
/-! ### xs.extend(ys), xs.reverse() -/
def rExtR : V → List V → Hp → VK → Prop := fun x vs H Q => ∃ l b xs zs, x = .ref l ∧ vs = [.ref b] ∧ H l = some (.lst xs) ∧ Rd H b (.lst zs) ∧ xs.length + zs.length ≤ sizeLine ∧ Q .non (upd H l (.lst (xs ++ zs)))
theorem mt_extR : MtR X "list.extend" rExtR := by
  intro pins s σ H x vs v us Q I rx rv h
  obtain ⟨l, b, xs, zs, rfl, rfl, hH, hB, hz, q⟩ := h
  cases rx
  obtain ⟨u, rfl, ru⟩ := rv.one
  cases ru
  obtain ⟨z, its, n, r, hl, e⟩ := I.lstM hH
  obtain ⟨z2, its2, n2, r2, hl2, e2⟩ := Rd.lst I hB
  have hsz : its.toArray.size + its2.toArray.size ≤ sizeLine := by rw [List.size_toArray, List.size_toArray]; omega
  have hlong : ¬ (!its.toArray.isEmpty && Builtin.List.listTooLong (its.toArray.size + its2.toArray.size)) = true := by
    rw [notLongL hsz, Bool.and_false]
    exact Bool.false_ne_true
  refine call_meets PySem.F.slot_list_extend ⟨_, e, rfl⟩ PySem.F.entry_list_extend (PySem.F.args_list_extend_2 _ _)
    (AutoSeq1.list_extend_list_list_0 l its.toArray n b its2.toArray n2 hlong (by rw [List.size_toArray]; omega) (by omega)) ⟨e, e2, ?_⟩
  refine ⟨.non, _, I.lset (its' := its ++ its2) hH e (by simp) (r.append r2) ?_, rfl, q⟩
  rw [List.length_append]
  omega
def gExtend : GM := fun x ds mu F => match x, ds with
  | .ptr n, [d] => ∃ l k, mu[n]? = some (.lst l) ∧ lv mu d = some k ∧ l.length + k.length ≤ 16777216 ∧ F .non (mu.set n (.lst (l ++ k)))
  | _, _ => False
theorem m_extend : MbS X "list.extend" gExtend := by
  refine ⟨_, mt_extR, fun H mu al hd x v ds vs F Q o rx rs h kv => ?_⟩
  unfold gExtend at h
  split at h
  · rename_i n d
    obtain ⟨y, ys, rfl, ry, rn⟩ := rs.cons_
    cases rn.nil_
    obtain ⟨l, k, q, hk, hz, hF⟩ := h
    cases rx with
    | ptr e =>
      obtain ⟨xs, e1, r1⟩ := o.at_ n _ _ q e
      obtain ⟨p, zs, rfl, s, r3⟩ := ry.lv o hk
      exact ⟨_, p, xs, zs, rfl, rfl, e1, s, by rw [← r1.len, ← r3.len, sizeLine_eq]; exact hz, Kv.setL o e kv (r1.append r3) .non hF⟩
  · exact h.elim
def gReverse : GM := fun x ds mu F => match x, ds with
  | .ptr n, [] => ∃ l, mu[n]? = some (.lst l) ∧ F .non (mu.set n (.lst l.reverse))
  | _, _ => False
theorem m_reverse : MbS X "list.reverse" gReverse := by
  refine ⟨_, mt_reverse, fun H mu al hd x v ds vs F Q o rx rs h kv => ?_⟩
  unfold gReverse at h
  split at h
  · rename_i n
    cases rs.nil_
    obtain ⟨l, q, hF⟩ := h
    cases rx with
    | ptr e =>
      obtain ⟨xs, e1, r1⟩ := o.at_ n _ _ q e
      exact ⟨_, xs, rfl, rfl, e1, Kv.setL o e kv r1.reverse .non hF⟩
  · exact h.elim
end
/-! ### tables with single keys -/
def valE (kvs : List (Key × D)) (k : Key) : Option D := (kvs.find? fun kv => decide (kv.1 = k)).map (·.2)
def putE (kvs : List (Key × D)) (k : Key) (d : D) : List (Key × D) :=
  if (kvs.any fun kv => decide (kv.1 = k)) = true then kvs.map (fun kv => if kv.1 = k then (kv.1, d) else kv) else kvs ++ [(k, d)]
section
variable {K : PySem.W.Frag} {al : List Addr} {H : Hp}
theorem ke_len : ∀ {l : List (Key × D)} {xs : List (Key × V)}, RepKV K al H l xs → l.length = xs.length
  | [], [], _ => rfl
  | (k, d) :: l, (j, v) :: xs, h => congrArg Nat.succ (ke_len h.2.2)
  | [], _ :: _, h => h.elim
  | _ :: _, [], h => h.elim
theorem ke_val (k0 : Key) : ∀ {l : List (Key × D)} {xs : List (Key × V)}, RepKV K al H l xs → (valE l k0 = none ∧ valV xs k0 = none) ∨ ∃ d v, valE l k0 = some d ∧ valV xs k0 = some v ∧ Rep K al H [] d v
  | [], [], _ => .inl ⟨rfl, rfl⟩
  | (k, d) :: l, (j, v) :: xs, h => by
    obtain ⟨rfl, h1, h2⟩ := h
    by_cases e : k = k0
    · exact .inr ⟨d, v, by simp [valE, List.find?_cons, e], valV_pos e, h1⟩
    · have ih := ke_val k0 h2
      have e1 : valE ((k, d) :: l) k0 = valE l k0 := by simp [valE, List.find?_cons, e]
      rw [e1, valV_neg (p := (k, v)) e]
      exact ih
  | [], _ :: _, h => h.elim
  | _ :: _, [], h => h.elim
theorem ke_app : ∀ {l l' : List (Key × D)} {xs xs' : List (Key × V)}, RepKV K al H l xs → RepKV K al H l' xs' → RepKV K al H (l ++ l') (xs ++ xs')
  | [], _, [], _, _, h => h
  | (k, d) :: l, _, (j, v) :: xs, _, h, h' => ⟨h.1, h.2.1, ke_app h.2.2 h'⟩
  | [], _, _ :: _, _, h, _ => h.elim
  | _ :: _, _, [], _, h, _ => h.elim
theorem ke_any (k0 : Key) : ∀ {l : List (Key × D)} {xs : List (Key × V)}, RepKV K al H l xs → (l.any fun kv => decide (kv.1 = k0)) = (xs.any fun kv => decide (kv.1 = k0))
  | [], [], _ => rfl
  | (k, d) :: l, (j, v) :: xs, h => by
    obtain ⟨rfl, h1, h2⟩ := h
    rw [List.any_cons, List.any_cons, ke_any k0 h2]
  | [], _ :: _, h => h.elim
  | _ :: _, [], h => h.elim
theorem ke_map (k0 : Key) {d0 : D} {v0 : V} (r : Rep K al H [] d0 v0) : ∀ {l : List (Key × D)} {xs : List (Key × V)}, RepKV K al H l xs → RepKV K al H (l.map (fun kv => if kv.1 = k0 then (kv.1, d0) else kv)) (xs.map (fun kv => if kv.1 = k0 then (kv.1, v0) else kv))
  | [], [], _ => trivial
  | (k, d) :: l, (j, v) :: xs, h => by
    obtain ⟨rfl, h1, h2⟩ := h
    have ih := ke_map k0 r h2
    rw [List.map_cons, List.map_cons]
    by_cases e : k = k0
    · rw [if_pos (by exact e), if_pos (by exact e)]
      exact ⟨rfl, r, ih⟩
    · rw [if_neg (by exact e), if_neg (by exact e)]
      exact ⟨rfl, h1, ih⟩
  | [], _ :: _, h => h.elim
  | _ :: _, [], h => h.elim
theorem ke_put {k : Key} {d : D} {v : V} {l : List (Key × D)} {xs : List (Key × V)} (h : RepKV K al H l xs) (r : Rep K al H [] d v) : RepKV K al H (putE l k d) (putK xs k v) := by
  unfold putE putK
  rw [ke_any k h]
  split
  · exact ke_map k r h
  · exact ke_app h ⟨rfl, r, trivial⟩
end
section
variable {X : Cx} {W : WX}
/-- {}, with numbers or texts as keys -/
def dDicN : DE := fun _ mu _ F => F (.ptr mu.length) (mu ++ [.dic []])
theorem d_dicN {pos : Pos} : PE X (.Dict [] [] pos) (liftE X.K W dDicN) := pe_wk pe_dnewK fun sg H Q ⟨ga, mu, al, hd, P, F, a, h, kv, kx⟩ => fun p hp =>
  kv.cel a.ok hp (upd_keep hp) h fun g => ⟨[], upd_same, trivial⟩
def dKGet (do_ de df : DE) : DE := fun ga mu P F => do_ ga mu P fun x mu1 => (∃ n kvs, x = .ptr n ∧ mu1[n]? = some (.dic kvs)) ∧ de ga mu1 P fun y mu2 => df ga mu2 P fun z mu3 => match x with
  | .ptr n => ∃ kvs k, mu3[n]? = some (.dic kvs) ∧ keyD y = some k ∧ F ((valE kvs k).getD z) mu3
  | _ => False
theorem d_kget {o e f : Expr} {apos cpos : Pos} {do_ de df : DE} (hu : X.A.units + 1 < cLine) (ho : PE X o (liftE X.K W do_)) (he : PE X e (liftE X.K W de)) (hf : PE X f (liftE X.K W df))
    (m : M2 X o "get" apos e f cpos := by exact ⟨rfl, rfl, rfl, rfl⟩) : PE X (.Call (.Attribute o "get" apos) [e, f] [] cpos) (liftE X.K W (dKGet do_ de df)) := by
  refine pe_wk (pe_dget2 hu ho he hf m) fun sg H Q ⟨ga, mu, al, hd, P, F, a, h, kv, kx⟩ => ?_
  refine ⟨ga, mu, al, hd, P, _, a, h, ⟨fun x mu1 xv H1 al1 h1 o1 g1 r1 => ?_⟩, kx⟩
  obtain ⟨⟨n, kvs, rfl, hn⟩, h1⟩ := h1
  cases r1 with
  | ptr ep =>
    rename_i p
    obtain ⟨vs, e1, _⟩ := o1.at_ n _ p hn ep
    refine ⟨p, rfl, .inl ⟨vs, .inl e1⟩, ga, mu1, al1, hd, P, _, a.to o1 g1, h1, ⟨fun y mu2 yv H2 al2 h2 o2 g2 r2 => ⟨ga, mu2, al2, hd, P, _, a.to o2 (g1.trans g2), h2, ⟨fun z mu3 zv H3 al3 h3 o3 g3 r3 => ?_⟩, kx.to (g1.trans g2)⟩⟩, kx.to g1⟩
    obtain ⟨kvs3, k, q3, hk, hF⟩ := h3
    have ey := rep_key r2 hk
    subst ey
    have ep3 := (g2.trans g3).pre n p ep
    obtain ⟨vs3, e3, rk⟩ := o3.at_ n _ p q3 ep3
    refine ⟨_, .inl ⟨vs3, k, .inl e3, rfl, rfl⟩, ?_⟩
    have kv3 := kv.to ((g1.trans g2).trans g3)
    rcases ke_val k rk with ⟨n1, n2⟩ | ⟨d, v, n1, n2, rv⟩
    · rw [n2]
      rw [n1] at hF
      exact kv3.now o3 hF r3
    · rw [n2]
      rw [n1] at hF
      exact kv3.now o3 hF (rv.fz (Fz.refl _ _) (Pre.nil _))
def dKIx (do_ de : DE) : DE := fun ga mu P F => do_ ga mu P fun x mu1 => de ga mu1 P fun y mu2 => match x with
  | .ptr n => ∃ kvs k d, mu2[n]? = some (.dic kvs) ∧ keyD y = some k ∧ valE kvs k = some d ∧ F d mu2
  | _ => False
theorem d_kix {o e : Expr} {pos : Pos} {do_ de : DE} (hu : X.A.units + 1 < cLine) (ho : PE X o (liftE X.K W do_)) (he : PE X e (liftE X.K W de)) (hs : NoSl e := by exact fun _ _ => rfl) : PE X (.Subscript o e pos) (liftE X.K W (dKIx do_ de)) := by
  refine pe_wk (pe_dget hu ho he hs) fun sg H Q ⟨ga, mu, al, hd, P, F, a, h, kv, kx⟩ => ?_
  refine ⟨ga, mu, al, hd, P, _, a, h, ⟨fun x mu1 xv H1 al1 h1 o1 g1 r1 => ⟨ga, mu1, al1, hd, P, _, a.to o1 g1, h1, ⟨fun y mu2 yv H2 al2 h2 o2 g2 r2 => ?_⟩, kx.to g1⟩⟩, kx⟩
  cases x <;> try exact h2.elim
  rename_i n
  obtain ⟨kvs, k, d, q, hk, hv, hF⟩ := h2
  cases r1 with
  | ptr ep =>
    rename_i p
    have ey := rep_key r2 hk
    subst ey
    obtain ⟨vs, e3, rk⟩ := o2.at_ n _ p q (g2.pre n p ep)
    rcases ke_val k rk with ⟨n1, n2⟩ | ⟨d', v, n1, n2, rv⟩
    · rw [hv] at n1
      cases n1
    · rw [hv] at n1
      cases n1
      exact ⟨p, v, rfl, .inl ⟨vs, k, .inl e3, rfl, n2.symm⟩, (kv.to (g1.trans g2)).now o2 hF (rv.fz (Fz.refl _ _) (Pre.nil _))⟩
def dKPut (do_ di de : DE) : DS := fun E ga mu => de ga mu E.ex fun v mu1 => do_ ga mu1 E.ex fun x mu2 => di ga mu2 E.ex fun y mu3 => match x with
  | .ptr n => ∃ kvs k, mu3[n]? = some (.dic kvs) ∧ keyD y = some k ∧ np v ∧ kvs.length < 16777216 ∧ E.nx ga (mu3.set n (.dic (putE kvs k v)))
  | _ => False
theorem ds_kput {o i e : Expr} {do_ di de : DE} {pos pos' : Pos} (hu : X.A.units + 1 < cLine) (ho : PE X o (liftE X.K W do_)) (hi : PE X i (liftE X.K W di)) (he : PE X e (liftE X.K W de))
    (hs : swapsWith e (some (.Subscript o i pos')) pos.line X.env = pure false := by rfl) : PS X (.Assign [.Subscript o i pos'] e pos) (liftS X.K W (dKPut do_ di de)) := by
  refine ps_wk (ps_dput hu ho hi he hs) fun Q sg H ⟨ga, mu, al, hd, E, a, h, k⟩ => ?_
  refine ⟨ga, mu, al, hd, _, _, a, h, ⟨fun v mu1 vv H1 al1 h1 o1 g1 r1 => ⟨ga, mu1, al1, hd, _, _, a.to o1 g1, h1, ⟨fun x mu2 xv H2 al2 h2 o2 g2 r2 => ⟨ga, mu2, al2, hd, _, _, a.to o2 (g1.trans g2), h2, ⟨fun y mu3 yv H3 al3 h3 o3 g3 r3 => ?_⟩, (k.ex sg).to (g1.trans g2)⟩⟩, (k.ex sg).to g1⟩⟩, k.ex sg⟩
  cases x <;> try exact h3.elim
  rename_i n
  obtain ⟨kvs, kk, q, hk, hnp, hz, hN⟩ := h3
  cases r2 with
  | ptr ep =>
    rename_i p
    have ey := rep_key r3 hk
    subst ey
    have ep3 := g3.pre n p ep
    obtain ⟨vs, e3, rk⟩ := o3.at_ n _ p q ep3
    have g123 := (g1.trans g2).trans g3
    have rv := r1.go (g2.trans g3) (g2.trans g3).pre
    have gw := Go.write (hd := hd) (H' := upd H3 p (.dK (putK vs kk vv))) o3 ep3 fun b hb => upd_ne hb
    refine ⟨p, _, rfl, .inl ⟨vs, kk, e3, rfl, by rw [← ke_len rk, sizeLine_eq]; exact hz, rfl⟩, ?_⟩
    exact k.nx _ _ _ _ _ hN ⟨o3.write (mo := .dic (putE kvs kk v)) ep3 (fun b hb => upd_ne hb) ⟨_, upd_same, RepKV.go gw (ke_put rk (rv.np hnp))⟩, a.sl.go (g123.trans gw)⟩ (g123.trans gw)
end
end DZ

/-! part DZ8 -/
/-! DZ8: cells made within a block are let go frozen at its end. -/
namespace DZ
open PySem PySem.Spec PyProof.Rows L2 DL
def frzO (n : Nat) (mu : Sto) : Option D → Option D
  | some d => frz n mu d
  | none => none
def frzG (n : Nat) (mu : Sto) (ga : Gam) : Gam := ga.map (frzO n mu)
section
variable {X : Cx} {W : WX} {K : PySem.W.Frag} {hd al al1 : List Addr} {H H1 : Hp} {mu mu1 : Sto} {ga : Gam} {sg : L2.St}
theorem slots_frz (o : Okay K hd H mu al) (o1 : Okay K hd H1 mu1 al1) (g : Go hd H al H1 al1) (s : Slots K hd al1 H1 ga sg) : Slots K hd al H1 (frzG mu.length mu1 ga) sg := by
  refine ⟨by unfold frzG; rw [List.length_map]; exact s.len, fun i d e => ?_⟩
  unfold frzG at e
  rw [List.getElem?_map] at e
  cases q : ga[i]? with
  | none =>
    rw [q] at e
    cases e
  | some x =>
    rw [q] at e
    cases x with
    | none => cases e
    | some d' =>
      obtain ⟨v, hv, r⟩ := s.at_ i d' q
      exact ⟨v, hv, Rep.frz o o1 g r (Option.some.inj e)⟩
def dTrim1 (t1 u : DS) : DS := fun E ga mu => t1 { E with nx := fun ga1 mu1 => ∃ mu3, Trim mu mu1 mu3 ∧ u E (frzG mu.length mu1 ga1) mu3 } ga mu
def dTrim2 (t1 t2 u : DS) : DS := fun E ga mu => t1 { E with nx := fun ga1 mu1 => t2 { E with nx := fun ga2 mu2 => ∃ mu3, Trim mu mu2 mu3 ∧ u E (frzG mu.length mu2 ga2) mu3 } ga1 mu1 } ga mu
def dTrim3 (t1 t2 t3 u : DS) : DS := fun E ga mu => t1 { E with nx := fun ga1 mu1 => t2 { E with nx := fun ga2 mu2 => t3 { E with nx := fun ga4 mu4 => ∃ mu3, Trim mu mu4 mu3 ∧ u E (frzG mu.length mu4 ga4) mu3 } ga2 mu2 } ga1 mu1 } ga mu
theorem KE.with {E : DEnds} {Q : Ends} {N : Gam → Sto → Prop} {R : L2.St → Hp → Prop} (k : KE K hd W H al E Q) (kn : Kn K hd H al N R) : KE K hd W H al { E with nx := N } { Q with nx := R } := ⟨kn, k.rt, k.ex, k.bk, k.ct⟩
theorem ds_trim1 {s1 : Stmt} {r : List Stmt} {t1 u : DS} (h1 : PS X s1 (liftS X.K W t1)) (h3 : PSs X r (liftS X.K W u)) : PSs X (s1 :: r) (liftS X.K W (dTrim1 t1 u)) := by
  refine pss_wk (pss_cons h1 h3) fun Q sg H ⟨ga, mu, al, hd, E, a, h, k⟩ => ?_
  refine ⟨ga, mu, al, hd, _, a, h, KE.with k fun ga1 mu1 sg1 H1 al1 n1 a1 g1 => ?_⟩
  obtain ⟨mu3, t, n3⟩ := n1
  exact ⟨_, mu3, al, hd, E, ⟨a.ok.trim a1.ok g1 t, slots_frz a.ok a1.ok g1 a1.sl⟩, n3, k.to g1.home⟩
theorem ds_trim2 {s1 s2 : Stmt} {r : List Stmt} {t1 t2 u : DS} (h1 : PS X s1 (liftS X.K W t1)) (h2 : PS X s2 (liftS X.K W t2)) (h3 : PSs X r (liftS X.K W u)) : PSs X (s1 :: s2 :: r) (liftS X.K W (dTrim2 t1 t2 u)) := by
  refine pss_wk (pss_cons h1 (pss_cons h2 h3)) fun Q sg H ⟨ga, mu, al, hd, E, a, h, k⟩ => ?_
  refine ⟨ga, mu, al, hd, _, a, h, KE.with k fun ga1 mu1 sg1 H1 al1 n1 a1 g1 => ?_⟩
  refine ⟨ga1, mu1, al1, hd, _, a1, n1, KE.with (k.to g1) fun ga2 mu2 sg2 H2 al2 n2 a2 g2 => ?_⟩
  obtain ⟨mu3, t, n3⟩ := n2
  have gg := g1.trans g2
  exact ⟨_, mu3, al, hd, E, ⟨a.ok.trim a2.ok gg t, slots_frz a.ok a2.ok gg a2.sl⟩, n3, k.to gg.home⟩
theorem ds_trim3 {s1 s2 s3 : Stmt} {r : List Stmt} {t1 t2 t3 u : DS} (h1 : PS X s1 (liftS X.K W t1)) (h2 : PS X s2 (liftS X.K W t2)) (h3 : PS X s3 (liftS X.K W t3)) (h4 : PSs X r (liftS X.K W u)) : PSs X (s1 :: s2 :: s3 :: r) (liftS X.K W (dTrim3 t1 t2 t3 u)) := by
  refine pss_wk (pss_cons h1 (pss_cons h2 (pss_cons h3 h4))) fun Q sg H ⟨ga, mu, al, hd, E, a, h, k⟩ => ?_
  refine ⟨ga, mu, al, hd, _, a, h, KE.with k fun ga1 mu1 sg1 H1 al1 n1 a1 g1 => ?_⟩
  refine ⟨ga1, mu1, al1, hd, _, a1, n1, KE.with (k.to g1) fun ga2 mu2 sg2 H2 al2 n2 a2 g2 => ?_⟩
  refine ⟨ga2, mu2, al2, hd, _, a2, n2, KE.with (k.to (g1.trans g2)) fun ga4 mu4 sg4 H4 al4 n4 a4 g4 => ?_⟩
  obtain ⟨mu3, t, n3⟩ := n4
  have gg := (g1.trans g2).trans g4
  exact ⟨_, mu3, al, hd, E, ⟨a.ok.trim a4.ok gg t, slots_frz a.ok a4.ok gg a4.sl⟩, n3, k.to gg.home⟩
end
end DZ

/-! part DZ9 -/
/-! DZ9: `in` for flat values; try: return x() / except ... -/
namespace DZ
open PySem PySem.Spec PyProof.Rows L2 DL DQ DX
def vsD : List D → Option (List V)
  | [] => some []
  | d :: l => match vD d, vsD l with
    | some v, some vs => some (v :: vs)
    | _, _ => none
theorem vD_rep {K : PySem.W.Frag} {al pt : List Addr} {H : Hp} {d : D} {v x : V} (r : Rep K al H pt d v) (h : vD d = some x) : v = x ∧ flatV x = true := by
  cases r <;> simp only [vD] at h <;> first
    | (cases h; done)
    | (have e := Option.some.inj h; subst e; exact ⟨rfl, rfl⟩)
theorem vsD_rep {K : PySem.W.Frag} {al pt : List Addr} {H : Hp} : ∀ {l : List D} {vs xs : List V}, RepL K al H pt l vs → vsD l = some xs → vs = xs ∧ xs.all flatV = true
  | [], _, xs, .nil, h => by
    cases h
    exact ⟨rfl, rfl⟩
  | d :: l, _, xs, .cons r rs, h => by
    unfold vsD at h
    cases q : vD d with
    | none => rw [q] at h; cases h
    | some v =>
      cases q2 : vsD l with
      | none => rw [q, q2] at h; cases h
      | some vs =>
        rw [q, q2] at h
        cases h
        obtain ⟨e1, f1⟩ := vD_rep r q
        obtain ⟨e2, f2⟩ := vsD_rep rs q2
        subst e1 e2
        exact ⟨rfl, by rw [List.all_cons, f1, f2]; rfl⟩
def gInVB (neg : Bool) : G2 := fun x y mu _ F => ∃ l vs vx, pv_ mu y = some l ∧ vD x = some vx ∧ vsD l = some vs ∧ F (.bl (if neg then !inV vx vs else inV vx vs)) mu
def gInV : G2 := gInVB false
def gNotInV : G2 := gInVB true
section
variable {X : Cx} {W : WX}
theorem inV_aux {neg : Bool} {sg : L2.St} {x y : V} {H : Hp} {Q : VK} (h : liftR X.K W (gInVB neg) sg x y H Q) : rIn X.K neg x y H Q := by
  obtain ⟨mu, al, hd, d, e, P, F, o, r1, r2, ⟨l, vs, vx, he, h1, h2, h⟩, kv, kx⟩ := h
  obtain ⟨p, xs, rfl, s, r⟩ := r2.pv_ o he
  obtain ⟨e1, f1⟩ := vD_rep r1 h1
  obtain ⟨e2, f2⟩ := vsD_rep r h2
  subst e1 e2
  exact ⟨p, xs, rfl, s, f1, f2, kv.now o h .bl⟩
theorem o_inV : OpS X (compareOp .In) (liftR X.K W gInV) := ops_wk (opr_s op_in_seq) fun sg x y H Q h => inV_aux h
theorem o_notInV : OpS X (compareOp .NotIn) (liftR X.K W gNotInV) := ops_wk (opr_s op_notIn_seq) fun sg x y H Q h => inV_aux h
end
/-! ### try: return x() / except .. -/
def TTB (K : PySem.W.Frag) (n : Nat) (l : List Cl1) : (XK → Hp → VK → Prop) → Hp → VK → Prop := fun tl H Q =>
  tl (fun cls d H' => ∀ q : L2.St, q.length = n → wMix K DX.W0 { nx := fun _ H' => Q .non H', rt := Q } (l.map (hcl K)) cls d q H') H Q
section
variable {X : Cx}
theorem gives_B {Ng : List Str} {x a q : Str} {sg : Scope} {g : Addr} {cdg : Value} {h0 : ExceptHandler} {hds : List ExceptHandler} {l : List Cl1} {n : Nat} {p2 p3 p4 p5 : Pos}
    (hN : Ng.Nodup) (hn : Ng.length = n) (hst : ∀ f : Addr, (L2.start Ng [V.ref f])[0]? = some (some (V.ref f)))
    (hh : ∀ (s : Shared) (H : Hp), HdsMix (cxOf C8.CX0 X.prog X.w X.K X.mg X.base Ng x sg g cdg X.A X.stack s H C8.E0).nox (h0 :: hds) (l.map (hcl X.K))) :
    LamX.GivesTo X Ng x sg g cdg [.Try [.Return (some (.Call (.Name a p2) [] [] p3)) p4] (h0 :: hds) [] [] p5] a q (TTB X.K n l) := by
  intro f c' s H Q tl act hc h
  refine ⟨_, pss_one (ps_try_mix (X := (cxOf C8.CX0 X.prog X.w X.K X.mg X.base Ng x sg g cdg X.A X.stack s H C8.E0).nox)
      (tb := fun W D σ H => ∃ Ech : XK, (∀ cls d σ' H', Ech cls d H' → W cls d σ' H') ∧ σ[0]? = some (some (.ref f)) ∧ H c' = some (LamX.CodeO c' q) ∧ tl Ech H D.rt)
      rfl rfl hN takes0' (fun W pn xe tk _ => ?_) (hh s H)), ?_⟩
  · refine ⟨fun pins s' σ H' D I h' => ?_⟩
    obtain ⟨Ech, hW, h1, h2, h3⟩ := h'
    have hp := act W pn xe Ech p2 p3 tk hW
    have hq := pss_one (ps_ret (pos := p4) hp)
    exact hq.run pins s' σ H' D I ⟨h1, h2, h3⟩
  · refine ⟨fun cls d H' => ∀ q : L2.St, q.length = n → wMix X.K DX.W0 { nx := fun _ H' => Q .non H', rt := Q } (l.map (hcl X.K)) cls d q H', fun cls d σ' H' z hl => z σ' (hl.trans hn), hst f, hc, h⟩
end
def dLamB (T : List (Addr × Str)) (es : List Nat) (n : Nat) (l : List Cl1) (dc : DE) : DE := fun ga mu _ F => tabsOf mu = T ∧ dc ga mu (fun x mu1 => x.1 ∈ es ∧ DX.pick n (endF (fun _ _ => False) F) x mu1 l) F
section
variable {X : Cx} {W : WX} {T : List (Addr × Str)} {es ys : List Nat} {n : Nat} {l : List Cl1} {dc : DE} {x a : Str} {g c P : Addr} {k : Nat} {pg : Arguments} {bg : List Stmt} {sg : Scope} {fd : FuncData} {Ng : List Str} {params : Arguments} {body : Expr} {scope : Scope} {p lpos pos : Pos}
theorem d_lamB (hm : X.mg x = some (.ref g)) (F : ∃ fd, FunD X.K x x pg bg sg [] [] g fd)
    (hps : ∀ (kV doc pm : Value) (an : Option Addr) (cdv ct : Value) (us : List Value), us.length = [a].length → bindArgs (PySem.W.fnOf x x pg bg sg .none kV doc pm an cdv ct) ⟨us, []⟩ = pure ([a].zip us))
    (Sg : FnScope Ng [a] sg) (hG : ∀ cdv : Value, LamX.GivesTo X Ng x sg g cdv bg a (X.env.qual ++ "<lambda>") (TTB X.K n l)) (hx : exmB X.K es ys = true) (hy : ∀ t ∈ l, t.1 ∈ ys)
    (TB : LamX.TabB X.base X.mg c P) (hcode : X.env.code = .ref c) (hmT : (P, X.env.qual ++ "<lambda>") ∈ T) (hu : ∀ p ∈ T, p.1 = P → p.2 = X.env.qual ++ "<lambda>") (hr : Room (k + 2) X.A) (L : LamX.LamS X.env.scope scope)
    (hbody : ∀ (A : Around) (outer : List Env) (s : Shared) (H : Hp) (E : XK) (f c' : Addr), Room k (A.deeper (LamX.lamEnv X scope s.heap.objs.size f c')) → PE (LamX.lamCx X A outer s H E scope f c') body (liftE X.K (fun c d _ h => E c d h) dc))
    (hg : Gl X x := by rfl) (hNg : Ng[0]? = some a := by rfl) (hva : Vis sg a := by first | exact Or.inl rfl | exact Or.inr (Or.inl rfl) | exact Or.inr (Or.inr rfl)) (hdef : defaultsOf params X.env = ([], []) := by rfl)
    (hbind : ∀ (q : Str) (cl : List (Str × Addr)) (pm cv ctv : Value), bindArgs (PySem.W.kla_fn "<lambda>" q params body scope cl pm cv ctv) ⟨[], []⟩ = pure [] := by intro _ _ _ _ _; rfl)
    (hdb : (x == ("__debug__" : Str)) = false := by decide) (hd1 : (a == ("__debug__" : Str)) = false := by decide) (hcd1 : (a == ("__classdict__" : Str)) = false := by decide) :
    PE X (.Call (.Name x p) [.Lambda params body scope lpos] [] pos) (liftE X.K W (dLamB T es n l dc)) := by
  obtain ⟨fd, F⟩ := F
  obtain ⟨oc, od, dV, kV, doc, pm, an, cdv, ct, osl, hfd, lk, hcd, hdv, _⟩ := F.ex
  have hdv0 : dV = .none := by
    rcases hdv with ⟨_, e⟩ | ⟨e, _⟩
    · exact e
    · exact (e rfl).elim
  subst hdv0 hfd
  have hb : L2.Binds X.K (PySem.W.fnOf x x pg bg sg .none kV doc pm an cdv ct) [a] [] := F.bindsN hps
  refine pe_wk (LamX.pe_lamcall (TT := TTB X.K n l) (t := fun E => liftE X.K (fun c d _ h => E c d h) dc) hg hm F.kp lk hcd hb Sg hNg hva (hG cdv) TB hcode hmT hu hr L hdef hbind hbody hdb hd1 hcd1) fun σ H Q ⟨ga, mu, al, hd, P, F, at_, h, kv, kx⟩ => ?_
  obtain ⟨hT0, h⟩ := h
  refine ⟨tabs_of at_.ok hT0, fun H1 eN T1 => ?_⟩
  have o1 := okay_tabs at_.ok hT0 eN T1
  have g1 := go_tabs at_.ok eN
  have kv1 := kv.to g1
  refine ⟨ga, mu, al, hd, _, _, at_.to o1 g1, h, kv1, ⟨fun y mu1 cls dd H2 al2 h2 o2 g2 r2 q hq => ?_⟩⟩
  exact pick_mix (Wo := DX.W0) (H := H1) (al := al) (D := { nx := fun _ H' => Q .non H', rt := Q }) (E := endF (fun _ _ => False) F) ⟨fun ga mu sg H' al' z a g => kv1.go _ _ _ _ _ z a.ok g .non, kv1, fun _ => ⟨fun _ _ _ _ _ _ z => z.elim⟩, fun _ _ _ _ _ z _ _ => z.elim, fun _ _ _ _ _ z _ _ => z.elim⟩ hx h2.1 o2 g2 r2 hq l hy h2.2
end
end DZ

/-! part DZ10 -/
/-! DZ10: list(zip(a, b)). -/
namespace DZ
open PySem PySem.F PySem.Spec PyProof.Rows L2
abbrev IsZipF (h : Heap) (z TI TO : Addr) (f0 f1 : Value) : Prop := h.get? z = some { cls := .type "zip", dict := none, data := .fields #[f0, f1, .bool false, .ref TI, .ref TO], slots := #[] }
/-- a zip object at I + 4 that has given k pairs; the last one is let go or held -/
structure ZSt (h : Heap) (I : Nat) (b1 b2 : Bool) (l1 l2 : Nat) (k : Nat) : Prop where
  z : IsZipF h (I + 4) (I + 2) (I + 3) .none (.bool false) ∨ ∃ (T : Nat) (f1 : Value), IsZipF h (I + 4) (I + 2) (I + 3) (rawInt T) f1 ∧ I + 4 < T ∧ ∃ o, h.get? T = some o
  ti : TupA h (I + 2) #[.ref I, .ref (I + 1)]
  to_ : ∃ y1 y2, TupA h (I + 3) #[y1, y2]
  i1 : AIt h b1 I l1 k
  i2 : AIt h b2 (I + 1) l2 k
theorem ZSt.at {h h' : Heap} {I : Nat} {b1 b2 : Bool} {l1 l2 k : Nat} (x : ZSt h I b1 b2 l1 l2 k) (e : ∀ (c : Nat) o, I ≤ c → h.get? c = some o → ∃ o', h'.get? c = some o' ∧ (c ≤ I + 4 → o' = o)) : ZSt h' I b1 b2 l1 l2 k := by
  have e2 : ∀ (c : Nat) o, I ≤ c → c ≤ I + 4 → h.get? c = some o → h'.get? c = some o := fun c o h1 h2 q => by
    obtain ⟨o', q1, q2⟩ := e c o h1 q
    rw [q1, q2 h2]
  refine ⟨?_, e2 _ _ (by omega) (by omega) x.ti, ?_, x.i1.at fun o q => e2 _ o (Nat.le_refl _) (by omega) q, x.i2.at fun o q => e2 _ o (by omega) (by omega) q⟩
  · rcases x.z with z | ⟨T, f1, z, hT, o, ho⟩
    · exact .inl (e2 _ _ (by omega) (by omega) z)
    · obtain ⟨o', q, _⟩ := e T o (by omega) ho
      exact .inr ⟨T, f1, e2 _ _ (by omega) (by omega) z, hT, o', q⟩
  · obtain ⟨y1, y2, z⟩ := x.to_
    exact ⟨y1, y2, e2 _ _ (by omega) (by omega) z⟩
section
variable {prog : Program} {w : World} {A : Around} {E : Value → Shared → Prop} {s : Shared}
theorem loadIfAlive_some {a : Addr} {o : Obj} {Q : Option Obj → Shared → Prop} (h : s.heap.get? a = some o) (q : Q (some o) s) : wpAny (model prog w) A (loadIfAlive a) Q E s := fun Γ p hΓ => by
  show Sem.wp _ Γ (Sem.loadIfAlive a Sem.pure) _ _ p s
  rw [Sem.wp_loadIfAlive, h]
  exact wpAny_pure (Q := Q) (E := E) (A := A) q Γ p hΓ
/-- is the owned tuple free: it is held -/
theorem owned_held {I T : Nat} {f1 : Value} {Q : Bool → Shared → Prop} {o : Obj} (hz : IsZipF s.heap (I + 4) (I + 2) (I + 3) (rawInt T) f1) (hT : s.heap.get? T = some o)
    (hQ : ∀ h' f1, IsZipF h' (I + 4) (I + 2) (I + 3) (rawInt T) f1 → Heap.SameBut (I + 4) s.heap h' → Q false { s with heap := h' }) : wpAny (model prog w) A (Builtin.SmallTypes.ownedTupleIsFree (.ref (I + 4))) Q E s := by
  unfold Builtin.SmallTypes.ownedTupleIsFree
  refine wpAny_bind (wpAny_field hz rfl (x := rawInt T) rfl ?_)
  show wpAny _ _ (loadIfAlive T >>= _) _ _ _
  refine wpAny_bind (loadIfAlive_some hT ?_)
  show wpAny _ _ (field (.ref (I + 4)) 1 >>= _) _ _ _
  refine wpAny_bind (wpAny_field hz rfl (x := f1) rfl ?_)
  cases hb : (f1 != Value.bool true) with
  | false =>
    simp only [Bool.false_eq_true, if_false]
    exact wpAny_bind (wpAny_pure (wpAny_pure (hQ _ f1 hz ⟨rfl, fun _ _ => rfl⟩)))
  | true =>
    simp only [if_true]
    exact wpAny_bind (wpAny_setField_rec hz (by simp) fun h' h1 h2 => wpAny_pure (hQ h' _ h1 h2))
/-- the next pair, with the one before held -/
theorem znh_item {I T : Nat} {f1 : Value} {l1 l2 : Nat} {b1 b2 : Bool} {k : Nat} {xs1 xs2 : Array Value} {x1 x2 : Value} {Q : Value → Shared → Prop} {o : Obj} (L1 : l1 < I) (L2 : l2 < I) (hTI4 : I + 4 < T)
    (hz : IsZipF s.heap (I + 4) (I + 2) (I + 3) (rawInt T) f1) (hT : s.heap.get? T = some o) (hTI : TupA s.heap (I + 2) #[.ref I, .ref (I + 1)]) (hTO : ∃ y1 y2, TupA s.heap (I + 3) #[y1, y2]) (it1 : AIt s.heap b1 I l1 k) (it2 : AIt s.heap b2 (I + 1) l2 k) (sq1 : ASq s.heap b1 l1 xs1) (sq2 : ASq s.heap b2 l2 xs2) (e1 : xs1[k]? = some x1) (e2 : xs2[k]? = some x2)
    (hQ : ∀ h', ZSt h' I b1 b2 l1 l2 (k + 1) → TupA h' s.heap.objs.size #[x1, x2] → h'.objs.size = s.heap.objs.size + 1 → (∀ (c : Nat) o, (c < I ∨ I + 4 < c) → s.heap.get? c = some o → h'.get? c = some o) → Q (.ref s.heap.objs.size) { s with heap := h' }) :
    wpAny (model prog w) A (Builtin.«zip.__next__» ⟨[.ref (I + 4)], []⟩) (fun fin s' => ∃ v, fin = .done (.ret v) ∧ Q v s') E s := by
  obtain ⟨y1, y2, hTO⟩ := hTO
  show wpAny _ _ (field (.ref (I + 4)) 2 >>= _) _ _ _
  refine wpAny_bind (wpAny_field hz rfl (x := .bool false) rfl ?_)
  show wpAny _ _ (field (.ref (I + 4)) 3 >>= _) _ _ _
  refine wpAny_bind (wpAny_field hz rfl (x := .ref (I + 2)) rfl ?_)
  refine wpAny_bind (wpAny_seqItems hTI rfl ?_)
  show wpAny _ _ (Builtin.SmallTypes.ownedTupleIsFree (.ref (I + 4)) >>= _) _ _ _
  refine wpAny_bind (owned_held hz hT fun g f1 hz1 hs => ?_)
  simp only [Bool.false_eq_true, if_false]
  have hk : ∀ (c : Nat) o, (c < I ∨ I + 4 < c) → s.heap.get? c = some o → g.get? c = some o := fun c o hc e => hs.extBut _ _ (by first | omega | exact ad (by omega)) e
  have hsz : g.objs.size = s.heap.objs.size := hs.1
  replace hz : IsZipF g (I + 4) (I + 2) (I + 3) (rawInt T) f1 := hz1
  replace hT := hs.extBut _ _ (by first | omega | exact ad (by omega)) hT
  replace hTI := hs.extBut _ _ (by first | omega | exact ad (by omega)) hTI
  replace hTO := hs.extBut _ _ (by first | omega | exact ad (by omega)) hTO
  replace it1 := it1.ext hs.extBut (by first | omega | exact ad (by omega))
  replace sq1 := sq1.ext hs.extBut (by first | omega | exact ad (by omega))
  replace it2 := it2.ext hs.extBut (by first | omega | exact ad (by omega))
  replace sq2 := sq2.ext hs.extBut (by first | omega | exact ad (by omega))
  clear hz1 hs
  refine wpAny_bind ?_
  first
  | rw [List.forIn_toArray]
  | (rw [← Array.forIn_toList]; simp only [List.toList_toArray])
  | rw [← Array.forIn_toList]
  simp only [List.forIn_cons, List.forIn_nil]
  refine wpAny_bind (wpAny_bind (wpAny_holding ?_))
  show wpAny _ _ (Builtin.SmallTypes.nextOf (.ref I) >>= _) _ _ _
  refine wpAny_bind (next_item it1 sq1 e1 fun g1 it1' hs => wpAny_pure ?_)
  clear it1
  have it1 := it1'
  clear it1'
  replace hz := hs.extBut _ _ (by first | omega | exact ad (by omega)) hz
  replace hT := hs.extBut _ _ (by first | omega | exact ad (by omega)) hT
  replace hTI := hs.extBut _ _ (by first | omega | exact ad (by omega)) hTI
  replace hTO := hs.extBut _ _ (by first | omega | exact ad (by omega)) hTO
  replace sq1 := sq1.ext hs.extBut (by first | omega | exact ad (by omega))
  replace it2 := it2.ext hs.extBut (by first | omega | exact ad (by omega))
  replace sq2 := sq2.ext hs.extBut (by first | omega | exact ad (by omega))
  replace hk : ∀ (c : Nat) o, (c < I ∨ I + 4 < c) → s.heap.get? c = some o → g1.get? c = some o := fun c o hc e => hs.extBut _ _ (by first | omega | exact ad (by omega)) (hk c o hc e)
  replace hsz : g1.objs.size = s.heap.objs.size := by rw [hs.1, hsz]
  clear hs
  refine wpAny_pure ?_
  refine wpAny_bind (wpAny_bind (wpAny_holding ?_))
  show wpAny _ _ (Builtin.SmallTypes.nextOf (.ref (I + 1)) >>= _) _ _ _
  refine wpAny_bind (next_item it2 sq2 e2 fun g2 it2' hs => wpAny_pure ?_)
  clear it2
  have it2 := it2'
  clear it2'
  replace hz := hs.extBut _ _ (by first | omega | exact ad (by omega)) hz
  replace hT := hs.extBut _ _ (by first | omega | exact ad (by omega)) hT
  replace hTI := hs.extBut _ _ (by first | omega | exact ad (by omega)) hTI
  replace hTO := hs.extBut _ _ (by first | omega | exact ad (by omega)) hTO
  replace it1 := it1.ext hs.extBut (by first | omega | exact ad (by omega))
  replace hk : ∀ (c : Nat) o, (c < I ∨ I + 4 < c) → s.heap.get? c = some o → g2.get? c = some o := fun c o hc e => hs.extBut _ _ (by first | omega | exact ad (by omega)) (hk c o hc e)
  replace hsz : g2.objs.size = s.heap.objs.size := by rw [hs.1, hsz]
  clear hs
  refine wpAny_pure ?_
  refine wpAny_pure ?_
  refine wpAny_bind (wpAny_newTuple ?_ (by show 2 ≤ sizeLine; decide))
  refine wpAny_pure ⟨_, rfl, ?_⟩
  have hp : ∀ (c : Nat) o, g2.get? c = some o → (g2.push { cls := .type "tuple", data := .seq #[x1, x2] }).get? c = some o := fun c o e => Heap.get?_push_of_some _ e
  show Q (.ref g2.objs.size) { s with heap := g2.push { cls := .type "tuple", data := .seq #[x1, x2] } }
  rw [hsz]
  have hn : TupA (g2.push { cls := .type "tuple", data := .seq #[x1, x2] }) g2.objs.size #[x1, x2] := Heap.get?_push_size _ rfl
  rw [hsz] at hn
  refine hQ _ ⟨.inr ⟨T, f1, hp _ _ hz, hTI4, _, hp _ _ hT⟩, hp _ _ hTI, ⟨y1, y2, hp _ _ hTO⟩, it1.at fun o e => hp _ _ e, it2.at fun o e => hp _ _ e⟩ hn (by rw [Heap.size_push, hsz]) fun c o hc e => hp _ _ (hk c o hc e)
theorem znh_end {I T : Nat} {f1 : Value} {l1 l2 : Nat} {b1 b2 : Bool} {k : Nat} {xs1 xs2 : Array Value} {Q : Fin → Shared → Prop} {o : Obj} (hh : A.handled = none) (L1 : l1 < I) (L2 : l2 < I)
    (hz : IsZipF s.heap (I + 4) (I + 2) (I + 3) (rawInt T) f1) (hT : s.heap.get? T = some o) (hTI : TupA s.heap (I + 2) #[.ref I, .ref (I + 1)]) (it1 : AIt s.heap b1 I l1 k) (it2 : AIt s.heap b2 (I + 1) l2 k) (sq1 : ASq s.heap b1 l1 xs1) (sq2 : ASq s.heap b2 l2 xs2) (hend : xs1[k]? = none ∨ xs2[k]? = none)
    (hE : ∀ h' e, (∀ (c : Nat) o, (c < I ∨ I + 4 < c) → s.heap.get? c = some o → h'.get? c = some o) → (∃ o, h'.get? e = some o ∧ o.cls = .type "StopIteration") → E (.ref e) { s with heap := h' }) :
    wpAny (model prog w) A (Builtin.«zip.__next__» ⟨[.ref (I + 4)], []⟩) Q E s := by
  show wpAny _ _ (field (.ref (I + 4)) 2 >>= _) _ _ _
  refine wpAny_bind (wpAny_field hz rfl (x := .bool false) rfl ?_)
  show wpAny _ _ (field (.ref (I + 4)) 3 >>= _) _ _ _
  refine wpAny_bind (wpAny_field hz rfl (x := .ref (I + 2)) rfl ?_)
  refine wpAny_bind (wpAny_seqItems hTI rfl ?_)
  show wpAny _ _ (Builtin.SmallTypes.ownedTupleIsFree (.ref (I + 4)) >>= _) _ _ _
  refine wpAny_bind (owned_held hz hT fun g f1 hz1 hs => ?_)
  simp only [Bool.false_eq_true, if_false]
  have hk : ∀ (c : Nat) o, (c < I ∨ I + 4 < c) → s.heap.get? c = some o → g.get? c = some o := fun c o hc e => hs.extBut _ _ (by first | omega | exact ad (by omega)) e
  replace it1 := it1.ext hs.extBut (by first | omega | exact ad (by omega))
  replace sq1 := sq1.ext hs.extBut (by first | omega | exact ad (by omega))
  replace it2 := it2.ext hs.extBut (by first | omega | exact ad (by omega))
  replace sq2 := sq2.ext hs.extBut (by first | omega | exact ad (by omega))
  clear hz1 hs
  refine wpAny_bind ?_
  first
  | rw [List.forIn_toArray]
  | (rw [← Array.forIn_toList]; simp only [List.toList_toArray])
  | rw [← Array.forIn_toList]
  simp only [List.forIn_cons, List.forIn_nil]
  refine wpAny_bind (wpAny_bind (wpAny_holding ?_))
  show wpAny _ _ (Builtin.SmallTypes.nextOf (.ref I) >>= _) _ _ _
  cases h1 : xs1[k]? with
  | none => exact wpAny_bind (next_end hh it1 sq1 h1 fun h' e hx he => hE h' e (fun c o hc q => hx _ _ (by first | omega | exact ad (by omega)) (hk c o hc q)) he)
  | some x1 =>
    have h2 : xs2[k]? = none := by
      rcases hend with q | q
      · rw [h1] at q; cases q
      · exact q
    refine wpAny_bind (next_item it1 sq1 h1 fun g1 it1' hs => wpAny_pure ?_)
    replace it2 := it2.ext hs.extBut (by first | omega | exact ad (by omega))
    replace sq2 := sq2.ext hs.extBut (by first | omega | exact ad (by omega))
    replace hk : ∀ (c : Nat) o, (c < I ∨ I + 4 < c) → s.heap.get? c = some o → g1.get? c = some o := fun c o hc e => hs.extBut _ _ (by first | omega | exact ad (by omega)) (hk c o hc e)
    refine wpAny_pure ?_
    refine wpAny_bind (wpAny_bind (wpAny_holding ?_))
    show wpAny _ _ (Builtin.SmallTypes.nextOf (.ref (I + 1)) >>= _) _ _ _
    exact wpAny_bind (next_end hh it2 sq2 h2 fun h' e hx he => hE h' e (fun c o hc q => hx _ _ (by first | omega | exact ad (by omega)) (hk c o hc q)) he)
theorem pz_item {I : Nat} {l1 l2 : Nat} {b1 b2 : Bool} {k : Nat} {xs1 xs2 : Array Value} {x1 x2 : Value} {Q : Option Value → Shared → Prop} (L1 : l1 < I) (L2 : l2 < I)
    (hz : ZSt s.heap I b1 b2 l1 l2 k) (sq1 : ASq s.heap b1 l1 xs1) (sq2 : ASq s.heap b2 l2 xs2) (e1 : xs1[k]? = some x1) (e2 : xs2[k]? = some x2)
    (hQ : ∀ h', ZSt h' I b1 b2 l1 l2 (k + 1) → TupA h' s.heap.objs.size #[x1, x2] → h'.objs.size = s.heap.objs.size + 1 → (∀ (c : Nat) o, (c < I ∨ I + 4 < c) → s.heap.get? c = some o → h'.get? c = some o) → Q (some (.ref s.heap.objs.size)) { s with heap := h' }) :
    wpAny (model prog w) A (pyNext (.ref (I + 4))) Q E s := by
  rcases hz.z with z | ⟨T, f1, z, hT, o, ho⟩
  · obtain ⟨y1, y2, hTO⟩ := hz.to_
    have hlt : I + 4 < s.heap.objs.size := Heap.lt_size z
    refine py2_item L1 L2 z hz.ti hTO hz.i1 hz.i2 sq1 sq2 e1 e2 fun h' a0 a1 a2 a3 a4 a5 a6 => hQ h' ⟨.inr ⟨_, _, a0, hlt, _, a4⟩, a6 _ _ (.inr (.inl rfl)) hz.ti, ⟨_, _, a1⟩, a2, a3⟩ a4 a5 fun c o hc => a6 c o (by omega)
  · have hT0 : s.TypeIs (.ref (I + 4)) "zip" := ⟨_, z, rfl⟩
    unfold pyNext
    exact wpAny_bind (wpAny_attempt (wpAny_callSpecial?_slot (name := Str.ofString "__next__") hT0 F.slot_zip_next
      (wpAny_call_entry F.slot_zip_next hT0 F.entry_zip_next
        (znh_item L1 L2 hT z ho hz.ti hz.to_ hz.i1 hz.i2 sq1 sq2 e1 e2 fun h' a0 a1 a2 a3 => wpAny_pure (hQ h' a0 a1 a2 a3)) (F.args_zip_next_1 _))))
theorem pz_end {I : Nat} {l1 l2 : Nat} {b1 b2 : Bool} {k : Nat} {xs1 xs2 : Array Value} {Q : Option Value → Shared → Prop} (hh : A.handled = none) (L1 : l1 < I) (L2 : l2 < I)
    (hz : ZSt s.heap I b1 b2 l1 l2 k) (sq1 : ASq s.heap b1 l1 xs1) (sq2 : ASq s.heap b2 l2 xs2) (hend : xs1[k]? = none ∨ xs2[k]? = none)
    (hQ : ∀ h', (∀ (c : Nat) o, (c < I ∨ I + 4 < c) → s.heap.get? c = some o → h'.get? c = some o) → Q none { s with heap := h' }) : wpAny (model prog w) A (pyNext (.ref (I + 4))) Q E s := by
  rcases hz.z with z | ⟨T, f1, z, hT, o, ho⟩
  · obtain ⟨y1, y2, hTO⟩ := hz.to_
    exact py2_end hh L1 L2 z hz.ti hTO hz.i1 hz.i2 sq1 sq2 hend fun h' a => hQ h' fun c o hc => a c o (by omega)
  · have hT0 : s.TypeIs (.ref (I + 4)) "zip" := ⟨_, z, rfl⟩
    unfold pyNext
    refine wpAny_bind (wpAny_attempt (wpAny_callSpecial?_slot (name := Str.ofString "__next__") hT0 F.slot_zip_next
      (wpAny_call_entry F.slot_zip_next hT0 F.entry_zip_next (znh_end hh L1 L2 z ho hz.ti hz.i1 hz.i2 sq1 sq2 hend fun h' e hk he => ?_) (F.args_zip_next_1 _))))
    obtain ⟨o, ho, hc⟩ := he
    refine wpAny_bind (wpAny_isInstance (T := "StopIteration") (b := true) ⟨o, ho, hc⟩ isSubtype_stop ?_)
    exact wpAny_pure (hQ _ hk)
end
theorem nolen_zip : typeLookup (.type "zip") "__len__" = pure none := by rw [typeLookup_type, builtinLookup_eq_fast]; kernel_rfl
theorem nohint_zip : typeLookup (.type "zip") "__length_hint__" = pure none := by rw [typeLookup_type, builtinLookup_eq_fast]; kernel_rfl
/-- the pairs that a list holds: each a tuple of its own -/
structure Held (h : Heap) (I S : Nat) (xs1 xs2 : Array Value) (acc : Array Value) (ts : List Nat) : Prop where
  acc : acc = (ts.map fun T => Value.ref T).toArray
  nd : ts.Nodup
  far : ∀ T ∈ ts, I + 4 < T ∧ T ≠ S
  at_ : ∀ (j : Nat) (T : Nat), ts[j]? = some T → ∃ x1 x2, xs1[j]? = some x1 ∧ xs2[j]? = some x2 ∧ TupA h T #[x1, x2]
theorem Held.keep {h h' : Heap} {I S : Nat} {xs1 xs2 acc : Array Value} {ts : List Nat} (x : Held h I S xs1 xs2 acc ts) (k : ∀ (c : Nat) o, I + 4 < c → c ≠ S → h.get? c = some o → h'.get? c = some o) : Held h' I S xs1 xs2 acc ts :=
  ⟨x.acc, x.nd, x.far, fun j T e => by
    obtain ⟨x1, x2, e1, e2, z⟩ := x.at_ j T e
    obtain ⟨f1, f2⟩ := x.far T (List.mem_of_getElem? e)
    exact ⟨x1, x2, e1, e2, k T _ f1 f2 z⟩⟩
section
variable {prog : Program} {w : World} {A : Around} {E : Value → Shared → Prop} {s : Shared} {R : Result → Shared → Prop}
theorem loop_zip {I S : Nat} {b1 b2 : Bool} {l1 l2 : Nat} {xs1 xs2 : Array Value} {res : Value} {n : Nat} (hh : A.handled = none) (L1 : l1 < I) (L2 : l2 < I) (hIS : I + 4 < S) (hn : n = min xs1.size xs2.size) (hsz : n ≤ sizeLine) :
    ∀ (k i : Nat) (s : Shared) (acc : Array Value) (c : Nat) (ts : List Nat), n - i = k → i ≤ n → ZSt s.heap I b1 b2 l1 l2 i → ASq s.heap b1 l1 xs1 → ASq s.heap b2 l2 xs2 → s.heap.get? S = some { cls := .type "list", dict := none, data := .seq acc c, slots := #[] } → ts.length = i → Held s.heap I S xs1 xs2 acc ts →
    (∀ h' acc' c' ts', ts'.length = n → h'.get? S = some { cls := .type "list", dict := none, data := .seq acc' c', slots := #[] } → Held h' I S xs1 xs2 acc' ts' → (∀ (c : Nat) o, c < I → s.heap.get? c = some o → h'.get? c = some o) → R (.ok (.ret res)) { s with heap := h' }) →
    codeAny (model prog w) A (.builtin "list.extend.loop" ⟨[.ref S, .ref (I + 4), res], []⟩) R s := by
  intro k
  induction k with
  | zero =>
    intro i s acc c ts hk hi hz sq1 sq2 hS hl hd hR
    have hin : i = n := by omega
    subst hin
    refine codeAny_builtin F.entry_extend_loop ?_
    rw [Around.under_plainId F.plain_extend_loop _]
    show wpAny _ A.in1 (pyNext (.ref (I + 4)) >>= _) _ _ s
    have hh1 : A.in1.handled = none := hh
    refine wpAny_bind (pz_end hh1 L1 L2 hz sq1 sq2 ?_ fun h' hk => ?_)
    · rcases Nat.le_total xs1.size xs2.size with q | q
      · exact .inl (by rw [Array.getElem?_eq_none (by omega)])
      · exact .inr (by rw [Array.getElem?_eq_none (by omega)])
    · exact wpAny_pure (hR h' acc c ts hl (hk _ _ (by omega) hS) (hd.keep fun c o h1 h2 e => hk c o (.inr h1) e) fun c o h1 e => hk c o (.inl h1) e)
  | succ k ih =>
    intro i s acc c ts hk hi hz sq1 sq2 hS hl hd hR
    have hlt : i < n := by omega
    have hh1 : A.in1.handled = none := hh
    refine codeAny_builtin F.entry_extend_loop ?_
    rw [Around.under_plainId F.plain_extend_loop _]
    show wpAny _ A.in1 (pyNext (.ref (I + 4)) >>= _) _ _ s
    have g1 : i < xs1.size := by omega
    have g2 : i < xs2.size := by omega
    refine wpAny_bind (pz_item L1 L2 hz sq1 sq2 (Array.getElem?_eq_getElem g1) (Array.getElem?_eq_getElem g2) fun h' z' hT hs' hk' => ?_)
    have hS' := hk' S _ (by omega) hS
    have hSlt : S < s.heap.objs.size := Heap.lt_size hS
    have hasz : acc.size = i := by
      rw [hd.acc, List.size_toArray, List.length_map]
      exact hl
    show wpAny _ A.in1 (updateSeq S (·.push (.ref s.heap.objs.size)) >>= _) _ _ _
    refine wpAny_bind ?_
    have oth : ∀ (b : Nat) o, b ≠ S → h'.get? b = some o → (h'.update S (Obj.mapSeq (·.push (Value.ref s.heap.objs.size)))).get? b = some o := fun b o hb e => (Heap.get?_update_other _ _ (Ne.symm hb)).trans e
    refine wpAny_updateSeq hS' rfl (wpAny_pure ⟨plainId_quiet F.plain_extend_loop _, ih (i + 1) _ (acc.push (.ref s.heap.objs.size)) _ (ts ++ [s.heap.objs.size]) (by omega) hlt ?_ ?_ ?_ (Heap.get?_update_self _ hS' rfl) (by rw [List.length_append]; simp; exact hl) ?_ ?_⟩)
      (by rw [hasz]; omega) (by show (acc.push _).size ≤ sizeLine + 1; rw [Array.size_push, hasz]; omega)
    · refine z'.at fun c o h1 e => ?_
      by_cases q : c = S
      · exact ⟨_, by rw [q]; exact Heap.get?_update_self _ hS' rfl, fun z => by omega⟩
      · exact ⟨o, oth c o q e, fun _ => rfl⟩
    · have a1 : ASq h' b1 l1 xs1 := by
        cases b1
        · obtain ⟨o, ho, r⟩ := sq1
          exact ⟨o, hk' _ _ (.inl L1) ho, r⟩
        · obtain ⟨o, ho, r⟩ := sq1
          exact ⟨o, hk' _ _ (.inl L1) ho, r⟩
      have hne : l1 ≠ S := by omega
      cases b1
      · obtain ⟨o, ho, r⟩ := a1
        exact ⟨o, oth _ _ hne ho, r⟩
      · obtain ⟨o, ho, r⟩ := a1
        exact ⟨o, oth _ _ hne ho, r⟩
    · have a1 : ASq h' b2 l2 xs2 := by
        cases b2
        · obtain ⟨o, ho, r⟩ := sq2
          exact ⟨o, hk' _ _ (.inl L2) ho, r⟩
        · obtain ⟨o, ho, r⟩ := sq2
          exact ⟨o, hk' _ _ (.inl L2) ho, r⟩
      have hne : l2 ≠ S := by omega
      cases b2
      · obtain ⟨o, ho, r⟩ := a1
        exact ⟨o, oth _ _ hne ho, r⟩
      · obtain ⟨o, ho, r⟩ := a1
        exact ⟨o, oth _ _ hne ho, r⟩
    · have hd1 := hd.keep fun c o h1 h2 e => oth c o h2 (hk' c o (.inr h1) e)
      refine ⟨by rw [hd.acc]; simp, ?_, fun T hT => ?_, fun j T e => ?_⟩
      · rw [List.nodup_append]
        refine ⟨hd.nd, by simp, fun a ha b hb z => ?_⟩
        rw [List.mem_singleton] at hb
        subst hb
        subst z
        obtain ⟨j, hj, ej⟩ := List.mem_iff_getElem.mp ha
        obtain ⟨x1, x2, _, _, z⟩ := hd.at_ j _ (by rw [List.getElem?_eq_getElem hj, ej])
        exact absurd (Heap.lt_size z) (Nat.lt_irrefl _)
      · rcases List.mem_append.mp hT with q | q
        · exact hd.far T q
        · rw [List.mem_singleton.mp q]
          exact ⟨by omega, by omega⟩
      · by_cases q : j < ts.length
        · rw [List.getElem?_append_left q] at e
          exact hd1.at_ j T e
        · rw [List.getElem?_append_right (by omega)] at e
          have q0 : j - ts.length = 0 := by
            have := (List.getElem?_eq_some_iff.mp e).1
            simp at this
            omega
          rw [q0] at e
          have eT : s.heap.objs.size = T := by simpa using e
          have ej : j = i := by omega
          subst ej
          subst eT
          exact ⟨_, _, Array.getElem?_eq_getElem g1, Array.getElem?_eq_getElem g2, oth _ _ (by omega) hT⟩
    · intro h'' acc' c' ts' r1 r2 r3 r4
      exact hR h'' acc' c' ts' r1 r2 r3 fun c o h1 e => r4 c o h1 (oth c o (by omega) (hk' c o (.inl h1) e))
theorem pyIter_zst {I : Nat} {b1 b2 : Bool} {l1 l2 k : Nat} {Q : Value → Shared → Prop} (hz : ZSt s.heap I b1 b2 l1 l2 k) (h : Q (.ref (I + 4)) s) : wpAny (model prog w) A (pyIter (.ref (I + 4))) Q E s := by
  rcases hz.z with z | ⟨T, f1, z, _⟩
  · exact wpAny_pyIter_zip z h
  · have hT : s.TypeIs (.ref (I + 4)) "zip" := ⟨_, z, rfl⟩
    refine wpAny_pyIter_slot hT F.slot_zip_iter (wpAny_call_entry F.slot_zip_iter hT F.entry_zip_iter ?_ (F.args_zip_iter_1 _))
    show wpAny _ _ (ret (.ref (I + 4))) _ _ s
    exact wpAny_pure ⟨_, rfl, "zip", _, hT, F.slot_zip_next.lookup, h⟩
theorem ext_zip {I S : Nat} {b1 b2 : Bool} {l1 l2 : Nat} {xs1 xs2 : Array Value} {res : Value} {c₀ : Nat} (hh : A.handled = none) (L1 : l1 < I) (L2 : l2 < I) (hIS : I + 4 < S) (hsz : min xs1.size xs2.size ≤ sizeLine)
    (hz : ZSt s.heap I b1 b2 l1 l2 0) (hT : s.TypeIs (.ref (I + 4)) "zip") (sq1 : ASq s.heap b1 l1 xs1) (sq2 : ASq s.heap b2 l2 xs2) (hS : s.heap.get? S = some { cls := .type "list", data := .seq #[] c₀ })
    (hR : ∀ h' acc' c' ts', ts'.length = min xs1.size xs2.size → h'.get? S = some { cls := .type "list", dict := none, data := .seq acc' c', slots := #[] } → Held h' I S xs1 xs2 acc' ts' → (∀ (c : Nat) o, c < I → s.heap.get? c = some o → h'.get? c = some o) → R (.ok (.ret res)) { s with heap := h' }) :
    wpAny (model prog w) A.in1 (Builtin.List.listExtendWith (.ref S) (.ref (I + 4)) res)
      (fun fin s' => match fin with | .done f => R (.ok f) s' | .again c' => c'.quiet = true ∧ codeAny (model prog w) A c' R s') (fun e s' => R (.error e) s') s := by
  have hSI : S ≠ I + 4 := by omega
  unfold Builtin.List.listExtendWith
  refine wpAny_bind (wpAny_typeOf hT ?_)
  have h1 : Builtin.List.listSameRef (.ref S) (.ref (I + 4)) = false := by simp [Builtin.List.listSameRef, hSI]
  have h2 : (Value.type "zip" == Value.type "list") = false := by decide
  have h3 : (Value.type "zip" == Value.type "tuple") = false := by decide
  simp only [h1, h2, h3, Bool.or_false, Bool.false_eq_true, if_false]
  refine wpAny_bind ?_
  have hzI : s.heap.get? (I + 4) = s.heap.get? (I + 4) := rfl
  refine pyIter_zst hz ?_
  refine wpAny_bind (wpAny_holding ?_)
  unfold Builtin.List.listLengthHint
  refine wpAny_bind (wpAny_specialOf hT nolen_zip ?_)
  show wpAny _ A.in1 (specialOf (Value.ref (I + 4)) (Str.ofString "__length_hint__") >>= _) _ _ _
  refine wpAny_bind (wpAny_specialOf hT nohint_zip ?_)
  refine wpAny_pure ?_
  have fin : ∀ (s' : Shared) (c : Nat), s' = { s with heap := s'.heap } → (∀ (b : Nat) o, b ≠ S → s.heap.get? b = some o → s'.heap.get? b = some o) → s'.heap.get? S = some { cls := .type "list", dict := none, data := .seq #[] c, slots := #[] } → codeAny (model prog w) A (.builtin "list.extend.loop" ⟨[.ref S, .ref (I + 4), res], []⟩) R s' := fun s' c es k hS' => by
    rw [es]
    have ks : ∀ {b : Bool} {l : Nat} {xs : Array Value}, l < I → ASq s.heap b l xs → ASq s'.heap b l xs := fun {b l xs} hl q => by
      cases b
      · obtain ⟨o, ho, r⟩ := q
        exact ⟨o, k _ _ (by omega) ho, r⟩
      · obtain ⟨o, ho, r⟩ := q
        exact ⟨o, k _ _ (by omega) ho, r⟩
    refine loop_zip hh L1 L2 hIS rfl hsz _ 0 _ #[] c [] rfl (Nat.zero_le _) (hz.at fun c o h1 e => ?_) (ks L1 sq1) (ks L2 sq2) hS' rfl ⟨rfl, List.nodup_nil, fun T h => (List.not_mem_nil h).elim, fun j T h => (by simp at h)⟩ fun h' acc' c' ts' r1 r2 r3 r4 => hR h' acc' c' ts' r1 r2 r3 fun c o h1 e => r4 c o h1 (k c o (by omega) e)
    by_cases q : c = S
    · exact ⟨_, by rw [q]; exact hS', fun z => by omega⟩
    · exact ⟨o, k c o q e, fun _ => rfl⟩
  first
  | (show wpAny _ A.in1 (again (.builtin "list.extend.loop" ⟨[.ref S, .ref (I + 4), res], []⟩)) _ _ _
     exact wpAny_pure ⟨plainId_quiet F.plain_extend_loop _, fin s c₀ rfl (fun _ _ _ e => e) hS⟩)
  | (show wpAny _ A.in1 (rule "list.extend.makes-room" >>= fun _ => Builtin.List.listTouch (.ref S) >>= fun _ =>
      again (.builtin "list.extend.loop" ⟨[.ref S, .ref (I + 4), res], []⟩)) _ _ _
     refine wpAny_bind (wpAny_rule ?_)
     refine wpAny_bind ?_
     show wpAny _ A.in1 (updateSeq S (·.push .none) >>= fun _ => updateSeq S (·.pop)) _ _ _
     refine wpAny_bind (wpAny_updateSeq hS rfl ?_)
     have hS₂ := Heap.get?_update_self (Obj.mapSeq (·.push Value.none)) hS rfl
     refine wpAny_updateSeq (hz := by seq_fits) hS₂ rfl ?_
     have hS₃ := Heap.get?_update_self (Obj.mapSeq (·.pop)) hS₂ rfl
     exact wpAny_pure ⟨plainId_quiet F.plain_extend_loop _, fin _ _ rfl (fun b o hb e => (Heap.get?_update_other _ _ (Ne.symm hb)).trans ((Heap.get?_update_other _ _ (Ne.symm hb)).trans e)) hS₃⟩)
theorem call_list_zip {I : Nat} {b1 b2 : Bool} {l1 l2 : Nat} {xs1 xs2 : Array Value} {Q : Value → Shared → Prop} (hh : A.handled = none) (L1 : l1 < I) (L2 : l2 < I) (hsz : min xs1.size xs2.size ≤ sizeLine)
    (hz : ZSt s.heap I b1 b2 l1 l2 0) (hT : s.TypeIs (.ref (I + 4)) "zip") (sq1 : ASq s.heap b1 l1 xs1) (sq2 : ASq s.heap b2 l2 xs2) (hlt : I + 4 < s.heap.objs.size)
    (hQ : ∀ h' acc' c' ts', ts'.length = min xs1.size xs2.size → h'.get? s.heap.objs.size = some { cls := .type "list", dict := none, data := .seq acc' c', slots := #[] } → Held h' I s.heap.objs.size xs1 xs2 acc' ts' → (∀ (c : Nat) o, c < I → s.heap.get? c = some o → h'.get? c = some o) → Q (.ref s.heap.objs.size) { s with heap := h' }) :
    wpAny (model prog w) A (call (.type "list") [.ref (I + 4)]) Q E s := by
  refine callType_codes (Q₁ := fun obj s₁ => obj = .ref s.heap.objs.size ∧ s₁ = { s with heap := s.heap.push { cls := .type "list", data := .seq #[] } }) F.called_list (F.typeCall_list_1 _) F.entry_list_init
    (code_list_new _ ⟨rfl, rfl⟩) fun obj s₁ h₁ => ?_
  obtain ⟨rfl, rfl⟩ := h₁
  have hS : (s.heap.push { cls := .type "list", data := .seq #[] }).get? s.heap.objs.size = some { cls := .type "list", data := .seq #[] } := Heap.get?_push_size _ rfl
  refine ⟨⟨_, hS, rfl⟩, F.args_list_init_2 _ _, ?_⟩
  show wpAny _ A.in1.in1 (do let old ← Builtin.List.listItems (.ref s.heap.objs.size); Builtin.List.listUpdate (.ref s.heap.objs.size) (fun _ => #[]); letGo old.toList.reverse; Builtin.List.listExtendWith (.ref s.heap.objs.size) (.ref (I + 4)) .none) _ _ _
  refine wpAny_bind ?_
  unfold Builtin.List.listItems
  refine wpAny_bind (wpAny_seqItems hS rfl (wpAny_pure ?_))
  show wpAny _ A.in1.in1 (updateSeq s.heap.objs.size (fun _ => #[]) >>= fun _ => letGo (#[] : Array Value).toList.reverse >>= fun _ => Builtin.List.listExtendWith (.ref s.heap.objs.size) (.ref (I + 4)) .none) _ _ _
  refine wpAny_bind (wpAny_updateSeq hS rfl ?_)
  have hS₂ := Heap.get?_update_self (Obj.mapSeq (fun _ => (#[] : Array Value))) hS rfl
  have oth : ∀ b o, s.heap.get? b = some o → ((s.heap.push { cls := .type "list", data := .seq #[] }).update s.heap.objs.size (Obj.mapSeq (fun _ => (#[] : Array Value)))).get? b = some o :=
    fun b o e => (Heap.get?_update_other _ _ (Ne.symm (Nat.ne_of_lt (Heap.lt_size e)))).trans (Heap.get?_push_of_some _ e)
  refine wpAny_bind (wpAny_letGo ?_)
  have hT2 : Shared.TypeIs { s with heap := (s.heap.push { cls := .type "list", data := .seq #[] }).update s.heap.objs.size (Obj.mapSeq (fun _ => (#[] : Array Value))) } (.ref (I + 4)) "zip" := by
    obtain ⟨o, ho, hc⟩ := hT
    exact ⟨o, oth _ _ ho, hc⟩
  have ks : ∀ {b : Bool} {l : Nat} {xs : Array Value}, ASq s.heap b l xs → ASq ((s.heap.push { cls := .type "list", data := .seq #[] }).update s.heap.objs.size (Obj.mapSeq (fun _ => (#[] : Array Value)))) b l xs := fun {b l xs} q => by
    cases b
    · obtain ⟨o, ho, r⟩ := q
      exact ⟨o, oth _ _ ho, r⟩
    · obtain ⟨o, ho, r⟩ := q
      exact ⟨o, oth _ _ ho, r⟩
  refine ext_zip (A := A.in1) (R := wants (fun r s₂ => r = .none ∧ Q (.ref s.heap.objs.size) s₂) E) hh L1 L2 hlt hsz (hz.at fun c o _ e => ⟨o, oth c o e, fun _ => rfl⟩) hT2 (ks sq1) (ks sq2) hS₂ fun h' acc' c' ts' r1 r2 r3 r4 => ?_
  exact ⟨rfl, hQ h' acc' c' ts' r1 r2 r3 fun c o h1 e => r4 c o h1 (oth c o e)⟩
end
/-! ### the hand layer -/
def layT : Hp → List Nat → List (V × V) → Hp
  | H, t :: ts, p :: ps => layT (upd H t (.tup [p.1, p.2])) ts ps
  | H, _, _ => H
theorem layT_other {b : Nat} : ∀ {ts : List Nat} {ps : List (V × V)} {H : Hp}, ¬ b ∈ ts → layT H ts ps b = H b
  | [], _, _, _ => rfl
  | _ :: _, [], _, _ => rfl
  | t :: ts, p :: ps, H, h => by
    rw [layT, layT_other (fun z => h (List.mem_cons_of_mem _ z)), upd_ne (fun z => h (by rw [z]; exact List.mem_cons_self))]
theorem layT_mem {b : Nat} : ∀ {ts : List Nat} {ps : List (V × V)} {H : Hp}, ts.length = ps.length → ts.Nodup → b ∈ ts → ∃ (j : Nat) (p : V × V), ts[j]? = some b ∧ ps[j]? = some p ∧ layT H ts ps b = some (.tup [p.1, p.2])
  | [], _, _, _, _, h => by cases h
  | _ :: _, [], _, h, _, _ => by simp at h
  | t :: ts, p :: ps, H, hl, hn, h => by
    obtain ⟨n1, n2⟩ := List.nodup_cons.mp hn
    rcases List.mem_cons.mp h with e | h
    · subst e
      refine ⟨0, p, rfl, rfl, ?_⟩
      rw [layT, layT_other n1, upd_same]
    · obtain ⟨j, q, e1, e2, e3⟩ := layT_mem (H := upd H t (.tup [p.1, p.2])) (by simpa using hl) n2 h
      exact ⟨j + 1, q, by simpa using e1, by simpa using e2, e3⟩
theorem inv_laidAll {X : Cx} {pins : List (Addr × Obj)} {σ : L2.St} {H H' : Hp} {s : Shared} {h' : Heap} {t' : Nat} (I : Inv X pins σ H s) (k : ∀ b u, s.heap.get? b = some u → h'.get? b = some u)
    (up : ∀ b u, H b = some u → H' b = some u) (nw : ∀ b u, H' b = some u → H b = none → s.heap.objs.size ≤ b ∧ ObjOk X.prog X.w H' h' b u) : Inv X pins σ H' { s with heap := h', toks := t' } := by
  have fr : ∀ b o, s.heap.get? b = some o → H b = none → H' b = none := fun b o q n => by
    cases e : H' b with
    | none => rfl
    | some u => exact absurd (Nat.lt_of_lt_of_le (Heap.lt_size q) (nw b u e n).1) (Nat.lt_irrefl _)
  refine I.un ⟨fun b u q _ _ _ => k b u q, fun b u q _ _ _ => ⟨u.slots, k b u q⟩, fun b u q n _ => fr b u q n, fun b u q _ => ⟨u, k b u q⟩, fun b xs q => up _ _ q, fun b u xs q => up _ _ q, fun b ps q => ⟨#[], by rw [up _ _ q]; simp⟩⟩ fun b u e => ?_
  cases q : H b with
  | none => exact (nw b u e q).2
  | some v =>
    have e2 := up b v q
    rw [e] at e2
    cases e2
    exact (I.hok b u q).stay (fun c v _ z => k c v z) (fun c z => up _ _ z) fun c xs z => up _ _ z
/-- list(zip(a, b)): tuples of their own in a new list -/
def tLZip (K : PySem.W.Frag) (ta : TA) : TE := fun σ H Q => ta σ H fun vs H1 => ∃ (b1 b2 : Bool) (l1 l2 : Nat) (xs1 xs2 : List V), vs = [.ref l1, .ref l2] ∧ SqA K H1 b1 l1 xs1 ∧ SqA K H1 b2 l2 xs2 ∧ min xs1.length xs2.length ≤ sizeLine ∧
  ∀ (ts : List Nat) (L : Nat), ts.length = min xs1.length xs2.length → ts.Nodup → ¬ L ∈ ts → (∀ T, T ∈ L :: ts → H1 T = none) → Q (.ref L) (upd (layT H1 ts (xs1.zip xs2)) L (.lst (ts.map fun T => V.ref T)))
theorem vals_refs : ∀ ts : List Nat, Vals (ts.map fun T => V.ref T) (ts.map fun T => Value.ref T)
  | [] => .nil
  | t :: ts => .cons rfl (vals_refs ts)
theorem pe_lzip {X : Cx} {a1 a2 : Expr} {ta : TA} {p p2 pos pos2 : Pos} (hc : X.calm = true) (hgL : Gl X "list") (hmL : X.mg "list" = none) (hg : Gl X "zip") (hm : X.mg "zip" = none) (ha : PA X [a1, a2] ta)
    (hs : starEach [a1, a2] X.env = (false, eval a1 X.env) :: starEach [a2] X.env := by rfl) (hpl : (backTo pos2 (starEach [a2] X.env)).any (·.1) = false := by rfl)
    (na : starEach [.Call (.Name "zip" p2) [a1, a2] [] pos2] X.env = (false, eval (.Call (.Name "zip" p2) [a1, a2] [] pos2) X.env) :: starEach [] X.env := by rfl) :
    PE X (.Call (.Name "list" p) [.Call (.Name "zip" p2) [a1, a2] [] pos2] [] pos) (tLZip X.K ta) := by
  refine ⟨fun pins s σ H Q I h => ?_⟩
  refine Call_ (ld_blt I hgL hmL boot_list (PyProof.Rows.callWith_type1 (args_cons (Call_ (ld_blt I hg hm PyProof.Rows.boot_zip (PyProof.Rows.callWith_type1 (thn (ha.run pos2 pins s σ H _ I h) fun us s1 ⟨vs, H1, I1, r1, q1⟩ => ?_) hs hpl))) na) na))
  obtain ⟨b1, b2, l1, l2, xs1, xs2, ex, q1, q2, hsz, q⟩ := q1
  subst ex
  obtain ⟨v1, us1, rfl, w1, rr1⟩ := vals_cons r1
  obtain ⟨v2, us2, rfl, w2, rr2⟩ := vals_cons rr1
  cases rr2
  cases w1
  cases w2
  obtain ⟨its1, rv1, p1⟩ := sqa_at I1 q1
  have L1 := asq_lt p1
  obtain ⟨its2, rv2, p2⟩ := sqa_at I1 q2
  have L2 := asq_lt p2
  have m1 := rv1.length
  have m2 := rv2.length
  have esz : min its1.toArray.size its2.toArray.size = min xs1.length xs2.length := by
    rw [List.size_toArray, List.size_toArray, m1, m2]
  refine call2 p1 p2 ?_
  intro h' hz hTI hTO it1 it2 hsz' hk
  refine args_nil ?_
  have ks : ∀ {b : Bool} {l : Nat} {xs : Array Value}, ASq s1.heap b l xs → ASq h' b l xs := fun {b l xs} q => by
    cases b
    · obtain ⟨o, ho, r⟩ := q
      exact ⟨o, hk _ _ ho, r⟩
    · obtain ⟨o, ho, r⟩ := q
      exact ⟨o, hk _ _ ho, r⟩
  refine call_list_zip (s := { s1 with heap := h' }) (I := s1.heap.objs.size) (I1.ok.hd hc) L1 L2 (by rw [esz]; exact hsz) ⟨.inl hz, hTI, ⟨_, _, hTO⟩, it1, it2⟩ ⟨_, hz, rfl⟩ (ks p1) (ks p2) (Heap.lt_size hz) fun h'' acc' c' ts' e1 e2 e3 e4 => ?_
  rw [esz] at e1
  have hS5 : s1.heap.objs.size + 4 < h'.objs.size := Heap.lt_size hz
  have far : ∀ T, T ∈ (h'.objs.size :: ts') → s1.heap.objs.size ≤ T := fun T hT => by
    rcases List.mem_cons.mp hT with z | z
    · omega
    · have := (e3.far T z).1
      omega
  have nL : ¬ h'.objs.size ∈ ts' := fun z => (e3.far _ z).2 rfl
  have fre : ∀ T, T ∈ (h'.objs.size :: ts') → H1 T = none := fun T hT => I1.hok.fresh (far T hT)
  have hzl : ts'.length = (xs1.zip xs2).length := by rw [List.length_zip, e1]
  refine ⟨.ref h'.objs.size, _, inv_laidAll (s := s1) (h' := h'') (t' := s1.toks) (H' := upd (layT H1 ts' (xs1.zip xs2)) h'.objs.size (.lst (ts'.map fun T => V.ref T))) I1 (fun b u e => e4 b u (Heap.lt_size e) (hk b u e)) (fun b u e => ?_) (fun b u e n => ?_), rfl, q ts' _ e1 e3.nd nL fre⟩
  · have nb : ¬ b ∈ (h'.objs.size :: ts') := fun z => by
      rw [fre b z] at e
      cases e
    rw [upd_ne (fun z => nb (by rw [z]; exact List.mem_cons_self)), layT_other (fun z => nb (List.mem_cons_of_mem _ z))]
    exact e
  · by_cases z : b = h'.objs.size
    · subst z
      rw [upd_same] at e
      cases e
      refine ⟨by omega, by rw [List.length_map, e1]; exact hsz, ts'.map fun T => Value.ref T, c', vals_refs ts', ?_⟩
      rw [← e3.acc]
      exact e2
    · rw [upd_ne z] at e
      by_cases zm : b ∈ ts'
      · obtain ⟨j, pr, g1, g2, g3⟩ := layT_mem (H := H1) hzl e3.nd zm
        rw [g3] at e
        cases e
        obtain ⟨x1, x2, y1, y2, hT⟩ := e3.at_ j b g1
        obtain ⟨z1, z2⟩ := List.getElem?_zip_eq_some.mp g2
        obtain ⟨w1, hw1, rw1⟩ := rv1.get z1
        obtain ⟨w2, hw2, rw2⟩ := rv2.get z2
        have ew1 : w1 = x1 := by
          rw [List.getElem?_toArray, hw1] at y1
          exact Option.some.inj y1
        have ew2 : w2 = x2 := by
          rw [List.getElem?_toArray, hw2] at y2
          exact Option.some.inj y2
        subst ew1 ew2
        exact ⟨far b (List.mem_cons_of_mem _ zm), by show 2 ≤ sizeLine; decide, [w1, w2], .cons rw1 (.cons rw2 .nil), ⟨_, hT, rfl, _, rfl⟩⟩
      · rw [layT_other zm, n] at e
        cases e
/-! ### over data -/
open DL DQ DX
section
variable {X : Cx} {W : WX}
def dLZip (m : Nat) (da : DA) : DE := fun ga mu P F => da ga mu P fun ds mu1 => match ds with
  | [x, y] => ∃ l k, pv_ mu1 x = some l ∧ pv_ mu1 y = some k ∧ (l.all npD = true ∧ k.all npD = true) ∧ l.length ≤ 16777216 ∧ retN m (zipD2 l k) mu1 F
  | _ => False
theorem lay_all {K : PySem.W.Frag} {hd al : List Addr} {mu : Sto} : ∀ (l k : List D) (xs ys : List V) (ts : List Nat) (H : Hp), Okay K hd H mu al → RepL K (al ++ hd) H [] l xs → RepL K (al ++ hd) H [] k ys → ts.length = min xs.length ys.length → ts.Nodup → (∀ T, T ∈ ts → H T = none) →
    Okay K hd (layT H ts (xs.zip ys)) mu al ∧ Go hd H al (layT H ts (xs.zip ys)) al ∧ RepL K (al ++ hd) (layT H ts (xs.zip ys)) [] (zipD2 l k) (ts.map fun T => V.ref T)
  | [], _, _, _, ts, H, o, .nil, r2, hl, _, _ => by
    have : ts = [] := by
      rw [List.length_nil, Nat.zero_min] at hl
      exact List.length_eq_zero_iff.mp hl
    subst this
    exact ⟨o, Go.refl _ _, .nil⟩
  | _ :: _, [], _, _, ts, H, o, _, .nil, hl, _, _ => by
    have : ts = [] := by
      rw [List.length_nil, Nat.min_zero] at hl
      exact List.length_eq_zero_iff.mp hl
    subst this
    exact ⟨o, Go.refl _ _, .nil⟩
  | d :: l, e :: k, x :: xs, y :: ys, ts, H, o, .cons q1 r1, .cons q2 r2, hl, hn, hf => by
    cases ts with
    | nil => simp at hl
    | cons t ts =>
      have ht := hf t List.mem_cons_self
      obtain ⟨n1, n2⟩ := List.nodup_cons.mp hn
      have gl := Go.lay (hd := hd) (al := al) (u := .tup [x, y]) o ht
      have o1 := o.lay (u := .tup [x, y]) ht
      have rt : Rep K (al ++ hd) (upd H t (.tup [x, y])) [] (.tup [d, e]) (.ref t) := .tup ⟨o.new ht, upd_same⟩ (.cons (q1.go gl (Pre.refl _)) (.cons (q2.go gl (Pre.refl _)) .nil))
      obtain ⟨a1, a2, a3⟩ := lay_all l k xs ys ts (upd H t (.tup [x, y])) o1 (r1.go gl (Pre.refl _)) (r2.go gl (Pre.refl _)) (by simpa using hl) n2 (fun T hT => by
        rw [upd_ne (fun z => n1 (by rw [← z]; exact hT))]
        exact hf T (List.mem_cons_of_mem _ hT))
      exact ⟨a1, gl.trans a2, .cons (rt.go a2 (Pre.refl _)) a3⟩
theorem npL_all : ∀ {l : List D}, l.all npD = true → npL l
  | [], _ => trivial
  | d :: l, h => by
    rw [List.all_cons, Bool.and_eq_true] at h
    exact ⟨np_of h.1, npL_all h.2⟩
theorem d_lzip (m : Nat) {a1 a2 : Expr} {da : DA} {p p2 pos pos2 : Pos} (hc : X.calm = true) (hmL : X.mg "list" = none) (hm : X.mg "zip" = none) (ha : PA X [a1, a2] (liftA X.K W da)) (hgL : Gl X "list" := by rfl) (hg : Gl X "zip" := by rfl)
    (hs : starEach [a1, a2] X.env = (false, eval a1 X.env) :: starEach [a2] X.env := by rfl) (hpl : (backTo pos2 (starEach [a2] X.env)).any (·.1) = false := by rfl)
    (na : starEach [.Call (.Name "zip" p2) [a1, a2] [] pos2] X.env = (false, eval (.Call (.Name "zip" p2) [a1, a2] [] pos2) X.env) :: starEach [] X.env := by rfl) :
    PE X (.Call (.Name "list" p) [.Call (.Name "zip" p2) [a1, a2] [] pos2] [] pos) (liftE X.K W (dLZip m da)) :=
  pe_wk (pe_lzip hc hgL hmL hg hm ha hs hpl na) fun sg H Q ⟨ga, mu, al, hd, P, F, a, h, kv, kx⟩ => by
    refine ⟨ga, mu, al, hd, P, _, a, h, ⟨fun ds mu1 vs H1 al1 h1 o1 g1 r1 => ?_⟩, kx⟩
    split at h1
    · obtain ⟨l, k, hl, hk, ⟨nl, nk⟩, hlen, hF⟩ := h1
      obtain ⟨v, ys, rfl, r2, r3⟩ := r1.cons_
      obtain ⟨v2, ys2, rfl, r4, r5⟩ := r3.cons_
      cases r5.nil_
      obtain ⟨q, xs, rfl, _, _⟩ := r2.pv_ o1 hl
      obtain ⟨q2, xs2, rfl, _, _⟩ := r4.pv_ o1 hk
      obtain ⟨us, s1, u1⟩ := sq_of (hd0 := hd) (H0 := H1) (al0 := al1) r2 (Fz.refl _ _) (Pre.refl _) o1 hl
      obtain ⟨us2, s2, u2⟩ := sq_of (hd0 := hd) (H0 := H1) (al0 := al1) r4 (Fz.refl _ _) (Pre.refl _) o1 hk
      refine ⟨_, _, q, q2, us, us2, rfl, s1, s2, ?_, fun ts L e1 e2 e3 e4 => ?_⟩
      · rw [sizeLine_eq, ← u1.len]
        exact Nat.le_trans (Nat.min_le_left _ _) hlen
      · obtain ⟨a1, a2, a3⟩ := lay_all l k us us2 ts H1 o1 (u1.np (npL_all nl)) (u2.np (npL_all nk)) e1 e2 (fun T hT => e4 T (List.mem_cons_of_mem _ hT))
        refine ((kv.to g1).to a2).listN a1 ?_ a3 hF
        rw [layT_other e3]
        exact e4 L List.mem_cons_self
    · exact h1.elim
end
end DZ

/-! part DZ11 -/
/-! DZ11: enumerate(zip(a, b)); < of data. -/
namespace DZ
open PySem PySem.F PySem.Spec PyProof.Rows L2
section
variable {prog : Program} {w : World} {A : Around} {E : Value → Shared → Prop} {s : Shared}
theorem loadIfAlive_none {a : Addr} {Q : Option Obj → Shared → Prop} (h : s.heap.get? a = none) (q : Q none s) : wpAny (model prog w) A (loadIfAlive a) Q E s := fun Γ p hΓ => by
  show Sem.wp _ Γ (Sem.loadIfAlive a Sem.pure) _ _ p s
  rw [Sem.wp_loadIfAlive, h]
  exact wpAny_pure (Q := Q) (E := E) (A := A) q Γ p hΓ
theorem zd_item {I T : Nat} {f1 : Value} {l1 l2 : Nat} {b1 b2 : Bool} {k : Nat} {xs1 xs2 : Array Value} {y1 y2 : Value} {x1 x2 : Value} {Q : Value → Shared → Prop} (L1 : l1 < I) (L2 : l2 < I)
    (hz : IsZipF s.heap (I + 4) (I + 2) (I + 3) (rawInt T) f1) (hT : s.heap.get? T = none) (hTI : TupA s.heap (I + 2) #[.ref I, .ref (I + 1)]) (hTO : TupA s.heap (I + 3) #[y1, y2]) (it1 : AIt s.heap b1 I l1 k) (it2 : AIt s.heap b2 (I + 1) l2 k) (sq1 : ASq s.heap b1 l1 xs1) (sq2 : ASq s.heap b2 l2 xs2) (e1 : xs1[k]? = some x1) (e2 : xs2[k]? = some x2)
    (hQ : ∀ h', IsZip h' (I + 4) (I + 2) (I + 3) (rawInt s.heap.objs.size) → TupA h' (I + 3) #[x1, x2] → AIt h' b1 I l1 (k + 1) → AIt h' b2 (I + 1) l2 (k + 1) → TupA h' s.heap.objs.size #[x1, x2] → h'.objs.size = s.heap.objs.size + 1 → (∀ (c : Nat) o, (c < I ∨ c = I + 2 ∨ I + 4 < c) → s.heap.get? c = some o → h'.get? c = some o) → Q (.ref s.heap.objs.size) { s with heap := h' }) :
    wpAny (model prog w) A (Builtin.«zip.__next__» ⟨[.ref (I + 4)], []⟩) (fun fin s' => ∃ v, fin = .done (.ret v) ∧ Q v s') E s := by
  show wpAny _ _ (field (.ref (I + 4)) 2 >>= _) _ _ _
  refine wpAny_bind (wpAny_field hz rfl (x := .bool false) rfl ?_)
  show wpAny _ _ (field (.ref (I + 4)) 3 >>= _) _ _ _
  refine wpAny_bind (wpAny_field hz rfl (x := .ref (I + 2)) rfl ?_)
  refine wpAny_bind (wpAny_seqItems hTI rfl ?_)
  show wpAny _ _ (Builtin.SmallTypes.ownedTupleIsFree (.ref (I + 4)) >>= _) _ _ _
  refine wpAny_bind ?_
  unfold Builtin.SmallTypes.ownedTupleIsFree
  refine wpAny_bind (wpAny_field hz rfl (x := rawInt T) rfl ?_)
  show wpAny _ _ (loadIfAlive T >>= _) _ _ _
  refine wpAny_bind (loadIfAlive_none hT ?_)
  simp only [Option.isNone_none, if_true]
  refine wpAny_pure ?_
  refine wpAny_bind (wpAny_rule ?_)
  refine wpAny_bind (wpAny_field hz rfl (x := .ref (I + 3)) rfl ?_)
  refine wpAny_bind (wpAny_setField_rec hz (by simp) fun g hz1 hs => ?_)
  have hk : ∀ (c : Nat) o, (c < I ∨ c = I + 2 ∨ I + 4 < c) → s.heap.get? c = some o → g.get? c = some o := fun c o hc e => hs.extBut _ _ (by first | omega | exact ad (by omega)) e
  have hsz : g.objs.size = s.heap.objs.size := hs.1
  replace hz : IsZipF g (I + 4) (I + 2) (I + 3) .ellipsis f1 := hz1
  replace hTO := hs.extBut _ _ (by first | omega | exact ad (by omega)) hTO
  replace it1 := it1.ext hs.extBut (by first | omega | exact ad (by omega))
  replace sq1 := sq1.ext hs.extBut (by first | omega | exact ad (by omega))
  replace it2 := it2.ext hs.extBut (by first | omega | exact ad (by omega))
  replace sq2 := sq2.ext hs.extBut (by first | omega | exact ad (by omega))
  clear hz1 hs
  refine wpAny_bind ?_
  simp only [List.zipIdx_cons, List.zipIdx_nil, List.forIn_cons, List.forIn_nil]
  refine wpAny_bind (wpAny_bind (wpAny_onRaise ?_))
  show wpAny _ _ (Builtin.SmallTypes.nextOf (.ref I) >>= _) _ _ _
  refine wpAny_bind (next_item it1 sq1 e1 fun g1 it1' hs => wpAny_pure ?_)
  clear it1
  have it1 := it1'
  clear it1'
  replace hz := hs.extBut _ _ (by first | omega | exact ad (by omega)) hz
  replace hTO := hs.extBut _ _ (by first | omega | exact ad (by omega)) hTO
  replace sq1 := sq1.ext hs.extBut (by first | omega | exact ad (by omega))
  replace it2 := it2.ext hs.extBut (by first | omega | exact ad (by omega))
  replace sq2 := sq2.ext hs.extBut (by first | omega | exact ad (by omega))
  replace hk : ∀ (c : Nat) o, (c < I ∨ c = I + 2 ∨ I + 4 < c) → s.heap.get? c = some o → g1.get? c = some o := fun c o hc e => hs.extBut _ _ (by first | omega | exact ad (by omega)) (hk c o hc e)
  replace hsz : g1.objs.size = s.heap.objs.size := by rw [hs.1, hsz]
  clear hs
  refine wpAny_bind (wpAny_seqItems hTO rfl ?_)
  refine wpAny_bind (updateSeq_arr (by simp) hTO fun g2 hTO1 hs => ?_)
  replace hTO : TupA g2 (I + 3) #[x1, y2] := hTO1
  clear hTO1
  replace hz := hs.extBut _ _ (by first | omega | exact ad (by omega)) hz
  replace it1 := it1.ext hs.extBut (by first | omega | exact ad (by omega))
  replace sq1 := sq1.ext hs.extBut (by first | omega | exact ad (by omega))
  replace it2 := it2.ext hs.extBut (by first | omega | exact ad (by omega))
  replace sq2 := sq2.ext hs.extBut (by first | omega | exact ad (by omega))
  replace hk : ∀ (c : Nat) o, (c < I ∨ c = I + 2 ∨ I + 4 < c) → s.heap.get? c = some o → g2.get? c = some o := fun c o hc e => hs.extBut _ _ (by first | omega | exact ad (by omega)) (hk c o hc e)
  replace hsz : g2.objs.size = s.heap.objs.size := by rw [hs.1, hsz]
  clear hs
  refine wpAny_bind (wpAny_letGo (wpAny_pure ?_))
  refine wpAny_bind (wpAny_bind (wpAny_onRaise ?_))
  show wpAny _ _ (Builtin.SmallTypes.nextOf (.ref (I + 1)) >>= _) _ _ _
  refine wpAny_bind (next_item it2 sq2 e2 fun g1 it2' hs => wpAny_pure ?_)
  clear it2
  have it2 := it2'
  clear it2'
  replace hz := hs.extBut _ _ (by first | omega | exact ad (by omega)) hz
  replace hTO := hs.extBut _ _ (by first | omega | exact ad (by omega)) hTO
  replace it1 := it1.ext hs.extBut (by first | omega | exact ad (by omega))
  replace sq1 := sq1.ext hs.extBut (by first | omega | exact ad (by omega))
  replace sq2 := sq2.ext hs.extBut (by first | omega | exact ad (by omega))
  replace hk : ∀ (c : Nat) o, (c < I ∨ c = I + 2 ∨ I + 4 < c) → s.heap.get? c = some o → g1.get? c = some o := fun c o hc e => hs.extBut _ _ (by first | omega | exact ad (by omega)) (hk c o hc e)
  replace hsz : g1.objs.size = s.heap.objs.size := by rw [hs.1, hsz]
  clear hs
  refine wpAny_bind (wpAny_seqItems hTO rfl ?_)
  refine wpAny_bind (updateSeq_arr (by simp) hTO fun g2 hTO1 hs => ?_)
  replace hTO : TupA g2 (I + 3) #[x1, x2] := hTO1
  clear hTO1
  replace hz := hs.extBut _ _ (by first | omega | exact ad (by omega)) hz
  replace it1 := it1.ext hs.extBut (by first | omega | exact ad (by omega))
  replace sq1 := sq1.ext hs.extBut (by first | omega | exact ad (by omega))
  replace it2 := it2.ext hs.extBut (by first | omega | exact ad (by omega))
  replace sq2 := sq2.ext hs.extBut (by first | omega | exact ad (by omega))
  replace hk : ∀ (c : Nat) o, (c < I ∨ c = I + 2 ∨ I + 4 < c) → s.heap.get? c = some o → g2.get? c = some o := fun c o hc e => hs.extBut _ _ (by first | omega | exact ad (by omega)) (hk c o hc e)
  replace hsz : g2.objs.size = s.heap.objs.size := by rw [hs.1, hsz]
  clear hs
  refine wpAny_bind (wpAny_letGo (wpAny_pure (wpAny_pure ?_)))
  refine wpAny_bind (wpAny_seqItems hTO rfl ?_)
  refine wpAny_bind (wpAny_newTuple ?_)
  have hzlt : (I + 4) < g2.objs.size := Heap.lt_size hz
  have hTOlt : (I + 3) < g2.objs.size := Heap.lt_size hTO
  show wpAny _ _ (Builtin.SmallTypes.ownedTupleHandOut (.ref (I + 4)) (.ref g2.objs.size) >>= _) _ _ _
  refine wpAny_bind ?_
  unfold Builtin.SmallTypes.ownedTupleHandOut
  have hz₆ : IsZipF (g2.push { cls := .type "tuple", data := .seq #[x1, x2] }) (I + 4) (I + 2) (I + 3) .ellipsis f1 := Heap.get?_push_of_some _ hz
  refine wpAny_bind (wpAny_setField_rec hz₆ (by simp) fun h₇ hz₇ hs₇ => ?_)
  replace hz₇ : IsZipF h₇ (I + 4) (I + 2) (I + 3) (rawInt g2.objs.size) f1 := hz₇
  refine wpAny_setField_rec hz₇ (by simp) fun h₈ hz₈ hs₈ => ?_
  replace hz₈ : IsZip h₈ (I + 4) (I + 2) (I + 3) (rawInt g2.objs.size) := hz₈
  have up : ∀ (c : Nat) o, c ≠ (I + 4) → g2.get? c = some o → h₈.get? c = some o := fun c o c1 e => hs₈.extBut _ _ c1 (hs₇.extBut _ _ c1 (Heap.get?_push_of_some _ e))
  have hT₈ : TupA h₈ g2.objs.size #[x1, x2] := hs₈.extBut _ _ (Nat.ne_of_gt hzlt) (hs₇.extBut _ _ (Nat.ne_of_gt hzlt) (Heap.get?_push_size _ rfl))
  have hz8 : h₈.objs.size = g2.objs.size + 1 := by rw [hs₈.1, hs₇.1, Heap.size_push]
  rw [hsz] at hz₈ hT₈ hz8
  refine wpAny_pure ⟨_, rfl, ?_⟩
  show Q (.ref g2.objs.size) _
  rw [hsz]
  exact hQ h₈ hz₈ (up _ _ (by first | omega | exact ad (by omega)) hTO) (it1.at fun o e => up _ o (by first | omega | exact ad (by omega)) e) (it2.at fun o e => up _ o (by first | omega | exact ad (by omega)) e) hT₈ hz8 fun c o hc e => up c o (by first | omega | exact ad (by omega)) (hk c o hc e)
theorem zd_end {I T : Nat} {f1 : Value} {l1 l2 : Nat} {b1 b2 : Bool} {k : Nat} {xs1 xs2 : Array Value} {y1 y2 : Value} {Q : Fin → Shared → Prop} (hh : A.handled = none) (L1 : l1 < I) (L2 : l2 < I)
    (hz : IsZipF s.heap (I + 4) (I + 2) (I + 3) (rawInt T) f1) (hT : s.heap.get? T = none) (hTI : TupA s.heap (I + 2) #[.ref I, .ref (I + 1)]) (hTO : TupA s.heap (I + 3) #[y1, y2]) (it1 : AIt s.heap b1 I l1 k) (it2 : AIt s.heap b2 (I + 1) l2 k) (sq1 : ASq s.heap b1 l1 xs1) (sq2 : ASq s.heap b2 l2 xs2) (hend : xs1[k]? = none ∨ xs2[k]? = none)
    (hE : ∀ h' e, (∀ (c : Nat) o, (c < I ∨ c = I + 2 ∨ I + 4 < c) → s.heap.get? c = some o → h'.get? c = some o) → (∃ o, h'.get? e = some o ∧ o.cls = .type "StopIteration") → E (.ref e) { s with heap := h' }) :
    wpAny (model prog w) A (Builtin.«zip.__next__» ⟨[.ref (I + 4)], []⟩) Q E s := by
  show wpAny _ _ (field (.ref (I + 4)) 2 >>= _) _ _ _
  refine wpAny_bind (wpAny_field hz rfl (x := .bool false) rfl ?_)
  show wpAny _ _ (field (.ref (I + 4)) 3 >>= _) _ _ _
  refine wpAny_bind (wpAny_field hz rfl (x := .ref (I + 2)) rfl ?_)
  refine wpAny_bind (wpAny_seqItems hTI rfl ?_)
  show wpAny _ _ (Builtin.SmallTypes.ownedTupleIsFree (.ref (I + 4)) >>= _) _ _ _
  refine wpAny_bind ?_
  unfold Builtin.SmallTypes.ownedTupleIsFree
  refine wpAny_bind (wpAny_field hz rfl (x := rawInt T) rfl ?_)
  show wpAny _ _ (loadIfAlive T >>= _) _ _ _
  refine wpAny_bind (loadIfAlive_none hT ?_)
  simp only [Option.isNone_none, if_true]
  refine wpAny_pure ?_
  refine wpAny_bind (wpAny_rule ?_)
  refine wpAny_bind (wpAny_field hz rfl (x := .ref (I + 3)) rfl ?_)
  refine wpAny_bind (wpAny_setField_rec hz (by simp) fun g hz1 hs => ?_)
  have hk : ∀ (c : Nat) o, (c < I ∨ c = I + 2 ∨ I + 4 < c) → s.heap.get? c = some o → g.get? c = some o := fun c o hc e => hs.extBut _ _ (by first | omega | exact ad (by omega)) e
  have hsz : g.objs.size = s.heap.objs.size := hs.1
  replace hz : IsZipF g (I + 4) (I + 2) (I + 3) .ellipsis f1 := hz1
  replace hTO := hs.extBut _ _ (by first | omega | exact ad (by omega)) hTO
  replace it1 := it1.ext hs.extBut (by first | omega | exact ad (by omega))
  replace sq1 := sq1.ext hs.extBut (by first | omega | exact ad (by omega))
  replace it2 := it2.ext hs.extBut (by first | omega | exact ad (by omega))
  replace sq2 := sq2.ext hs.extBut (by first | omega | exact ad (by omega))
  clear hz1 hs
  refine wpAny_bind ?_
  simp only [List.zipIdx_cons, List.zipIdx_nil, List.forIn_cons, List.forIn_nil]
  refine wpAny_bind (wpAny_bind (wpAny_onRaise ?_))
  show wpAny _ _ (Builtin.SmallTypes.nextOf (.ref I) >>= _) _ _ _
  cases e1 : xs1[k]? with
  | none =>
    refine wpAny_bind (next_end hh it1 sq1 e1 fun g3 e hs he => ?_)
    obtain ⟨oe, hoe, hce⟩ := he
    replace hz : IsZipF g3 (I + 4) (I + 2) (I + 3) .ellipsis f1 := hs _ _ (by first | omega | exact ad (by omega)) hz
    have hez : e ≠ (I + 4) := fun x => by subst x; rw [hz] at hoe; cases hoe; simp at hce
    refine wpAny_setField_rec hz (by simp) fun g4 _ hs4 => hE g4 e (fun c o hc x => hs4.extBut _ _ (by first | omega | exact ad (by omega)) (hs _ _ (by first | omega | exact ad (by omega)) (hk c o hc x))) ⟨oe, hs4.extBut _ _ hez hoe, hce⟩
  | some x1 =>
    refine wpAny_bind (next_item it1 sq1 e1 fun g1 it1' hs => wpAny_pure ?_)
    clear it1
    have it1 := it1'
    clear it1'
    replace hz := hs.extBut _ _ (by first | omega | exact ad (by omega)) hz
    replace hTO := hs.extBut _ _ (by first | omega | exact ad (by omega)) hTO
    replace sq1 := sq1.ext hs.extBut (by first | omega | exact ad (by omega))
    replace it2 := it2.ext hs.extBut (by first | omega | exact ad (by omega))
    replace sq2 := sq2.ext hs.extBut (by first | omega | exact ad (by omega))
    replace hk : ∀ (c : Nat) o, (c < I ∨ c = I + 2 ∨ I + 4 < c) → s.heap.get? c = some o → g1.get? c = some o := fun c o hc e => hs.extBut _ _ (by first | omega | exact ad (by omega)) (hk c o hc e)
    replace hsz : g1.objs.size = s.heap.objs.size := by rw [hs.1, hsz]
    clear hs
    refine wpAny_bind (wpAny_seqItems hTO rfl ?_)
    refine wpAny_bind (updateSeq_arr (by simp) hTO fun g2 hTO1 hs => ?_)
    replace hTO : TupA g2 (I + 3) #[x1, y2] := hTO1
    clear hTO1
    replace hz := hs.extBut _ _ (by first | omega | exact ad (by omega)) hz
    replace it1 := it1.ext hs.extBut (by first | omega | exact ad (by omega))
    replace sq1 := sq1.ext hs.extBut (by first | omega | exact ad (by omega))
    replace it2 := it2.ext hs.extBut (by first | omega | exact ad (by omega))
    replace sq2 := sq2.ext hs.extBut (by first | omega | exact ad (by omega))
    replace hk : ∀ (c : Nat) o, (c < I ∨ c = I + 2 ∨ I + 4 < c) → s.heap.get? c = some o → g2.get? c = some o := fun c o hc e => hs.extBut _ _ (by first | omega | exact ad (by omega)) (hk c o hc e)
    replace hsz : g2.objs.size = s.heap.objs.size := by rw [hs.1, hsz]
    clear hs
    refine wpAny_bind (wpAny_letGo (wpAny_pure ?_))
    refine wpAny_bind (wpAny_bind (wpAny_onRaise ?_))
    show wpAny _ _ (Builtin.SmallTypes.nextOf (.ref (I + 1)) >>= _) _ _ _
    have e2 : xs2[k]? = none := by
      rcases hend with q | q
      · rw [e1] at q; cases q
      · exact q
    refine wpAny_bind (next_end hh it2 sq2 e2 fun g3 e hs he => ?_)
    obtain ⟨oe, hoe, hce⟩ := he
    replace hz : IsZipF g3 (I + 4) (I + 2) (I + 3) .ellipsis f1 := hs _ _ (by first | omega | exact ad (by omega)) hz
    have hez : e ≠ (I + 4) := fun x => by subst x; rw [hz] at hoe; cases hoe; simp at hce
    refine wpAny_setField_rec hz (by simp) fun g4 _ hs4 => hE g4 e (fun c o hc x => hs4.extBut _ _ (by first | omega | exact ad (by omega)) (hs _ _ (by first | omega | exact ad (by omega)) (hk c o hc x))) ⟨oe, hs4.extBut _ _ hez hoe, hce⟩
/-- a zip object at I + 4 that has given k pairs; the last one is let go, held or gone -/
structure ZS2 (h : Heap) (I : Nat) (b1 b2 : Bool) (l1 l2 : Nat) (k : Nat) : Prop where
  z : IsZipF h (I + 4) (I + 2) (I + 3) .none (.bool false) ∨ ∃ (T : Nat) (f1 : Value), IsZipF h (I + 4) (I + 2) (I + 3) (rawInt T) f1 ∧ I + 4 < T
  ti : TupA h (I + 2) #[.ref I, .ref (I + 1)]
  to_ : ∃ y1 y2, TupA h (I + 3) #[y1, y2]
  i1 : AIt h b1 I l1 k
  i2 : AIt h b2 (I + 1) l2 k
theorem ZS2.of {h : Heap} {I : Nat} {b1 b2 : Bool} {l1 l2 k : Nat} (x : ZSt h I b1 b2 l1 l2 k) : ZS2 h I b1 b2 l1 l2 k :=
  ⟨x.z.imp id fun ⟨T, f1, z, hT, _⟩ => ⟨T, f1, z, hT⟩, x.ti, x.to_, x.i1, x.i2⟩
theorem ZS2.at {h h' : Heap} {I : Nat} {b1 b2 : Bool} {l1 l2 k : Nat} (x : ZS2 h I b1 b2 l1 l2 k) (e : ∀ (c : Nat) o, I ≤ c → c ≤ I + 4 → h.get? c = some o → h'.get? c = some o) : ZS2 h' I b1 b2 l1 l2 k := by
  refine ⟨?_, e _ _ (by omega) (by omega) x.ti, ?_, x.i1.at fun o q => e _ o (Nat.le_refl _) (by omega) q, x.i2.at fun o q => e _ o (by omega) (by omega) q⟩
  · rcases x.z with z | ⟨T, f1, z, hT⟩
    · exact .inl (e _ _ (by omega) (by omega) z)
    · exact .inr ⟨T, f1, e _ _ (by omega) (by omega) z, hT⟩
  · obtain ⟨y1, y2, z⟩ := x.to_
    exact ⟨y1, y2, e _ _ (by omega) (by omega) z⟩
theorem ZS2.zl {h : Heap} {I : Nat} {b1 b2 : Bool} {l1 l2 k : Nat} (x : ZS2 h I b1 b2 l1 l2 k) : ∃ o, h.get? (I + 4) = some o ∧ (∀ v, o.data ≠ .seq v 0 ∨ True) := by
  rcases x.z with z | ⟨T, f1, z, hT⟩
  · exact ⟨_, z, fun _ => .inr trivial⟩
  · exact ⟨_, z, fun _ => .inr trivial⟩
/-- the next pair, as enumerate asks for it -/
theorem nz_item {I : Nat} {l1 l2 : Nat} {b1 b2 : Bool} {k : Nat} {xs1 xs2 : Array Value} {x1 x2 : Value} {Q : Value → Shared → Prop} (L1 : l1 < I) (L2 : l2 < I)
    (hz : ZS2 s.heap I b1 b2 l1 l2 k) (sq1 : ASq s.heap b1 l1 xs1) (sq2 : ASq s.heap b2 l2 xs2) (e1 : xs1[k]? = some x1) (e2 : xs2[k]? = some x2)
    (hQ : ∀ h', ZS2 h' I b1 b2 l1 l2 (k + 1) → TupA h' s.heap.objs.size #[x1, x2] → h'.objs.size = s.heap.objs.size + 1 → (∀ (c : Nat) o, (c < I ∨ I + 4 < c) → s.heap.get? c = some o → h'.get? c = some o) → Q (.ref s.heap.objs.size) { s with heap := h' }) :
    wpAny (model prog w) A (Builtin.SmallTypes.nextOf (.ref (I + 4))) Q E s := by
  unfold Builtin.SmallTypes.nextOf
  rcases hz.z with z | ⟨T, f1, z, hT⟩
  · obtain ⟨y1, y2, hTO⟩ := hz.to_
    have hlt : I + 4 < s.heap.objs.size := Heap.lt_size z
    have hT0 : s.TypeIs (.ref (I + 4)) "zip" := ⟨_, z, rfl⟩
    refine wpAny_bind (wpAny_callSpecial?_slot (name := Str.ofString "__next__") hT0 F.slot_zip_next
      (wpAny_call_entry F.slot_zip_next hT0 F.entry_zip_next
        (zn2_item L1 L2 z hz.ti hTO hz.i1 hz.i2 sq1 sq2 e1 e2 fun h' a0 a1 a2 a3 a4 a5 a6 => wpAny_pure (hQ h' ⟨.inr ⟨_, _, a0, hlt⟩, a6 _ _ (.inr (.inl rfl)) hz.ti, ⟨_, _, a1⟩, a2, a3⟩ a4 a5 fun c o hc => a6 c o (by omega))) (F.args_zip_next_1 _)))
  · have hT0 : s.TypeIs (.ref (I + 4)) "zip" := ⟨_, z, rfl⟩
    cases ho : s.heap.get? T with
    | some o =>
      exact wpAny_bind (wpAny_callSpecial?_slot (name := Str.ofString "__next__") hT0 F.slot_zip_next
        (wpAny_call_entry F.slot_zip_next hT0 F.entry_zip_next
          (znh_item L1 L2 hT z ho hz.ti hz.to_ hz.i1 hz.i2 sq1 sq2 e1 e2 fun h' a0 a1 a2 a3 => wpAny_pure (hQ h' (ZS2.of a0) a1 a2 a3)) (F.args_zip_next_1 _)))
    | none =>
      obtain ⟨y1, y2, hTO⟩ := hz.to_
      have hlt : I + 4 < s.heap.objs.size := Heap.lt_size z
      exact wpAny_bind (wpAny_callSpecial?_slot (name := Str.ofString "__next__") hT0 F.slot_zip_next
        (wpAny_call_entry F.slot_zip_next hT0 F.entry_zip_next
          (zd_item L1 L2 z ho hz.ti hTO hz.i1 hz.i2 sq1 sq2 e1 e2 fun h' a0 a1 a2 a3 a4 a5 a6 => wpAny_pure (hQ h' ⟨.inr ⟨_, _, a0, hlt⟩, a6 _ _ (.inr (.inl rfl)) hz.ti, ⟨_, _, a1⟩, a2, a3⟩ a4 a5 fun c o hc => a6 c o (by omega))) (F.args_zip_next_1 _)))
theorem nz_end {I : Nat} {l1 l2 : Nat} {b1 b2 : Bool} {k : Nat} {xs1 xs2 : Array Value} {Q : Value → Shared → Prop} (hh : A.handled = none) (L1 : l1 < I) (L2 : l2 < I)
    (hz : ZS2 s.heap I b1 b2 l1 l2 k) (sq1 : ASq s.heap b1 l1 xs1) (sq2 : ASq s.heap b2 l2 xs2) (hend : xs1[k]? = none ∨ xs2[k]? = none)
    (hE : ∀ h' e, (∀ (c : Nat) o, (c < I ∨ I + 4 < c) → s.heap.get? c = some o → h'.get? c = some o) → (∃ o, h'.get? e = some o ∧ o.cls = .type "StopIteration") → E (.ref e) { s with heap := h' }) :
    wpAny (model prog w) A (Builtin.SmallTypes.nextOf (.ref (I + 4))) Q E s := by
  unfold Builtin.SmallTypes.nextOf
  rcases hz.z with z | ⟨T, f1, z, hT⟩
  · obtain ⟨y1, y2, hTO⟩ := hz.to_
    have hT0 : s.TypeIs (.ref (I + 4)) "zip" := ⟨_, z, rfl⟩
    exact wpAny_bind (wpAny_callSpecial?_slot (name := Str.ofString "__next__") hT0 F.slot_zip_next
      (wpAny_call_entry F.slot_zip_next hT0 F.entry_zip_next (zn2_end hh L1 L2 z hz.ti hTO hz.i1 hz.i2 sq1 sq2 hend fun h' e hk he => hE h' e (fun c o hc => hk c o (by omega)) he) (F.args_zip_next_1 _)))
  · have hT0 : s.TypeIs (.ref (I + 4)) "zip" := ⟨_, z, rfl⟩
    cases ho : s.heap.get? T with
    | some o =>
      exact wpAny_bind (wpAny_callSpecial?_slot (name := Str.ofString "__next__") hT0 F.slot_zip_next
        (wpAny_call_entry F.slot_zip_next hT0 F.entry_zip_next (znh_end hh L1 L2 z ho hz.ti hz.i1 hz.i2 sq1 sq2 hend fun h' e hk he => hE h' e (fun c o hc => hk c o (by omega)) he) (F.args_zip_next_1 _)))
    | none =>
      obtain ⟨y1, y2, hTO⟩ := hz.to_
      exact wpAny_bind (wpAny_callSpecial?_slot (name := Str.ofString "__next__") hT0 F.slot_zip_next
        (wpAny_call_entry F.slot_zip_next hT0 F.entry_zip_next (zd_end hh L1 L2 z ho hz.ti hTO hz.i1 hz.i2 sq1 sq2 hend fun h' e hk he => hE h' e (fun c o hc => hk c o (by omega)) he) (F.args_zip_next_1 _)))
/-- enumerate's next over a zip -/
theorem ez_item {I i : Nat} {l1 l2 : Nat} {b1 b2 : Bool} {xs1 xs2 : Array Value} {x1 x2 old : Value} {Q : Value → Shared → Prop} (L1 : l1 < I) (L2 : l2 < I) (he : IsEnum s.heap (I + 5) (I + 4) ((i : Nat) : Int) old)
    (hz : ZS2 s.heap I b1 b2 l1 l2 i) (sq1 : ASq s.heap b1 l1 xs1) (sq2 : ASq s.heap b2 l2 xs2) (e1 : xs1[i]? = some x1) (e2 : xs2[i]? = some x2)
    (hQ : ∀ h1 h' tk, ZS2 h1 I b1 b2 l1 l2 (i + 1) → TupA h1 s.heap.objs.size #[x1, x2] → h1.objs.size = s.heap.objs.size + 1 → (∀ (c : Nat) o, (c < I ∨ I + 4 < c) → s.heap.get? c = some o → h1.get? c = some o) →
      IsEnumOut h' (I + 5) (I + 4) ((i : Int) + 1) (.ref s.heap.objs.size) h1.objs.size → TupA h' h1.objs.size #[.int i tk, .ref s.heap.objs.size] → (∀ (c : Nat) o, c ≠ I + 5 → h1.get? c = some o → h'.get? c = some o) → Q (.ref h1.objs.size) { s with heap := h', toks := tk + 1 }) :
    wpAny (model prog w) A (Builtin.«enumerate.__next__» ⟨[.ref (I + 5)], []⟩) (fun fin s' => ∃ v, fin = .done (.ret v) ∧ Q v s') E s := by
  obtain ⟨hp, g, d, tk, os⟩ := s
  show wpAny _ _ (field (.ref (I + 5)) 2 >>= _) _ _ _
  refine wpAny_bind (wpAny_field he rfl (x := .ref (I + 4)) rfl ?_)
  refine wpAny_bind (nz_item L1 L2 hz sq1 sq2 e1 e2 fun h1 z1 hT1 hs1 hk1 => ?_)
  have he1 : IsEnum h1 (I + 5) (I + 4) ((i : Nat) : Int) old := hk1 _ _ (.inr (by omega)) he
  show wpAny _ _ (field (.ref (I + 5)) 3 >>= _) _ _ ⟨h1, g, d, tk, os⟩
  refine wpAny_bind (wpAny_field he1 rfl (x := rawInt i) rfl ?_)
  show wpAny _ _ (field (.ref (I + 5)) 4 >>= _) _ _ ⟨h1, g, d, tk, os⟩
  refine wpAny_bind (wpAny_field he1 rfl (x := .none) rfl ?_)
  show wpAny _ _ (mkInt i >>= _) _ _ ⟨h1, g, d, tk, os⟩
  refine wpAny_bind (wpAny_mkInt ?_)
  show wpAny _ _ (setField (.ref (I + 5)) 3 (rawInt ((i : Int) + 1)) >>= _) _ _ ⟨h1, g, d, tk + 1, os⟩
  refine wpAny_bind (wpAny_setField_rec he1 (by simp) fun h2 he2 s2 => ?_)
  replace s2 : Heap.SameBut (I + 5) h1 h2 := s2
  replace he2 : IsEnum h2 (I + 5) (I + 4) ((i : Int) + 1) old := he2
  show wpAny _ _ (setField (.ref (I + 5)) 4 .none >>= _) _ _ ⟨h2, g, d, tk + 1, os⟩
  refine wpAny_bind (wpAny_setField_rec he2 (by simp) fun h3 he3 s3 => ?_)
  replace s3 : Heap.SameBut (I + 5) h2 h3 := s3
  replace he3 : IsEnum h3 (I + 5) (I + 4) ((i : Int) + 1) old := he3
  show wpAny _ _ (newTuple [.int i tk, .ref hp.objs.size] >>= _) _ _ ⟨h3, g, d, tk + 1, os⟩
  refine wpAny_bind (wpAny_newTuple ?_)
  have sz3 : h3.objs.size = h1.objs.size := by rw [s3.1, s2.1]
  have el : I + 5 < h1.objs.size := Heap.lt_size he1
  have he4 : IsEnum (h3.push { cls := .type "tuple", data := .seq #[.int i tk, .ref hp.objs.size] }) (I + 5) (I + 4) ((i : Int) + 1) old := Heap.get?_push_of_some _ he3
  have t4 : TupA (h3.push { cls := .type "tuple", data := .seq #[.int i tk, .ref hp.objs.size] }) h1.objs.size #[.int i tk, .ref hp.objs.size] := by rw [← sz3]; exact Heap.get?_push_size _ rfl
  have k4 : ∀ (c : Nat) o, c ≠ I + 5 → h1.get? c = some o → (h3.push { cls := .type "tuple", data := .seq #[.int i tk, .ref hp.objs.size] }).get? c = some o := fun c o hc e => Heap.get?_push_of_some _ (s3.extBut c o hc (s2.extBut c o hc e))
  rw [sz3]
  generalize h3.push { cls := .type "tuple", data := .seq #[.int i tk, .ref hp.objs.size] } = h4 at he4 t4 k4
  show wpAny _ _ (Builtin.SmallTypes.ownedTupleIsFree (.ref (I + 5)) >>= _) _ _ ⟨h4, g, d, tk + 1, os⟩
  refine wpAny_bind ?_
  unfold Builtin.SmallTypes.ownedTupleIsFree
  refine wpAny_bind (wpAny_field he4 rfl (x := .none) rfl (wpAny_pure ?_))
  simp only [if_true]
  refine wpAny_bind (wpAny_rule ?_)
  refine wpAny_bind (wpAny_field he4 rfl (x := old) rfl ?_)
  refine wpAny_bind (wpAny_setField_rec he4 (by simp) fun h5 he5 s5 => ?_)
  replace s5 : Heap.SameBut (I + 5) h4 h5 := s5
  replace he5 : IsEnum h5 (I + 5) (I + 4) ((i : Int) + 1) (.ref hp.objs.size) := he5
  show wpAny _ _ (Builtin.SmallTypes.ownedTupleHandOut (.ref (I + 5)) (.ref h1.objs.size) >>= _) _ _ ⟨h5, g, d, tk + 1, os⟩
  refine wpAny_bind ?_
  unfold Builtin.SmallTypes.ownedTupleHandOut
  refine wpAny_bind (wpAny_setField_rec he5 (by simp) fun h6 he6 s6 => ?_)
  replace s6 : Heap.SameBut (I + 5) h5 h6 := s6
  replace he6 : IsEnumOut h6 (I + 5) (I + 4) ((i : Int) + 1) (.ref hp.objs.size) h1.objs.size := he6
  refine wpAny_setField_rec he6 (by simp) fun h7 he7 s7 => ?_
  replace s7 : Heap.SameBut (I + 5) h6 h7 := s7
  replace he7 : IsEnumOut h7 (I + 5) (I + 4) ((i : Int) + 1) (.ref hp.objs.size) h1.objs.size := he7
  have k7 : ∀ (c : Nat) o, c ≠ I + 5 → h4.get? c = some o → h7.get? c = some o := fun c o hc e => s7.extBut c o hc (s6.extBut c o hc (s5.extBut c o hc e))
  exact wpAny_bind (wpAny_letGo (wpAny_pure ⟨_, rfl, hQ h1 h7 tk z1 hT1 hs1 hk1 he7 (k7 _ _ (Nat.ne_of_gt el) t4) fun c o hc e => k7 c o hc (k4 c o hc e)⟩))
theorem pez_item {I i : Nat} {l1 l2 : Nat} {b1 b2 : Bool} {xs1 xs2 : Array Value} {x1 x2 old : Value} {Q : Option Value → Shared → Prop} (L1 : l1 < I) (L2 : l2 < I) (he : IsEnum s.heap (I + 5) (I + 4) ((i : Nat) : Int) old)
    (hz : ZS2 s.heap I b1 b2 l1 l2 i) (sq1 : ASq s.heap b1 l1 xs1) (sq2 : ASq s.heap b2 l2 xs2) (e1 : xs1[i]? = some x1) (e2 : xs2[i]? = some x2)
    (hQ : ∀ h1 h' tk, ZS2 h1 I b1 b2 l1 l2 (i + 1) → TupA h1 s.heap.objs.size #[x1, x2] → h1.objs.size = s.heap.objs.size + 1 → (∀ (c : Nat) o, (c < I ∨ I + 4 < c) → s.heap.get? c = some o → h1.get? c = some o) →
      IsEnumOut h' (I + 5) (I + 4) ((i : Int) + 1) (.ref s.heap.objs.size) h1.objs.size → TupA h' h1.objs.size #[.int i tk, .ref s.heap.objs.size] → (∀ (c : Nat) o, c ≠ I + 5 → h1.get? c = some o → h'.get? c = some o) → Q (some (.ref h1.objs.size)) { s with heap := h', toks := tk + 1 }) :
    wpAny (model prog w) A (pyNext (.ref (I + 5))) Q E s := by
  have hT : s.TypeIs (.ref (I + 5)) "enumerate" := ⟨_, he, rfl⟩
  unfold pyNext
  exact wpAny_bind (wpAny_attempt (wpAny_callSpecial?_slot (name := Str.ofString "__next__") hT F.slot_enumerate_next
    (wpAny_call_entry F.slot_enumerate_next hT F.entry_enumerate_next
      (ez_item L1 L2 he hz sq1 sq2 e1 e2 fun h1 h' tk a0 a1 a2 a3 a4 a5 a6 => wpAny_pure (hQ h1 h' tk a0 a1 a2 a3 a4 a5 a6)) (F.args_enumerate_next_1 _))))
theorem pez_end {I i : Nat} {l1 l2 : Nat} {b1 b2 : Bool} {xs1 xs2 : Array Value} {old : Value} {Q : Option Value → Shared → Prop} (hh : A.handled = none) (L1 : l1 < I) (L2 : l2 < I) (he : IsEnum s.heap (I + 5) (I + 4) ((i : Nat) : Int) old)
    (hz : ZS2 s.heap I b1 b2 l1 l2 i) (sq1 : ASq s.heap b1 l1 xs1) (sq2 : ASq s.heap b2 l2 xs2) (hend : xs1[i]? = none ∨ xs2[i]? = none)
    (hQ : ∀ h', (∀ (c : Nat) o, (c < I ∨ I + 4 < c) → s.heap.get? c = some o → h'.get? c = some o) → Q none { s with heap := h' }) : wpAny (model prog w) A (pyNext (.ref (I + 5))) Q E s := by
  have hT : s.TypeIs (.ref (I + 5)) "enumerate" := ⟨_, he, rfl⟩
  unfold pyNext
  refine wpAny_bind (wpAny_attempt (wpAny_callSpecial?_slot (name := Str.ofString "__next__") hT F.slot_enumerate_next
    (wpAny_call_entry F.slot_enumerate_next hT F.entry_enumerate_next ?_ (F.args_enumerate_next_1 _))))
  show wpAny _ _ (field (.ref (I + 5)) 2 >>= _) _ _ _
  refine wpAny_bind (wpAny_field he rfl (x := .ref (I + 4)) rfl ?_)
  refine wpAny_bind (nz_end hh L1 L2 hz sq1 sq2 hend fun h' x hk hx => ?_)
  obtain ⟨o, ho, hcc⟩ := hx
  refine wpAny_bind (wpAny_isInstance (T := "StopIteration") (b := true) ⟨o, ho, hcc⟩ isSubtype_stop ?_)
  exact wpAny_pure (hQ h' hk)
end
theorem meets_enumZ (z TI TO : Addr) :
    Meets (Builtin.«enumerate.__new__» ⟨[.type "enumerate", .ref z], []⟩) (fun _ R s => IsZip s.heap z TI TO .none ∧
      R (.ok (.ret (.ref s.heap.objs.size))) { s with heap := s.heap.push { cls := .type "enumerate", data := .fields #[.none, .bool false, .ref z, rawInt 0, .none, .none] } }) :=
  .of_wp fun prog w A R s h => by
    obtain ⟨hp, g, d, tk, os⟩ := s; obtain ⟨hl, h⟩ := h
    have hsub := sub_enumerate
    have hL : IsZip (Shared.heap ⟨hp, g, d, tk, os⟩) z TI TO .none := hl
    wp_walk using wpAny_pyIter_zip hL
    refine wpAny_stack_any fun st => wpAny_pure ?_
    split
    · rename_i c _ _ _ _ _
      cases (c == Value.type "enumerate")
      · wp_walk using wpAny_pyIter_zip hL
        exact ⟨_, rfl, h⟩
      · wp_walk using wpAny_pyIter_zip hL
        exact ⟨_, rfl, h⟩
    · wp_walk using wpAny_pyIter_zip hL
      exact ⟨_, rfl, h⟩
section
variable {prog : Program} {w : World} {A : Around} {E : Value → Shared → Prop} {s : Shared}
theorem call_enumZ {z TI TO : Addr} {Q : Value → Shared → Prop} (hL : IsZip s.heap z TI TO .none)
    (h : ∀ h', IsEnum h' s.heap.objs.size z 0 .none → h'.objs.size = s.heap.objs.size + 1 → (∀ (b : Nat) o, s.heap.get? b = some o → h'.get? b = some o) → Q (.ref s.heap.objs.size) { s with heap := h' }) :
    wpAny (model prog w) A (call (.type "enumerate") [.ref z]) Q E s := by
  refine callType_new F.called_enumerate (by decide) (F.typeCall_enumerate_1 _) (F.newCall_enumerate_1 _) (fun obj => F.args_object_init_2 obj _) F.entry_enumerate_new
    (meets_enumZ z TI TO) ⟨hL, ?_⟩
  have he : IsEnum (s.heap.push { cls := .type "enumerate", data := .fields #[.none, .bool false, .ref z, rawInt 0, .none, .none] }) s.heap.objs.size z 0 .none := Heap.get?_push_size _ rfl
  exact ⟨⟨_, he, rfl⟩, h _ he (by rw [Heap.size_push]) fun b o x => Heap.get?_push_of_some _ x⟩
end
/-- the items of enumerate(zip(a, b)) -/
def ItEZ (K : PySem.W.Frag) (b1 b2 : Bool) (l1 l2 : Nat) : It :=
  ⟨fun i H => ∃ (xs1 xs2 : List V) (x1 x2 : V), SqA K H b1 l1 xs1 ∧ SqA K H b2 l2 xs2 ∧ xs1[i]? = some x1 ∧ xs2[i]? = some x2,
    fun i H v H' => ∃ T U x1 x2, v = .ref U ∧ H T = none ∧ (upd H T (.tup [x1, x2])) U = none ∧ H' = upd (upd H T (.tup [x1, x2])) U (.tup [.int (i : Nat), .ref T]) ∧ (∀ xs, SqA K H b1 l1 xs → xs[i]? = some x1) ∧ (∀ xs, SqA K H b2 l2 xs → xs[i]? = some x2),
    fun i H => ∃ xs1 xs2 : List V, SqA K H b1 l1 xs1 ∧ SqA K H b2 l2 xs2 ∧ (xs1.length ≤ i ∨ xs2.length ≤ i)⟩
theorem out_ez {I c : Nat} (h : ¬ c ∈ [(I + 5), (I + 4), (I + 2), (I + 3), I, (I + 1)]) : (c < I ∨ I + 4 < c) ∧ c ≠ I + 5 := by
  simp at h
  omega
theorem in_ez {I c : Nat} (h : c ∈ [(I + 5), (I + 4), (I + 2), (I + 3), I, (I + 1)]) : I ≤ c ∧ c ≤ I + 5 := by
  simp at h
  omega
theorem mem_ez {I c : Nat} (h1 : I ≤ c) (h2 : c ≤ I + 4) : c ∈ [(I + 5), (I + 4), (I + 2), (I + 3), I, (I + 1)] := by
  simp
  omega
theorem turn_ez {P : Program} {w : World} {K : PySem.W.Frag} {elts : List Expr} {kk : Nat} {tpos : Pos} {b1 b2 : Bool} {l1 l2 : Nat} {I : Nat} (L1 : l1 < I) (L2 : l2 < I) :
    Turn P w K (.Tuple elts kk tpos) (ItEZ K b1 b2 l1 l2) [(I + 5), (I + 4), (I + 2), (I + 3), I, (I + 1)] (I + 5) (fun i h => (∃ old, IsEnum h (I + 5) (I + 4) ((i : Nat) : Int) old) ∧ ZS2 h I b1 b2 l1 l2 i) where
  mem := by simp
  obj := fun i h st c hc => by
    obtain ⟨⟨old, he⟩, hz⟩ := st
    have e' : c = (I + 5) ∨ c = (I + 4) ∨ c = (I + 2) ∨ c = (I + 3) ∨ c = I ∨ c = (I + 1) := by simpa using hc
    rcases e' with q | q | q | q | q | q
    · rw [q]; exact ⟨_, he, fun v q => nomatch q⟩
    · rw [q]
      rcases hz.z with z | ⟨T, f1, z, _⟩
      · exact ⟨_, z, fun v q => nomatch q⟩
      · exact ⟨_, z, fun v q => nomatch q⟩
    · rw [q]; exact ⟨_, hz.ti, fun v q => nomatch q⟩
    · rw [q]; obtain ⟨y1, y2, hTO⟩ := hz.to_; exact ⟨_, hTO, fun v q => nomatch q⟩
    · rw [q]; obtain ⟨o, e, d⟩ := hz.i1.get; exact ⟨o, e, fun v q => by rw [d] at q; cases q⟩
    · rw [q]; obtain ⟨o, e, d⟩ := hz.i2.get; exact ⟨o, e, fun v q => by rw [d] at q; cases q⟩
  keep := fun i h h' st k => by
    obtain ⟨⟨old, he⟩, hz⟩ := st
    exact ⟨⟨old, k _ (by simp) _ he⟩, hz.at fun c o h1 h2 e => k c (mem_ez h1 h2) o e⟩
  item := by
    intro X hP hw hK hc i pins s σ H E Iv hf st hg
    subst hP hw hK
    obtain ⟨⟨old, he⟩, hz⟩ := st
    obtain ⟨xs1, xs2, x1, x2, q1, q2, e1, e2⟩ := hg
    obtain ⟨its1, rv1, p1⟩ := sqa_at Iv q1
    obtain ⟨u1, hu1, ru1⟩ := rv1.get e1
    obtain ⟨its2, rv2, p2⟩ := sqa_at Iv q2
    obtain ⟨u2, hu2, ru2⟩ := rv2.get e2
    have hel : (I + 5) < s.heap.objs.size := Heap.lt_size he
    refine pez_item L1 L2 he hz p1 p2 (x1 := u1) (x2 := u2) (by simpa using hu1) (by simpa using hu2) fun h1 h' tk z' hT hsz hk hout hT' hk' => ?_
    refine ⟨_, rfl, wpAny_letOwnedTupleGo_enum (s := { s with heap := h', toks := tk + 1 }) hout fun h'' he' sb => ?_⟩
    have hlt9 : I + 5 < h1.objs.size := by
      rw [show h1.objs.size = s.heap.objs.size + 1 from hsz]
      exact Nat.lt_succ_of_lt hel
    have k2 : ∀ (c : Nat) o, c ≠ I + 5 → h1.get? c = some o → h''.get? c = some o := fun c o hc e => (sb.2 c hc).trans (hk' c o hc e)
    have hU : h''.get? h1.objs.size = some { cls := .type "tuple", data := .seq #[.int i tk, .ref s.heap.objs.size] } := (sb.2 _ (Nat.ne_of_gt hlt9)).trans hT'
    have hTn : H s.heap.objs.size = none := Iv.hok.fresh (Nat.le_refl _)
    have new1 : ObjOk X.prog X.w (upd H s.heap.objs.size (.tup [x1, x2])) h1 s.heap.objs.size (.tup [x1, x2]) :=
      ⟨by show 2 ≤ sizeLine; decide, [u1, u2], .cons ru1 (.cons ru2 .nil), ⟨_, hT, rfl, _, rfl⟩⟩
    have I1 : Inv X pins σ (upd H s.heap.objs.size (.tup [x1, x2])) { s with heap := h1 } :=
      Iv.turnedNew (t' := s.toks) (ch := [(I + 5), (I + 4), (I + 2), (I + 3), I, (I + 1)]) (fun (c : Nat) o hb q => hk c o (out_ez hb).1 q) hf (Nat.le_refl _) new1
    have hf1 : ∀ b, b ∈ [(I + 5), (I + 4), (I + 2), (I + 3), I, (I + 1)] → FpOk X pins (upd H s.heap.objs.size (.tup [x1, x2])) b := fun b hb => by
      have hb' : b ≠ s.heap.objs.size := Nat.ne_of_lt (Nat.lt_of_le_of_lt (in_ez hb).2 hel)
      exact ⟨by rw [upd_ne hb']; exact (hf b hb).1, (hf b hb).2⟩
    have hUn : (upd H s.heap.objs.size (.tup [x1, x2])) h1.objs.size = none := I1.hok.fresh (Nat.le_refl _)
    have new2 : ObjOk X.prog X.w (upd (upd H s.heap.objs.size (.tup [x1, x2])) h1.objs.size (.tup [.int (i : Nat), .ref s.heap.objs.size])) h'' h1.objs.size (.tup [.int (i : Nat), .ref s.heap.objs.size]) :=
      ⟨by show 2 ≤ sizeLine; decide, [.int i tk, .ref s.heap.objs.size], .cons ⟨_, rfl⟩ (.cons rfl .nil), ⟨_, hU, rfl, _, rfl⟩⟩
    have I2 : Inv X pins σ (upd (upd H s.heap.objs.size (.tup [x1, x2])) h1.objs.size (.tup [.int (i : Nat), .ref s.heap.objs.size])) { s with heap := h'', toks := tk + 1 } :=
      I1.turnedNew (t' := tk + 1) (ch := [(I + 5), (I + 4), (I + 2), (I + 3), I, (I + 1)]) (fun (c : Nat) o hb q => k2 c o (out_ez hb).2 q) hf1 (Nat.le_refl _) new2
    refine ⟨.ref h1.objs.size, _, I2, rfl, ⟨_, _, x1, x2, rfl, hTn, hUn, rfl, fun l hl => by rw [sqa_inj Iv hl q1]; exact e1, fun l hl => by rw [sqa_inj Iv hl q2]; exact e2⟩, ⟨⟨.ref s.heap.objs.size, ?_⟩, z'.at fun c o h1 h2 e => k2 c o (Nat.ne_of_lt (Nat.lt_succ_of_le h2)) e⟩, fun (c : Nat) hcm => ?_⟩
    · have e1 : ((i + 1 : Nat) : Int) = (i : Int) + 1 := by omega
      rw [e1]; exact he'
    · have h3 := (hf1 c hcm).1
      have hlt : c < s.heap.objs.size := Nat.lt_of_le_of_lt (in_ez hcm).2 hel
      have hlt2 : c ≠ h1.objs.size := by
        have : h1.objs.size = s.heap.objs.size + 1 := hsz
        omega
      rw [upd_ne hlt2]
      exact h3
  done := by
    intro X hP hw hK hc i pins s σ H E Iv hf st hg
    subst hP hw hK
    obtain ⟨⟨old, he⟩, hz⟩ := st
    obtain ⟨xs1, xs2, q1, q2, hend⟩ := hg
    obtain ⟨its1, rv1, p1⟩ := sqa_at Iv q1
    have m1 := rv1.length
    obtain ⟨its2, rv2, p2⟩ := sqa_at Iv q2
    have m2 := rv2.length
    have hx : its1.toArray[i]? = none ∨ its2.toArray[i]? = none := by
      rcases hend with q | q
      · exact (.inl (by simp; omega))
      · exact (.inr (by simp; omega))
    exact pez_end (Iv.ok.hd hc) L1 L2 he hz p1 p2 hx fun h' hk => ⟨rfl, Iv.turnedL (t' := s.toks) (ch := [(I + 5), (I + 4), (I + 2), (I + 3), I, (I + 1)]) (fun (c : Nat) o hb q => hk c o (out_ez hb).1 q) hf⟩
  self := fun A i s Q E st h => let ⟨⟨_, he⟩, _⟩ := st; wpAny_pyIter_enum he h
def iEZ (K : PySem.W.Frag) (ta : TA) : TI := fun σ H R => ta σ H fun vs H1 => ∃ (b1 b2 : Bool) (l1 l2 : Nat) (xs1 xs2 : List V), vs = [.ref l1, .ref l2] ∧ SqA K H1 b1 l1 xs1 ∧ SqA K H1 b2 l2 xs2 ∧ R (ItEZ K b1 b2 l1 l2) H1
theorem pi_ez {X : Cx} {a1 a2 : Expr} {ta : TA} {p p2 pos pos2 tpos : Pos} {elts : List Expr} {kk : Nat} (hgE : Gl X "enumerate") (hmE : X.mg "enumerate" = none) (hg : Gl X "zip") (hm : X.mg "zip" = none) (ha : PA X [a1, a2] ta)
    (hs : starEach [a1, a2] X.env = (false, eval a1 X.env) :: starEach [a2] X.env := by rfl) (hpl : (backTo pos2 (starEach [a2] X.env)).any (·.1) = false := by rfl)
    (na : starEach [.Call (.Name "zip" p2) [a1, a2] [] pos2] X.env = (false, eval (.Call (.Name "zip" p2) [a1, a2] [] pos2) X.env) :: starEach [] X.env := by rfl) :
    PI X (.Tuple elts kk tpos) (.Call (.Name "enumerate" p) [.Call (.Name "zip" p2) [a1, a2] [] pos2] [] pos) (iEZ X.K ta) := by
  refine ⟨fun pins s σ H R I h => ?_⟩
  refine Call_ (ld_blt I hgE hmE boot_enumerate (PyProof.Rows.callWith_type1 (args_cons (Call_ (ld_blt I hg hm PyProof.Rows.boot_zip (PyProof.Rows.callWith_type1 (thn (ha.run pos2 pins s σ H _ I h) fun us s1 ⟨vs, H1, I1, r1, q1⟩ => ?_) hs hpl))) na) na))
  obtain ⟨b1, b2, l1, l2, xs1, xs2, ex, q1, q2, q⟩ := q1
  subst ex
  obtain ⟨v1, us1, rfl, w1, rr1⟩ := vals_cons r1
  obtain ⟨v2, us2, rfl, w2, rr2⟩ := vals_cons rr1
  cases rr2
  cases w1
  cases w2
  obtain ⟨its1, rv1, p1⟩ := sqa_at I1 q1
  have L1 := asq_lt p1
  obtain ⟨its2, rv2, p2⟩ := sqa_at I1 q2
  have L2 := asq_lt p2
  have fresh : ∀ c, c ∈ [(s1.heap.objs.size + 5), (s1.heap.objs.size + 4), (s1.heap.objs.size + 2), (s1.heap.objs.size + 3), s1.heap.objs.size, (s1.heap.objs.size + 1)] → FpOk X pins H1 c := fun (c : Nat) hcm => by
    have hle : s1.heap.objs.size ≤ c := (in_ez hcm).1
    exact I1.fpOk hle (I1.hok.fresh hle)
  refine call2 p1 p2 ?_
  intro h' hz hTI hTO it1 it2 hsz hk
  refine args_nil ?_
  refine call_enumZ (s := { s1 with heap := h' }) hz fun h'' he hsz2 hk2 => wpAny_pyIter_enum (e := h'.objs.size) he ?_
  have I2 : Inv X pins σ H1 { s1 with heap := h'' } := I1.kept (t' := s1.toks) fun b o e => hk2 b o (hk b o e)
  replace he : IsEnum h'' h'.objs.size (s1.heap.objs.size + 4) 0 .none := he
  have e5 : h'.objs.size = s1.heap.objs.size + 5 := hsz
  show ∃ _, _
  rw [e5] at he ⊢
  exact ⟨s1.heap.objs.size + 5, [(s1.heap.objs.size + 5), (s1.heap.objs.size + 4), (s1.heap.objs.size + 2), (s1.heap.objs.size + 3), s1.heap.objs.size, (s1.heap.objs.size + 1)], _, _, H1, rfl, I2, turn_ez L1 L2, ⟨⟨_, he⟩, ZS2.at ⟨.inl hz, hTI, ⟨_, _, hTO⟩, it1, it2⟩ fun c o h1 h2 e => hk2 c o e⟩, fresh, q⟩
/-! ### over data -/
open DL DQ DX
section
variable {X : Cx} {W : WX}
def iEnZ (da : DA) : DI := fun ga mu P F => da ga mu P fun ds mu1 => match ds with
  | [x, y] => ∃ l m, pv_ mu1 x = some l ∧ pv_ mu1 y = some m ∧ l.all npD = true ∧ m.all npD = true ∧ F (enF 0 (zipD2 l m)) (fun mu2 => okS x l mu2 ∧ okS y m mu2) mu1
  | _ => False
theorem wk_ez {K : PySem.W.Frag} {x y : D} {p q : Addr} {l m : List D} {hd0 : List Addr} {H0 : Hp} {al0 : List Addr} (r : Rep K (al0 ++ hd0) H0 al0 x (.ref p)) (r2 : Rep K (al0 ++ hd0) H0 al0 y (.ref q)) (hl : l.all npD = true) (hm : m.all npD = true) :
    WkOk K (ItEZ K (kindB x) (kindB y) p q) (enF 0 (zipD2 l m)) (fun mu2 => okS x l mu2 ∧ okS y m mu2) hd0 H0 al0 := by
  refine ⟨fun hd H mu al g pr o h => ?_, fun hd H mu al i g pr o h hi => ?_, fun hd H mu al i v H' g pr o h hi y => ?_⟩
  · obtain ⟨xs, s, r1⟩ := sq_of r g pr o h.1
    obtain ⟨ys, t, r3⟩ := sq_of r2 g pr o h.2
    refine ⟨xs, ys, s, t, ?_⟩
    rw [enF_len, zipD2_len, r1.len, r3.len]
    omega
  · obtain ⟨xs, s, r1⟩ := sq_of r g pr o h.1
    obtain ⟨ys, t, r3⟩ := sq_of r2 g pr o h.2
    rw [enF_len, zipD2_len, r1.len, r3.len] at hi
    have h1 : i < xs.length := by omega
    have h2 : i < ys.length := by omega
    exact ⟨xs, ys, xs[i], ys[i], s, t, List.getElem?_eq_getElem h1, List.getElem?_eq_getElem h2⟩
  · obtain ⟨xs, s, r1⟩ := sq_of r g pr o h.1
    obtain ⟨ys, t, r3⟩ := sq_of r2 g pr o h.2
    obtain ⟨T, U, x1, x2, rfl, hT, hU, rfl, q1, q2⟩ := y
    obtain ⟨d, e1, r4⟩ := r1.get (q1 xs s)
    obtain ⟨e, e2, r5⟩ := r3.get (q2 ys t)
    have gl := Go.lay (hd := hd) (al := al) (u := .tup [x1, x2]) o hT
    have o1 := o.lay (u := .tup [x1, x2]) hT
    have gl2 := Go.lay (hd := hd) (al := al) (u := .tup [.int (i : Nat), .ref T]) o1 hU
    have rp : Rep K (al ++ hd) (upd H T (.tup [x1, x2])) [] (.tup [d, e]) (.ref T) := .tup ⟨o.new hT, upd_same⟩ (.cons ((r4.np (all_at hl e1)).go gl (Pre.refl _)) (.cons ((r5.np (all_at hm e2)).go gl (Pre.refl _)) .nil))
    refine ⟨_, enF_get _ 0 i _ (zipD2_get e1 e2), o1.lay hU, gl.trans gl2, ?_⟩
    rw [Nat.zero_add]
    exact .tup ⟨o1.new hU, upd_same⟩ (.cons .int (.cons (rp.go gl2 (Pre.refl _)) .nil))
theorem di_ez {a1 a2 : Expr} {da : DA} {p p2 pos pos2 tpos : Pos} {elts : List Expr} {kk : Nat} (hmE : X.mg "enumerate" = none) (hm : X.mg "zip" = none) (ha : PA X [a1, a2] (liftA X.K W da)) (hgE : Gl X "enumerate" := by rfl) (hg : Gl X "zip" := by rfl)
    (hs : starEach [a1, a2] X.env = (false, eval a1 X.env) :: starEach [a2] X.env := by rfl) (hpl : (backTo pos2 (starEach [a2] X.env)).any (·.1) = false := by rfl)
    (na : starEach [.Call (.Name "zip" p2) [a1, a2] [] pos2] X.env = (false, eval (.Call (.Name "zip" p2) [a1, a2] [] pos2) X.env) :: starEach [] X.env := by rfl) :
    PI X (.Tuple elts kk tpos) (.Call (.Name "enumerate" p) [.Call (.Name "zip" p2) [a1, a2] [] pos2] [] pos) (liftI X.K W (iEnZ da)) := by
  refine pi_wk (pi_ez hgE hmE hg hm ha hs hpl na) fun sg H R ⟨ga, mu, al, hd, P, F, a, h, k, kx⟩ => ?_
  refine ⟨ga, mu, al, hd, P, _, a, h, ⟨fun ds mu1 vs H1 al1 h1 o1 g1 r1 => ?_⟩, kx⟩
  split at h1
  · obtain ⟨l, m, hl, hm, nl, nm, h2⟩ := h1
    obtain ⟨v, ys, rfl, r2, r3⟩ := r1.cons_
    obtain ⟨v2, ys2, rfl, r4, r5⟩ := r3.cons_
    cases r5.nil_
    obtain ⟨q, xs, rfl, _, _⟩ := r2.pv_ o1 hl
    obtain ⟨q2, xs2, rfl, _, _⟩ := r4.pv_ o1 hm
    obtain ⟨us, s1, _⟩ := sq_of (hd0 := hd) (H0 := H1) (al0 := al1) r2 (Fz.refl _ _) (Pre.refl _) o1 hl
    obtain ⟨us2, s2, _⟩ := sq_of (hd0 := hd) (H0 := H1) (al0 := al1) r4 (Fz.refl _ _) (Pre.refl _) o1 hm
    exact ⟨_, _, q, q2, us, us2, rfl, s1, s2, k _ _ _ _ _ _ h2 o1 g1 (wk_ez r2 r4 nl nm)⟩
  · exact h1.elim
/-- < of data that are alike -/
def gLtD : G2 := fun x y mu _ F => (isPy x = true ∧ isPy y = true) ∧ PySem.W.alike (toPy x) (toPy y) = true ∧ toPy x ≠ .none ∧ (toPy x).depth ≤ 60 ∧ F (.bl (PySem.W.dataLt (toPy x) (toPy y))) mu
theorem o_ltD (hu : X.A.units + 65 < cLine) : OpS X (compareOp .Lt) (liftR X.K W gLtD) := by
  intro pins s sg H x y v u Q I rx ry h
  obtain ⟨mu, al, hd, d, e, P, F, o, r1, r2, ⟨⟨p1, p2⟩, ha, hn, hde, h⟩, kv, kx⟩ := h
  obtain ⟨as, q1⟩ := Dp.readsAll I [toPy d] [x] [v] (.cons (rep_dp p1 r1) .nil) (.cons rx .nil)
  obtain ⟨bs, q2⟩ := Dp.readsAll I [toPy e] [y] [u] (.cons (rep_dp p2 r2) .nil) (.cons ry .nil)
  obtain ⟨cs, w1, _⟩ := PySem.W.readsAll_at q1 0 v rfl
  obtain ⟨ds, w2, _⟩ := PySem.W.readsAll_at q2 0 u rfl
  refine PySem.W.lt_data w1 w2 ha hn (by
    show X.A.units + min (toPy d).depth (toPy e).depth < cLine
    omega) ?_
  exact ⟨.bl (PySem.W.dataLt (toPy d) (toPy e)), H, I, rfl, kv.now o h .bl⟩
end
end DZ


/-! part DZ12 -/
/-! DZ12: list.pop at a place. -/
namespace DZ
open PySem PySem.Spec PyProof.Rows L2 DL DQ DX
section
variable {X : Cx} {W : WX}
theorem repL_erase {K : PySem.W.Frag} {al pt : List Addr} {H : Hp} {l : List D} {xs : List V} (r : RepL K al H pt l xs) (k : Nat) : RepL K al H pt (l.eraseIdx k) (xs.eraseIdx k) := by
  rw [List.eraseIdx_eq_take_drop_succ, List.eraseIdx_eq_take_drop_succ]
  exact (r.take k).append (r.drop (k + 1))
def gPop : GM := fun x ds mu F => match x, ds with
  | .ptr n, [.int i] => ∃ (l : List D) (d : D), mu[n]? = some (.lst l) ∧ (0 ≤ i ∧ i < 2 ^ 63) ∧ l[i.toNat]? = some d ∧ F d (mu.set n (.lst (l.eraseIdx i.toNat)))
  | _, _ => False
theorem m_pop : MbS X "list.pop" gPop := by
  refine ⟨_, mt_popAt, fun H mu al hd x v ds vs F Q o rx rs h kv => ?_⟩
  unfold gPop at h
  split at h
  · rename_i n i
    obtain ⟨y, ys, rfl, ry, rn⟩ := rs.cons_
    cases rn.nil_
    obtain ⟨l, d, q, ⟨h0, h1⟩, hd', hF⟩ := h
    cases rx with
    | ptr e =>
      obtain ⟨xs, e1, r1⟩ := o.at_ n _ _ q e
      cases ry.int_
      obtain ⟨w, e2, r2⟩ := r1.at_ hd'
      have hlt : i.toNat < xs.length := (List.getElem?_eq_some_iff.mp e2).1
      exact ⟨_, xs, i, i.toNat, w, rfl, rfl, e1, by omega, h1, seqIndex_of h0 (by omega), e2, Kv.setL o e kv (repL_erase r1 _) (r2.fz (Fz.refl _ _) (Pre.nil _)) hF⟩
  · exact h.elim
/-- list(range(n)) -/
def dLRg (m : Nat) (de : DE) : DE := fun ga mu P F => de ga mu P fun x mu1 => match x with
  | .int n => (0 ≤ n ∧ n ≤ 100000) ∧ retN m (rngL 0 n.toNat) mu1 F
  | _ => False
theorem rgV_eq {n : Int} : rgV 0 n = ((List.range n.toNat).map fun i => (0 : Int) + (i : Nat)).map V.int := by
  unfold rgV
  rw [List.map_map, Int.sub_zero]
  rfl
theorem d_lRg (m : Nat) {a : Expr} {de : DE} {p p2 pos pos2 : Pos} (hc : X.calm = true) (hmL : X.mg "list" = none) (hm : X.mg "range" = none) (ha : PE X a (liftE X.K W de)) (hgL : Gl X "list" := by rfl) (hg : Gl X "range" := by rfl)
    (na : starEach [a] X.env = (false, eval a X.env) :: starEach [] X.env := by rfl)
    (nb : starEach [.Call (.Name "range" p2) [a] [] pos2] X.env = (false, eval (.Call (.Name "range" p2) [a] [] pos2) X.env) :: starEach [] X.env := by rfl) :
    PE X (.Call (.Name "list" p) [.Call (.Name "range" p2) [a] [] pos2] [] pos) (liftE X.K W (dLRg m de)) :=
  pe_wk (pe_listRg hc hgL hmL (prg_1 hg hm ha na) nb) fun sg H Q ⟨ga, mu, al, hd, P, F, a, h, kv, kx⟩ => by
    refine ⟨ga, mu, al, hd, P, _, a, h, ⟨fun d mu1 v H1 al1 h1 o1 g1 r1 => ?_⟩, kx⟩
    cases d <;> try exact h1.elim
    rename_i n
    obtain ⟨⟨h0, h2⟩, hF⟩ := h1
    refine ⟨n, r1.int_, RgOk.of_le (Int.le_refl _) (by omega) (by omega) h0, fun q hq => ?_⟩
    have rr : RepL X.K (al1 ++ hd) H1 [] (rngL 0 n.toNat) (rgV 0 n) := by
      have e : rngL 0 n.toNat = ((List.range n.toNat).map fun i => (0 : Int) + (i : Nat)).map D.int := by
        unfold rngL
        rw [List.map_map]
        rfl
      rw [rgV_eq, e]
      exact RepL.ofInts ((List.range n.toNat).map fun i => (0 : Int) + (i : Nat))
    exact (kv.to g1).listN o1 hq rr hF
/-- in and not in, a list of data -/
def gInPB (neg : Bool) : G2 := fun x y mu _ F => ∃ l, lv mu y = some l ∧ (isPy x = true ∧ isPyL l = true) ∧ (PyData.plainAll (toPyL l) = true ∧ (toPy x).plain = true) ∧ (toPy x).depth ≤ 60 ∧ F (.bl (if neg = true then !((toPyL l).any fun y => PyData.eqv y (toPy x)) else (toPyL l).any fun y => PyData.eqv y (toPy x))) mu
def gInP : G2 := gInPB false
def gNotInP : G2 := gInPB true
theorem inP_aux {neg : Bool} {pins : List (Addr × Obj)} {s : Shared} {sg : L2.St} {H : Hp} {x y : V} {v u : Value} {Q : VK} (I : Inv X pins sg H s) (rx : RelV x v) (ry : RelV y u) (h : liftR X.K W (gInPB neg) sg x y H Q) :
    ∃ (d : PyData) (l : List PyData) (as bs : List Addr), PySem.Reads s.heap u (.list l) as ∧ PySem.Reads s.heap v d bs ∧ PyData.plainAll l = true ∧ d.plain = true ∧ d.depth ≤ 60 ∧ Q (.bl (if neg = true then !(l.any fun y => PyData.eqv y d) else l.any fun y => PyData.eqv y d)) H := by
  obtain ⟨mu, al, hd, d, e, P, F, o, r1, r2, ⟨l, he, ⟨p1, p2⟩, ⟨h1, h2⟩, hde, h⟩, kv, kx⟩ := h
  obtain ⟨p, xs, rfl, sl, r3⟩ := r2.lv o he
  obtain ⟨as, q1⟩ := Dp.readsAll I [toPy d] [x] [v] (.cons (rep_dp p1 r1) .nil) (.cons rx .nil)
  obtain ⟨bs, q2⟩ := Dp.readsAll I [.list (toPyL l)] [.ref p] [u] (.cons (.lst (.inl sl) (repL_dp p2 r3)) .nil) (.cons ry .nil)
  obtain ⟨cs, w1, _⟩ := PySem.W.readsAll_at q1 0 v rfl
  obtain ⟨ds, w2, _⟩ := PySem.W.readsAll_at q2 0 u rfl
  exact ⟨toPy d, toPyL l, _, _, w2, w1, h1, h2, hde, kv.now o h .bl⟩
theorem o_inP (hu : X.A.units + 65 < cLine) : OpS X (compareOp .In) (liftR X.K W gInP) := by
  intro pins s sg H x y v u Q I rx ry h
  obtain ⟨d, l, as, bs, w2, w1, h1, h2, hde, q⟩ := inP_aux I rx ry h
  exact PySem.SeqAt.in_list_data w2 w1 h1 h2 (by
    show X.A.units + 1 + min _ _ < cLine
    omega) ⟨.bl _, H, I, rfl, q⟩
theorem o_notInP (hu : X.A.units + 65 < cLine) : OpS X (compareOp .NotIn) (liftR X.K W gNotInP) := by
  intro pins s sg H x y v u Q I rx ry h
  obtain ⟨d, l, as, bs, w2, w1, h1, h2, hde, q⟩ := inP_aux I rx ry h
  exact PySem.SeqAt.notIn_list_data w2 w1 h1 h2 (by
    show X.A.units + 1 + min _ _ < cLine
    omega) ⟨.bl _, H, I, rfl, q⟩
end
end DZ

/-! part DZ13 -/
/-! DZ13: max of alike data; dicts with single keys while they are walked, list(d); outcome shape F. -/
namespace DZ
open PySem PySem.Spec PyProof.Rows L2 DL DQ DX
def rMaxD (K : PySem.W.Frag) : List V → Hp → VK → Prop := fun vs H Q => ∃ (a : Addr) (xs : List V) (d : PyData) (ds : List PyData), vs = [.ref a] ∧ SqL K H a xs ∧ DpAll K H xs (d :: ds) ∧ PySem.W.AlikeAll (d :: ds) ∧ PyData.depthAll (d :: ds) ≤ 60 ∧ ∀ (i : Nat) (x : V), xs[i]? = some x → (d :: ds)[i]? = some (PySem.W.maxD d ds) → Q x H
theorem maxD_mem (x : PyData) (xs : List PyData) : PySem.W.maxD x xs ∈ x :: xs := fold_mem (f := fun a b => PySem.W.dataLt b a) xs x
section
variable {X : Cx}
theorem cr_maxD (hc : X.calm = true) (hu : X.A.units + 65 < cLine) : CallR X (.builtin "max") (rMaxD X.K) := by
  intro pins s σ H vs us Q I r h
  obtain ⟨a, xs, d, ds, rfl, hs, hd, ha, hde, q⟩ := h
  obtain ⟨its, rv, hl, _⟩ := I.list hs
  rw [Vals.ref1 r]
  obtain ⟨as, hr⟩ := Dp.readsAll I (d :: ds) xs its hd rv
  refine PySem.W.max_list_data (I.ok.hd hc) hl.isList (by simpa using hr) ha (by omega) fun i v h' tk bs hv hrd hk => ?_
  have hv' : its[i]? = some v := by simpa using hv
  have hlen := rv.length
  have hi : i < xs.length := by have := (List.getElem?_eq_some_iff.mp hv').1; omega
  obtain ⟨u, hu', ru⟩ := rv.get (List.getElem?_eq_getElem hi)
  have eu : u = v := Option.some.inj (hu'.symm.trans hv')
  subst eu
  obtain ⟨cs, r1, hlt, hmem, _⟩ := PySem.W.readsAll_at hr i u hv'
  have r2 := PySem.W.reads_keeps hk r1
  have e := PySem.W.alike_unique _ _ _ _ _ (ha.1 _ hmem _ (maxD_mem d ds)) r2 hrd
  refine ⟨xs[i], H, I.kept hk, ru, q i xs[i] (List.getElem?_eq_getElem hi) ?_⟩
  rw [← e, List.getD_eq_getElem?_getD, List.getElem?_eq_getElem hlt]
  rfl
/-- max of a list of alike data -/
def maxDD (d : D) (l : List D) : D := frPy (PySem.W.maxD (toPy d) (toPyL l))
def bMaxD : GL := fun ds mu F => match ds with
  | [x] => ∃ d l, lv mu x = some (d :: l) ∧ isPyL (d :: l) = true ∧ PySem.W.AlikeAll (toPyL (d :: l)) ∧ PyData.depthAll (toPyL (d :: l)) ≤ 60 ∧ F (maxDD d l) mu
  | _ => False
theorem b_maxD (hc : X.calm = true) (hu : X.A.units + 65 < cLine) : CbS X (.builtin "max") bMaxD := by
  refine ⟨_, cr_maxD hc hu, fun H mu al hd ds vs F Q o r hg kv => ?_⟩
  unfold bMaxD at hg
  split at hg
  · rename_i x
    obtain ⟨v, ys, rfl, r1, r2⟩ := r.cons_
    cases r2.nil_
    obtain ⟨d, l, hl, hp, ha, hde, hF⟩ := hg
    obtain ⟨p, xs, rfl, s, r3⟩ := r1.lv o hl
    have hdp := repL_dp hp r3
    refine ⟨p, xs, toPy d, toPyL l, rfl, .inl s, hdp, ha, hde, fun i x hx hm => ?_⟩
    obtain ⟨d', e1, r4⟩ := r3.get hx
    have e2 : (toPy d :: toPyL l)[i]? = some (toPy d') := by
      have e : toPy d :: toPyL l = (d :: l).map toPy := by rw [toPyL_map]; rfl
      rw [e, List.getElem?_map, e1]
      rfl
    have e3 : toPy d' = PySem.W.maxD (toPy d) (toPyL l) := Option.some.inj (e2.symm.trans hm)
    have e4 : d' = maxDD d l := by
      unfold maxDD
      rw [← e3, fr_to d' (isPyL_at hp e1)]
    subst e4
    exact kv.now o hF (r4.fz (Fz.refl _ _) (Pre.nil _))
  · exact hg.elim
end
/-! ### dicts with single keys, while they are walked -/
section
variable {X : Cx} {W : WX}
theorem ke_get {K : PySem.W.Frag} {al : List Addr} {H : Hp} : ∀ {l : List (Key × D)} {xs : List (Key × V)} {i : Nat} {k : Key} {v : V}, RepKV K al H l xs → xs[i]? = some (k, v) → ∃ d, l[i]? = some (k, d)
  | [], [], _, _, _, _, e => by simp at e
  | (j, d) :: l, (_, w) :: xs, 0, k, v, r, e => by
    obtain ⟨rfl, _, _⟩ := r
    simp at e
    exact ⟨d, by rw [← e.1]; rfl⟩
  | (j, d) :: l, (_, w) :: xs, i + 1, k, v, r, e => by
    obtain ⟨rfl, _, r2⟩ := r
    obtain ⟨d', h⟩ := ke_get r2 (by simpa using e)
    exact ⟨d', by simpa using h⟩
  | [], _ :: _, _, _, _, r, _ => r.elim
  | _ :: _, [], _, _, _, r, _ => r.elim
def dLockK (de : DE) : DE := fun ga mu P F => ∃ n kvs, mu[n]? = some (.dic kvs) ∧ ∀ od vs, de ga (mu.set n (.dlc od vs kvs)) (fun _ _ => False) fun d mu' => mu'[n]? = some (.dlc od vs kvs) ∧ F d (mu'.set n (.dic kvs))
theorem d_lockK {e : Expr} {de : DE} (h : PE X e (liftE X.K W de)) : PE X e (liftE X.K W (dLockK de)) := by
  refine pe_wk (pe_lock h) fun sg H Q ⟨ga, mu, al, hd, P, F, a, hw, kv, kx⟩ => ?_
  obtain ⟨n, kvs, hn, hw⟩ := hw
  obtain ⟨p, hp, vs, e1, rk⟩ := at_cell a.ok hn
  refine ⟨p, .dK vs, e1, trivial, fun od => ?_⟩
  have gw := Go.write (hd := hd) (H' := upd H p (.frz od (.dK vs))) a.ok hp fun b hb => upd_ne hb
  refine ⟨ga, _, al, hd, _, _, ⟨a.ok.write (mo := .dlc od vs kvs) hp (fun b hb => upd_ne hb) ⟨(), upd_same, RepKV.go gw rk⟩, a.sl.go gw⟩, hw od vs, ⟨fun d mu' v H' al' hF o' g' r' => ?_⟩, ⟨fun _ _ _ _ _ _ z => z.elim⟩⟩
  have hp' := g'.pre n p hp
  obtain ⟨_, e2, rk2⟩ := o'.at_ n _ p hF.1 hp'
  refine ⟨e2, ?_⟩
  have gw2 := Go.write (hd := hd) (H' := upd H' p (.dK vs)) o' hp' fun b hb => upd_ne hb
  exact kv.go d _ v _ al' hF.2 (o'.write (mo := .dic kvs) hp' (fun b hb => upd_ne hb) ⟨vs, upd_same, RepKV.go gw2 rk2⟩) ((gw.trans g').trans gw2) (r'.go gw2 gw2.pre)
def dLockSK (ds : DS) : DS := fun E ga mu => ∃ n kvs, mu[n]? = some (.dic kvs) ∧ ∀ od vs, ds { nx := fun ga' mu' => mu'[n]? = some (.dlc od vs kvs) ∧ E.nx ga' (mu'.set n (.dic kvs)), rt := fun d mu' => mu'[n]? = some (.dlc od vs kvs) ∧ E.rt d (mu'.set n (.dic kvs)), ex := fun _ _ => False, bk := fun ga' mu' => mu'[n]? = some (.dlc od vs kvs) ∧ E.bk ga' (mu'.set n (.dic kvs)), ct := fun ga' mu' => mu'[n]? = some (.dlc od vs kvs) ∧ E.ct ga' (mu'.set n (.dic kvs)) } ga (mu.set n (.dlc od vs kvs))
theorem ds_lockK {s : Stmt} {ds : DS} (h : PS X s (liftS X.K W ds)) : PS X s (liftS X.K W (dLockSK ds)) := by
  refine ps_wk (ps_lock h) fun Q sg H ⟨ga, mu, al, hd, E, a, hw, k⟩ => ?_
  obtain ⟨n, kvs, hn, hw⟩ := hw
  obtain ⟨p, hp, vs, e1, rk⟩ := at_cell a.ok hn
  refine ⟨p, .dK vs, e1, trivial, fun od => ?_⟩
  have gw := Go.write (hd := hd) (H' := upd H p (.frz od (.dK vs))) a.ok hp fun b hb => upd_ne hb
  have key : ∀ (N : Gam → Sto → Prop) (R : L2.St → Hp → Prop), Kn X.K hd H al N R → Kn X.K hd (upd H p (.frz od (.dK vs))) al (fun ga' mu' => mu'[n]? = some (.dlc od vs kvs) ∧ N ga' (mu'.set n (.dic kvs))) (fun sg' H' => H' p = some (.frz od (.dK vs)) ∧ R sg' (upd H' p (.dK vs))) := fun N R kn ga' mu' sg' H' al' hN a' g' => by
    have hp' := g'.pre n p hp
    obtain ⟨_, e2, rk2⟩ := a'.ok.at_ n _ p hN.1 hp'
    have gw2 := Go.write (hd := hd) (H' := upd H' p (.dK vs)) a'.ok hp' fun b hb => upd_ne hb
    exact ⟨e2, kn ga' _ sg' _ al' hN.2 ⟨a'.ok.write (mo := .dic kvs) hp' (fun b hb => upd_ne hb) ⟨vs, upd_same, RepKV.go gw2 rk2⟩, a'.sl.go gw2⟩ ((gw.trans g').trans gw2)⟩
  refine ⟨ga, _, al, hd, _, ⟨a.ok.write (mo := .dlc od vs kvs) hp (fun b hb => upd_ne hb) ⟨(), upd_same, RepKV.go gw rk⟩, a.sl.go gw⟩, hw od vs, ⟨key _ _ k.nx, ⟨fun d mu' v H' al' hF o' g' r' => ?_⟩, fun _ => ⟨fun _ _ _ _ _ _ z => z.elim⟩, key _ _ k.bk, key _ _ k.ct⟩⟩
  have hp' := g'.pre n p hp
  obtain ⟨_, e2, rk2⟩ := o'.at_ n _ p hF.1 hp'
  have gw2 := Go.write (hd := hd) (H' := upd H' p (.dK vs)) o' hp' fun b hb => upd_ne hb
  exact ⟨e2, k.rt.go d _ v _ al' hF.2 (o'.write (mo := .dic kvs) hp' (fun b hb => upd_ne hb) ⟨vs, upd_same, RepKV.go gw2 rk2⟩) ((gw.trans g').trans gw2) (r'.go gw2 gw2.pre)⟩
/-- for k in d, the dict locked -/
def okDc (n : Nat) (od : Obj) (vs : List (Key × V)) (kvs : List (Key × D)) : Sto → Prop := fun mu => mu[n]? = some (.dlc od vs kvs)
def iKeysK (de : DE) : DI := fun ga mu P F => de ga mu P fun x mu1 => match x with
  | .ptr n => ∃ od vs kvs, mu1[n]? = some (.dlc od vs kvs) ∧ F (kvs.map fun p => dK p.1) (okDc n od vs kvs) mu1
  | _ => False
theorem wk_keysK {K : PySem.W.Frag} {n : Nat} {p : Addr} {od : Obj} {vs : List (Key × V)} {kvs : List (Key × D)} {hd0 : List Addr} {H0 : Hp} {al0 : List Addr} (hp : al0[n]? = some p) : WkOk K (Itk p od vs) (kvs.map fun p => dK p.1) (okDc n od vs kvs) hd0 H0 al0 := by
  refine ⟨fun hd H mu al g pr o h => ?_, fun hd H mu al i g pr o h hi => ?_, fun hd H mu al i v H' g pr o h hi y => ?_⟩
  · obtain ⟨_, e, rk⟩ := o.at_ n _ p h (pr n p hp)
    exact ⟨e, by rw [List.length_map, ke_len rk]; exact Nat.le_refl _⟩
  · obtain ⟨_, e, rk⟩ := o.at_ n _ p h (pr n p hp)
    exact ⟨e, by rw [List.length_map, ke_len rk] at hi; exact hi⟩
  · obtain ⟨_, e, rk⟩ := o.at_ n _ p h (pr n p hp)
    obtain ⟨rfl, k, w, e1, rfl⟩ := y
    obtain ⟨d, e3⟩ := ke_get rk e1
    exact ⟨dK k, by rw [List.getElem?_map, e3]; rfl, o, Go.refl _ _, rep_dK k⟩
theorem di_keysK {tg e : Expr} {de : DE} (h : PE X e (liftE X.K W de)) : PI X tg e (liftI X.K W (iKeysK de)) := by
  refine pi_wk (pi_keys h) fun sg H R ⟨ga, mu, al, hd, P, F, a, h, k, kx⟩ => ?_
  refine ⟨ga, mu, al, hd, P, _, a, h, ⟨fun d mu1 v H1 al1 h1 o1 g1 r1 => ?_⟩, kx⟩
  cases d <;> try exact h1.elim
  rename_i n
  obtain ⟨od, vs, kvs, hn, hF⟩ := h1
  cases r1 with
  | ptr ep =>
    rename_i p
    obtain ⟨_, e1, rk⟩ := o1.at_ n _ p hn ep
    exact ⟨p, od, rfl, .inl ⟨vs, e1, k _ _ _ _ _ _ hF o1 g1 (wk_keysK ep)⟩⟩
/-- d[k], the dict locked or not -/
def kAt (mu : Sto) (n : Nat) (kvs : List (Key × D)) : Prop := mu[n]? = some (.dic kvs) ∨ ∃ od vs, mu[n]? = some (.dlc od vs kvs)
theorem kAt_get {K : PySem.W.Frag} {hd al : List Addr} {H : Hp} {mu : Sto} {n : Nat} {p : Addr} {kvs : List (Key × D)} (o : Okay K hd H mu al) (h : kAt mu n kvs) (ep : al[n]? = some p) : ∃ vs, Rd H p (.dK vs) ∧ RepKV K (al ++ hd) H kvs vs := by
  rcases h with h | ⟨od, vs, h⟩
  · obtain ⟨vs, e, rk⟩ := o.at_ n _ p h ep
    exact ⟨vs, .inl e, rk⟩
  · obtain ⟨_, e, rk⟩ := o.at_ n _ p h ep
    exact ⟨vs, .inr ⟨_, e⟩, rk⟩
def dKIxL (do_ de : DE) : DE := fun ga mu P F => do_ ga mu P fun x mu1 => de ga mu1 P fun y mu2 => match x with
  | .ptr n => ∃ kvs k d, kAt mu2 n kvs ∧ keyD y = some k ∧ valE kvs k = some d ∧ F d mu2
  | _ => False
theorem d_kixL {o e : Expr} {pos : Pos} {do_ de : DE} (hu : X.A.units + 1 < cLine) (ho : PE X o (liftE X.K W do_)) (he : PE X e (liftE X.K W de)) (hs : NoSl e := by exact fun _ _ => rfl) : PE X (.Subscript o e pos) (liftE X.K W (dKIxL do_ de)) := by
  refine pe_wk (pe_dget hu ho he hs) fun sg H Q ⟨ga, mu, al, hd, P, F, a, h, kv, kx⟩ => ?_
  refine ⟨ga, mu, al, hd, P, _, a, h, ⟨fun x mu1 xv H1 al1 h1 o1 g1 r1 => ⟨ga, mu1, al1, hd, P, _, a.to o1 g1, h1, ⟨fun y mu2 yv H2 al2 h2 o2 g2 r2 => ?_⟩, kx.to g1⟩⟩, kx⟩
  cases x <;> try exact h2.elim
  rename_i n
  obtain ⟨kvs, k, d, q, hk, hv, hF⟩ := h2
  cases r1 with
  | ptr ep =>
    rename_i p
    have ey := rep_key r2 hk
    subst ey
    obtain ⟨vs, e3, rk⟩ := kAt_get o2 q (g2.pre n p ep)
    rcases ke_val k rk with ⟨n1, n2⟩ | ⟨d', v, n1, n2, rv⟩
    · rw [hv] at n1
      cases n1
    · rw [hv] at n1
      cases n1
      exact ⟨p, v, rfl, .inl ⟨vs, k, e3, rfl, n2.symm⟩, (kv.to (g1.trans g2)).now o2 hF (rv.fz (Fz.refl _ _) (Pre.nil _))⟩
theorem repL_dKs {K : PySem.W.Frag} {al : List Addr} {H : Hp} : ∀ {l : List (Key × D)} {xs : List (Key × V)}, RepKV K al H l xs → RepL K al H [] (l.map fun p => dK p.1) (xs.map fun p => kV p.1)
  | [], [], _ => .nil
  | (k, d) :: l, (j, v) :: xs, r => by
    obtain ⟨rfl, r1, r2⟩ := r
    exact .cons (rep_dK k) (repL_dKs r2)
  | [], _ :: _, r => r.elim
  | _ :: _, [], r => r.elim
def bListK (m : Nat) : GL := fun ds mu F => match ds with
  | [.ptr n] => ∃ kvs, mu[n]? = some (.dic kvs) ∧ retN m (kvs.map fun p => dK p.1) mu F
  | _ => False
theorem b_listK (m : Nat) (hc : X.calm = true) : CbS X (.type "list") (bListK m) := by
  refine ⟨_, call_list_dK hc, fun H mu al hd ds vs F Q o r hg kv => ?_⟩
  unfold bListK at hg
  split at hg
  · rename_i n
    obtain ⟨v, ys, rfl, r1, r2⟩ := r.cons_
    cases r2.nil_
    obtain ⟨kvs, q, hF⟩ := hg
    cases r1 with
    | ptr e =>
      rename_i p
      obtain ⟨xs, e1, rk⟩ := o.at_ n _ p q e
      exact ⟨p, xs, rfl, e1, fun b hb => kv.listN o hb (repL_dKs rk) hF⟩
  · exact hg.elim
end
section
variable {X : Cx}
theorem b_lenD : CbS X (.builtin "len") bLenD := by
  refine ⟨_, call_len_dT, fun H mu al hd ds vs F Q o r hg kv => ?_⟩
  unfold bLenD at hg
  split at hg
  · rename_i n
    obtain ⟨v, ys, rfl, r1, r2⟩ := r.cons_
    cases r2.nil_
    obtain ⟨kvs, q, hF⟩ := hg
    cases r1 with
    | ptr e =>
      rename_i p
      obtain ⟨xs, e1, rk⟩ := o.at_ n _ p q e
      refine ⟨p, xs, rfl, e1, ?_⟩
      rw [← kv_len rk]
      exact kv.now o hF .int
  · exact hg.elim
end
/-! ### found = None; try: x() / except .. as e: found = e.f; return found -/
def TTF (K : PySem.W.Frag) (n : Nat) (l : List Cl1) : (XK → Hp → VK → Prop) → Hp → VK → Prop := fun tl H Q =>
  tl (fun cls d H' => ∀ q : L2.St, q.length = n → wMix K DX.W0 { nx := fun σ H' => ∃ v, σ[1]? = some (some v) ∧ Q v H', rt := Q } (l.map (hcl K)) cls d q H') H (fun _ H1 => ∃ v, (some (some V.non) : Option (Option V)) = some (some v) ∧ Q v H1)
section
variable {X : Cx}
theorem gives_F {Ng : List Str} {x a fl q : Str} {sg : Scope} {g : Addr} {cdg : Value} {h0 : ExceptHandler} {hds : List ExceptHandler} {l : List Cl1} {n : Nat} {p0 p1 p2 p3 p4 p5 p6 p7 p8 : Pos} {jx}
    (hN : Ng.Nodup) (hn : Ng.length = n) (hst : ∀ f : Addr, L2.start Ng [V.ref f] = [some (V.ref f), none, none]) (hfl : Ng[1]? = some fl) (hlo : Loc sg fl) (hlk : sg.names.lookup fl = some .local) (hvi : Vis sg fl)
    (hsw : ∀ env : Env, swapsWith (.Call (.Name a p2) [] [] p3) none p4.line env = pure false) (hsw2 : ∀ env : Env, swapsWith (.Constant .none jx p1) (some (.Name fl p0)) p7.line env = pure false)
    (hd : (fl == ("__debug__" : Str)) = false) (hcd : (fl == ("__classdict__" : Str)) = false)
    (hh : ∀ (s : Shared) (H : Hp), HdsMix (cxOf C8.CX0 X.prog X.w X.K X.mg X.base Ng x sg g cdg X.A X.stack s H C8.E0).nox (h0 :: hds) (l.map (hcl X.K))) :
    LamX.GivesTo X Ng x sg g cdg [.Assign [.Name fl p0] (.Constant .none jx p1) p7, .Try [.Expr (.Call (.Name a p2) [] [] p3) p4] (h0 :: hds) [] [] p5, .Return (some (.Name fl p8)) p6] a q (TTF X.K n l) := by
  intro f c' s H Q tl act hc h
  refine ⟨_, pss_cons (ps_set (i := 1) hN hfl hlo pe_non (hsw2 _) (.inr hlk)) (pss_cons (ps_try_mix (X := (cxOf C8.CX0 X.prog X.w X.K X.mg X.base Ng x sg g cdg X.A X.stack s H C8.E0).nox)
      (tb := fun W D σ H => ∃ Ech : XK, (∀ cls d σ' H', Ech cls d H' → W cls d σ' H') ∧ σ[0]? = some (some (.ref f)) ∧ H c' = some (LamX.CodeO c' q) ∧ tl Ech H (fun v H1 => D.nx σ H1))
      rfl rfl hN takes0' (fun W pn xe tk _ => ?_) (hh s H)) (pss_one (ps_ret (pe_var (i := 1) hfl hvi hd hcd)))), ?_⟩
  · refine ⟨fun pins s' σ H' D I h' => ?_⟩
    obtain ⟨Ech, hW, h1, h2, h3⟩ := h'
    have hp := act W pn xe Ech p2 p3 tk hW
    have hq := pss_one (ps_expr (pos := p4) hp (hsw _))
    exact hq.run pins s' σ H' D I ⟨h1, h2, h3⟩
  · rw [hst]
    exact ⟨fun cls d H' => ∀ q : L2.St, q.length = n → wMix X.K DX.W0 { nx := fun σ H' => ∃ v, σ[1]? = some (some v) ∧ Q v H', rt := Q } (l.map (hcl X.K)) cls d q H', fun cls d σ' H' z hl => z σ' (hl.trans hn), rfl, hc, h⟩
end
def dLamF (T : List (Addr × Str)) (es : List Nat) (n : Nat) (l : List Cl1) (dc : DE) : DE := fun ga mu _ F => tabsOf mu = T ∧ dc ga mu (fun x mu1 => x.1 ∈ es ∧ pick n { nx := fun ga2 mu2 => ∃ d, ga2[1]? = some (some d) ∧ F d mu2, rt := F, ex := fun _ _ => False } x mu1 l) fun _ mu1 => F .non mu1
section
variable {X : Cx} {W : WX} {T : List (Addr × Str)} {es ys : List Nat} {n : Nat} {l : List Cl1} {dc : DE} {x a : Str} {g c P : Addr} {k : Nat} {pg : Arguments} {bg : List Stmt} {sg : Scope} {Ng : List Str} {params : Arguments} {body : Expr} {scope : Scope} {p lpos pos : Pos}
theorem d_lamF (hm : X.mg x = some (.ref g)) (F : ∃ fd, FunD X.K x x pg bg sg [] [] g fd)
    (hps : ∀ (kV doc pm : Value) (an : Option Addr) (cdv ct : Value) (us : List Value), us.length = [a].length → bindArgs (PySem.W.fnOf x x pg bg sg .none kV doc pm an cdv ct) ⟨us, []⟩ = pure ([a].zip us))
    (Sg : FnScope Ng [a] sg) (hG : ∀ cdv : Value, LamX.GivesTo X Ng x sg g cdv bg a (X.env.qual ++ "<lambda>") (TTF X.K n l)) (hx : exmB X.K es ys = true) (hy : ∀ t ∈ l, t.1 ∈ ys)
    (TB : LamX.TabB X.base X.mg c P) (hcode : X.env.code = .ref c) (hmT : (P, X.env.qual ++ "<lambda>") ∈ T) (hu : ∀ p ∈ T, p.1 = P → p.2 = X.env.qual ++ "<lambda>") (hr : Room (k + 2) X.A) (L : LamX.LamS X.env.scope scope)
    (hbody : ∀ (A : Around) (outer : List Env) (s : Shared) (H : Hp) (E : XK) (f c' : Addr), Room k (A.deeper (LamX.lamEnv X scope s.heap.objs.size f c')) → PE (LamX.lamCx X A outer s H E scope f c') body (liftE X.K (fun c d _ h => E c d h) dc))
    (hg : Gl X x := by rfl) (hNg : Ng[0]? = some a := by rfl) (hva : Vis sg a := by first | exact Or.inl rfl | exact Or.inr (Or.inl rfl) | exact Or.inr (Or.inr rfl)) (hdef : defaultsOf params X.env = ([], []) := by rfl)
    (hbind : ∀ (q : Str) (cl : List (Str × Addr)) (pm cv ctv : Value), bindArgs (PySem.W.kla_fn "<lambda>" q params body scope cl pm cv ctv) ⟨[], []⟩ = pure [] := by intro _ _ _ _ _; rfl)
    (hdb : (x == ("__debug__" : Str)) = false := by decide) (hd1 : (a == ("__debug__" : Str)) = false := by decide) (hcd1 : (a == ("__classdict__" : Str)) = false := by decide) :
    PE X (.Call (.Name x p) [.Lambda params body scope lpos] [] pos) (liftE X.K W (dLamF T es n l dc)) := by
  obtain ⟨fd, F⟩ := F
  obtain ⟨oc, od, dV, kV, doc, pm, an, cdv, ct, osl, hfd, lk, hcd, hdv, _⟩ := F.ex
  have hdv0 : dV = .none := by
    rcases hdv with ⟨_, e⟩ | ⟨e, _⟩
    · exact e
    · exact (e rfl).elim
  subst hdv0 hfd
  have hb : L2.Binds X.K (PySem.W.fnOf x x pg bg sg .none kV doc pm an cdv ct) [a] [] := F.bindsN hps
  refine pe_wk (LamX.pe_lamcall (TT := TTF X.K n l) (t := fun E => liftE X.K (fun c d _ h => E c d h) dc) hg hm F.kp lk hcd hb Sg hNg hva (hG cdv) TB hcode hmT hu hr L hdef hbind hbody hdb hd1 hcd1) fun σ H Q ⟨ga, mu, al, hd, P, F, at_, h, kv, kx⟩ => ?_
  obtain ⟨hT0, h⟩ := h
  refine ⟨tabs_of at_.ok hT0, fun H1 eN T1 => ?_⟩
  have o1 := okay_tabs at_.ok hT0 eN T1
  have g1 := go_tabs at_.ok eN
  have kv1 := kv.to g1
  refine ⟨ga, mu, al, hd, _, _, at_.to o1 g1, h, ⟨fun d mu1 v H2 al2 h2 o2 g2 r2 => ⟨_, rfl, kv1.go _ _ _ _ _ h2 o2 g2 .non⟩⟩, ⟨fun y mu1 cls dd H2 al2 h2 o2 g2 r2 q hq => ?_⟩⟩
  refine pick_mix (Wo := DX.W0) (H := H1) (al := al) (D := { nx := fun σ H' => ∃ v, σ[1]? = some (some v) ∧ Q v H', rt := Q }) (E := { nx := fun ga2 mu2 => ∃ d, ga2[1]? = some (some d) ∧ F d mu2, rt := F, ex := fun _ _ => False }) ⟨fun ga mu sg H' al' z a g => ?_, kv1, fun _ => ⟨fun _ _ _ _ _ _ z => z.elim⟩, fun _ _ _ _ _ z _ _ => z.elim, fun _ _ _ _ _ z _ _ => z.elim⟩ hx h2.1 o2 g2 r2 hq l hy h2.2
  obtain ⟨d, e, z⟩ := z
  obtain ⟨v, hv, r⟩ := a.sl.at_ 1 d e
  exact ⟨v, hv, kv1.go _ _ _ _ _ z a.ok g r⟩
end
end DZ

/-! part DZ14 -/
/-! DZ14: a def that answers a cell made in it; the cells made behind that one are dropped at its exit. -/
namespace DZ
open PySem PySem.Spec PyProof.Rows L2 DL DQ DX
structure TrimK (mu mu' mu2 : Sto) : Prop where
  le : mu.length ≤ mu2.length
  pre : ∀ (j : Nat) (mo : MO), mu2[j]? = some mo → mu'[j]? = some mo
  ok : ∀ (j : Nat) (mo : MO), mu2[j]? = some mo → noptr mo ∨ mu[j]? = some mo
theorem TrimK.one (mu ext : Sto) (mo : MO) (h : noptr mo) : TrimK mu ((mu ++ [mo]) ++ ext) (mu ++ [mo]) := by
  refine ⟨by rw [List.length_append]; omega, fun j m e => by rw [List.getElem?_append_left (List.getElem?_eq_some_iff.mp e).1]; exact e, fun j m e => ?_⟩
  rcases Nat.lt_or_ge j mu.length with q | q
  · rw [List.getElem?_append_left q] at e
    exact .inr e
  · rw [List.getElem?_append_right q] at e
    cases z : j - mu.length with
    | zero =>
      rw [z] at e
      cases e
      exact .inl h
    | succ n =>
      rw [z] at e
      simp at e
/-- pointers told over al stay so over al2, between al and al1 -/
theorem Rep.back2 {K : PySem.W.Frag} {H H1 : Hp} {alh al1 al2 pt pt1 pt2 : List Addr} {d : D} {v v1 : V} (g : Fz H1 al1 H1 al2) (p : Pre pt pt2) (p1 : Pre pt pt1) (r : Rep K alh H pt d v) (r1 : Rep K al1 H1 pt1 d v1) : Rep K al2 H1 pt2 d v1 := by
  cases r1 with
  | ptr e1 =>
    cases r with
    | ptr e => exact .ptr ((p _ _ e).trans ((p1 _ _ e).symm.trans e1))
  | non => exact .non
  | bl => exact .bl
  | int => exact .int
  | str => exact .str
  | adr => exact .adr
  | tup a b => exact .tup (g.fzT a) (b.fz g (Pre.nil _))
  | lst a b => exact .lst (g.fzL a) (b.fz g (Pre.nil _))
  | obj a b c d => exact .obj (g _ _ a b rfl).2 b c (d.fz g (Pre.nil _))
  | err0 h => exact .err0 (h.fz g)
  | err a b c d => exact .err (g _ _ a b rfl).2 b c (d.fz g (Pre.nil _))
theorem RepL.back2 {K : PySem.W.Frag} {H H1 : Hp} {alh al1 al2 pt pt1 pt2 : List Addr} (g : Fz H1 al1 H1 al2) (p : Pre pt pt2) (p1 : Pre pt pt1) : ∀ {l : List D} {xs xs1 : List V}, RepL K alh H pt l xs → RepL K al1 H1 pt1 l xs1 → RepL K al2 H1 pt2 l xs1
  | _, _, _, .nil, .nil => .nil
  | _, _, _, .cons a r, .cons b r1 => .cons (Rep.back2 g p p1 a b) (RepL.back2 g p p1 r r1)
section
variable {K : PySem.W.Frag} {hd : List Addr} {H H1 : Hp} {al al1 : List Addr} {mu mu1 mu2 : Sto}
theorem TrimK.len (o1 : Okay K hd H1 mu1 al1) (t : TrimK mu mu1 mu2) : mu2.length ≤ al1.length := by
  rw [o1.len]
  rcases Nat.eq_zero_or_pos mu2.length with z | z
  · omega
  · have h : mu2.length - 1 < mu2.length := by omega
    have := (List.getElem?_eq_some_iff.mp (t.pre _ _ (List.getElem?_eq_getElem h))).1
    omega
theorem take_sub {a : Addr} {n : Nat} (h : a ∈ al1.take n ++ hd) : a ∈ al1 ++ hd := by
  rcases List.mem_append.mp h with h | h
  · exact List.mem_append_left _ (List.mem_of_mem_take h)
  · exact List.mem_append_right _ h
theorem Go.trimK (o : Okay K hd H mu al) (g : Go hd H al H1 al1) (t : TrimK mu mu1 mu2) : Go hd H al H1 (al1.take mu2.length) := by
  refine ⟨fun n a h => ?_, fun a ob n h q => ?_, g.hid⟩
  · have hl := (List.getElem?_eq_some_iff.mp h).1
    rw [o.len] at hl
    rw [List.getElem?_take_of_lt (Nat.lt_of_lt_of_le hl t.le)]
    exact g.pre n a h
  · exact ⟨(g.frz a ob n h q).1, fun z => (g.frz a ob n h q).2 (take_sub z)⟩
theorem Okay.trimK (o : Okay K hd H mu al) (o1 : Okay K hd H1 mu1 al1) (g : Go hd H al H1 al1) (t : TrimK mu mu1 mu2) : Okay K hd H1 mu2 (al1.take mu2.length) := by
  have hlen := t.len o1
  have back : Fz H1 (al1 ++ hd) H1 (al1.take mu2.length ++ hd) := fun a ob n h _ => ⟨h, fun z => n (take_sub z)⟩
  have gg := Go.trimK o g t
  refine ⟨by rw [List.length_take]; omega, (List.take_sublist _ _).nodup o1.nd, fun a ha => ⟨fun z => (o1.hid a ha).1 (List.mem_of_mem_take z), (o1.hid a ha).2⟩, o1.hx, fun n mo a h1 h2 => ?_⟩
  have hn := (List.getElem?_eq_some_iff.mp h1).1
  rw [List.getElem?_take_of_lt hn] at h2
  have q := o1.at_ n mo a (t.pre n mo h1) h2
  rcases t.ok n mo h1 with z | z
  · cases mo with
    | lst l =>
      obtain ⟨xs, e, r⟩ := q
      exact ⟨xs, e, r.fz back (Pre.refl _)⟩
    | dic kvs =>
      obtain ⟨vs, e, r⟩ := q
      exact ⟨vs, e, r.fz back⟩
    | dit kvs =>
      obtain ⟨vs, e, r⟩ := q
      exact ⟨vs, e, r.fz back⟩
    | dlk od ws kvs =>
      obtain ⟨vs, e, r⟩ := q
      exact ⟨vs, e, r.fz back⟩
    | dlc od ws kvs =>
      obtain ⟨vs, e, r⟩ := q
      exact ⟨vs, e, r.fz back⟩
    | tab P q =>
      obtain ⟨e0, ps, e, t2, z2⟩ := q
      refine ⟨e0, ps, e, t2, fun pos cv hc => ?_⟩
      obtain ⟨c2, e1, n2, e2⟩ := z2 pos cv hc
      exact ⟨c2, e1, (back c2 _ n2 e2 rfl).2, (back c2 _ n2 e2 rfl).1⟩
    | _ => exact z.elim
  · have hn2 := (List.getElem?_eq_some_iff.mp z).1
    have ha : al[n]? = some a := by
      have hl : n < al.length := by rw [o.len]; exact hn2
      have e := g.pre n al[n] (List.getElem?_eq_getElem hl)
      rw [h2] at e
      rw [List.getElem?_eq_getElem hl, Option.some.inj e]
    have q0 := o.at_ n mo a z ha
    cases mo with
    | lst l =>
      obtain ⟨xs, e, r⟩ := q
      exact ⟨xs, e, r.fz back (Pre.refl _)⟩
    | dic kvs =>
      obtain ⟨vs, e, r⟩ := q
      exact ⟨vs, e, r.fz back⟩
    | dit kvs =>
      obtain ⟨vs, e, r⟩ := q
      exact ⟨vs, e, r.fz back⟩
    | dlk od ws kvs =>
      obtain ⟨vs, e, r⟩ := q
      exact ⟨vs, e, r.fz back⟩
    | dlc od ws kvs =>
      obtain ⟨vs, e, r⟩ := q
      exact ⟨vs, e, r.fz back⟩
    | tab P q =>
      obtain ⟨e0, ps, e, t2, z2⟩ := q
      refine ⟨e0, ps, e, t2, fun pos cv hc => ?_⟩
      obtain ⟨c2, e1, n2, e2⟩ := z2 pos cv hc
      exact ⟨c2, e1, (back c2 _ n2 e2 rfl).2, (back c2 _ n2 e2 rfl).1⟩
    | tpl l =>
      obtain ⟨xs, e, r⟩ := q
      obtain ⟨xs0, e0, r0⟩ := q0
      exact ⟨xs, e, RepL.back2 back gg.pre g.pre r0 r⟩
    | lsp l =>
      obtain ⟨xs, e, r⟩ := q
      obtain ⟨xs0, e0, r0⟩ := q0
      exact ⟨xs, e, RepL.back2 back gg.pre g.pre r0 r⟩
    | ins c l =>
      obtain ⟨dx, xs, e, r, y⟩ := q
      obtain ⟨dx0, xs0, e0, r0, y0⟩ := q0
      exact ⟨dx, xs, e, RepL.back2 back gg.pre g.pre r0 r, y⟩
end
def endK (mu : Sto) (P : KX) (F : KD) : DEnds := { nx := fun _ _ => False, rt := fun d mu' => ∃ mu2 j, TrimK mu mu' mu2 ∧ d = .ptr j ∧ j < mu2.length ∧ F (.ptr j) mu2, ex := endX mu P }
section
variable {P : Program} {w : World} {K : PySem.W.Frag} {mg : Str → Option Value} {base : Heap} {k n : Nat} {f : Addr} {fd : FuncData} {x qual : Str} {params : Arguments} {body : List Stmt} {scope : Scope} {N ps : List Str} {sp : DSp} {dt : DS}
theorem fn_dlK (F : FunD K x qual params body scope [] [] f fd) (S : FnScope N ps scope) (hps : params.args.map (·.arg) = ps) (hn : ps.length = n)
    (hb : ∀ (kV doc pm : Value) (an : Option Addr) (cdv ct : Value) (us : List Value), us.length = ps.length → bindArgs (PySem.W.fnOf x qual params body scope .none kV doc pm an cdv ct) ⟨us, []⟩ = pure (ps.zip us))
    (ar : ∀ ds mu P F, sp ds mu P F → ds.length = n)
    (der : ∀ (cdv : Value) (A : Around) (outer : List Env) (s : Shared) (H : Hp) (E : XK), Room k (A.deeper (envOfC qual scope s.heap.objs.size f cdv)) → PSs (cxOf (L2.CX P w) P w K mg base N qual scope f cdv A outer s H E) body (liftS K (fun cls d _ H => E cls d H) dt))
    (pure : ∀ ds mu P F, sp ds mu P F → dt (endK mu P F) (gam0 N.length ds) mu) : Prom P w K mg base (k + 1) f n sp := by
  refine prom_of F hps hn (F.ok S (fun vs H Q E h => h.1.trans hn.symm) (fun cdv A outer s H vs Q E hr h => ?_)) (F.bindsN hb) ar
  obtain ⟨_, mu, al, hd, ds, P', F', o, r, h, kv, kx⟩ := h
  refine ⟨_, der cdv A outer s H E hr, _, mu, al, hd, _, ⟨o, slots0 r⟩, pure ds mu P' F' h, ⟨?_, ⟨?_⟩, fun sg => ⟨?_⟩, fun _ _ _ _ _ h _ _ => h.elim, fun _ _ _ _ _ h _ _ => h.elim⟩⟩
  · rintro ga mu' sg H' al' h a g
    exact h.elim
  · rintro d mu' v H' al' ⟨mu2, j, t, rfl, hj, h⟩ o' g r'
    refine kv.go _ _ _ _ _ h (Okay.trimK o o' g t) (Go.trimK o g t) ?_
    cases r' with
    | ptr e => exact .ptr (by rw [List.getElem?_take_of_lt hj]; exact e)
  · rintro y mu' cls dd H' al' ⟨mu2, t, h⟩ o' g r'
    exact kx.go _ _ _ _ _ _ h (o.trim o' g t) g.home (r'.home g)
end
end DZ

/-! part DZ15 -/
/-! DZ15: texts: split, join, partition, str(int), int(text), f-strings, in, walking a text. -/
namespace DZ
open PySem PySem.Spec PyProof.Rows L2 DL DQ DX
section
variable {X : Cx} {W : WX}
/-- a method of a text, one argument -/
def dStrM (g : GM) (do_ de : DE) : DE := fun ga mu P F => do_ ga mu P fun x mu1 => (∃ z, x = .str z) ∧ de ga mu1 P fun y mu2 => g x [y] mu2 F
theorem d_strM {o e : Expr} {name : Str} {apos pos : Pos} {id : String} {g : GM} {do_ de : DE} (slot : Slot "str" name id) (ty : typeOf (.builtin id) = pure (.type "method_descriptor")) (hm : MbS X id g) (ho : PE X o (liftE X.K W do_)) (he : PE X e (liftE X.K W de))
    (hs : starEach [e] X.env = [(false, eval e X.env)] := by rfl) (hbase : attributeBase o name X.env (eval o X.env) = eval o X.env := by rfl) (hline : (apos.endLine == pos.line) = true := by rfl) :
    PE X (.Call (.Attribute o name apos) [e] [] pos) (liftE X.K W (dStrM g do_ de)) := by
  obtain ⟨r, hr, k⟩ := hm
  refine pe_wk (pe_m1 slot ty hr ho he hs hbase hline) fun sg H Q ⟨ga, mu, al, hd, P, F, a, h, kv, kx⟩ => ?_
  refine ⟨ga, mu, al, hd, P, _, a, h, ⟨fun d mu1 v H1 al1 h1 o1 g1 r1 => ?_⟩, kx⟩
  obtain ⟨⟨z, rfl⟩, h1⟩ := h1
  refine ⟨⟨z, r1.str_⟩, ga, mu1, al1, hd, P, _, a.to o1 g1, h1, ⟨fun d2 mu2 v2 H2 al2 h2 o2 g2 r2 => ?_⟩, kx.to g1⟩
  exact k _ _ _ _ _ _ _ _ _ _ o2 (r1.go g2 g2.pre) (.cons r2 .nil) h2 (kv.to (g1.trans g2))
theorem repL_strs {K : PySem.W.Frag} {al pt : List Addr} {H : Hp} : ∀ ys : List Str, RepL K al H pt (ys.map D.str) (ys.map V.str)
  | [] => .nil
  | y :: ys => .cons .str (repL_strs ys)
theorem repL_strs_of {K : PySem.W.Frag} {al pt : List Addr} {H : Hp} : ∀ {ys : List Str} {xs : List V}, RepL K al H pt (ys.map D.str) xs → xs = ys.map V.str
  | [], xs, r => by
    cases r
    rfl
  | y :: ys, xs, r => by
    cases r with
    | cons r1 r2 =>
      cases r1
      rw [repL_strs_of r2]
      rfl
def gSplit (m : Nat) : GM := fun x ds mu F => match x, ds with
  | .str a, [.str b] => ((b.length == 0) = false ∧ a.length + 2 ≤ 16777216) ∧ retN m ((Txt.split a b).map D.str) mu F
  | _, _ => False
theorem m_split (m : Nat) : MbS X "str.split" (gSplit m) := by
  refine ⟨_, mt_split, fun H mu al hd x v ds vs F Q o rx rs h kv => ?_⟩
  unfold gSplit at h
  split at h
  · rename_i a b
    obtain ⟨y, ys, rfl, ry, rn⟩ := rs.cons_
    cases rn.nil_
    cases ry.str_
    cases rx.str_
    exact ⟨a, b, rfl, rfl, h.1.1, by rw [sizeLine_eq]; exact h.1.2, fun p hp => kv.listN o hp (repL_strs _) h.2⟩
  · exact h.elim
def gJoin : GM := fun x ds mu F => match x, ds with
  | .str a, [y] => ∃ ys : List Str, sv mu y = some (ys.map D.str) ∧ (ys.map (·.length)).sum + ys.length * a.length ≤ 16777216 ∧ F (.str (Txt.join a ys)) mu
  | _, _ => False
theorem m_join : MbS X "str.join" gJoin := by
  refine ⟨_, mt_join, fun H mu al hd x v ds vs F Q o rx rs h kv => ?_⟩
  unfold gJoin at h
  split at h
  · rename_i a y
    obtain ⟨u, us, rfl, ry, rn⟩ := rs.cons_
    cases rn.nil_
    cases rx.str_
    obtain ⟨ys, hy, hz, hF⟩ := h
    obtain ⟨p, xs, rfl, s, r3⟩ := ry.sv o hy
    have e := repL_strs_of r3
    subst e
    exact ⟨a, p, ys, rfl, rfl, s, hz, kv.now o hF .str⟩
  · exact h.elim
def gPartition : GM := fun x ds mu F => match x, ds with
  | .str a, [.str b] => ((b.length == 0) = false ∧ a.length ≤ 16777216) ∧ F (.tup [.str (Txt.partition a b).1, .str (Txt.partition a b).2.1, .str (Txt.partition a b).2.2]) mu
  | _, _ => False
theorem m_partition : MbS X "str.partition" gPartition := by
  refine ⟨_, mt_partition, fun H mu al hd x v ds vs F Q o rx rs h kv => ?_⟩
  unfold gPartition at h
  split at h
  · rename_i a b
    obtain ⟨y, ys, rfl, ry, rn⟩ := rs.cons_
    cases rn.nil_
    cases ry.str_
    cases rx.str_
    exact ⟨a, b, rfl, rfl, h.1.1, by rw [sizeLine_eq]; exact h.1.2, fun p hp => kv.tupleN o hp (.cons .str (.cons .str (.cons .str .nil))) h.2⟩
  · exact h.elim
/-- str(int) -/
def bStr : GL := fun ds mu F => match ds with
  | [.int i] => i.natAbs.log2 < 1920 ∧ F (.str (toString i)) mu
  | _ => False
theorem b_str : CbS X (.type "str") bStr := by
  refine ⟨_, call_str_int, fun H mu al hd ds vs F Q o r hg kv => ?_⟩
  unfold bStr at hg
  split at hg
  · rename_i i
    obtain ⟨v, ys, rfl, r1, r2⟩ := r.cons_
    cases r2.nil_
    cases r1.int_
    exact ⟨i, rfl, hg.1, kv.now o hg.2 .str⟩
  · exact hg.elim
/-- int(text) -/
def bIntS : GL := fun ds mu F => match ds with
  | [.str a] => ∃ n, PySem.intText? a = some n ∧ a.length ≤ 640 ∧ F (.int n) mu
  | _ => False
theorem b_intS : CbS X (.type "int") bIntS := by
  refine ⟨_, call_int_str, fun H mu al hd ds vs F Q o r hg kv => ?_⟩
  unfold bIntS at hg
  split at hg
  · rename_i a
    obtain ⟨v, ys, rfl, r1, r2⟩ := r.cons_
    cases r2.nil_
    cases r1.str_
    obtain ⟨n, h1, h2, hF⟩ := hg
    exact ⟨a, n, rfl, h1, h2, kv.now o hF .int⟩
  · exact hg.elim
/-- x in y, two texts -/
def gInS : G2 := fun x y mu _ F => match x, y with
  | .str i, .str j => F (.bl (!(Builtin.Str.occurrences j i 0 j.length 1).isEmpty)) mu
  | _, _ => False
theorem o_inS : OpS X (compareOp .In) (liftR X.K W gInS) := by
  refine ops_wk (opr_s op_in_str) fun sg x y H Q ⟨mu, al, hd, d, e, P, F, o, r1, r2, h, kv, kx⟩ => ?_
  unfold gInS at h
  split at h
  · rename_i i j
    cases r1.str_
    cases r2.str_
    exact ⟨i, j, rfl, rfl, kv.now o h .bl⟩
  · exact h.elim
/-! ### f-strings -/
def dFmt (de : DE) : DE := fun ga mu P F => de ga mu P fun x mu1 => match x with
  | .str y => y.length ≤ 16777216 ∧ F (.str y) mu1
  | .int i => i.natAbs.log2 < 1920 ∧ F (.str (toString i)) mu1
  | _ => False
theorem d_fmt {e : Expr} {de : DE} {pos : Pos} (he : PE X e (liftE X.K W de)) : PE X (.FormattedValue e (-1) none pos) (liftE X.K W (dFmt de)) := by
  refine pe_wk (pe_fmt he) fun sg H Q ⟨ga, mu, al, hd, P, F, a, h, kv, kx⟩ => ?_
  refine ⟨ga, mu, al, hd, P, _, a, h, ⟨fun d mu1 v H1 al1 h1 o1 g1 r1 => ?_⟩, kx⟩
  cases d <;> try exact h1.elim
  · cases r1.int_
    exact .inr ⟨_, rfl, h1.1, (kv.to g1).now o1 h1.2 .str⟩
  · cases r1.str_
    exact .inl ⟨_, rfl, by rw [sizeLine_eq]; exact h1.1, (kv.to g1).now o1 h1.2 .str⟩
def dJL : List DE → Str → Gam → Sto → KX → (Str → Sto → Prop) → Prop
  | [], acc, _, mu, _, F => F acc mu
  | de :: ds, acc, ga, mu, P, F => de ga mu P fun x mu1 => ∃ y, x = .str y ∧ (acc ++ y).length ≤ 16777216 ∧ dJL ds (acc ++ y) ga mu1 P F
def dJs (ds : List DE) : DE := fun ga mu P F => dJL ds Str.empty ga mu P fun out mu1 => F (.str out) mu1
theorem jl_tJs {sg : L2.St} : ∀ (ds : List DE) (acc : Str) {ga : Gam} {mu : Sto} {al hd : List Addr} {P : KX} {F : Str → Sto → Prop} {H : Hp} {Q : Str → Hp → Prop}, At X.K hd ga mu al sg H → dJL ds acc ga mu P F →
    (∀ out mu1 H1 al1, F out mu1 → Okay X.K hd H1 mu1 al1 → Go hd H al H1 al1 → Q out H1) → Kx X.K hd (fun c d h => W c d sg h) H al P → tJs (ds.map (liftE X.K W)) acc sg H Q
  | [], acc, ga, mu, al, hd, P, F, H, Q, a, h, k, _ => k acc mu H al h a.ok (Go.refl _ _)
  | de :: ds, acc, ga, mu, al, hd, P, F, H, Q, a, h, k, kx => by
    refine ⟨ga, mu, al, hd, P, _, a, h, ⟨fun x mu1 v H1 al1 h1 o1 g1 r1 => ?_⟩, kx⟩
    obtain ⟨y, rfl, hz, h1⟩ := h1
    exact ⟨y, r1.str_, by rw [sizeLine_eq]; exact hz, jl_tJs ds _ (a.to o1 g1) h1 (fun out mu2 H2 al2 hF o2 g2 => k out mu2 H2 al2 hF o2 (g1.trans g2)) (kx.to g1)⟩
theorem d_js {v1 v2 : Expr} {rest : List Expr} {ds : List DE} {pos : Pos} (h : PJ X (v1 :: v2 :: rest) (ds.map (liftE X.K W))) : PE X (.JoinedStr (v1 :: v2 :: rest) pos) (liftE X.K W (dJs ds)) :=
  pe_wk (pe_joined h) fun sg H Q ⟨ga, mu, al, hd, P, F, a, hw, kv, kx⟩ => jl_tJs ds _ a hw (fun out mu1 H1 al1 hF o1 g1 => (kv.to g1).now o1 hF .str) kx
/-! ### walking a text -/
def chrs (x : Str) : List D := x.cps.toList.map fun c => D.str ⟨#[c]⟩
def iChr (de : DE) : DI := fun ga mu P F => de ga mu P fun x mu1 => match x with
  | .str z => F (chrs z) (fun _ => True) mu1
  | _ => False
theorem wk_chr {K : PySem.W.Frag} {z : Str} {hd0 : List Addr} {H0 : Hp} {al0 : List Addr} : WkOk K (Its z) (chrs z) (fun _ => True) hd0 H0 al0 := by
  have hl : (chrs z).length = z.cps.size := by unfold chrs; rw [List.length_map, Array.length_toList]
  refine ⟨fun hd H mu al g pr o h => ?_, fun hd H mu al i g pr o h hi => ?_, fun hd H mu al i v H' g pr o h hi y => ?_⟩
  · show z.cps.size ≤ (chrs z).length
    omega
  · show i < z.cps.size
    omega
  · obtain ⟨rfl, c, hc, rfl⟩ := y
    refine ⟨.str ⟨#[c]⟩, ?_, o, Go.refl _ _, .str⟩
    unfold chrs
    rw [List.getElem?_map, Array.getElem?_toList, hc]
    rfl
theorem di_chr {tg e : Expr} {de : DE} (h : PE X e (liftE X.K W de)) : PI X tg e (liftI X.K W (iChr de)) := by
  refine pi_wk (pi_str h) fun sg H R ⟨ga, mu, al, hd, P, F, a, h, k, kx⟩ => ?_
  refine ⟨ga, mu, al, hd, P, _, a, h, ⟨fun d mu1 v H1 al1 h1 o1 g1 r1 => ?_⟩, kx⟩
  cases d <;> try exact h1.elim
  rename_i z
  exact ⟨z, r1.str_, k _ _ _ _ _ _ h1 o1 g1 wk_chr⟩
end
end DZ

/-! part DZ16 -/
/-! DZ16: a dict display is a new cell (keys ints and texts, values without pointers). -/
namespace DZ
open PySem PySem.Spec PyProof.Rows L2 DL DQ DX
def dPrs : List (DE × DE) → Gam → Sto → KX → (List (D × D) → Sto → Prop) → Prop
  | [], _, mu, _, F => F [] mu
  | p :: r, ga, mu, P, F => p.1 ga mu P fun x mu1 => p.2 ga mu1 P fun y mu2 => dPrs r ga mu2 P fun ps mu3 => F ((x, y) :: ps) mu3
def mergeE (kvs : List (Key × D)) (more : List (Key × D)) : List (Key × D) := more.foldl (fun l p => putE l p.1 p.2) kvs
def keysE : List (D × D) → Option (List (Key × D))
  | [] => some []
  | p :: r => (keyD p.1).bind fun k => (keysE r).map fun l => (k, p.2) :: l
def dDisp (prs : List (DE × DE)) : DE := fun ga mu P F => dPrs prs ga (mu ++ [.dic []]) P fun ps mu2 => mu2[mu.length]? = some (.dic []) ∧ ∃ kvs, keysE ps = some kvs ∧ (∀ p ∈ kvs, np p.2) ∧ kvs.length ≤ 15 ∧ F (.ptr mu.length) (mu2.set mu.length (.dic (mergeE [] kvs)))
inductive RepPs (K : PySem.W.Frag) (ad : List Addr) (H : Hp) (al : List Addr) : List (D × D) → List (V × V) → Prop where
  | nil : RepPs K ad H al [] []
  | cons {x y : D} {v u : V} {ps : List (D × D)} {xs : List (V × V)} (h1 : Rep K ad H al x v) (h2 : Rep K ad H al y u) (t : RepPs K ad H al ps xs) : RepPs K ad H al ((x, y) :: ps) ((v, u) :: xs)
section
variable {X : Cx} {W : WX}
theorem RepPs.go {K : PySem.W.Frag} {hd al al1 : List Addr} {H H1 : Hp} (g : Go hd H al H1 al1) : ∀ {ps : List (D × D)} {xs : List (V × V)}, RepPs K (al ++ hd) H al ps xs → RepPs K (al1 ++ hd) H1 al1 ps xs
  | _, _, .nil => .nil
  | _, _, .cons a b t => .cons (a.go g g.pre) (b.go g g.pre) (RepPs.go g t)
theorem prs_tPairs {sg : L2.St} : ∀ (prs : List (DE × DE)) {ga : Gam} {mu : Sto} {al hd : List Addr} {P : KX} {F : List (D × D) → Sto → Prop} {H : Hp} {Q : List (V × V) → Hp → Prop}, At X.K hd ga mu al sg H → dPrs prs ga mu P F →
    (∀ ps mu1 H1 al1 xs, F ps mu1 → Okay X.K hd H1 mu1 al1 → Go hd H al H1 al1 → RepPs X.K (al1 ++ hd) H1 al1 ps xs → Q xs H1) → Kx X.K hd (fun c d h => W c d sg h) H al P → tPairs (prs.map fun p => (liftE X.K W p.1, liftE X.K W p.2)) sg H Q
  | [], ga, mu, al, hd, P, F, H, Q, a, h, k, _ => k [] mu H al [] h a.ok (Go.refl _ _) .nil
  | (dk, dv) :: prs, ga, mu, al, hd, P, F, H, Q, a, h, k, kx => by
    show liftE X.K W dk sg H fun x H1 => liftE X.K W dv sg H1 fun y H2 => tPairs (prs.map fun p => (liftE X.K W p.1, liftE X.K W p.2)) sg H2 fun r H3 => Q ((x, y) :: r) H3
    refine ⟨ga, mu, al, hd, P, _, a, h, ⟨fun x mu1 v H1 al1 h1 o1 g1 r1 => ?_⟩, kx⟩
    refine ⟨ga, mu1, al1, hd, P, _, a.to o1 g1, h1, ⟨fun y mu2 u H2 al2 h2 o2 g2 r2 => ?_⟩, kx.to g1⟩
    refine prs_tPairs prs ((a.to o1 g1).to o2 g2) h2 (fun ps mu3 H3 al3 xs hF o3 g3 r3 => ?_) (kx.to (g1.trans g2))
    exact k _ mu3 H3 al3 _ hF o3 ((g1.trans g2).trans g3) (.cons (r1.go (g2.trans g3) (g2.trans g3).pre) (r2.go g3 g3.pre) r3)
theorem repps_kv {K : PySem.W.Frag} {hd al : List Addr} {H : Hp} : ∀ {ps : List (D × D)} {xs : List (V × V)} {kvs : List (Key × D)}, RepPs K (al ++ hd) H al ps xs → keysE ps = some kvs → (∀ p ∈ kvs, np p.2) →
    ∃ vs : List (Key × V), xs = vs.map (fun kv => (kV kv.1, kv.2)) ∧ RepKV K (al ++ hd) H kvs vs
  | [], _, kvs, .nil, h, _ => by
    cases h
    exact ⟨[], rfl, trivial⟩
  | (x, y) :: ps, _, kvs, .cons r1 r2 t, h, hn => by
    unfold keysE at h
    cases e1 : keyD x with
    | none =>
      rw [show keyD (x, y).1 = none from e1] at h
      cases h
    | some k =>
      rw [show keyD (x, y).1 = some k from e1] at h
      cases e2 : keysE ps with
      | none =>
        rw [e2] at h
        cases h
      | some l =>
        rw [e2] at h
        cases h
        obtain ⟨vs, rfl, rk⟩ := repps_kv t e2 fun p hp => hn p (List.mem_cons_of_mem _ hp)
        have e3 := rep_key r1 e1
        subst e3
        exact ⟨(k, _) :: vs, rfl, rfl, r2.np (hn (k, y) List.mem_cons_self), rk⟩
theorem kv_merge {K : PySem.W.Frag} {al : List Addr} {H : Hp} : ∀ {kvs : List (Key × D)} {vs : List (Key × V)} {l : List (Key × D)} {xs : List (Key × V)}, RepKV K al H kvs vs → RepKV K al H l xs → RepKV K al H (mergeE l kvs) (mergeK xs vs)
  | [], [], l, xs, _, r => r
  | (k, d) :: kvs, (j, v) :: vs, l, xs, r0, r => by
    obtain ⟨rfl, r1, r2⟩ := r0
    show RepKV _ _ _ (mergeE (putE l k d) kvs) (mergeK (putK xs k v) vs)
    exact kv_merge r2 (ke_put r r1)
  | [], _ :: _, _, _, r0, _ => r0.elim
  | _ :: _, [], _, _, r0, _ => r0.elim
theorem d_disp {pos : Pos} {keys : List (Option Expr)} {values : List Expr} {prs : List (DE × DE)} (h : PPs X pos keys values (prs.map fun p => (liftE X.K W p.1, liftE X.K W p.2))) (hall : keys.all (·.isSome) = true := by rfl) (hl : keys.length = values.length := by rfl) (h0 : keys ≠ [] := by simp)
    (h15 : keys.length ≤ 15 := by decide) : PE X (.Dict keys values pos) (liftE X.K W (dDisp prs)) := by
  refine pe_wk (pe_disp h hall hl h0 h15) fun sg H Q ⟨ga, mu, al, hd, P, F, a, hw, kv, kx⟩ p hp => ?_
  have g0 := Go.cell (hd := hd) a.ok hp (upd_keep (o := .dK []) hp)
  have o0 := Okay.cell a.ok hp (upd_keep (o := .dK []) hp) (mo := .dic []) ⟨[], upd_same, trivial⟩
  have a0 : At X.K hd ga (mu ++ [.dic []]) (al ++ [p]) sg (upd H p (.dK [])) := a.to o0 g0
  refine prs_tPairs prs a0 hw (fun ps mu1 H1 al1 xs hF o1 g1 r1 => ?_) (kx.to g0)
  obtain ⟨hm, kvs, hk, hn, hz, hF⟩ := hF
  obtain ⟨vs, rfl, rk⟩ := repps_kv r1 hk hn
  have hlen : al.length = mu.length := a.ok.len
  have ep : al1[mu.length]? = some p := g1.pre mu.length p (by rw [← hlen]; simp)
  obtain ⟨vs0, e0, rk0⟩ := o1.at_ _ _ p hm ep
  have z0 : vs0 = [] := by
    cases vs0 with
    | nil => rfl
    | cons q qs => exact rk0.elim
  subst z0
  have lv : kvs.length = vs.length := ke_len rk
  refine ⟨e0, vs, rfl, by omega, ?_⟩
  have gw := Go.write (hd := hd) (H' := upd H1 p (.dK (mergeK [] vs))) o1 ep fun b hb => upd_ne hb
  have gg := (g0.trans g1).trans gw
  exact kv.go _ _ _ _ _ hF (o1.write (mo := .dic (mergeE [] kvs)) ep (fun b hb => upd_ne hb) ⟨_, upd_same, RepKV.go gw (kv_merge rk trivial)⟩) gg (.ptr (gw.pre _ _ ep))
end
end DZ

/-! part W71 -/
namespace LW
open PySem PySem.Spec PyProof.Rows L2 DL DQ DX DZ
/-! ### what the defs promise -/
def knd : Nat → Str
  | 0 => "memory" | 1 => "store" | 2 => "flush" | 3 => "fence" | 4 => "program" | 6 => "box" | 7 => "parted" | 8 => "fenced" | 9 => "never" | 10 => "is" | 11 => "copy" | 12 => "step" | 13 => "recovery" | 14 => "failed"
  | _ => ""
def spKind (c : Nat) : DSp := fun ds mu _ F => ∃ l, ds = [.obj c l] ∧ F (.str (knd c)) mu
def spFacts (c : Nat) : DSp := fun ds mu _ F => ∃ l, ds = [.obj c l] ∧ objOk (.obj c l) ∧ F (.tup l) mu
def mt_kind : Nat → Option DSp := fun c => if thg c = true then some (spKind c) else none
def mt_facts : Nat → Option DSp := fun c => if thg c = true then some (spFacts c) else none
/-- the fields are set as they come -/
def spInit (c n : Nat) : DSp := fun ds mu _ F => ∃ j args, ds = .ptr j :: args ∧ args.length = n ∧ mu[j]? = some (.ins c []) ∧ F .non (mu.set j (.ins c args))
def gObj (c n : Nat) : DSp := fun ds mu _ F => (ds.length = n ∧ npL ds) ∧ F (.obj c ds) mu
abbrev iL (ns : List Int) : List D := ns.map D.int
def sizesOk (ns : List Int) : Prop := (1 ≤ ns.length ∧ ns.length ≤ 6) ∧ ∀ x ∈ ns, 1 ≤ x ∧ x ≤ 4
def src (a b c : Int) : MO := .lst [.int a, .int b, .int c]
def srcOk (mu : Sto) (n : Nat) : Prop := ∃ a b c, mu[n]? = some (src a b c)
/-! ### commands -/
inductive Cmd where
  | st (a b c : Int) | fl (a : Int) | fe
  deriving DecidableEq
abbrev Me (ns : List Int) : D := .obj 0 [.tup (iL ns)]
def Cmd.d : Cmd → D
  | .st a b c => .obj 1 [.int a, .int b, .int c]
  | .fl a => .obj 2 [.int a]
  | .fe => .obj 3 []
def lnOk (ns : List Int) (a : Int) : Prop := 0 ≤ a ∧ a < ns.length
def wdOk (ns : List Int) (a b : Int) : Prop := lnOk ns a ∧ 0 ≤ b ∧ b < ns.getD a.toNat 0
def Cmd.ok (ns : List Int) : Cmd → Prop
  | .st a b _ => wdOk ns a b
  | .fl a => lnOk ns a
  | .fe => True
abbrev Pr (ns : List Int) (cs : List Cmd) : D := .obj 4 [Me ns, .tup (cs.map Cmd.d)]
def csOk (ns : List Int) (cs : List Cmd) : Prop := cs.length ≤ 200 ∧ ∀ c ∈ cs, c.ok ns
abbrev sp_Thing_facts := spFacts 3
def sp_Thing_kind : DSp := fun ds mu _ F => ∃ x, ds = [x] ∧ F (.str "") mu
def sp_Memory___init__ : DSp := fun ds mu _ F => ∃ j x ns, ds = [.ptr j, x] ∧ mu[j]? = some (.ins 0 []) ∧ sv mu x = some (iL ns) ∧ sizesOk ns ∧ F .non (mu.set j (.ins 0 [.tup (iL ns)]))
def g_Memory : DSp := fun ds mu _ F => ∃ x ns, ds = [x] ∧ sv mu x = some (iL ns) ∧ sizesOk ns ∧ F (Me ns) mu
abbrev sp_Memory_kind := spKind 0
abbrev sp_Memory_facts := spFacts 0
def sp_Memory_check_line : DSp := fun ds mu _ F => ∃ ns a, ds = [Me ns, .int a] ∧ lnOk ns a ∧ F .non mu
def sp_Memory_check_word : DSp := fun ds mu _ F => ∃ ns a b, ds = [Me ns, .int a, .int b] ∧ wdOk ns a b ∧ F .non mu
abbrev sp_Store___init__ := spInit 1 3
abbrev g_Store := gObj 1 3
abbrev sp_Store_kind := spKind 1
abbrev sp_Store_facts := spFacts 1
abbrev sp_Flush___init__ := spInit 2 1
abbrev g_Flush := gObj 2 1
abbrev sp_Flush_kind := spKind 2
abbrev sp_Flush_facts := spFacts 2
abbrev sp_Fence_kind := spKind 3
def sp_Command_check : DSp := fun ds mu _ F => ∃ x y, ds = [x, y] ∧ F .non mu
def sp_Store_check : DSp := fun ds mu _ F => ∃ ns a b c, ds = [Cmd.d (.st a b c), Me ns] ∧ wdOk ns a b ∧ F .non mu
def sp_Flush_check : DSp := fun ds mu _ F => ∃ ns a, ds = [Cmd.d (.fl a), Me ns] ∧ lnOk ns a ∧ F .non mu
def sp_check_commands : DSp := fun ds mu _ F => ∃ ns cs, ds = [Me ns, .tup (cs.map Cmd.d)] ∧ csOk ns cs ∧ F .non mu
def sp_Program___init__ : DSp := fun ds mu _ F => ∃ j x ns cs, ds = [.ptr j, Me ns, x] ∧ mu[j]? = some (.ins 4 []) ∧ sv mu x = some (cs.map Cmd.d) ∧ csOk ns cs ∧ F .non (mu.set j (.ins 4 [Me ns, .tup (cs.map Cmd.d)]))
def g_Program : DSp := fun ds mu _ F => ∃ x ns cs, ds = [Me ns, x] ∧ sv mu x = some (cs.map Cmd.d) ∧ csOk ns cs ∧ F (Pr ns cs) mu
abbrev sp_Program_kind := spKind 4
abbrev sp_Program_facts := spFacts 4
def sp_Program___add__ : DSp := fun ds mu _ F => ∃ ns cs cs', ds = [Pr ns cs, Pr ns cs'] ∧ csOk ns (cs ++ cs') ∧ F (Pr ns (cs ++ cs')) mu
/-! ### the law's own -/
/-- a spec: its kind (0 store, 1 flush, else fence), line, word, number -/
structure LS where
  k : Nat
  a : Int
  b : Int
  c : Int
def kn : Nat → Str
  | 0 => "store" | 1 => "flush" | _ => "fence"
def LS.d (s : LS) : D := .tup [.str (kn s.k), .int s.a, .int s.b, .int s.c]
def LS.cmd (s : LS) : Cmd := match s.k with
  | 0 => .st s.a s.b s.c
  | 1 => .fl s.a
  | _ => .fe
/-- a number of at most 31 figures -/
def nOk (i : Int) : Prop := -(10 ^ 31) < i ∧ i < 10 ^ 31
def LS.ok (ns : List Int) (s : LS) : Prop := wdOk ns s.a s.b ∧ nOk s.c
abbrev sD (ss : List LS) : List D := ss.map LS.d
def sp__law_source : DSp := fun ds mu _ F => ∃ x : Int, ds = [.int x] ∧ ∀ a b c, F (.ptr mu.length) (mu ++ [src a b c])
def sp__law_draw : DSp := fun ds mu _ F => ∃ (n : Nat) (many : Int), ds = [.ptr n, .int many] ∧ (0 < many ∧ many < 2 ^ 64) ∧ srcOk mu n ∧ ∀ r a b c, 0 ≤ r → r < many → F (.int r) (mu.set n (src a b c))
def sp__law_pick : DSp := fun ds mu _ F => ∃ (n : Nat) (l : List D), ds = [.ptr n, .lst l] ∧ (0 < l.length ∧ l.length < 1000) ∧ srcOk mu n ∧ ∀ d a b c, d ∈ l → F d (mu.set n (src a b c))
def sp__law_sizes : DSp := fun ds mu _ F => ∃ (n : Nat) (most : Int), ds = [.ptr n, .int most] ∧ (0 < most ∧ most < 1000) ∧ srcOk mu n ∧ ∀ (ns : List Int) a b c, 1 ≤ ns.length → (ns.length : Int) ≤ most → (∀ x ∈ ns, 1 ≤ x ∧ x ≤ 4) → F (.lst (iL ns)) (mu.set n (src a b c))
def sp__law_number : DSp := fun ds mu _ F => ∃ n, ds = [.ptr n] ∧ srcOk mu n ∧ ∀ (r : Int) a b c, nOk r → F (.int r) (mu.set n (src a b c))
def sp__law_specs : DSp := fun ds mu _ F => ∃ (n : Nat) (ns : List Int) (least most : Int), ds = [.ptr n, .lst (iL ns), .int least, .int most] ∧ (0 ≤ least ∧ least ≤ most ∧ most ≤ 200) ∧ sizesOk ns ∧ srcOk mu n ∧ ∀ (ss : List LS) a b c, least ≤ ss.length → (ss.length : Int) ≤ most → (∀ s ∈ ss, s.ok ns) → F (.ptr mu.length) (mu.set n (src a b c) ++ [.lst (sD ss)])
def sp__law_command : DSp := fun ds mu _ F => ∃ s : LS, ds = [s.d] ∧ F s.cmd.d mu
def sp__law_program : DSp := fun ds mu _ F => ∃ x y ns ss, ds = [x, y] ∧ sv mu x = some (iL ns) ∧ lv mu y = some (sD ss) ∧ sizesOk ns ∧ ss.length ≤ 200 ∧ (∀ s ∈ ss, s.ok ns) ∧ F (Pr ns (ss.map LS.cmd)) mu
/-! ### texts -/
open TL
def figs (l : List Nat) : List Nat := if l.head? = some 45 then l.drop 1 else l
def isFig (c : Nat) : Bool := decide (48 ≤ c ∧ c ≤ 57)
def okNum (l : List Nat) : Bool := decide (1 ≤ (figs l).length ∧ (figs l).length ≤ 31) && (figs l).all isFig && !(decide ((figs l).head? = some 48) && !decide (l = [48]))
def valN (l : List Nat) : Int := if l.head? = some 45 then -((NumText.digitsVal (figs l) : Nat) : Int) else ((NumText.digitsVal l : Nat) : Int)
def rdNum (x : Str) : Option Int := if okNum (tl x) = true then some (valN (tl x)) else none
def rdNums : List Str → Option (List Int)
  | [] => some []
  | x :: r => match rdNum x with
    | none => none
    | some i => (rdNums r).map (i :: ·)
def orP (o : Option α) (x : Exn) (mu : Sto) (P : KX) (F : α → Prop) : Prop := match o with
  | none => P x mu
  | some a => F a
def sp_read_number : DSp := fun ds mu P F => ∃ (x : Str) (p : Int), ds = [.str x, .int p] ∧ x.length ≤ 100000 ∧ orP (rdNum x) (15, [.int p]) mu P fun i => F (.int i) mu
def numS (i : Int) : Str := Str.ofString (toString i)
def cText : Cmd → Str
  | .st a b c => ((((("store " : Str) ++ numS a) ++ " ") ++ numS b) ++ " ") ++ numS c
  | .fl a => ("flush " : Str) ++ numS a
  | .fe => "fence"
def Cmd.nOk : Cmd → Prop
  | .st a b c => LW.nOk a ∧ LW.nOk b ∧ LW.nOk c
  | .fl a => LW.nOk a
  | .fe => True
def sp_command_text : DSp := fun ds mu _ F => ∃ c : Cmd, ds = [c.d] ∧ c.nOk ∧ F (.str (cText c)) mu
def mkCmd (x : Str) (w : Str) (l : List Int) : Option Cmd := match l with
  | [a, b, c] => if w = "store" then some (.st a b c) else none
  | [a] => if w = "flush" then some (.fl a) else none
  | _ => if x = "fence" then some .fe else none
def rdCmd (x : Str) : Option Cmd := match Txt.split x " " with
  | [] => none
  | w :: r => match rdNums r with
    | none => none
    | some l => if w = "store" ∧ l.length = 3 then mkCmd x w l else if w = "flush" ∧ l.length = 1 then mkCmd x w l else if x = "fence" then some .fe else none
def sp_read_command : DSp := fun ds mu P F => ∃ (x : Str) (p : Int) (c : Cmd), ds = [.str x, .int p] ∧ x.length ≤ 100000 ∧ rdCmd x = some c ∧ F c.d mu
def pText (cs : List Cmd) : Str := if cs = [] then "none" else Txt.join ", " (cs.map cText)
def sp_program_text : DSp := fun ds mu _ F => ∃ ns cs, ds = [Pr ns cs] ∧ cs.length ≤ 200 ∧ (∀ c ∈ cs, c.nOk) ∧ F (.str (pText cs)) mu
/-- the parts of a text as commands -/
def rdCmds : List Str → Option (List Cmd)
  | [] => some []
  | x :: r => match rdCmd x with
    | none => none
    | some c => (rdCmds r).map (c :: ·)
def rdP (x : Str) : Option (List Cmd) := if x = "none" then some [] else rdCmds (Txt.split x ", ")
def sp_read_program : DSp := fun ds mu _ F => ∃ (ns : List Int) (x : Str) (cs : List Cmd), ds = [Me ns, .str x] ∧ sizesOk ns ∧ x.length ≤ 100000 ∧ rdP x = some cs ∧ csOk ns cs ∧ F (Pr ns cs) mu
/-! ### the law's own -/
def LS.nums (s : LS) : List Int := match s.k with
  | 0 => [s.a, s.b, s.c]
  | 1 => [s.a]
  | _ => []
def LS.txt (s : LS) : Str := Txt.join " " (kn s.k :: s.nums.map numS)
def lText (ss : List LS) : Str := if ss = [] then "none" else Txt.join ", " (ss.map LS.txt)
def lsOk (s : LS) : Prop := nOk s.a ∧ nOk s.b ∧ nOk s.c
def sp__law_text : DSp := fun ds mu _ F => ∃ x ss, ds = [x] ∧ lv mu x = some (sD ss) ∧ ss.length ≤ 200 ∧ (∀ s ∈ ss, lsOk s) ∧ F (.str (lText ss)) mu
def Cmd.sh : Cmd → D
  | .st a b c => .tup [.str "store", .int a, .int b, .int c]
  | .fl a => .tup [.str "flush", .int a]
  | .fe => .tup [.str "fence"]
def sp__law_shown : DSp := fun ds mu _ F => ∃ cs : List Cmd, ds = [.tup (cs.map Cmd.d)] ∧ cs.length ≤ 1000 ∧ F (.lst (cs.map Cmd.sh)) mu
def sp__law_due : DSp := fun ds mu _ F => ∃ x ss, ds = [x] ∧ lv mu x = some (sD ss) ∧ ss.length ≤ 1000 ∧ F (.lst (ss.map fun s => s.cmd.sh)) mu
def sp__law_right : DSp := fun ds mu _ F => ∃ n, ds = [.ptr n] ∧ srcOk mu n ∧ ∀ a b c, F (.bl true) (mu.set n (src a b c))

def mt_check : Nat → Option DSp
  | 1 => some sp_Store_check
  | 2 => some sp_Flush_check
  | 3 => some sp_Command_check
  | _ => none
def mt_check_line : Nat → Option DSp
  | 0 => some sp_Memory_check_line
  | _ => none
def mt_check_word : Nat → Option DSp
  | 0 => some sp_Memory_check_word
  | _ => none
def ix_commands : Nat → Option Nat
  | 4 => some 1
  | 16 => some 1
  | _ => none
theorem ft_commands : FldT "commands" ix_commands := ⟨fun c k h => by
  unfold ix_commands at h
  split at h <;> cases h <;> exact ⟨rfl, by decide +kernel⟩⟩
def ix_line : Nat → Option Nat
  | 1 => some 0
  | 2 => some 0
  | 10 => some 0
  | 11 => some 0
  | _ => none
theorem ft_line : FldT "line" ix_line := ⟨fun c k h => by
  unfold ix_line at h
  split at h <;> cases h <;> exact ⟨rfl, by decide +kernel⟩⟩
def ix_memory : Nat → Option Nat
  | 4 => some 0
  | 13 => some 0
  | 16 => some 0
  | _ => none
theorem ft_memory : FldT "memory" ix_memory := ⟨fun c k h => by
  unfold ix_memory at h
  split at h <;> cases h <;> exact ⟨rfl, by decide +kernel⟩⟩
def ix_number : Nat → Option Nat
  | 1 => some 2
  | _ => none
theorem ft_number : FldT "number" ix_number := ⟨fun c k h => by
  unfold ix_number at h
  split at h <;> cases h <;> exact ⟨rfl, by decide +kernel⟩⟩
def ix_sizes : Nat → Option Nat
  | 0 => some 0
  | _ => none
theorem ft_sizes : FldT "sizes" ix_sizes := ⟨fun c k h => by
  unfold ix_sizes at h
  split at h <;> cases h <;> exact ⟨rfl, by decide +kernel⟩⟩
def ix_word : Nat → Option Nat
  | 1 => some 1
  | 10 => some 1
  | 11 => some 1
  | _ => none
theorem ft_word : FldT "word" ix_word := ⟨fun c k h => by
  unfold ix_word at h
  split at h <;> cases h <;> exact ⟨rfl, by decide +kernel⟩⟩
structure Tx (K : PySem.W.Frag) (mg : Str → Option Value) : Prop where
  g_law : mg "law" = some (.ref (He.ga K "law"))
  i_BETWEEN : ∃ t, mg "BETWEEN" = some (.str ", " t)
  g_BadCount : mg "BadCount" = some (.ref (He.ga K "BadCount"))
  g_BadText : mg "BadText" = some (.ref (He.ga K "BadText"))
  i_FIGURES : ∃ t, mg "FIGURES" = some (.str "0123456789" t)
  g_Fence : mg "Fence" = some (.ref (He.ga K "Fence"))
  g_Flush : mg "Flush" = some (.ref (He.ga K "Flush"))
  i_MOST_COMMANDS : ∃ t, mg "MOST_COMMANDS" = some (.int 200 t)
  i_MOST_FIGURES : ∃ t, mg "MOST_FIGURES" = some (.int 31 t)
  i_MOST_LINES : ∃ t, mg "MOST_LINES" = some (.int 6 t)
  i_MOST_WORDS : ∃ t, mg "MOST_WORDS" = some (.int 4 t)
  g_Memory : mg "Memory" = some (.ref (He.ga K "Memory"))
  i_NONE : ∃ t, mg "NONE" = some (.str "none" t)
  g_NoLine : mg "NoLine" = some (.ref (He.ga K "NoLine"))
  g_NoWord : mg "NoWord" = some (.ref (He.ga K "NoWord"))
  g_OtherMemory : mg "OtherMemory" = some (.ref (He.ga K "OtherMemory"))
  g_Program : mg "Program" = some (.ref (He.ga K "Program"))
  g_Store : mg "Store" = some (.ref (He.ga K "Store"))
  g_Thing : mg "Thing" = some (.ref (He.ga K "Thing"))
  g__law_command : mg "_law_command" = some (.ref (He.ga K "_law_command"))
  g__law_draw : mg "_law_draw" = some (.ref (He.ga K "_law_draw"))
  g__law_due : mg "_law_due" = some (.ref (He.ga K "_law_due"))
  g__law_number : mg "_law_number" = some (.ref (He.ga K "_law_number"))
  g__law_pick : mg "_law_pick" = some (.ref (He.ga K "_law_pick"))
  g__law_program : mg "_law_program" = some (.ref (He.ga K "_law_program"))
  g__law_right : mg "_law_right" = some (.ref (He.ga K "_law_right"))
  g__law_shown : mg "_law_shown" = some (.ref (He.ga K "_law_shown"))
  g__law_sizes : mg "_law_sizes" = some (.ref (He.ga K "_law_sizes"))
  g__law_source : mg "_law_source" = some (.ref (He.ga K "_law_source"))
  g__law_specs : mg "_law_specs" = some (.ref (He.ga K "_law_specs"))
  g__law_text : mg "_law_text" = some (.ref (He.ga K "_law_text"))
  f_abs : mg "abs" = none
  f_all : mg "all" = none
  g_check_commands : mg "check_commands" = some (.ref (He.ga K "check_commands"))
  g_command_text : mg "command_text" = some (.ref (He.ga K "command_text"))
  f_enumerate : mg "enumerate" = none
  f_int : mg "int" = none
  f_isinstance : mg "isinstance" = none
  f_len : mg "len" = none
  g_program_text : mg "program_text" = some (.ref (He.ga K "program_text"))
  f_range : mg "range" = none
  g_read_command : mg "read_command" = some (.ref (He.ga K "read_command"))
  g_read_number : mg "read_number" = some (.ref (He.ga K "read_number"))
  g_read_program : mg "read_program" = some (.ref (He.ga K "read_program"))
  f_str : mg "str" = none
  f_tuple : mg "tuple" = none
  mk_Memory : Mk K (He.ga K "Memory") (He.ma K (He.ga K "Memory") "__init__")
  me_Memory_kind : Meth K (He.ga K "Memory") "kind" (He.ma K (He.ga K "Memory") "kind")
  me_Memory_facts : Meth K (He.ga K "Memory") "facts" (He.ma K (He.ga K "Memory") "facts")
  me_Memory_check_line : Meth K (He.ga K "Memory") "check_line" (He.ma K (He.ga K "Memory") "check_line")
  me_Memory_check_word : Meth K (He.ga K "Memory") "check_word" (He.ma K (He.ga K "Memory") "check_word")
  me_Memory___eq__ : Meth K (He.ga K "Memory") "__eq__" (He.ma K (He.ga K "Memory") "__eq__")
  mk_Store : Mk K (He.ga K "Store") (He.ma K (He.ga K "Store") "__init__")
  me_Store_kind : Meth K (He.ga K "Store") "kind" (He.ma K (He.ga K "Store") "kind")
  me_Store_facts : Meth K (He.ga K "Store") "facts" (He.ma K (He.ga K "Store") "facts")
  me_Store_check : Meth K (He.ga K "Store") "check" (He.ma K (He.ga K "Store") "check")
  me_Store___eq__ : Meth K (He.ga K "Store") "__eq__" (He.ma K (He.ga K "Store") "__eq__")
  mk_Flush : Mk K (He.ga K "Flush") (He.ma K (He.ga K "Flush") "__init__")
  me_Flush_kind : Meth K (He.ga K "Flush") "kind" (He.ma K (He.ga K "Flush") "kind")
  me_Flush_facts : Meth K (He.ga K "Flush") "facts" (He.ma K (He.ga K "Flush") "facts")
  me_Flush_check : Meth K (He.ga K "Flush") "check" (He.ma K (He.ga K "Flush") "check")
  me_Flush___eq__ : Meth K (He.ga K "Flush") "__eq__" (He.ma K (He.ga K "Flush") "__eq__")
  me_Fence_kind : Meth K (He.ga K "Fence") "kind" (He.ma K (He.ga K "Fence") "kind")
  me_Fence_check : Meth K (He.ga K "Fence") "check" (He.ma K (He.ga K "Fence") "check")
  me_Fence_facts : Meth K (He.ga K "Fence") "facts" (He.ma K (He.ga K "Fence") "facts")
  me_Fence___eq__ : Meth K (He.ga K "Fence") "__eq__" (He.ma K (He.ga K "Fence") "__eq__")
  mk_Program : Mk K (He.ga K "Program") (He.ma K (He.ga K "Program") "__init__")
  me_Program_kind : Meth K (He.ga K "Program") "kind" (He.ma K (He.ga K "Program") "kind")
  me_Program_facts : Meth K (He.ga K "Program") "facts" (He.ma K (He.ga K "Program") "facts")
  me_Program___add__ : Meth K (He.ga K "Program") "__add__" (He.ma K (He.ga K "Program") "__add__")
  me_Program___eq__ : Meth K (He.ga K "Program") "__eq__" (He.ma K (He.ga K "Program") "__eq__")
  txt : txtB K = true
  ck_0 : ClsOk K 0
  ck_1 : ClsOk K 1
  ck_2 : ClsOk K 2
  mk0_3 : Mk0 K 3
  ck_4 : ClsOk K 4
  ab_5 : ¬ ClsOk K 5
  ab_6 : ¬ ClsOk K 6
  ab_7 : ¬ ClsOk K 7
  ab_8 : ¬ ClsOk K 8
  ab_9 : ¬ ClsOk K 9
  ab_10 : ¬ ClsOk K 10
  ab_11 : ¬ ClsOk K 11
  ab_12 : ¬ ClsOk K 12
  ab_13 : ¬ ClsOk K 13
  ab_14 : ¬ ClsOk K 14
  ab_15 : ¬ ClsOk K 15
  ab_16 : ¬ ClsOk K 16
  ab_17 : ¬ ClsOk K 17
  isi_Flush : IsiT K (.ref (He.ga K "Flush")) noTy (fun c => c == 2)
  isi_Store : IsiT K (.ref (He.ga K "Store")) noTy (fun c => c == 1)
  isi_Thing : IsiT K (.ref (He.ga K "Thing")) noTy thg
  xo_1 : xoB K 1 = true
  xf_1 : XfC K (He.ga K (xn 1))
  xo_2 : xoB K 2 = true
  xf_2 : XfC K (He.ga K (xn 2))
  xo_3 : xoB K 3 = true
  xf_3 : XfC K (He.ga K (xn 3))
  xo_15 : xoB K 15 = true
  xf_15 : XfC K (He.ga K (xn 15))
  exm : exmB K [0, 1, 2, 3, 9, 15] [0, 1, 2, 3, 9, 15] = true
  sf_4 : PySem.W.selfFirst K (He.ga K (cn 4)) = true
theorem Tx.isF {K : PySem.W.Frag} {mg : Str → Option Value} (T : Tx K mg) : IsF K := isF_of T.txt
theorem Tx.eqF {K : PySem.W.Frag} {mg : Str → Option Value} (T : Tx K mg) : EqF K (eqAd K) := eqF_of T.txt
theorem sc_Thing_facts : FnScope ["self"] ["self"] (defScope s_Thing_facts) := ⟨rfl, rfl, rfl, by decide +kernel, rfl, by decide +kernel, by decide +kernel⟩
theorem sc_Thing_kind : FnScope ["self"] ["self"] (defScope s_Thing_kind) := ⟨rfl, rfl, rfl, by decide +kernel, rfl, by decide +kernel, by decide +kernel⟩
theorem sc_Memory_kind : FnScope ["self"] ["self"] (defScope s_Memory_kind) := ⟨rfl, rfl, rfl, by decide +kernel, rfl, by decide +kernel, by decide +kernel⟩
theorem sc_Store_kind : FnScope ["self"] ["self"] (defScope s_Store_kind) := ⟨rfl, rfl, rfl, by decide +kernel, rfl, by decide +kernel, by decide +kernel⟩
theorem sc_Flush_kind : FnScope ["self"] ["self"] (defScope s_Flush_kind) := ⟨rfl, rfl, rfl, by decide +kernel, rfl, by decide +kernel, by decide +kernel⟩
theorem sc_Fence_kind : FnScope ["self"] ["self"] (defScope s_Fence_kind) := ⟨rfl, rfl, rfl, by decide +kernel, rfl, by decide +kernel, by decide +kernel⟩
theorem sc_Program_kind : FnScope ["self"] ["self"] (defScope s_Program_kind) := ⟨rfl, rfl, rfl, by decide +kernel, rfl, by decide +kernel, by decide +kernel⟩
theorem sc_Memory_facts : FnScope ["self"] ["self"] (defScope s_Memory_facts) := ⟨rfl, rfl, rfl, by decide +kernel, rfl, by decide +kernel, by decide +kernel⟩
theorem sc_Store_facts : FnScope ["self"] ["self"] (defScope s_Store_facts) := ⟨rfl, rfl, rfl, by decide +kernel, rfl, by decide +kernel, by decide +kernel⟩
theorem sc_Flush_facts : FnScope ["self"] ["self"] (defScope s_Flush_facts) := ⟨rfl, rfl, rfl, by decide +kernel, rfl, by decide +kernel, by decide +kernel⟩
theorem sc_Program_facts : FnScope ["self"] ["self"] (defScope s_Program_facts) := ⟨rfl, rfl, rfl, by decide +kernel, rfl, by decide +kernel, by decide +kernel⟩
theorem sc_Thing___eq__ : FnScope ["self", "other"] ["self", "other"] (defScope s_Thing___eq__) := ⟨rfl, rfl, rfl, by decide +kernel, rfl, by decide +kernel, by decide +kernel⟩
theorem sc_Memory___init__ : FnScope ["self", "sizes", "size"] ["self", "sizes"] (defScope s_Memory___init__) := ⟨rfl, rfl, rfl, by decide +kernel, rfl, by decide +kernel, by decide +kernel⟩
theorem sc_Memory_check_line : FnScope ["self", "line"] ["self", "line"] (defScope s_Memory_check_line) := ⟨rfl, rfl, rfl, by decide +kernel, rfl, by decide +kernel, by decide +kernel⟩
theorem sc_Memory_check_word : FnScope ["self", "line", "word"] ["self", "line", "word"] (defScope s_Memory_check_word) := ⟨rfl, rfl, rfl, by decide +kernel, rfl, by decide +kernel, by decide +kernel⟩
theorem sc_Command_check : FnScope ["self", "memory"] ["self", "memory"] (defScope s_Command_check) := ⟨rfl, rfl, rfl, by decide +kernel, rfl, by decide +kernel, by decide +kernel⟩
theorem sc_Store___init__ : FnScope ["self", "line", "word", "number"] ["self", "line", "word", "number"] (defScope s_Store___init__) := ⟨rfl, rfl, rfl, by decide +kernel, rfl, by decide +kernel, by decide +kernel⟩
theorem sc_Store_check : FnScope ["self", "memory"] ["self", "memory"] (defScope s_Store_check) := ⟨rfl, rfl, rfl, by decide +kernel, rfl, by decide +kernel, by decide +kernel⟩
theorem sc_Flush___init__ : FnScope ["self", "line"] ["self", "line"] (defScope s_Flush___init__) := ⟨rfl, rfl, rfl, by decide +kernel, rfl, by decide +kernel, by decide +kernel⟩
theorem sc_Flush_check : FnScope ["self", "memory"] ["self", "memory"] (defScope s_Flush_check) := ⟨rfl, rfl, rfl, by decide +kernel, rfl, by decide +kernel, by decide +kernel⟩
theorem sc_check_commands : FnScope ["memory", "commands", "command"] ["memory", "commands"] (defScope s_check_commands) := ⟨rfl, rfl, rfl, by decide +kernel, rfl, by decide +kernel, by decide +kernel⟩
theorem sc_Program___init__ : FnScope ["self", "memory", "commands"] ["self", "memory", "commands"] (defScope s_Program___init__) := ⟨rfl, rfl, rfl, by decide +kernel, rfl, by decide +kernel, by decide +kernel⟩
theorem sc_Program___add__ : FnScope ["self", "other"] ["self", "other"] (defScope s_Program___add__) := ⟨rfl, rfl, rfl, by decide +kernel, rfl, by decide +kernel, by decide +kernel⟩
theorem sc_read_number : FnScope ["text", "place", "figures", "sign"] ["text", "place"] (defScope s_read_number) := ⟨rfl, rfl, rfl, by decide +kernel, rfl, by decide +kernel, by decide +kernel⟩
theorem sc_command_text : FnScope ["command"] ["command"] (defScope s_command_text) := ⟨rfl, rfl, rfl, by decide +kernel, rfl, by decide +kernel, by decide +kernel⟩
theorem sc_read_command : FnScope ["text", "place", "words", "numbers", "word", "line", "number"] ["text", "place"] (defScope s_read_command) := ⟨rfl, rfl, rfl, by decide +kernel, rfl, by decide +kernel, by decide +kernel⟩
theorem sc_program_text : FnScope ["program", "command"] ["program"] (defScope s_program_text) := ⟨rfl, rfl, rfl, by decide +kernel, rfl, by decide +kernel, by decide +kernel⟩
theorem sc_read_program : FnScope ["memory", "text", "place", "part"] ["memory", "text"] (defScope s_read_program) := ⟨rfl, rfl, rfl, by decide +kernel, rfl, by decide +kernel, by decide +kernel⟩
theorem sc__law_source : FnScope ["_law_cell"] ["_law_cell"] (defScope s__law_source) := ⟨rfl, rfl, rfl, by decide +kernel, rfl, by decide +kernel, by decide +kernel⟩
theorem sc__law_draw : FnScope ["_law_source_here", "_law_many", "_law_number_here", "_law_found"] ["_law_source_here", "_law_many"] (defScope s__law_draw) := ⟨rfl, rfl, rfl, by decide +kernel, rfl, by decide +kernel, by decide +kernel⟩
theorem sc__law_pick : FnScope ["_law_source_here", "_law_items"] ["_law_source_here", "_law_items"] (defScope s__law_pick) := ⟨rfl, rfl, rfl, by decide +kernel, rfl, by decide +kernel, by decide +kernel⟩
theorem sc__law_sizes : FnScope ["_law_source_here", "_law_most", "_law_k"] ["_law_source_here", "_law_most"] (defScope s__law_sizes) := ⟨rfl, rfl, rfl, by decide +kernel, rfl, by decide +kernel, by decide +kernel⟩
theorem sc__law_number : FnScope ["_law_source_here", "_law_great"] ["_law_source_here"] (defScope s__law_number) := ⟨rfl, rfl, rfl, by decide +kernel, rfl, by decide +kernel, by decide +kernel⟩
theorem sc__law_specs : FnScope ["_law_source_here", "_law_sizes_so", "_law_least", "_law_most", "_law_result", "_law_k", "_law_kind", "_law_a"] ["_law_source_here", "_law_sizes_so", "_law_least", "_law_most"] (defScope s__law_specs) := ⟨rfl, rfl, rfl, by decide +kernel, rfl, by decide +kernel, by decide +kernel⟩
theorem sc__law_command : FnScope ["_law_spec", "_law_kind", "_law_a", "_law_b", "_law_c"] ["_law_spec"] (defScope s__law_command) := ⟨rfl, rfl, rfl, by decide +kernel, rfl, by decide +kernel, by decide +kernel⟩
theorem sc__law_program : FnScope ["_law_sizes_so", "_law_specs_here", "_law_spec"] ["_law_sizes_so", "_law_specs_here"] (defScope s__law_program) := ⟨rfl, rfl, rfl, by decide +kernel, rfl, by decide +kernel, by decide +kernel⟩
theorem sc__law_text : FnScope ["_law_specs_here", "_law_result", "_law_kind", "_law_a", "_law_b", "_law_c", "_law_numbers_so", "_law_one"] ["_law_specs_here"] (defScope s__law_text) := ⟨rfl, rfl, rfl, by decide +kernel, rfl, by decide +kernel, by decide +kernel⟩
theorem sc__law_shown : FnScope ["_law_commands", "_law_found", "_law_one"] ["_law_commands"] (defScope s__law_shown) := ⟨rfl, rfl, rfl, by decide +kernel, rfl, by decide +kernel, by decide +kernel⟩
theorem sc__law_due : FnScope ["_law_specs_here", "_law_spec"] ["_law_specs_here"] (defScope s__law_due) := ⟨rfl, rfl, rfl, by decide +kernel, rfl, by decide +kernel, by decide +kernel⟩
theorem sc__law_right : FnScope ["_law_source_here", "_law_sizes_so", "_law_memory_so", "_law_edge", "_law_long", "_law_some", "_law_both", "_law_specs_here", "_law_more", "_law_line_so", "_law_here", "_law_told"] ["_law_source_here"] (defScope s__law_right) := ⟨rfl, rfl, rfl, by decide +kernel, rfl, by decide +kernel, by decide +kernel⟩
theorem sc_law : FnScope ["_law_script", "_law_cell", "_law_source_here"] ["_law_script"] (defScope s_law) := ⟨rfl, rfl, rfl, by decide +kernel, rfl, by decide +kernel, by decide +kernel⟩
theorem sc_BadCount___init__ : FnScope ["self", "what", "count"] ["self", "what", "count"] (defScope s_BadCount___init__) := ⟨rfl, rfl, rfl, by decide +kernel, rfl, by decide +kernel, by decide +kernel⟩
theorem sc_NoLine___init__ : FnScope ["self", "line"] ["self", "line"] (defScope s_NoLine___init__) := ⟨rfl, rfl, rfl, by decide +kernel, rfl, by decide +kernel, by decide +kernel⟩
theorem sc_NoWord___init__ : FnScope ["self", "word"] ["self", "word"] (defScope s_NoWord___init__) := ⟨rfl, rfl, rfl, by decide +kernel, rfl, by decide +kernel, by decide +kernel⟩
theorem sc_BadText___init__ : FnScope ["self", "place"] ["self", "place"] (defScope s_BadText___init__) := ⟨rfl, rfl, rfl, by decide +kernel, rfl, by decide +kernel, by decide +kernel⟩
section
variable {P : Program} {w : World} {K : PySem.W.Frag} {mg : Str → Option Value} {base : Heap}
abbrev MTa (P : Program) (w : World) (K : PySem.W.Frag) (mg : Str → Option Value) (base : Heap) (k : Nat) (m : Str) (tab : Nat → Option DSp) : Prop := ∀ X : Cx, X.prog = P → X.w = w → X.K = K → X.mg = mg → X.base = base → Room k X.A → MethT X m tab
def t_Thing_facts : DS := dRet (dTup (dNil))
theorem der_Thing_facts (T : Tx K mg) {f : Addr} (cdv : Value) (A : Around) (outer : List Env) (s : Shared) (H : Hp) (Ex : XK) (hr : Room 1 (A.deeper (envOfC "Thing.facts" (defScope s_Thing_facts) s.heap.objs.size f cdv))) : PSs (cxOf (L2.CX P w) P w K mg base ["self"] "Thing.facts" (defScope s_Thing_facts) f cdv A outer s H Ex) (defBody s_Thing_facts) (liftS K (fun cls d _ H => Ex cls d H) t_Thing_facts) :=
  ds_one (ds_ret (d_tup (da_nil)))
theorem ok_Thing_facts (T : Tx K mg) {f : Addr} (Fd : ∃ fd, FunD K "facts" "Thing.facts" (defArgs s_Thing_facts) (defBody s_Thing_facts) (defScope s_Thing_facts) [] [] f fd) (ar : ∀ ds mu P' F, sp_Thing_facts ds mu P' F → ds.length = 1) (pure : ∀ ds mu P' F, sp_Thing_facts ds mu P' F → t_Thing_facts (endF P' F) (gam0 1 ds) mu) : Prom P w K mg base 2 f 1 sp_Thing_facts := by
  obtain ⟨fd, Fd⟩ := Fd
  exact fn_dl Fd sc_Thing_facts rfl rfl (fun _ _ _ _ _ _ us hl => match us, hl with | [_], _ => rfl) ar (fun cdv A outer s H Ex hr => der_Thing_facts T cdv A outer s H Ex hr) pure
def t_Thing_kind : DS := dRet (dC (.str ""))
theorem der_Thing_kind (T : Tx K mg) {f : Addr} (cdv : Value) (A : Around) (outer : List Env) (s : Shared) (H : Hp) (Ex : XK) (hr : Room 1 (A.deeper (envOfC "Thing.kind" (defScope s_Thing_kind) s.heap.objs.size f cdv))) : PSs (cxOf (L2.CX P w) P w K mg base ["self"] "Thing.kind" (defScope s_Thing_kind) f cdv A outer s H Ex) (defBody s_Thing_kind) (liftS K (fun cls d _ H => Ex cls d H) t_Thing_kind) :=
  ds_one (ds_ret (d_str))
theorem ok_Thing_kind (T : Tx K mg) {f : Addr} (Fd : ∃ fd, FunD K "kind" "Thing.kind" (defArgs s_Thing_kind) (defBody s_Thing_kind) (defScope s_Thing_kind) [] [] f fd) (ar : ∀ ds mu P' F, sp_Thing_kind ds mu P' F → ds.length = 1) (pure : ∀ ds mu P' F, sp_Thing_kind ds mu P' F → t_Thing_kind (endF P' F) (gam0 1 ds) mu) : Prom P w K mg base 2 f 1 sp_Thing_kind := by
  obtain ⟨fd, Fd⟩ := Fd
  exact fn_dl Fd sc_Thing_kind rfl rfl (fun _ _ _ _ _ _ us hl => match us, hl with | [_], _ => rfl) ar (fun cdv A outer s H Ex hr => der_Thing_kind T cdv A outer s H Ex hr) pure
def t_Memory_kind : DS := dRet (dC (.str "memory"))
theorem der_Memory_kind (T : Tx K mg) {f : Addr} (cdv : Value) (A : Around) (outer : List Env) (s : Shared) (H : Hp) (Ex : XK) (hr : Room 1 (A.deeper (envOfC "Memory.kind" (defScope s_Memory_kind) s.heap.objs.size f cdv))) : PSs (cxOf (L2.CX P w) P w K mg base ["self"] "Memory.kind" (defScope s_Memory_kind) f cdv A outer s H Ex) (defBody s_Memory_kind) (liftS K (fun cls d _ H => Ex cls d H) t_Memory_kind) :=
  ds_one (ds_ret (d_str))
theorem ok_Memory_kind (T : Tx K mg) {f : Addr} (Fd : ∃ fd, FunD K "kind" "Memory.kind" (defArgs s_Memory_kind) (defBody s_Memory_kind) (defScope s_Memory_kind) [] [] f fd) (ar : ∀ ds mu P' F, sp_Memory_kind ds mu P' F → ds.length = 1) (pure : ∀ ds mu P' F, sp_Memory_kind ds mu P' F → t_Memory_kind (endF P' F) (gam0 1 ds) mu) : Prom P w K mg base 2 f 1 sp_Memory_kind := by
  obtain ⟨fd, Fd⟩ := Fd
  exact fn_dl Fd sc_Memory_kind rfl rfl (fun _ _ _ _ _ _ us hl => match us, hl with | [_], _ => rfl) ar (fun cdv A outer s H Ex hr => der_Memory_kind T cdv A outer s H Ex hr) pure
def t_Store_kind : DS := dRet (dC (.str "store"))
theorem der_Store_kind (T : Tx K mg) {f : Addr} (cdv : Value) (A : Around) (outer : List Env) (s : Shared) (H : Hp) (Ex : XK) (hr : Room 1 (A.deeper (envOfC "Store.kind" (defScope s_Store_kind) s.heap.objs.size f cdv))) : PSs (cxOf (L2.CX P w) P w K mg base ["self"] "Store.kind" (defScope s_Store_kind) f cdv A outer s H Ex) (defBody s_Store_kind) (liftS K (fun cls d _ H => Ex cls d H) t_Store_kind) :=
  ds_one (ds_ret (d_str))
theorem ok_Store_kind (T : Tx K mg) {f : Addr} (Fd : ∃ fd, FunD K "kind" "Store.kind" (defArgs s_Store_kind) (defBody s_Store_kind) (defScope s_Store_kind) [] [] f fd) (ar : ∀ ds mu P' F, sp_Store_kind ds mu P' F → ds.length = 1) (pure : ∀ ds mu P' F, sp_Store_kind ds mu P' F → t_Store_kind (endF P' F) (gam0 1 ds) mu) : Prom P w K mg base 2 f 1 sp_Store_kind := by
  obtain ⟨fd, Fd⟩ := Fd
  exact fn_dl Fd sc_Store_kind rfl rfl (fun _ _ _ _ _ _ us hl => match us, hl with | [_], _ => rfl) ar (fun cdv A outer s H Ex hr => der_Store_kind T cdv A outer s H Ex hr) pure
def t_Flush_kind : DS := dRet (dC (.str "flush"))
theorem der_Flush_kind (T : Tx K mg) {f : Addr} (cdv : Value) (A : Around) (outer : List Env) (s : Shared) (H : Hp) (Ex : XK) (hr : Room 1 (A.deeper (envOfC "Flush.kind" (defScope s_Flush_kind) s.heap.objs.size f cdv))) : PSs (cxOf (L2.CX P w) P w K mg base ["self"] "Flush.kind" (defScope s_Flush_kind) f cdv A outer s H Ex) (defBody s_Flush_kind) (liftS K (fun cls d _ H => Ex cls d H) t_Flush_kind) :=
  ds_one (ds_ret (d_str))
theorem ok_Flush_kind (T : Tx K mg) {f : Addr} (Fd : ∃ fd, FunD K "kind" "Flush.kind" (defArgs s_Flush_kind) (defBody s_Flush_kind) (defScope s_Flush_kind) [] [] f fd) (ar : ∀ ds mu P' F, sp_Flush_kind ds mu P' F → ds.length = 1) (pure : ∀ ds mu P' F, sp_Flush_kind ds mu P' F → t_Flush_kind (endF P' F) (gam0 1 ds) mu) : Prom P w K mg base 2 f 1 sp_Flush_kind := by
  obtain ⟨fd, Fd⟩ := Fd
  exact fn_dl Fd sc_Flush_kind rfl rfl (fun _ _ _ _ _ _ us hl => match us, hl with | [_], _ => rfl) ar (fun cdv A outer s H Ex hr => der_Flush_kind T cdv A outer s H Ex hr) pure
def t_Fence_kind : DS := dRet (dC (.str "fence"))
theorem der_Fence_kind (T : Tx K mg) {f : Addr} (cdv : Value) (A : Around) (outer : List Env) (s : Shared) (H : Hp) (Ex : XK) (hr : Room 1 (A.deeper (envOfC "Fence.kind" (defScope s_Fence_kind) s.heap.objs.size f cdv))) : PSs (cxOf (L2.CX P w) P w K mg base ["self"] "Fence.kind" (defScope s_Fence_kind) f cdv A outer s H Ex) (defBody s_Fence_kind) (liftS K (fun cls d _ H => Ex cls d H) t_Fence_kind) :=
  ds_one (ds_ret (d_str))
theorem ok_Fence_kind (T : Tx K mg) {f : Addr} (Fd : ∃ fd, FunD K "kind" "Fence.kind" (defArgs s_Fence_kind) (defBody s_Fence_kind) (defScope s_Fence_kind) [] [] f fd) (ar : ∀ ds mu P' F, sp_Fence_kind ds mu P' F → ds.length = 1) (pure : ∀ ds mu P' F, sp_Fence_kind ds mu P' F → t_Fence_kind (endF P' F) (gam0 1 ds) mu) : Prom P w K mg base 2 f 1 sp_Fence_kind := by
  obtain ⟨fd, Fd⟩ := Fd
  exact fn_dl Fd sc_Fence_kind rfl rfl (fun _ _ _ _ _ _ us hl => match us, hl with | [_], _ => rfl) ar (fun cdv A outer s H Ex hr => der_Fence_kind T cdv A outer s H Ex hr) pure
def t_Program_kind : DS := dRet (dC (.str "program"))
theorem der_Program_kind (T : Tx K mg) {f : Addr} (cdv : Value) (A : Around) (outer : List Env) (s : Shared) (H : Hp) (Ex : XK) (hr : Room 1 (A.deeper (envOfC "Program.kind" (defScope s_Program_kind) s.heap.objs.size f cdv))) : PSs (cxOf (L2.CX P w) P w K mg base ["self"] "Program.kind" (defScope s_Program_kind) f cdv A outer s H Ex) (defBody s_Program_kind) (liftS K (fun cls d _ H => Ex cls d H) t_Program_kind) :=
  ds_one (ds_ret (d_str))
theorem ok_Program_kind (T : Tx K mg) {f : Addr} (Fd : ∃ fd, FunD K "kind" "Program.kind" (defArgs s_Program_kind) (defBody s_Program_kind) (defScope s_Program_kind) [] [] f fd) (ar : ∀ ds mu P' F, sp_Program_kind ds mu P' F → ds.length = 1) (pure : ∀ ds mu P' F, sp_Program_kind ds mu P' F → t_Program_kind (endF P' F) (gam0 1 ds) mu) : Prom P w K mg base 2 f 1 sp_Program_kind := by
  obtain ⟨fd, Fd⟩ := Fd
  exact fn_dl Fd sc_Program_kind rfl rfl (fun _ _ _ _ _ _ us hl => match us, hl with | [_], _ => rfl) ar (fun cdv A outer s H Ex hr => der_Program_kind T cdv A outer s H Ex hr) pure
def t_Memory_facts : DS := dRet (dTup (dCons (dFld ix_sizes (dVar 0)) (dNil)))
theorem der_Memory_facts (T : Tx K mg) {f : Addr} (cdv : Value) (A : Around) (outer : List Env) (s : Shared) (H : Hp) (Ex : XK) (hr : Room 1 (A.deeper (envOfC "Memory.facts" (defScope s_Memory_facts) s.heap.objs.size f cdv))) : PSs (cxOf (L2.CX P w) P w K mg base ["self"] "Memory.facts" (defScope s_Memory_facts) f cdv A outer s H Ex) (defBody s_Memory_facts) (liftS K (fun cls d _ H => Ex cls d H) t_Memory_facts) :=
  ds_one (ds_ret (d_tup (da_cons (d_fld ft_sizes (d_var 0)) (da_nil))))
theorem ok_Memory_facts (T : Tx K mg) {f : Addr} (Fd : ∃ fd, FunD K "facts" "Memory.facts" (defArgs s_Memory_facts) (defBody s_Memory_facts) (defScope s_Memory_facts) [] [] f fd) (ar : ∀ ds mu P' F, sp_Memory_facts ds mu P' F → ds.length = 1) (pure : ∀ ds mu P' F, sp_Memory_facts ds mu P' F → t_Memory_facts (endF P' F) (gam0 1 ds) mu) : Prom P w K mg base 2 f 1 sp_Memory_facts := by
  obtain ⟨fd, Fd⟩ := Fd
  exact fn_dl Fd sc_Memory_facts rfl rfl (fun _ _ _ _ _ _ us hl => match us, hl with | [_], _ => rfl) ar (fun cdv A outer s H Ex hr => der_Memory_facts T cdv A outer s H Ex hr) pure
def t_Store_facts : DS := dRet (dTup (dCons (dFld ix_line (dVar 0)) (dCons (dFld ix_word (dVar 0)) (dCons (dFld ix_number (dVar 0)) (dNil)))))
theorem der_Store_facts (T : Tx K mg) {f : Addr} (cdv : Value) (A : Around) (outer : List Env) (s : Shared) (H : Hp) (Ex : XK) (hr : Room 1 (A.deeper (envOfC "Store.facts" (defScope s_Store_facts) s.heap.objs.size f cdv))) : PSs (cxOf (L2.CX P w) P w K mg base ["self"] "Store.facts" (defScope s_Store_facts) f cdv A outer s H Ex) (defBody s_Store_facts) (liftS K (fun cls d _ H => Ex cls d H) t_Store_facts) :=
  ds_one (ds_ret (d_tup (da_cons (d_fld ft_line (d_var 0)) (da_cons (d_fld ft_word (d_var 0)) (da_cons (d_fld ft_number (d_var 0)) (da_nil))))))
theorem ok_Store_facts (T : Tx K mg) {f : Addr} (Fd : ∃ fd, FunD K "facts" "Store.facts" (defArgs s_Store_facts) (defBody s_Store_facts) (defScope s_Store_facts) [] [] f fd) (ar : ∀ ds mu P' F, sp_Store_facts ds mu P' F → ds.length = 1) (pure : ∀ ds mu P' F, sp_Store_facts ds mu P' F → t_Store_facts (endF P' F) (gam0 1 ds) mu) : Prom P w K mg base 2 f 1 sp_Store_facts := by
  obtain ⟨fd, Fd⟩ := Fd
  exact fn_dl Fd sc_Store_facts rfl rfl (fun _ _ _ _ _ _ us hl => match us, hl with | [_], _ => rfl) ar (fun cdv A outer s H Ex hr => der_Store_facts T cdv A outer s H Ex hr) pure
def t_Flush_facts : DS := dRet (dTup (dCons (dFld ix_line (dVar 0)) (dNil)))
theorem der_Flush_facts (T : Tx K mg) {f : Addr} (cdv : Value) (A : Around) (outer : List Env) (s : Shared) (H : Hp) (Ex : XK) (hr : Room 1 (A.deeper (envOfC "Flush.facts" (defScope s_Flush_facts) s.heap.objs.size f cdv))) : PSs (cxOf (L2.CX P w) P w K mg base ["self"] "Flush.facts" (defScope s_Flush_facts) f cdv A outer s H Ex) (defBody s_Flush_facts) (liftS K (fun cls d _ H => Ex cls d H) t_Flush_facts) :=
  ds_one (ds_ret (d_tup (da_cons (d_fld ft_line (d_var 0)) (da_nil))))
theorem ok_Flush_facts (T : Tx K mg) {f : Addr} (Fd : ∃ fd, FunD K "facts" "Flush.facts" (defArgs s_Flush_facts) (defBody s_Flush_facts) (defScope s_Flush_facts) [] [] f fd) (ar : ∀ ds mu P' F, sp_Flush_facts ds mu P' F → ds.length = 1) (pure : ∀ ds mu P' F, sp_Flush_facts ds mu P' F → t_Flush_facts (endF P' F) (gam0 1 ds) mu) : Prom P w K mg base 2 f 1 sp_Flush_facts := by
  obtain ⟨fd, Fd⟩ := Fd
  exact fn_dl Fd sc_Flush_facts rfl rfl (fun _ _ _ _ _ _ us hl => match us, hl with | [_], _ => rfl) ar (fun cdv A outer s H Ex hr => der_Flush_facts T cdv A outer s H Ex hr) pure
def t_Program_facts : DS := dRet (dTup (dCons (dFld ix_memory (dVar 0)) (dCons (dFld ix_commands (dVar 0)) (dNil))))
theorem der_Program_facts (T : Tx K mg) {f : Addr} (cdv : Value) (A : Around) (outer : List Env) (s : Shared) (H : Hp) (Ex : XK) (hr : Room 1 (A.deeper (envOfC "Program.facts" (defScope s_Program_facts) s.heap.objs.size f cdv))) : PSs (cxOf (L2.CX P w) P w K mg base ["self"] "Program.facts" (defScope s_Program_facts) f cdv A outer s H Ex) (defBody s_Program_facts) (liftS K (fun cls d _ H => Ex cls d H) t_Program_facts) :=
  ds_one (ds_ret (d_tup (da_cons (d_fld ft_memory (d_var 0)) (da_cons (d_fld ft_commands (d_var 0)) (da_nil)))))
theorem ok_Program_facts (T : Tx K mg) {f : Addr} (Fd : ∃ fd, FunD K "facts" "Program.facts" (defArgs s_Program_facts) (defBody s_Program_facts) (defScope s_Program_facts) [] [] f fd) (ar : ∀ ds mu P' F, sp_Program_facts ds mu P' F → ds.length = 1) (pure : ∀ ds mu P' F, sp_Program_facts ds mu P' F → t_Program_facts (endF P' F) (gam0 1 ds) mu) : Prom P w K mg base 2 f 1 sp_Program_facts := by
  obtain ⟨fd, Fd⟩ := Fd
  exact fn_dl Fd sc_Program_facts rfl rfl (fun _ _ _ _ _ _ us hl => match us, hl with | [_], _ => rfl) ar (fun cdv A outer s H Ex hr => der_Program_facts T cdv A outer s H Ex hr) pure
def t_Thing___eq__ (n : Nat) : DS := dSeq (dIfS (dOr (dNot (dTru (gIsi noTy thg (dVar 1)))) (dCT (gNe n) (dMeth mt_kind (dVar 0) dNil) (dMeth mt_kind (dVar 1) dNil))) (dRet (dC (.bl false))) (dNext)) (dRet (dBin (gEq n) (dMeth mt_facts (dVar 0) dNil) (dMeth mt_facts (dVar 1) dNil)))
theorem der_Thing___eq__ (T : Tx K mg) (MT_kind : MTa P w K mg base 2 "kind" mt_kind) (MT_facts : MTa P w K mg base 2 "facts" mt_facts) {n : Nat} (E : EqAll P w K mg base n) {f : Addr} (cdv : Value) (A : Around) (outer : List Env) (s : Shared) (H : Hp) (Ex : XK) (hr : Room (kE n) (A.deeper (envOfC "Thing.__eq__" (defScope s_Thing___eq__) s.heap.objs.size f cdv))) : PSs (cxOf (L2.CX P w) P w K mg base ["self", "other"] "Thing.__eq__" (defScope s_Thing___eq__) f cdv A outer s H Ex) (defBody s_Thing___eq__) (liftS K (fun cls d _ H => Ex cls d H) (t_Thing___eq__ n)) :=
  ds_cons (ds_if (PW.pt (d_or (d_not (d_tru (d_isi T.isF T.isi_Thing T.f_isinstance (d_var 1) (pe_glob (v := .ref _) rfl T.g_Thing rfl) (.own _)))) (d_or1 (d_cmpT (o_ne n E (hr.mono (by first | decide | exact Nat.le_refl _))) (d_meth0 (MT_kind _ rfl rfl rfl rfl rfl (hr.mono (by first | decide | (unfold kE; omega)))) (takes_of rfl rfl rfl rfl) (d_var 0)) (d_meth0 (MT_kind _ rfl rfl rfl rfl rfl (hr.mono (by first | decide | (unfold kE; omega)))) (takes_of rfl rfl rfl rfl) (d_var 1)))))) (ds_one (ds_ret (d_bl))) (ds_nil)) (ds_one (ds_ret (d_cmp (o_eq n E (hr.mono (by first | decide | exact Nat.le_refl _))) (d_meth0 (MT_facts _ rfl rfl rfl rfl rfl (hr.mono (by first | decide | (unfold kE; omega)))) (takes_of rfl rfl rfl rfl) (d_var 0)) (d_meth0 (MT_facts _ rfl rfl rfl rfl rfl (hr.mono (by first | decide | (unfold kE; omega)))) (takes_of rfl rfl rfl rfl) (d_var 1)))))
theorem ok_Thing___eq__ (T : Tx K mg) (MT_kind : MTa P w K mg base 2 "kind" mt_kind) (MT_facts : MTa P w K mg base 2 "facts" mt_facts) {n : Nat} (E : EqAll P w K mg base n) {f : Addr} (Fd : ∃ fd, FunD K "__eq__" "Thing.__eq__" (defArgs s_Thing___eq__) (defBody s_Thing___eq__) (defScope s_Thing___eq__) [] [] f fd) (ar : ∀ ds mu P' F, (spEqD (n + 1)) ds mu P' F → ds.length = 2) (pure : ∀ ds mu P' F, (spEqD (n + 1)) ds mu P' F → (t_Thing___eq__ n) (endF P' F) (gam0 2 ds) mu) : Prom P w K mg base (kE n + 1) f 2 (spEqD (n + 1)) := by
  obtain ⟨fd, Fd⟩ := Fd
  exact fn_dl Fd sc_Thing___eq__ rfl rfl (fun _ _ _ _ _ _ us hl => match us, hl with | [_, _], _ => rfl) ar (fun cdv A outer s H Ex hr => der_Thing___eq__ T MT_kind MT_facts E cdv A outer s H Ex hr) pure
def t_Memory___init__ : DS := dSeq (dPut ix_sizes (dVar 0) (dCB bTuple (dCons (dVar 1) (dNil)))) (dSeq (dIfS (dNot (dTest (dChain gLe gLe (dC (.int 1)) (dCB bLen (dCons (dFld ix_sizes (dVar 0)) (dNil))) (dC (.int 6))))) (dNever) (dNext)) (dFor (iSeq (dFld ix_sizes (dVar 0))) (dName 2) (dIfS (dNot (dTest (dChain gLe gLe (dC (.int 1)) (dVar 2) (dC (.int 4))))) (dNever) (dNext))))
theorem der_Memory___init__ (T : Tx K mg) {f : Addr} (cdv : Value) (A : Around) (outer : List Env) (s : Shared) (H : Hp) (Ex : XK) (hr : Room 1 (A.deeper (envOfC "Memory.__init__" (defScope s_Memory___init__) s.heap.objs.size f cdv))) : PSs (cxOf (L2.CX P w) P w K mg base ["self", "sizes", "size"] "Memory.__init__" (defScope s_Memory___init__) f cdv A outer s H Ex) (defBody s_Memory___init__) (liftS K (fun cls d _ H => Ex cls d H) t_Memory___init__) :=
  ds_cons (ds_fld ft_sizes (d_var 0) (d_callT b_tuple T.f_tuple (by decide +kernel) (da_cons (d_var 1) (da_nil)))) (ds_cons (ds_if (d_not (d_chainT o_le o_le (d_int) (d_callB b_len T.f_len (by decide +kernel) (da_cons (d_fld ft_sizes (d_var 0)) (da_nil))) (d_gint T.i_MOST_LINES))) (ds_one (ds_never)) (ds_nil)) (ds_one (ds_for (passes_of rfl) rfl (di_seq (d_fld ft_sizes (d_var 0))) (dg_name 2 (sc_Memory___init__).nd) (ds_one (ds_if (d_not (d_chainT o_le o_le (d_int) (d_var 2) (d_gint T.i_MOST_WORDS))) (ds_one (ds_never)) (ds_nil))))))
theorem ok_Memory___init__ (T : Tx K mg) {f : Addr} (Fd : ∃ fd, FunD K "__init__" "Memory.__init__" (defArgs s_Memory___init__) (defBody s_Memory___init__) (defScope s_Memory___init__) [] [] f fd) (ar : ∀ ds mu P' F, sp_Memory___init__ ds mu P' F → ds.length = 2) (pure : ∀ ds mu P' F, sp_Memory___init__ ds mu P' F → t_Memory___init__ (endF P' F) (gam0 3 ds) mu) : Prom P w K mg base 2 f 2 sp_Memory___init__ := by
  obtain ⟨fd, Fd⟩ := Fd
  exact fn_dl Fd sc_Memory___init__ rfl rfl (fun _ _ _ _ _ _ us hl => match us, hl with | [_, _], _ => rfl) ar (fun cdv A outer s H Ex hr => der_Memory___init__ T cdv A outer s H Ex hr) pure
def t_Memory_check_line : DS := dIfS (dNot (dTest (dChain gLe gLt (dC (.int 0)) (dVar 1) (dCB bLen (dCons (dFld ix_sizes (dVar 0)) (dNil)))))) (dNever) (dNext)
theorem der_Memory_check_line (T : Tx K mg) {f : Addr} (cdv : Value) (A : Around) (outer : List Env) (s : Shared) (H : Hp) (Ex : XK) (hr : Room 1 (A.deeper (envOfC "Memory.check_line" (defScope s_Memory_check_line) s.heap.objs.size f cdv))) : PSs (cxOf (L2.CX P w) P w K mg base ["self", "line"] "Memory.check_line" (defScope s_Memory_check_line) f cdv A outer s H Ex) (defBody s_Memory_check_line) (liftS K (fun cls d _ H => Ex cls d H) t_Memory_check_line) :=
  ds_one (ds_if (d_not (d_chainT o_le o_lt (d_int) (d_var 1) (d_callB b_len T.f_len (by decide +kernel) (da_cons (d_fld ft_sizes (d_var 0)) (da_nil))))) (ds_one (ds_never)) (ds_nil))
theorem ok_Memory_check_line (T : Tx K mg) {f : Addr} (Fd : ∃ fd, FunD K "check_line" "Memory.check_line" (defArgs s_Memory_check_line) (defBody s_Memory_check_line) (defScope s_Memory_check_line) [] [] f fd) (ar : ∀ ds mu P' F, sp_Memory_check_line ds mu P' F → ds.length = 2) (pure : ∀ ds mu P' F, sp_Memory_check_line ds mu P' F → t_Memory_check_line (endF P' F) (gam0 2 ds) mu) : Prom P w K mg base 2 f 2 sp_Memory_check_line := by
  obtain ⟨fd, Fd⟩ := Fd
  exact fn_dl Fd sc_Memory_check_line rfl rfl (fun _ _ _ _ _ _ us hl => match us, hl with | [_, _], _ => rfl) ar (fun cdv A outer s H Ex hr => der_Memory_check_line T cdv A outer s H Ex hr) pure
def t_Memory_check_word : DS := dSeq (dDrop (dMeth mt_check_line (dVar 0) (dCons (dVar 1) (dNil)))) (dIfS (dNot (dTest (dChain gLe gLt (dC (.int 0)) (dVar 2) (dBin gIx (dFld ix_sizes (dVar 0)) (dVar 1))))) (dNever) (dNext))
theorem der_Memory_check_word (T : Tx K mg) (MT_check_line : MTa P w K mg base 2 "check_line" mt_check_line) {f : Addr} (cdv : Value) (A : Around) (outer : List Env) (s : Shared) (H : Hp) (Ex : XK) (hr : Room 2 (A.deeper (envOfC "Memory.check_word" (defScope s_Memory_check_word) s.heap.objs.size f cdv))) : PSs (cxOf (L2.CX P w) P w K mg base ["self", "line", "word"] "Memory.check_word" (defScope s_Memory_check_word) f cdv A outer s H Ex) (defBody s_Memory_check_word) (liftS K (fun cls d _ H => Ex cls d H) t_Memory_check_word) :=
  ds_cons (ds_expr (d_meth (MT_check_line _ rfl rfl rfl rfl rfl (hr.mono (by first | decide | (unfold kE; omega)))) (takes_of rfl rfl rfl rfl) (d_var 0) (da_cons (d_var 1) (da_nil)))) (ds_one (ds_if (d_not (d_chainT o_le o_lt (d_int) (d_var 2) (d_ix (d_fld ft_sizes (d_var 0)) (d_var 1)))) (ds_one (ds_never)) (ds_nil)))
theorem ok_Memory_check_word (T : Tx K mg) (MT_check_line : MTa P w K mg base 2 "check_line" mt_check_line) {f : Addr} (Fd : ∃ fd, FunD K "check_word" "Memory.check_word" (defArgs s_Memory_check_word) (defBody s_Memory_check_word) (defScope s_Memory_check_word) [] [] f fd) (ar : ∀ ds mu P' F, sp_Memory_check_word ds mu P' F → ds.length = 3) (pure : ∀ ds mu P' F, sp_Memory_check_word ds mu P' F → t_Memory_check_word (endF P' F) (gam0 3 ds) mu) : Prom P w K mg base 3 f 3 sp_Memory_check_word := by
  obtain ⟨fd, Fd⟩ := Fd
  exact fn_dl Fd sc_Memory_check_word rfl rfl (fun _ _ _ _ _ _ us hl => match us, hl with | [_, _, _], _ => rfl) ar (fun cdv A outer s H Ex hr => der_Memory_check_word T MT_check_line cdv A outer s H Ex hr) pure
def t_Command_check : DS := dNext
theorem der_Command_check (T : Tx K mg) {f : Addr} (cdv : Value) (A : Around) (outer : List Env) (s : Shared) (H : Hp) (Ex : XK) (hr : Room 1 (A.deeper (envOfC "Command.check" (defScope s_Command_check) s.heap.objs.size f cdv))) : PSs (cxOf (L2.CX P w) P w K mg base ["self", "memory"] "Command.check" (defScope s_Command_check) f cdv A outer s H Ex) (defBody s_Command_check) (liftS K (fun cls d _ H => Ex cls d H) t_Command_check) :=
  ds_one (ds_pass)
theorem ok_Command_check (T : Tx K mg) {f : Addr} (Fd : ∃ fd, FunD K "check" "Command.check" (defArgs s_Command_check) (defBody s_Command_check) (defScope s_Command_check) [] [] f fd) (ar : ∀ ds mu P' F, sp_Command_check ds mu P' F → ds.length = 2) (pure : ∀ ds mu P' F, sp_Command_check ds mu P' F → t_Command_check (endF P' F) (gam0 2 ds) mu) : Prom P w K mg base 2 f 2 sp_Command_check := by
  obtain ⟨fd, Fd⟩ := Fd
  exact fn_dl Fd sc_Command_check rfl rfl (fun _ _ _ _ _ _ us hl => match us, hl with | [_, _], _ => rfl) ar (fun cdv A outer s H Ex hr => der_Command_check T cdv A outer s H Ex hr) pure
def t_Store___init__ : DS := dSeq (dPut ix_line (dVar 0) (dVar 1)) (dSeq (dPut ix_word (dVar 0) (dVar 2)) (dPut ix_number (dVar 0) (dVar 3)))
theorem der_Store___init__ (T : Tx K mg) {f : Addr} (cdv : Value) (A : Around) (outer : List Env) (s : Shared) (H : Hp) (Ex : XK) (hr : Room 1 (A.deeper (envOfC "Store.__init__" (defScope s_Store___init__) s.heap.objs.size f cdv))) : PSs (cxOf (L2.CX P w) P w K mg base ["self", "line", "word", "number"] "Store.__init__" (defScope s_Store___init__) f cdv A outer s H Ex) (defBody s_Store___init__) (liftS K (fun cls d _ H => Ex cls d H) t_Store___init__) :=
  ds_cons (ds_fld ft_line (d_var 0) (d_var 1)) (ds_cons (ds_fld ft_word (d_var 0) (d_var 2)) (ds_one (ds_fld ft_number (d_var 0) (d_var 3))))
theorem ok_Store___init__ (T : Tx K mg) {f : Addr} (Fd : ∃ fd, FunD K "__init__" "Store.__init__" (defArgs s_Store___init__) (defBody s_Store___init__) (defScope s_Store___init__) [] [] f fd) (ar : ∀ ds mu P' F, sp_Store___init__ ds mu P' F → ds.length = 4) (pure : ∀ ds mu P' F, sp_Store___init__ ds mu P' F → t_Store___init__ (endF P' F) (gam0 4 ds) mu) : Prom P w K mg base 2 f 4 sp_Store___init__ := by
  obtain ⟨fd, Fd⟩ := Fd
  exact fn_dl Fd sc_Store___init__ rfl rfl (fun _ _ _ _ _ _ us hl => match us, hl with | [_, _, _, _], _ => rfl) ar (fun cdv A outer s H Ex hr => der_Store___init__ T cdv A outer s H Ex hr) pure
def t_Store_check : DS := dDrop (dMeth mt_check_word (dVar 1) (dCons (dFld ix_line (dVar 0)) (dCons (dFld ix_word (dVar 0)) (dNil))))
theorem der_Store_check (T : Tx K mg) (MT_check_word : MTa P w K mg base 3 "check_word" mt_check_word) {f : Addr} (cdv : Value) (A : Around) (outer : List Env) (s : Shared) (H : Hp) (Ex : XK) (hr : Room 3 (A.deeper (envOfC "Store.check" (defScope s_Store_check) s.heap.objs.size f cdv))) : PSs (cxOf (L2.CX P w) P w K mg base ["self", "memory"] "Store.check" (defScope s_Store_check) f cdv A outer s H Ex) (defBody s_Store_check) (liftS K (fun cls d _ H => Ex cls d H) t_Store_check) :=
  ds_one (ds_expr (d_meth (MT_check_word _ rfl rfl rfl rfl rfl (hr.mono (by first | decide | (unfold kE; omega)))) (takes_of rfl rfl rfl rfl) (d_var 1) (da_cons (d_fld ft_line (d_var 0)) (da_cons (d_fld ft_word (d_var 0)) (da_nil)))))
theorem ok_Store_check (T : Tx K mg) (MT_check_word : MTa P w K mg base 3 "check_word" mt_check_word) {f : Addr} (Fd : ∃ fd, FunD K "check" "Store.check" (defArgs s_Store_check) (defBody s_Store_check) (defScope s_Store_check) [] [] f fd) (ar : ∀ ds mu P' F, sp_Store_check ds mu P' F → ds.length = 2) (pure : ∀ ds mu P' F, sp_Store_check ds mu P' F → t_Store_check (endF P' F) (gam0 2 ds) mu) : Prom P w K mg base 4 f 2 sp_Store_check := by
  obtain ⟨fd, Fd⟩ := Fd
  exact fn_dl Fd sc_Store_check rfl rfl (fun _ _ _ _ _ _ us hl => match us, hl with | [_, _], _ => rfl) ar (fun cdv A outer s H Ex hr => der_Store_check T MT_check_word cdv A outer s H Ex hr) pure
def t_Flush___init__ : DS := dPut ix_line (dVar 0) (dVar 1)
theorem der_Flush___init__ (T : Tx K mg) {f : Addr} (cdv : Value) (A : Around) (outer : List Env) (s : Shared) (H : Hp) (Ex : XK) (hr : Room 1 (A.deeper (envOfC "Flush.__init__" (defScope s_Flush___init__) s.heap.objs.size f cdv))) : PSs (cxOf (L2.CX P w) P w K mg base ["self", "line"] "Flush.__init__" (defScope s_Flush___init__) f cdv A outer s H Ex) (defBody s_Flush___init__) (liftS K (fun cls d _ H => Ex cls d H) t_Flush___init__) :=
  ds_one (ds_fld ft_line (d_var 0) (d_var 1))
theorem ok_Flush___init__ (T : Tx K mg) {f : Addr} (Fd : ∃ fd, FunD K "__init__" "Flush.__init__" (defArgs s_Flush___init__) (defBody s_Flush___init__) (defScope s_Flush___init__) [] [] f fd) (ar : ∀ ds mu P' F, sp_Flush___init__ ds mu P' F → ds.length = 2) (pure : ∀ ds mu P' F, sp_Flush___init__ ds mu P' F → t_Flush___init__ (endF P' F) (gam0 2 ds) mu) : Prom P w K mg base 2 f 2 sp_Flush___init__ := by
  obtain ⟨fd, Fd⟩ := Fd
  exact fn_dl Fd sc_Flush___init__ rfl rfl (fun _ _ _ _ _ _ us hl => match us, hl with | [_, _], _ => rfl) ar (fun cdv A outer s H Ex hr => der_Flush___init__ T cdv A outer s H Ex hr) pure
def t_Flush_check : DS := dDrop (dMeth mt_check_line (dVar 1) (dCons (dFld ix_line (dVar 0)) (dNil)))
theorem der_Flush_check (T : Tx K mg) (MT_check_line : MTa P w K mg base 2 "check_line" mt_check_line) {f : Addr} (cdv : Value) (A : Around) (outer : List Env) (s : Shared) (H : Hp) (Ex : XK) (hr : Room 2 (A.deeper (envOfC "Flush.check" (defScope s_Flush_check) s.heap.objs.size f cdv))) : PSs (cxOf (L2.CX P w) P w K mg base ["self", "memory"] "Flush.check" (defScope s_Flush_check) f cdv A outer s H Ex) (defBody s_Flush_check) (liftS K (fun cls d _ H => Ex cls d H) t_Flush_check) :=
  ds_one (ds_expr (d_meth (MT_check_line _ rfl rfl rfl rfl rfl (hr.mono (by first | decide | (unfold kE; omega)))) (takes_of rfl rfl rfl rfl) (d_var 1) (da_cons (d_fld ft_line (d_var 0)) (da_nil))))
theorem ok_Flush_check (T : Tx K mg) (MT_check_line : MTa P w K mg base 2 "check_line" mt_check_line) {f : Addr} (Fd : ∃ fd, FunD K "check" "Flush.check" (defArgs s_Flush_check) (defBody s_Flush_check) (defScope s_Flush_check) [] [] f fd) (ar : ∀ ds mu P' F, sp_Flush_check ds mu P' F → ds.length = 2) (pure : ∀ ds mu P' F, sp_Flush_check ds mu P' F → t_Flush_check (endF P' F) (gam0 2 ds) mu) : Prom P w K mg base 3 f 2 sp_Flush_check := by
  obtain ⟨fd, Fd⟩ := Fd
  exact fn_dl Fd sc_Flush_check rfl rfl (fun _ _ _ _ _ _ us hl => match us, hl with | [_, _], _ => rfl) ar (fun cdv A outer s H Ex hr => der_Flush_check T MT_check_line cdv A outer s H Ex hr) pure
def t_check_commands : DS := dFor (iSeq (dVar 1)) (dName 2) (dDrop (dMeth mt_check (dVar 2) (dCons (dVar 0) (dNil))))
theorem der_check_commands (T : Tx K mg) (MT_check : MTa P w K mg base 4 "check" mt_check) {f : Addr} (cdv : Value) (A : Around) (outer : List Env) (s : Shared) (H : Hp) (Ex : XK) (hr : Room 4 (A.deeper (envOfC "check_commands" (defScope s_check_commands) s.heap.objs.size f cdv))) : PSs (cxOf (L2.CX P w) P w K mg base ["memory", "commands", "command"] "check_commands" (defScope s_check_commands) f cdv A outer s H Ex) (defBody s_check_commands) (liftS K (fun cls d _ H => Ex cls d H) t_check_commands) :=
  ds_one (ds_for (passes_of rfl) rfl (di_seq (d_var 1)) (dg_name 2 (sc_check_commands).nd) (ds_one (ds_expr (d_meth (MT_check _ rfl rfl rfl rfl rfl (hr.mono (by first | decide | (unfold kE; omega)))) (takes_of rfl rfl rfl rfl) (d_var 2) (da_cons (d_var 0) (da_nil))))))
theorem ok_check_commands (T : Tx K mg) (MT_check : MTa P w K mg base 4 "check" mt_check) {f : Addr} (Fd : ∃ fd, FunD K "check_commands" "check_commands" (defArgs s_check_commands) (defBody s_check_commands) (defScope s_check_commands) [] [] f fd) (ar : ∀ ds mu P' F, sp_check_commands ds mu P' F → ds.length = 2) (pure : ∀ ds mu P' F, sp_check_commands ds mu P' F → t_check_commands (endF P' F) (gam0 3 ds) mu) : Prom P w K mg base 5 f 2 sp_check_commands := by
  obtain ⟨fd, Fd⟩ := Fd
  exact fn_dl Fd sc_check_commands rfl rfl (fun _ _ _ _ _ _ us hl => match us, hl with | [_, _], _ => rfl) ar (fun cdv A outer s H Ex hr => der_check_commands T MT_check cdv A outer s H Ex hr) pure
def t_Program___init__ : DS := dSeq (dPut ix_memory (dVar 0) (dVar 1)) (dSeq (dPut ix_commands (dVar 0) (dCB bTuple (dCons (dVar 2) (dNil)))) (dSeq (dIfS (dCT gGt (dCB bLen (dCons (dFld ix_commands (dVar 0)) (dNil))) (dC (.int 200))) (dNever) (dNext)) (dDrop (dCall sp_check_commands (dCons (dVar 1) (dCons (dFld ix_commands (dVar 0)) (dNil)))))))
theorem der_Program___init__ (T : Tx K mg) (F_check_commands : Prom P w K mg base 5 (He.ga K "check_commands") 2 sp_check_commands) {f : Addr} (cdv : Value) (A : Around) (outer : List Env) (s : Shared) (H : Hp) (Ex : XK) (hr : Room 5 (A.deeper (envOfC "Program.__init__" (defScope s_Program___init__) s.heap.objs.size f cdv))) : PSs (cxOf (L2.CX P w) P w K mg base ["self", "memory", "commands"] "Program.__init__" (defScope s_Program___init__) f cdv A outer s H Ex) (defBody s_Program___init__) (liftS K (fun cls d _ H => Ex cls d H) t_Program___init__) :=
  ds_cons (ds_fld ft_memory (d_var 0) (d_var 1)) (ds_cons (ds_fld ft_commands (d_var 0) (d_callT b_tuple T.f_tuple (by decide +kernel) (da_cons (d_var 2) (da_nil)))) (ds_cons (ds_if (d_cmpT o_gt (d_callB b_len T.f_len (by decide +kernel) (da_cons (d_fld ft_commands (d_var 0)) (da_nil))) (d_gint T.i_MOST_COMMANDS)) (ds_one (ds_never)) (ds_nil)) (ds_one (ds_expr (d_call F_check_commands (hr.mono (by decide)) T.g_check_commands (takes_of rfl rfl rfl rfl) (da_cons (d_var 1) (da_cons (d_fld ft_commands (d_var 0)) (da_nil))))))))
theorem ok_Program___init__ (T : Tx K mg) (F_check_commands : Prom P w K mg base 5 (He.ga K "check_commands") 2 sp_check_commands) {f : Addr} (Fd : ∃ fd, FunD K "__init__" "Program.__init__" (defArgs s_Program___init__) (defBody s_Program___init__) (defScope s_Program___init__) [] [] f fd) (ar : ∀ ds mu P' F, sp_Program___init__ ds mu P' F → ds.length = 3) (pure : ∀ ds mu P' F, sp_Program___init__ ds mu P' F → t_Program___init__ (endF P' F) (gam0 3 ds) mu) : Prom P w K mg base 6 f 3 sp_Program___init__ := by
  obtain ⟨fd, Fd⟩ := Fd
  exact fn_dl Fd sc_Program___init__ rfl rfl (fun _ _ _ _ _ _ us hl => match us, hl with | [_, _, _], _ => rfl) ar (fun cdv A outer s H Ex hr => der_Program___init__ T F_check_commands cdv A outer s H Ex hr) pure
def t_Program___add__ : DS := dSeq (dIfS (dCT (gNe 6) (dFld ix_memory (dVar 0)) (dFld ix_memory (dVar 1))) (dNever) (dNext)) (dRet (dCall g_Program (dCons (dFld ix_memory (dVar 0)) (dCons (dBin (gAdd 0) (dFld ix_commands (dVar 0)) (dFld ix_commands (dVar 1))) (dNil)))))
theorem der_Program___add__ (T : Tx K mg) (M_Program : MkOk P w K mg base 6 4 2 g_Program) (E : EqAll P w K mg base 6) {f : Addr} (cdv : Value) (A : Around) (outer : List Env) (s : Shared) (H : Hp) (Ex : XK) (hr : Room 16 (A.deeper (envOfC "Program.__add__" (defScope s_Program___add__) s.heap.objs.size f cdv))) : PSs (cxOf (L2.CX P w) P w K mg base ["self", "other"] "Program.__add__" (defScope s_Program___add__) f cdv A outer s H Ex) (defBody s_Program___add__) (liftS K (fun cls d _ H => Ex cls d H) t_Program___add__) :=
  ds_cons (ds_if (d_cmpT (o_ne 6 E (hr.mono (by first | decide | exact Nat.le_refl _))) (d_fld ft_memory (d_var 0)) (d_fld ft_memory (d_var 1))) (ds_one (ds_never)) (ds_nil)) (ds_one (ds_ret (d_make M_Program (hr.mono (by decide)) T.g_Program (takes_of rfl rfl rfl rfl) (da_cons (d_fld ft_memory (d_var 0)) (da_cons (d_bin (o_add (m := 0)) (d_fld ft_commands (d_var 0)) (d_fld ft_commands (d_var 1))) (da_nil))))))
theorem ok_Program___add__ (T : Tx K mg) (M_Program : MkOk P w K mg base 6 4 2 g_Program) (E : EqAll P w K mg base 6) {f : Addr} (Fd : ∃ fd, FunD K "__add__" "Program.__add__" (defArgs s_Program___add__) (defBody s_Program___add__) (defScope s_Program___add__) [] [] f fd) (ar : ∀ ds mu P' F, sp_Program___add__ ds mu P' F → ds.length = 2) (pure : ∀ ds mu P' F, sp_Program___add__ ds mu P' F → t_Program___add__ (endF P' F) (gam0 2 ds) mu) : Prom P w K mg base 17 f 2 sp_Program___add__ := by
  obtain ⟨fd, Fd⟩ := Fd
  exact fn_dl Fd sc_Program___add__ rfl rfl (fun _ _ _ _ _ _ us hl => match us, hl with | [_, _], _ => rfl) ar (fun cdv A outer s H Ex hr => der_Program___add__ T M_Program E cdv A outer s H Ex hr) pure
def t_read_number : DS := dSeq (dSet 2 (dIf (dCT (gEq 6) (dSlice 0 (dVar 0) (dNoPart) (dPart (dC (.int 1)))) (dC (.str "-"))) (dSlice 0 (dVar 0) (dPart (dC (.int 1))) (dNoPart)) (dVar 0))) (dSeq (dIfS (dOr (dNot (dTest (dChain gLe gLe (dC (.int 1)) (dCB bLen (dCons (dVar 2) (dNil))) (dC (.int 31))))) (dNot (dTru (dCB bAll (dCons (dLc 0 (iChr (dVar 2)) (dName 3) (dYes) (dBin gInS (dVar 3) (dC (.str "0123456789"))) [3]) (dNil)))))) (dRaise 15 (dCons (dVar 1) (dNil))) (dNext)) (dSeq (dIfS (dAnd (dCT (gEq 6) (dBin gIx (dVar 2) (dC (.int 0))) (dC (.str "0"))) (dCT (gNe 6) (dVar 0) (dC (.str "0")))) (dRaise 15 (dCons (dVar 1) (dNil))) (dNext)) (dRet (dCB bIntS (dCons (dVar 0) (dNil))))))
theorem der_read_number (T : Tx K mg) (X_15 : XOk P w K mg base 1 15) (E : EqAll P w K mg base 6) {f : Addr} (cdv : Value) (A : Around) (outer : List Env) (s : Shared) (H : Hp) (Ex : XK) (hr : Room 16 (A.deeper (envOfC "read_number" (defScope s_read_number) s.heap.objs.size f cdv))) : PSs (cxOf (L2.CX P w) P w K mg base ["text", "place", "figures", "sign"] "read_number" (defScope s_read_number) f cdv A outer s H Ex) (defBody s_read_number) (liftS K (fun cls d _ H => Ex cls d H) t_read_number) :=
  ds_cons (ds_set 2 (sc_read_number).nd (d_ifExp (d_cmpT (o_eq 6 E (hr.mono (by first | decide | exact Nat.le_refl _))) (d_slice 0 (d_var 0) (do_none) (do_some (d_int))) (d_str)) (d_slice 0 (d_var 0) (do_some (d_int)) (do_none)) (d_var 0))) (ds_cons (ds_if (PW.pt (d_or (d_not (d_chainT o_le o_le (d_int) (d_callB b_len T.f_len (by decide +kernel) (da_cons (d_var 2) (da_nil))) (d_gint T.i_MOST_FIGURES))) (d_or1 (d_not (d_tru (d_callB (b_all rfl) T.f_all (by decide +kernel) (da_cons (d_lc 0 rfl (sc_read_number).nd (di_chr (d_var 2)) (blkOk_by (own := [("sign", 3)]) (by show blkC ["text", "place", "figures", "sign"] (defScope s_read_number) _ [("sign", 3)] = true; decide +kernel)) (fun _ _ _ _ _ => dw_name 3 (sc_read_number).nd) (fun _ _ _ _ _ => dts_nil) (fun _ _ _ _ _ => d_cmp o_inS (d_var 3) (d_gstr T.i_FIGURES))) (da_nil)))))))) (ds_one (ds_raise rfl X_15 (hr.mono (by decide)) T.g_BadText (takes_of rfl rfl rfl rfl) (da_cons (d_var 1) (da_nil)))) (ds_nil)) (ds_cons (ds_if (PW.pt (d_and (d_cmpT (o_eq 6 E (hr.mono (by first | decide | exact Nat.le_refl _))) (d_ix (d_var 2) (d_int)) (d_str)) (d_and1 (d_cmpT (o_ne 6 E (hr.mono (by first | decide | exact Nat.le_refl _))) (d_var 0) (d_str))))) (ds_one (ds_raise rfl X_15 (hr.mono (by decide)) T.g_BadText (takes_of rfl rfl rfl rfl) (da_cons (d_var 1) (da_nil)))) (ds_nil)) (ds_one (ds_ret (d_callT b_intS T.f_int (by decide +kernel) (da_cons (d_var 0) (da_nil)))))))
theorem ok_read_number (T : Tx K mg) (X_15 : XOk P w K mg base 1 15) (E : EqAll P w K mg base 6) {f : Addr} (Fd : ∃ fd, FunD K "read_number" "read_number" (defArgs s_read_number) (defBody s_read_number) (defScope s_read_number) [] [] f fd) (ar : ∀ ds mu P' F, sp_read_number ds mu P' F → ds.length = 2) (pure : ∀ ds mu P' F, sp_read_number ds mu P' F → t_read_number (endF P' F) (gam0 4 ds) mu) : Prom P w K mg base 17 f 2 sp_read_number := by
  obtain ⟨fd, Fd⟩ := Fd
  exact fn_dl Fd sc_read_number rfl rfl (fun _ _ _ _ _ _ us hl => match us, hl with | [_, _], _ => rfl) ar (fun cdv A outer s H Ex hr => der_read_number T X_15 E cdv A outer s H Ex hr) pure
def t_command_text : DS := dSeq (dIfS (dTru (gIsi noTy (fun c => c == 1) (dVar 0))) (dRet (dJs [dC (.str "store "), dFmt (dFld ix_line (dVar 0)), dC (.str " "), dFmt (dFld ix_word (dVar 0)), dC (.str " "), dFmt (dFld ix_number (dVar 0))])) (dNext)) (dSeq (dIfS (dTru (gIsi noTy (fun c => c == 2) (dVar 0))) (dRet (dJs [dC (.str "flush "), dFmt (dFld ix_line (dVar 0))])) (dNext)) (dRet (dC (.str "fence"))))
theorem der_command_text (T : Tx K mg) {f : Addr} (cdv : Value) (A : Around) (outer : List Env) (s : Shared) (H : Hp) (Ex : XK) (hr : Room 1 (A.deeper (envOfC "command_text" (defScope s_command_text) s.heap.objs.size f cdv))) : PSs (cxOf (L2.CX P w) P w K mg base ["command"] "command_text" (defScope s_command_text) f cdv A outer s H Ex) (defBody s_command_text) (liftS K (fun cls d _ H => Ex cls d H) t_command_text) :=
  ds_cons (ds_if (d_tru (d_isi T.isF T.isi_Store T.f_isinstance (d_var 0) (pe_glob (v := .ref _) rfl T.g_Store rfl) (.own _))) (ds_one (ds_ret (d_js (PJ.cons (d_str) (PJ.cons (d_fmt (d_fld ft_line (d_var 0))) (PJ.cons (d_str) (PJ.cons (d_fmt (d_fld ft_word (d_var 0))) (PJ.cons (d_str) (PJ.cons (d_fmt (d_fld ft_number (d_var 0))) (PJ.nil)))))))))) (ds_nil)) (ds_cons (ds_if (d_tru (d_isi T.isF T.isi_Flush T.f_isinstance (d_var 0) (pe_glob (v := .ref _) rfl T.g_Flush rfl) (.own _))) (ds_one (ds_ret (d_js (PJ.cons (d_str) (PJ.cons (d_fmt (d_fld ft_line (d_var 0))) (PJ.nil)))))) (ds_nil)) (ds_one (ds_ret (d_str))))
theorem ok_command_text (T : Tx K mg) {f : Addr} (Fd : ∃ fd, FunD K "command_text" "command_text" (defArgs s_command_text) (defBody s_command_text) (defScope s_command_text) [] [] f fd) (ar : ∀ ds mu P' F, sp_command_text ds mu P' F → ds.length = 1) (pure : ∀ ds mu P' F, sp_command_text ds mu P' F → t_command_text (endF P' F) (gam0 1 ds) mu) : Prom P w K mg base 2 f 1 sp_command_text := by
  obtain ⟨fd, Fd⟩ := Fd
  exact fn_dl Fd sc_command_text rfl rfl (fun _ _ _ _ _ _ us hl => match us, hl with | [_], _ => rfl) ar (fun cdv A outer s H Ex hr => der_command_text T cdv A outer s H Ex hr) pure
def t_read_command : DS := dSeq (dSet 2 (dStrM (gSplit 0) (dVar 0) (dC (.str " ")))) (dSeq (dSet 3 (dLc 0 (iSeq (dSlice 0 (dVar 2) (dPart (dC (.int 1))) (dNoPart))) (dName 4) (dYes) (dCall sp_read_number (dCons (dVar 4) (dCons (dVar 1) (dNil)))) [4])) (dSeq (dIfS (dAnd (dCT (gEq 6) (dBin gIx (dVar 2) (dC (.int 0))) (dC (.str "store"))) (dCT (gEq 6) (dCB bLen (dCons (dVar 3) (dNil))) (dC (.int 3)))) (dSeq (dAsg (dVar 3) (dUnl 3 (gsCons (dName 5) (gsCons (dName 4) (gsCons (dName 6) (gsNil)))))) (dRet (dCall g_Store (dCons (dVar 5) (dCons (dVar 4) (dCons (dVar 6) (dNil))))))) (dNext)) (dSeq (dIfS (dAnd (dCT (gEq 6) (dBin gIx (dVar 2) (dC (.int 0))) (dC (.str "flush"))) (dCT (gEq 6) (dCB bLen (dCons (dVar 3) (dNil))) (dC (.int 1)))) (dRet (dCall g_Flush (dCons (dBin gIx (dVar 3) (dC (.int 0))) (dNil)))) (dNext)) (dSeq (dIfS (dCT (gEq 6) (dVar 0) (dC (.str "fence"))) (dRet (dMk0 3)) (dNext)) (dNever)))))
theorem der_read_command (T : Tx K mg) (F_read_number : Prom P w K mg base 17 (He.ga K "read_number") 2 sp_read_number) (M_Store : MkOk P w K mg base 2 1 3 g_Store) (M_Flush : MkOk P w K mg base 2 2 1 g_Flush) (E : EqAll P w K mg base 6) {f : Addr} (cdv : Value) (A : Around) (outer : List Env) (s : Shared) (H : Hp) (Ex : XK) (hr : Room 17 (A.deeper (envOfC "read_command" (defScope s_read_command) s.heap.objs.size f cdv))) : PSs (cxOf (L2.CX P w) P w K mg base ["text", "place", "words", "numbers", "word", "line", "number"] "read_command" (defScope s_read_command) f cdv A outer s H Ex) (defBody s_read_command) (liftS K (fun cls d _ H => Ex cls d H) t_read_command) :=
  ds_cons (ds_set 2 (sc_read_command).nd (d_strM PySem.F.slot_str_split PySem.F.type_str_split (m_split 0) (d_var 0) (d_str))) (ds_cons (ds_setLc 0 3 rfl (sc_read_command).nd (di_seq (d_slice 0 (d_var 2) (do_some (d_int)) (do_none))) (blkOk_by (own := [("word", 4)]) (by show blkC ["text", "place", "words", "numbers", "word", "line", "number"] (defScope s_read_command) _ [("word", 4)] = true; decide +kernel)) (fun _ _ _ _ _ => dw_name 4 (sc_read_command).nd) (fun _ _ _ _ _ => dts_nil) (fun _ _ _ _ _ => d_call F_read_number (hr.mono (by decide)) T.g_read_number takes_none5 (da_cons (d_var 4) (da_cons (d_var 1) (da_nil))))) (ds_cons (ds_if (PW.pt (d_and (d_cmpT (o_eq 6 E (hr.mono (by first | decide | exact Nat.le_refl _))) (d_ix (d_var 2) (d_int)) (d_str)) (d_and1 (d_cmpT (o_eq 6 E (hr.mono (by first | decide | exact Nat.le_refl _))) (d_callB b_len T.f_len (by decide +kernel) (da_cons (d_var 3) (da_nil))) (d_int))))) (ds_cons (ds_asg (d_var 3) (dg_unl rfl (dgs_cons (dg_name 5 (sc_read_command).nd) (dgs_cons (dg_name 4 (sc_read_command).nd) (dgs_cons (dg_name 6 (sc_read_command).nd) (dgs_nil)))))) (ds_one (ds_ret (d_make M_Store (hr.mono (by decide)) T.g_Store (takes_of rfl rfl rfl rfl) (da_cons (d_var 5) (da_cons (d_var 4) (da_cons (d_var 6) (da_nil)))))))) (ds_nil)) (ds_cons (ds_if (PW.pt (d_and (d_cmpT (o_eq 6 E (hr.mono (by first | decide | exact Nat.le_refl _))) (d_ix (d_var 2) (d_int)) (d_str)) (d_and1 (d_cmpT (o_eq 6 E (hr.mono (by first | decide | exact Nat.le_refl _))) (d_callB b_len T.f_len (by decide +kernel) (da_cons (d_var 3) (da_nil))) (d_int))))) (ds_one (ds_ret (d_make M_Flush (hr.mono (by decide)) T.g_Flush (takes_of rfl rfl rfl rfl) (da_cons (d_ix (d_var 3) (d_int)) (da_nil))))) (ds_nil)) (ds_cons (ds_if (d_cmpT (o_eq 6 E (hr.mono (by first | decide | exact Nat.le_refl _))) (d_var 0) (d_str)) (ds_one (ds_ret (d_make00 T.mk0_3 T.g_Fence))) (ds_nil)) (ds_one (ds_never))))))
theorem ok_read_command (T : Tx K mg) (F_read_number : Prom P w K mg base 17 (He.ga K "read_number") 2 sp_read_number) (M_Store : MkOk P w K mg base 2 1 3 g_Store) (M_Flush : MkOk P w K mg base 2 2 1 g_Flush) (E : EqAll P w K mg base 6) {f : Addr} (Fd : ∃ fd, FunD K "read_command" "read_command" (defArgs s_read_command) (defBody s_read_command) (defScope s_read_command) [] [] f fd) (ar : ∀ ds mu P' F, sp_read_command ds mu P' F → ds.length = 2) (pure : ∀ ds mu P' F, sp_read_command ds mu P' F → t_read_command (endF P' F) (gam0 7 ds) mu) : Prom P w K mg base 18 f 2 sp_read_command := by
  obtain ⟨fd, Fd⟩ := Fd
  exact fn_dl Fd sc_read_command rfl rfl (fun _ _ _ _ _ _ us hl => match us, hl with | [_, _], _ => rfl) ar (fun cdv A outer s H Ex hr => der_read_command T F_read_number M_Store M_Flush E cdv A outer s H Ex hr) pure
def t_program_text : DS := dSeq (dIfS (dCT (gEq 6) (dFld ix_commands (dVar 0)) (dTup (dNil))) (dRet (dC (.str "none"))) (dNext)) (dRet (dStrM (gJoin) (dC (.str ", ")) (dLc 0 (iSeq (dFld ix_commands (dVar 0))) (dName 1) (dYes) (dCall sp_command_text (dCons (dVar 1) (dNil))) [1])))
theorem der_program_text (T : Tx K mg) (F_command_text : Prom P w K mg base 2 (He.ga K "command_text") 1 sp_command_text) (E : EqAll P w K mg base 6) {f : Addr} (cdv : Value) (A : Around) (outer : List Env) (s : Shared) (H : Hp) (Ex : XK) (hr : Room 16 (A.deeper (envOfC "program_text" (defScope s_program_text) s.heap.objs.size f cdv))) : PSs (cxOf (L2.CX P w) P w K mg base ["program", "command"] "program_text" (defScope s_program_text) f cdv A outer s H Ex) (defBody s_program_text) (liftS K (fun cls d _ H => Ex cls d H) t_program_text) :=
  ds_cons (ds_if (d_cmpT (o_eq 6 E (hr.mono (by first | decide | exact Nat.le_refl _))) (d_fld ft_commands (d_var 0)) (d_tup (da_nil))) (ds_one (ds_ret (d_gstr T.i_NONE))) (ds_nil)) (ds_one (ds_ret (d_strM PySem.F.slot_str_join PySem.F.type_str_join m_join (d_gstr T.i_BETWEEN) (d_lc 0 rfl (sc_program_text).nd (di_seq (d_fld ft_commands (d_var 0))) (blkOk_by (own := [("command", 1)]) (by show blkC ["program", "command"] (defScope s_program_text) _ [("command", 1)] = true; decide +kernel)) (fun _ _ _ _ _ => dw_name 1 (sc_program_text).nd) (fun _ _ _ _ _ => dts_nil) (fun _ _ _ _ _ => d_call F_command_text (hr.mono (by decide)) T.g_command_text takes_none5 (da_cons (d_var 1) (da_nil)))))))
theorem ok_program_text (T : Tx K mg) (F_command_text : Prom P w K mg base 2 (He.ga K "command_text") 1 sp_command_text) (E : EqAll P w K mg base 6) {f : Addr} (Fd : ∃ fd, FunD K "program_text" "program_text" (defArgs s_program_text) (defBody s_program_text) (defScope s_program_text) [] [] f fd) (ar : ∀ ds mu P' F, sp_program_text ds mu P' F → ds.length = 1) (pure : ∀ ds mu P' F, sp_program_text ds mu P' F → t_program_text (endF P' F) (gam0 2 ds) mu) : Prom P w K mg base 17 f 1 sp_program_text := by
  obtain ⟨fd, Fd⟩ := Fd
  exact fn_dl Fd sc_program_text rfl rfl (fun _ _ _ _ _ _ us hl => match us, hl with | [_], _ => rfl) ar (fun cdv A outer s H Ex hr => der_program_text T F_command_text E cdv A outer s H Ex hr) pure
def t_read_program : DS := dSeq (dIfS (dCT (gEq 6) (dVar 1) (dC (.str "none"))) (dRet (dCall g_Program (dCons (dVar 0) (dCons (dLst 0 (dNil)) (dNil))))) (dNext)) (dRet (dCall g_Program (dCons (dVar 0) (dCons (dLc 0 (iEnA (dCons (dStrM (gSplit 0) (dVar 1) (dC (.str ", "))) (dNil))) (dTupG 2 (gsCons (dName 2) (gsCons (dName 3) (gsNil)))) (dYes) (dCall sp_read_command (dCons (dVar 3) (dCons (dVar 2) (dNil)))) [2, 3]) (dNil)))))
theorem der_read_program (T : Tx K mg) (M_Program : MkOk P w K mg base 6 4 2 g_Program) (F_read_command : Prom P w K mg base 18 (He.ga K "read_command") 2 sp_read_command) (E : EqAll P w K mg base 6) {f : Addr} (cdv : Value) (A : Around) (outer : List Env) (s : Shared) (H : Hp) (Ex : XK) (hr : Room 18 (A.deeper (envOfC "read_program" (defScope s_read_program) s.heap.objs.size f cdv))) : PSs (cxOf (L2.CX P w) P w K mg base ["memory", "text", "place", "part"] "read_program" (defScope s_read_program) f cdv A outer s H Ex) (defBody s_read_program) (liftS K (fun cls d _ H => Ex cls d H) t_read_program) :=
  ds_cons (ds_if (d_cmpT (o_eq 6 E (hr.mono (by first | decide | exact Nat.le_refl _))) (d_var 1) (d_gstr T.i_NONE)) (ds_one (ds_ret (d_make M_Program (hr.mono (by decide)) T.g_Program (takes_of rfl rfl rfl rfl) (da_cons (d_var 0) (da_cons (d_lst 0 (da_nil)) (da_nil)))))) (ds_nil)) (ds_one (ds_ret (d_make M_Program (hr.mono (by decide)) T.g_Program (takes_of rfl rfl rfl rfl) (da_cons (d_var 0) (da_cons (d_lc 0 rfl (sc_read_program).nd (di_enumA T.f_enumerate (da_cons (d_strM PySem.F.slot_str_split PySem.F.type_str_split (m_split 0) (d_var 1) (d_gstr T.i_BETWEEN)) (da_nil))) (blkOk_by (own := [("place", 2), ("part", 3)]) (by show blkC ["memory", "text", "place", "part"] (defScope s_read_program) _ [("place", 2), ("part", 3)] = true; decide +kernel)) (fun _ _ _ _ _ => dw_tup rfl (dws_cons (dw_name 2 (sc_read_program).nd) (dws_cons (dw_name 3 (sc_read_program).nd) (dws_nil)))) (fun _ _ _ _ _ => dts_nil) (fun _ _ _ _ _ => d_call F_read_command (hr.mono (by decide)) T.g_read_command takes_none5 (da_cons (d_var 3) (da_cons (d_var 2) (da_nil))))) (da_nil))))))
theorem ok_read_program (T : Tx K mg) (M_Program : MkOk P w K mg base 6 4 2 g_Program) (F_read_command : Prom P w K mg base 18 (He.ga K "read_command") 2 sp_read_command) (E : EqAll P w K mg base 6) {f : Addr} (Fd : ∃ fd, FunD K "read_program" "read_program" (defArgs s_read_program) (defBody s_read_program) (defScope s_read_program) [] [] f fd) (ar : ∀ ds mu P' F, sp_read_program ds mu P' F → ds.length = 2) (pure : ∀ ds mu P' F, sp_read_program ds mu P' F → t_read_program (endF P' F) (gam0 4 ds) mu) : Prom P w K mg base 19 f 2 sp_read_program := by
  obtain ⟨fd, Fd⟩ := Fd
  exact fn_dl Fd sc_read_program rfl rfl (fun _ _ _ _ _ _ us hl => match us, hl with | [_, _], _ => rfl) ar (fun cdv A outer s H Ex hr => der_read_program T M_Program F_read_command E cdv A outer s H Ex hr) pure
def t__law_source : DS := dRet (dLst 1 (dCons (dCB bAbs (dCons (dVar 0) (dNil))) (dCons (dBin gMod (dCB bInt (dCons (dVar 0) (dNil))) (dC (.int 2147483629))) (dCons (dC (.int 0)) (dNil)))))
theorem der__law_source (T : Tx K mg) {f : Addr} (cdv : Value) (A : Around) (outer : List Env) (s : Shared) (H : Hp) (Ex : XK) (hr : Room 1 (A.deeper (envOfC "_law_source" (defScope s__law_source) s.heap.objs.size f cdv))) : PSs (cxOf (L2.CX P w) P w K mg base ["_law_cell"] "_law_source" (defScope s__law_source) f cdv A outer s H Ex) (defBody s__law_source) (liftS K (fun cls d _ H => Ex cls d H) t__law_source) :=
  ds_one (ds_ret (d_lst 1 (da_cons (d_callB b_abs T.f_abs (by decide +kernel) (da_cons (d_var 0) (da_nil))) (da_cons (d_bin o_mod (d_callT b_int T.f_int (by decide +kernel) (da_cons (d_var 0) (da_nil))) (d_int)) (da_cons (d_int) (da_nil))))))
theorem ok__law_source (T : Tx K mg) {f : Addr} (Fd : ∃ fd, FunD K "_law_source" "_law_source" (defArgs s__law_source) (defBody s__law_source) (defScope s__law_source) [] [] f fd) (ar : ∀ ds mu P' F, sp__law_source ds mu P' F → ds.length = 1) (pure : ∀ ds mu P' F, sp__law_source ds mu P' F → t__law_source (endF P' F) (gam0 1 ds) mu) : Prom P w K mg base 2 f 1 sp__law_source := by
  obtain ⟨fd, Fd⟩ := Fd
  exact fn_dl Fd sc__law_source rfl rfl (fun _ _ _ _ _ _ us hl => match us, hl with | [_], _ => rfl) ar (fun cdv A outer s H Ex hr => der__law_source T cdv A outer s H Ex hr) pure
def t__law_draw : DS := dSeq (dIfS (dCT gGe (dBin gIx (dVar 0) (dC (.int 0))) (dBin gPow (dC (.int 10)) (dC (.int 18)))) (dSeq (dSet 3 (dBin gMod (dCB bInt (dCons (dBin gIx (dVar 0) (dC (.int 0))) (dNil))) (dVar 1))) (dSeq (dAsg (dBin gDiv (dBin gIx (dVar 0) (dC (.int 0))) (dVar 1)) (dSub (dVar 0) (dC (.int 0)))) (dRet (dVar 3)))) (dNext)) (dSeq (dAsg (dBin (gAdd 0) (dBin gIx (dVar 0) (dC (.int 2))) (dC (.int 1))) (dSub (dVar 0) (dC (.int 2)))) (dSeq (dSet 2 (dBin gMod (dCB bInt (dCons (dBin (gMul 0) (dBin (gAdd 0) (dBin (gAdd 0) (dBin gIx (dVar 0) (dC (.int 1))) (dBin (gMul 0) (dC (.int 7919)) (dBin gIx (dVar 0) (dC (.int 2))))) (dC (.int 1))) (dC (.int 48271))) (dNil))) (dC (.int 2147483647)))) (dSeq (dSet 2 (dBin gMod (dCB bInt (dCons (dBin (gMul 0) (dVar 2) (dBin (gAdd 0) (dBin gDiv (dVar 2) (dC (.int 1013))) (dC (.int 69621)))) (dNil))) (dC (.int 2147483587)))) (dRet (dBin gMod (dCB bInt (dCons (dBin gMod (dCB bInt (dCons (dBin (gAdd 0) (dBin gDiv (dVar 2) (dC (.int 7))) (dBin (gMul 0) (dBin gMod (dCB bInt (dCons (dVar 2) (dNil))) (dC (.int 7919))) (dC (.int 40692)))) (dNil))) (dC (.int 2147483399))) (dNil))) (dVar 1))))))
theorem der__law_draw (T : Tx K mg) {f : Addr} (cdv : Value) (A : Around) (outer : List Env) (s : Shared) (H : Hp) (Ex : XK) (hr : Room 1 (A.deeper (envOfC "_law_draw" (defScope s__law_draw) s.heap.objs.size f cdv))) : PSs (cxOf (L2.CX P w) P w K mg base ["_law_source_here", "_law_many", "_law_number_here", "_law_found"] "_law_draw" (defScope s__law_draw) f cdv A outer s H Ex) (defBody s__law_draw) (liftS K (fun cls d _ H => Ex cls d H) t__law_draw) :=
  ds_cons (ds_if (d_cmpT o_ge (d_ix (d_var 0) (d_int)) (d_bin o_pow (d_int) (d_int))) (ds_cons (ds_set 3 (sc__law_draw).nd (d_bin o_mod (d_callT b_int T.f_int (by decide +kernel) (da_cons (d_ix (d_var 0) (d_int)) (da_nil))) (d_var 1))) (ds_cons (ds_asg (d_bin o_div (d_ix (d_var 0) (d_int)) (d_var 1)) (dg_sub (d_var 0) (d_int))) (ds_one (ds_ret (d_var 3))))) (ds_nil)) (ds_cons (ds_asg (d_bin (o_add (m := 0)) (d_ix (d_var 0) (d_int)) (d_int)) (dg_sub (d_var 0) (d_int))) (ds_cons (ds_set 2 (sc__law_draw).nd (d_bin o_mod (d_callT b_int T.f_int (by decide +kernel) (da_cons (d_bin (o_mul (m := 0)) (d_bin (o_add (m := 0)) (d_bin (o_add (m := 0)) (d_ix (d_var 0) (d_int)) (d_bin (o_mul (m := 0)) (d_int) (d_ix (d_var 0) (d_int)))) (d_int)) (d_int)) (da_nil))) (d_int))) (ds_cons (ds_set 2 (sc__law_draw).nd (d_bin o_mod (d_callT b_int T.f_int (by decide +kernel) (da_cons (d_bin (o_mul (m := 0)) (d_var 2) (d_bin (o_add (m := 0)) (d_bin o_div (d_var 2) (d_int)) (d_int))) (da_nil))) (d_int))) (ds_one (ds_ret (d_bin o_mod (d_callT b_int T.f_int (by decide +kernel) (da_cons (d_bin o_mod (d_callT b_int T.f_int (by decide +kernel) (da_cons (d_bin (o_add (m := 0)) (d_bin o_div (d_var 2) (d_int)) (d_bin (o_mul (m := 0)) (d_bin o_mod (d_callT b_int T.f_int (by decide +kernel) (da_cons (d_var 2) (da_nil))) (d_int)) (d_int))) (da_nil))) (d_int)) (da_nil))) (d_var 1)))))))
theorem ok__law_draw (T : Tx K mg) {f : Addr} (Fd : ∃ fd, FunD K "_law_draw" "_law_draw" (defArgs s__law_draw) (defBody s__law_draw) (defScope s__law_draw) [] [] f fd) (ar : ∀ ds mu P' F, sp__law_draw ds mu P' F → ds.length = 2) (pure : ∀ ds mu P' F, sp__law_draw ds mu P' F → t__law_draw (endF P' F) (gam0 4 ds) mu) : Prom P w K mg base 2 f 2 sp__law_draw := by
  obtain ⟨fd, Fd⟩ := Fd
  exact fn_dl Fd sc__law_draw rfl rfl (fun _ _ _ _ _ _ us hl => match us, hl with | [_, _], _ => rfl) ar (fun cdv A outer s H Ex hr => der__law_draw T cdv A outer s H Ex hr) pure
def t__law_pick : DS := dRet (dBin gIx (dVar 1) (dCall sp__law_draw (dCons (dVar 0) (dCons (dCB bLen (dCons (dVar 1) (dNil))) (dNil)))))
theorem der__law_pick (T : Tx K mg) (F__law_draw : Prom P w K mg base 2 (He.ga K "_law_draw") 2 sp__law_draw) {f : Addr} (cdv : Value) (A : Around) (outer : List Env) (s : Shared) (H : Hp) (Ex : XK) (hr : Room 2 (A.deeper (envOfC "_law_pick" (defScope s__law_pick) s.heap.objs.size f cdv))) : PSs (cxOf (L2.CX P w) P w K mg base ["_law_source_here", "_law_items"] "_law_pick" (defScope s__law_pick) f cdv A outer s H Ex) (defBody s__law_pick) (liftS K (fun cls d _ H => Ex cls d H) t__law_pick) :=
  ds_one (ds_ret (d_ix (d_var 1) (d_call F__law_draw (hr.mono (by decide)) T.g__law_draw (takes_of rfl rfl rfl rfl) (da_cons (d_var 0) (da_cons (d_callB b_len T.f_len (by decide +kernel) (da_cons (d_var 1) (da_nil))) (da_nil))))))
theorem ok__law_pick (T : Tx K mg) (F__law_draw : Prom P w K mg base 2 (He.ga K "_law_draw") 2 sp__law_draw) {f : Addr} (Fd : ∃ fd, FunD K "_law_pick" "_law_pick" (defArgs s__law_pick) (defBody s__law_pick) (defScope s__law_pick) [] [] f fd) (ar : ∀ ds mu P' F, sp__law_pick ds mu P' F → ds.length = 2) (pure : ∀ ds mu P' F, sp__law_pick ds mu P' F → t__law_pick (endF P' F) (gam0 2 ds) mu) : Prom P w K mg base 3 f 2 sp__law_pick := by
  obtain ⟨fd, Fd⟩ := Fd
  exact fn_dl Fd sc__law_pick rfl rfl (fun _ _ _ _ _ _ us hl => match us, hl with | [_, _], _ => rfl) ar (fun cdv A outer s H Ex hr => der__law_pick T F__law_draw cdv A outer s H Ex hr) pure
def t__law_sizes : DS := dRet (dLc 0 (iR1 (dCons (dBin (gAdd 0) (dC (.int 1)) (dCall sp__law_draw (dCons (dVar 0) (dCons (dVar 1) (dNil))))) (dNil))) (dName 2) (dYes) (dBin (gAdd 0) (dC (.int 1)) (dCall sp__law_draw (dCons (dVar 0) (dCons (dC (.int 4)) (dNil))))) [2])
theorem der__law_sizes (T : Tx K mg) (F__law_draw : Prom P w K mg base 2 (He.ga K "_law_draw") 2 sp__law_draw) {f : Addr} (cdv : Value) (A : Around) (outer : List Env) (s : Shared) (H : Hp) (Ex : XK) (hr : Room 2 (A.deeper (envOfC "_law_sizes" (defScope s__law_sizes) s.heap.objs.size f cdv))) : PSs (cxOf (L2.CX P w) P w K mg base ["_law_source_here", "_law_most", "_law_k"] "_law_sizes" (defScope s__law_sizes) f cdv A outer s H Ex) (defBody s__law_sizes) (liftS K (fun cls d _ H => Ex cls d H) t__law_sizes) :=
  ds_one (ds_ret (d_lc 0 rfl (sc__law_sizes).nd (di_range1 T.f_range (da_cons (d_bin (o_add (m := 0)) (d_int) (d_call F__law_draw (hr.mono (by decide)) T.g__law_draw (takes_of rfl rfl rfl rfl) (da_cons (d_var 0) (da_cons (d_var 1) (da_nil))))) (da_nil))) (blkOk_by (own := [("_law_k", 2)]) (by show blkC ["_law_source_here", "_law_most", "_law_k"] (defScope s__law_sizes) _ [("_law_k", 2)] = true; decide +kernel)) (fun _ _ _ _ _ => dw_name 2 (sc__law_sizes).nd) (fun _ _ _ _ _ => dts_nil) (fun _ _ _ _ _ => d_bin (o_add (m := 0)) (d_int) (d_call F__law_draw (hr.mono (by decide)) T.g__law_draw takes_none5 (da_cons (d_var 0) (da_cons (d_int) (da_nil)))))))
theorem ok__law_sizes (T : Tx K mg) (F__law_draw : Prom P w K mg base 2 (He.ga K "_law_draw") 2 sp__law_draw) {f : Addr} (Fd : ∃ fd, FunD K "_law_sizes" "_law_sizes" (defArgs s__law_sizes) (defBody s__law_sizes) (defScope s__law_sizes) [] [] f fd) (ar : ∀ ds mu P' F, sp__law_sizes ds mu P' F → ds.length = 2) (pure : ∀ ds mu P' F, sp__law_sizes ds mu P' F → t__law_sizes (endF P' F) (gam0 3 ds) mu) : Prom P w K mg base 3 f 2 sp__law_sizes := by
  obtain ⟨fd, Fd⟩ := Fd
  exact fn_dl Fd sc__law_sizes rfl rfl (fun _ _ _ _ _ _ us hl => match us, hl with | [_, _], _ => rfl) ar (fun cdv A outer s H Ex hr => der__law_sizes T F__law_draw cdv A outer s H Ex hr) pure
def t__law_number : DS := dSeq (dSet 1 (dBin (gAdd 0) (dBin gPow (dC (.int 10)) (dC (.int 30))) (dCall sp__law_draw (dCons (dVar 0) (dCons (dBin gPow (dC (.int 10)) (dC (.int 9))) (dNil)))))) (dRet (dCall sp__law_pick (dCons (dVar 0) (dCons (dLst 0 (dCons (dC (.int 0)) (dCons (dC (.int 1)) (dCons (dC (.int 2)) (dCons (dNeg (dC (.int 1))) (dCons (dC (.int 7)) (dCons (dVar 1) (dCons (dBin gSub (dC (.int 0)) (dVar 1)) (dCons (dCall sp__law_draw (dCons (dVar 0) (dCons (dC (.int 1000)) (dNil)))) (dNil)))))))))) (dNil)))))
theorem der__law_number (T : Tx K mg) (F__law_draw : Prom P w K mg base 2 (He.ga K "_law_draw") 2 sp__law_draw) (F__law_pick : Prom P w K mg base 3 (He.ga K "_law_pick") 2 sp__law_pick) {f : Addr} (cdv : Value) (A : Around) (outer : List Env) (s : Shared) (H : Hp) (Ex : XK) (hr : Room 3 (A.deeper (envOfC "_law_number" (defScope s__law_number) s.heap.objs.size f cdv))) : PSs (cxOf (L2.CX P w) P w K mg base ["_law_source_here", "_law_great"] "_law_number" (defScope s__law_number) f cdv A outer s H Ex) (defBody s__law_number) (liftS K (fun cls d _ H => Ex cls d H) t__law_number) :=
  ds_cons (ds_set 1 (sc__law_number).nd (d_bin (o_add (m := 0)) (d_bin o_pow (d_int) (d_int)) (d_call F__law_draw (hr.mono (by decide)) T.g__law_draw (takes_of rfl rfl rfl rfl) (da_cons (d_var 0) (da_cons (d_bin o_pow (d_int) (d_int)) (da_nil)))))) (ds_one (ds_ret (d_call F__law_pick (hr.mono (by decide)) T.g__law_pick (takes_of rfl rfl rfl rfl) (da_cons (d_var 0) (da_cons (d_lst 0 (da_cons (d_int) (da_cons (d_int) (da_cons (d_int) (da_cons (d_neg (d_int)) (da_cons (d_int) (da_cons (d_var 1) (da_cons (d_bin o_sub (d_int) (d_var 1)) (da_cons (d_call F__law_draw (hr.mono (by decide)) T.g__law_draw (takes_of rfl rfl rfl rfl) (da_cons (d_var 0) (da_cons (d_int) (da_nil)))) (da_nil)))))))))) (da_nil))))))
theorem ok__law_number (T : Tx K mg) (F__law_draw : Prom P w K mg base 2 (He.ga K "_law_draw") 2 sp__law_draw) (F__law_pick : Prom P w K mg base 3 (He.ga K "_law_pick") 2 sp__law_pick) {f : Addr} (Fd : ∃ fd, FunD K "_law_number" "_law_number" (defArgs s__law_number) (defBody s__law_number) (defScope s__law_number) [] [] f fd) (ar : ∀ ds mu P' F, sp__law_number ds mu P' F → ds.length = 1) (pure : ∀ ds mu P' F, sp__law_number ds mu P' F → t__law_number (endF P' F) (gam0 2 ds) mu) : Prom P w K mg base 4 f 1 sp__law_number := by
  obtain ⟨fd, Fd⟩ := Fd
  exact fn_dl Fd sc__law_number rfl rfl (fun _ _ _ _ _ _ us hl => match us, hl with | [_], _ => rfl) ar (fun cdv A outer s H Ex hr => der__law_number T F__law_draw F__law_pick cdv A outer s H Ex hr) pure
def t__law_specs : DS := dSeq (dSet 4 (dLst 1 (dNil))) (dSeq (dFor (iR1 (dCons (dBin (gAdd 0) (dVar 2) (dCall sp__law_draw (dCons (dVar 0) (dCons (dBin (gAdd 0) (dBin gSub (dVar 3) (dVar 2)) (dC (.int 1))) (dNil))))) (dNil))) (dName 5) (dSeq (dSet 6 (dCall sp__law_pick (dCons (dVar 0) (dCons (dLst 0 (dCons (dC (.str "store")) (dCons (dC (.str "store")) (dCons (dC (.str "store")) (dCons (dC (.str "flush")) (dCons (dC (.str "flush")) (dCons (dC (.str "fence")) (dNil)))))))) (dNil))))) (dSeq (dSet 7 (dCall sp__law_draw (dCons (dVar 0) (dCons (dCB bLen (dCons (dVar 1) (dNil))) (dNil))))) (dDrop (dMtd gAppend (dVar 4) (dCons (dTup (dCons (dVar 6) (dCons (dVar 7) (dCons (dCall sp__law_draw (dCons (dVar 0) (dCons (dBin gIx (dVar 1) (dVar 7)) (dNil)))) (dCons (dCall sp__law_number (dCons (dVar 0) (dNil))) (dNil)))))) (dNil))))))) (dRet (dVar 4)))
theorem der__law_specs (T : Tx K mg) (F__law_draw : Prom P w K mg base 2 (He.ga K "_law_draw") 2 sp__law_draw) (F__law_pick : Prom P w K mg base 3 (He.ga K "_law_pick") 2 sp__law_pick) (F__law_number : Prom P w K mg base 4 (He.ga K "_law_number") 1 sp__law_number) {f : Addr} (cdv : Value) (A : Around) (outer : List Env) (s : Shared) (H : Hp) (Ex : XK) (hr : Room 4 (A.deeper (envOfC "_law_specs" (defScope s__law_specs) s.heap.objs.size f cdv))) : PSs (cxOf (L2.CX P w) P w K mg base ["_law_source_here", "_law_sizes_so", "_law_least", "_law_most", "_law_result", "_law_k", "_law_kind", "_law_a"] "_law_specs" (defScope s__law_specs) f cdv A outer s H Ex) (defBody s__law_specs) (liftS K (fun cls d _ H => Ex cls d H) t__law_specs) :=
  ds_cons (ds_set 4 (sc__law_specs).nd (d_lst 1 (da_nil))) (ds_cons (ds_for (passes_of rfl) rfl (di_range1 T.f_range (da_cons (d_bin (o_add (m := 0)) (d_var 2) (d_call F__law_draw (hr.mono (by decide)) T.g__law_draw (takes_of rfl rfl rfl rfl) (da_cons (d_var 0) (da_cons (d_bin (o_add (m := 0)) (d_bin o_sub (d_var 3) (d_var 2)) (d_int)) (da_nil))))) (da_nil))) (dg_name 5 (sc__law_specs).nd) (ds_cons (ds_set 6 (sc__law_specs).nd (d_call F__law_pick (hr.mono (by decide)) T.g__law_pick (takes_of rfl rfl rfl rfl) (da_cons (d_var 0) (da_cons (d_lst 0 (da_cons (d_str) (da_cons (d_str) (da_cons (d_str) (da_cons (d_str) (da_cons (d_str) (da_cons (d_str) (da_nil)))))))) (da_nil))))) (ds_cons (ds_set 7 (sc__law_specs).nd (d_call F__law_draw (hr.mono (by decide)) T.g__law_draw (takes_of rfl rfl rfl rfl) (da_cons (d_var 0) (da_cons (d_callB b_len T.f_len (by decide +kernel) (da_cons (d_var 1) (da_nil))) (da_nil))))) (ds_one (ds_expr (d_mtd PySem.F.plainAttrs_list PySem.F.slot_list_append PySem.F.type_list_append m_append (d_var 4) (da_cons (d_tup (da_cons (d_var 6) (da_cons (d_var 7) (da_cons (d_call F__law_draw (hr.mono (by decide)) T.g__law_draw (takes_of rfl rfl rfl rfl) (da_cons (d_var 0) (da_cons (d_ix (d_var 1) (d_var 7)) (da_nil)))) (da_cons (d_call F__law_number (hr.mono (by decide)) T.g__law_number (takes_of rfl rfl rfl rfl) (da_cons (d_var 0) (da_nil))) (da_nil)))))) (da_nil)))))))) (ds_one (ds_ret (d_var 4))))
theorem ok__law_specs (T : Tx K mg) (F__law_draw : Prom P w K mg base 2 (He.ga K "_law_draw") 2 sp__law_draw) (F__law_pick : Prom P w K mg base 3 (He.ga K "_law_pick") 2 sp__law_pick) (F__law_number : Prom P w K mg base 4 (He.ga K "_law_number") 1 sp__law_number) {f : Addr} (Fd : ∃ fd, FunD K "_law_specs" "_law_specs" (defArgs s__law_specs) (defBody s__law_specs) (defScope s__law_specs) [] [] f fd) (ar : ∀ ds mu P' F, sp__law_specs ds mu P' F → ds.length = 4) (pure : ∀ ds mu P' F, sp__law_specs ds mu P' F → t__law_specs (endF P' F) (gam0 8 ds) mu) : Prom P w K mg base 5 f 4 sp__law_specs := by
  obtain ⟨fd, Fd⟩ := Fd
  exact fn_dl Fd sc__law_specs rfl rfl (fun _ _ _ _ _ _ us hl => match us, hl with | [_, _, _, _], _ => rfl) ar (fun cdv A outer s H Ex hr => der__law_specs T F__law_draw F__law_pick F__law_number cdv A outer s H Ex hr) pure
def t__law_command : DS := dSeq (dAsg (dVar 0) (dTupG 4 (gsCons (dName 1) (gsCons (dName 2) (gsCons (dName 3) (gsCons (dName 4) (gsNil))))))) (dSeq (dIfS (dCT (gEq 6) (dVar 1) (dC (.str "store"))) (dRet (dCall g_Store (dCons (dVar 2) (dCons (dVar 3) (dCons (dVar 4) (dNil)))))) (dNext)) (dRet (dIf (dCT (gEq 6) (dVar 1) (dC (.str "flush"))) (dCall g_Flush (dCons (dVar 2) (dNil))) (dMk0 3))))
theorem der__law_command (T : Tx K mg) (M_Store : MkOk P w K mg base 2 1 3 g_Store) (M_Flush : MkOk P w K mg base 2 2 1 g_Flush) (E : EqAll P w K mg base 6) {f : Addr} (cdv : Value) (A : Around) (outer : List Env) (s : Shared) (H : Hp) (Ex : XK) (hr : Room 16 (A.deeper (envOfC "_law_command" (defScope s__law_command) s.heap.objs.size f cdv))) : PSs (cxOf (L2.CX P w) P w K mg base ["_law_spec", "_law_kind", "_law_a", "_law_b", "_law_c"] "_law_command" (defScope s__law_command) f cdv A outer s H Ex) (defBody s__law_command) (liftS K (fun cls d _ H => Ex cls d H) t__law_command) :=
  ds_cons (ds_asg (d_var 0) (dg_tup rfl (dgs_cons (dg_name 1 (sc__law_command).nd) (dgs_cons (dg_name 2 (sc__law_command).nd) (dgs_cons (dg_name 3 (sc__law_command).nd) (dgs_cons (dg_name 4 (sc__law_command).nd) (dgs_nil))))))) (ds_cons (ds_if (d_cmpT (o_eq 6 E (hr.mono (by first | decide | exact Nat.le_refl _))) (d_var 1) (d_str)) (ds_one (ds_ret (d_make M_Store (hr.mono (by decide)) T.g_Store (takes_of rfl rfl rfl rfl) (da_cons (d_var 2) (da_cons (d_var 3) (da_cons (d_var 4) (da_nil))))))) (ds_nil)) (ds_one (ds_ret (d_ifExp (d_cmpT (o_eq 6 E (hr.mono (by first | decide | exact Nat.le_refl _))) (d_var 1) (d_str)) (d_make M_Flush (hr.mono (by decide)) T.g_Flush (takes_of rfl rfl rfl rfl) (da_cons (d_var 2) (da_nil))) (d_make00 T.mk0_3 T.g_Fence)))))
theorem ok__law_command (T : Tx K mg) (M_Store : MkOk P w K mg base 2 1 3 g_Store) (M_Flush : MkOk P w K mg base 2 2 1 g_Flush) (E : EqAll P w K mg base 6) {f : Addr} (Fd : ∃ fd, FunD K "_law_command" "_law_command" (defArgs s__law_command) (defBody s__law_command) (defScope s__law_command) [] [] f fd) (ar : ∀ ds mu P' F, sp__law_command ds mu P' F → ds.length = 1) (pure : ∀ ds mu P' F, sp__law_command ds mu P' F → t__law_command (endF P' F) (gam0 5 ds) mu) : Prom P w K mg base 17 f 1 sp__law_command := by
  obtain ⟨fd, Fd⟩ := Fd
  exact fn_dl Fd sc__law_command rfl rfl (fun _ _ _ _ _ _ us hl => match us, hl with | [_], _ => rfl) ar (fun cdv A outer s H Ex hr => der__law_command T M_Store M_Flush E cdv A outer s H Ex hr) pure
def t__law_program : DS := dRet (dCall g_Program (dCons (dCall g_Memory (dCons (dVar 0) (dNil))) (dCons (dLc 0 (iSeq (dVar 1)) (dName 2) (dYes) (dCall sp__law_command (dCons (dVar 2) (dNil))) [2]) (dNil))))
theorem der__law_program (T : Tx K mg) (M_Program : MkOk P w K mg base 6 4 2 g_Program) (F__law_command : Prom P w K mg base 17 (He.ga K "_law_command") 1 sp__law_command) (M_Memory : MkOk P w K mg base 2 0 1 g_Memory) {f : Addr} (cdv : Value) (A : Around) (outer : List Env) (s : Shared) (H : Hp) (Ex : XK) (hr : Room 17 (A.deeper (envOfC "_law_program" (defScope s__law_program) s.heap.objs.size f cdv))) : PSs (cxOf (L2.CX P w) P w K mg base ["_law_sizes_so", "_law_specs_here", "_law_spec"] "_law_program" (defScope s__law_program) f cdv A outer s H Ex) (defBody s__law_program) (liftS K (fun cls d _ H => Ex cls d H) t__law_program) :=
  ds_one (ds_ret (d_make M_Program (hr.mono (by decide)) T.g_Program (takes_of rfl rfl rfl rfl) (da_cons (d_make M_Memory (hr.mono (by decide)) T.g_Memory (takes_of rfl rfl rfl rfl) (da_cons (d_var 0) (da_nil))) (da_cons (d_lc 0 rfl (sc__law_program).nd (di_seq (d_var 1)) (blkOk_by (own := [("_law_spec", 2)]) (by show blkC ["_law_sizes_so", "_law_specs_here", "_law_spec"] (defScope s__law_program) _ [("_law_spec", 2)] = true; decide +kernel)) (fun _ _ _ _ _ => dw_name 2 (sc__law_program).nd) (fun _ _ _ _ _ => dts_nil) (fun _ _ _ _ _ => d_call F__law_command (hr.mono (by decide)) T.g__law_command takes_none5 (da_cons (d_var 2) (da_nil)))) (da_nil)))))
theorem ok__law_program (T : Tx K mg) (M_Program : MkOk P w K mg base 6 4 2 g_Program) (F__law_command : Prom P w K mg base 17 (He.ga K "_law_command") 1 sp__law_command) (M_Memory : MkOk P w K mg base 2 0 1 g_Memory) {f : Addr} (Fd : ∃ fd, FunD K "_law_program" "_law_program" (defArgs s__law_program) (defBody s__law_program) (defScope s__law_program) [] [] f fd) (ar : ∀ ds mu P' F, sp__law_program ds mu P' F → ds.length = 2) (pure : ∀ ds mu P' F, sp__law_program ds mu P' F → t__law_program (endF P' F) (gam0 3 ds) mu) : Prom P w K mg base 18 f 2 sp__law_program := by
  obtain ⟨fd, Fd⟩ := Fd
  exact fn_dl Fd sc__law_program rfl rfl (fun _ _ _ _ _ _ us hl => match us, hl with | [_, _], _ => rfl) ar (fun cdv A outer s H Ex hr => der__law_program T M_Program F__law_command M_Memory cdv A outer s H Ex hr) pure
def t__law_text : DS := dSeq (dSet 1 (dLst 1 (dNil))) (dSeq (dFor (iSeq (dVar 0)) (dTupG 4 (gsCons (dName 2) (gsCons (dName 3) (gsCons (dName 4) (gsCons (dName 5) (gsNil)))))) (dTrim1 (dSet 6 (dKIx (dDisp [(dC (.str "store"), dLst 0 (dCons (dVar 3) (dCons (dVar 4) (dCons (dVar 5) (dNil))))), (dC (.str "flush"), dLst 0 (dCons (dVar 3) (dNil))), (dC (.str "fence"), dLst 0 (dNil))]) (dVar 2))) (dDrop (dMtd gAppend (dVar 1) (dCons (dStrM (gJoin) (dC (.str " ")) (dBin (gAdd 0) (dLst 0 (dCons (dVar 2) (dNil))) (dLc 0 (iSeq (dVar 6)) (dName 7) (dYes) (dCB bStr (dCons (dVar 7) (dNil))) [7]))) (dNil)))))) (dRet (dIf (dCT (gEq 6) (dVar 1) (dLst 0 (dNil))) (dC (.str "none")) (dStrM (gJoin) (dC (.str ", ")) (dVar 1)))))
theorem der__law_text (T : Tx K mg) (E : EqAll P w K mg base 6) {f : Addr} (cdv : Value) (A : Around) (outer : List Env) (s : Shared) (H : Hp) (Ex : XK) (hr : Room 16 (A.deeper (envOfC "_law_text" (defScope s__law_text) s.heap.objs.size f cdv))) : PSs (cxOf (L2.CX P w) P w K mg base ["_law_specs_here", "_law_result", "_law_kind", "_law_a", "_law_b", "_law_c", "_law_numbers_so", "_law_one"] "_law_text" (defScope s__law_text) f cdv A outer s H Ex) (defBody s__law_text) (liftS K (fun cls d _ H => Ex cls d H) t__law_text) :=
  ds_cons (ds_set 1 (sc__law_text).nd (d_lst 1 (da_nil))) (ds_cons (ds_for (passes_of rfl) rfl (di_seq (d_var 0)) (dg_tup rfl (dgs_cons (dg_name 2 (sc__law_text).nd) (dgs_cons (dg_name 3 (sc__law_text).nd) (dgs_cons (dg_name 4 (sc__law_text).nd) (dgs_cons (dg_name 5 (sc__law_text).nd) (dgs_nil)))))) (ds_trim1 (ds_set 6 (sc__law_text).nd (d_kix (unit_lt (hr.mono (Nat.zero_le _))) (d_disp (pps_cons (d_str) (d_lst 0 (da_cons (d_var 3) (da_cons (d_var 4) (da_cons (d_var 5) (da_nil))))) (pps_cons (d_str) (d_lst 0 (da_cons (d_var 3) (da_nil))) (pps_cons (d_str) (d_lst 0 (da_nil)) (pps_nil))))) (d_var 2))) (ds_one (ds_expr (d_mtd PySem.F.plainAttrs_list PySem.F.slot_list_append PySem.F.type_list_append m_append (d_var 1) (da_cons (d_strM PySem.F.slot_str_join PySem.F.type_str_join m_join (d_str) (d_bin (o_add (m := 0)) (d_lst 0 (da_cons (d_var 2) (da_nil))) (d_lc 0 rfl (sc__law_text).nd (di_seq (d_var 6)) (blkOk_by (own := [("_law_one", 7)]) (by show blkC ["_law_specs_here", "_law_result", "_law_kind", "_law_a", "_law_b", "_law_c", "_law_numbers_so", "_law_one"] (defScope s__law_text) _ [("_law_one", 7)] = true; decide +kernel)) (fun _ _ _ _ _ => dw_name 7 (sc__law_text).nd) (fun _ _ _ _ _ => dts_nil) (fun _ _ _ _ _ => d_callT b_str T.f_str (by decide +kernel) (da_cons (d_var 7) (da_nil)))))) (da_nil))))))) (ds_one (ds_ret (d_ifExp (d_cmpT (o_eq 6 E (hr.mono (by first | decide | exact Nat.le_refl _))) (d_var 1) (d_lst 0 (da_nil))) (d_str) (d_strM PySem.F.slot_str_join PySem.F.type_str_join m_join (d_str) (d_var 1))))))
theorem ok__law_text (T : Tx K mg) (E : EqAll P w K mg base 6) {f : Addr} (Fd : ∃ fd, FunD K "_law_text" "_law_text" (defArgs s__law_text) (defBody s__law_text) (defScope s__law_text) [] [] f fd) (ar : ∀ ds mu P' F, sp__law_text ds mu P' F → ds.length = 1) (pure : ∀ ds mu P' F, sp__law_text ds mu P' F → t__law_text (endT mu P' F) (gam0 8 ds) mu) : Prom P w K mg base 17 f 1 sp__law_text := by
  obtain ⟨fd, Fd⟩ := Fd
  exact fn_dlT Fd sc__law_text rfl rfl (fun _ _ _ _ _ _ us hl => match us, hl with | [_], _ => rfl) ar (fun cdv A outer s H Ex hr => der__law_text T E cdv A outer s H Ex hr) pure
def t__law_shown : DS := dSeq (dSet 1 (dLst 1 (dNil))) (dSeq (dFor (iSeq (dVar 0)) (dName 2) (dIfS (dTru (gIsi noTy (fun c => c == 1) (dVar 2))) (dDrop (dMtd gAppend (dVar 1) (dCons (dTup (dCons (dC (.str "store")) (dCons (dFld ix_line (dVar 2)) (dCons (dFld ix_word (dVar 2)) (dCons (dFld ix_number (dVar 2)) (dNil)))))) (dNil)))) (dDrop (dMtd gAppend (dVar 1) (dCons (dIf (dTru (gIsi noTy (fun c => c == 2) (dVar 2))) (dTup (dCons (dC (.str "flush")) (dCons (dFld ix_line (dVar 2)) (dNil)))) (dTup (dCons (dC (.str "fence")) (dNil)))) (dNil)))))) (dRet (dVar 1)))
theorem der__law_shown (T : Tx K mg) {f : Addr} (cdv : Value) (A : Around) (outer : List Env) (s : Shared) (H : Hp) (Ex : XK) (hr : Room 1 (A.deeper (envOfC "_law_shown" (defScope s__law_shown) s.heap.objs.size f cdv))) : PSs (cxOf (L2.CX P w) P w K mg base ["_law_commands", "_law_found", "_law_one"] "_law_shown" (defScope s__law_shown) f cdv A outer s H Ex) (defBody s__law_shown) (liftS K (fun cls d _ H => Ex cls d H) t__law_shown) :=
  ds_cons (ds_set 1 (sc__law_shown).nd (d_lst 1 (da_nil))) (ds_cons (ds_for (passes_of rfl) rfl (di_seq (d_var 0)) (dg_name 2 (sc__law_shown).nd) (ds_one (ds_if (d_tru (d_isi T.isF T.isi_Store T.f_isinstance (d_var 2) (pe_glob (v := .ref _) rfl T.g_Store rfl) (.own _))) (ds_one (ds_expr (d_mtd PySem.F.plainAttrs_list PySem.F.slot_list_append PySem.F.type_list_append m_append (d_var 1) (da_cons (d_tup (da_cons (d_str) (da_cons (d_fld ft_line (d_var 2)) (da_cons (d_fld ft_word (d_var 2)) (da_cons (d_fld ft_number (d_var 2)) (da_nil)))))) (da_nil))))) (ds_one (ds_expr (d_mtd PySem.F.plainAttrs_list PySem.F.slot_list_append PySem.F.type_list_append m_append (d_var 1) (da_cons (d_ifExp (d_tru (d_isi T.isF T.isi_Flush T.f_isinstance (d_var 2) (pe_glob (v := .ref _) rfl T.g_Flush rfl) (.own _))) (d_tup (da_cons (d_str) (da_cons (d_fld ft_line (d_var 2)) (da_nil)))) (d_tup (da_cons (d_str) (da_nil)))) (da_nil)))))))) (ds_one (ds_ret (d_var 1))))
theorem ok__law_shown (T : Tx K mg) {f : Addr} (Fd : ∃ fd, FunD K "_law_shown" "_law_shown" (defArgs s__law_shown) (defBody s__law_shown) (defScope s__law_shown) [] [] f fd) (ar : ∀ ds mu P' F, sp__law_shown ds mu P' F → ds.length = 1) (pure : ∀ ds mu P' F, sp__law_shown ds mu P' F → t__law_shown (endT mu P' F) (gam0 3 ds) mu) : Prom P w K mg base 2 f 1 sp__law_shown := by
  obtain ⟨fd, Fd⟩ := Fd
  exact fn_dlT Fd sc__law_shown rfl rfl (fun _ _ _ _ _ _ us hl => match us, hl with | [_], _ => rfl) ar (fun cdv A outer s H Ex hr => der__law_shown T cdv A outer s H Ex hr) pure
def t__law_due : DS := dRet (dLc 0 (iSeq (dVar 0)) (dName 1) (dYes) (dSlice 0 (dVar 1) (dNoPart) (dPart (dDix [("store", 4), ("flush", 2), ("fence", 1)] (dBin gIx (dVar 1) (dC (.int 0)))))) [1])
theorem der__law_due (T : Tx K mg) {f : Addr} (cdv : Value) (A : Around) (outer : List Env) (s : Shared) (H : Hp) (Ex : XK) (hr : Room 2 (A.deeper (envOfC "_law_due" (defScope s__law_due) s.heap.objs.size f cdv))) : PSs (cxOf (L2.CX P w) P w K mg base ["_law_specs_here", "_law_spec"] "_law_due" (defScope s__law_due) f cdv A outer s H Ex) (defBody s__law_due) (liftS K (fun cls d _ H => Ex cls d H) t__law_due) :=
  ds_one (ds_ret (d_lc 0 rfl (sc__law_due).nd (di_seq (d_var 0)) (blkOk_by (own := [("_law_spec", 1)]) (by show blkC ["_law_specs_here", "_law_spec"] (defScope s__law_due) _ [("_law_spec", 1)] = true; decide +kernel)) (fun _ _ _ _ _ => dw_name 1 (sc__law_due).nd) (fun _ _ _ _ _ => dts_nil) (fun _ _ _ _ _ => d_slice 0 (d_var 1) (do_none) (do_some (d_dix [("store", 4), ("flush", 2), ("fence", 1)] (pps_cons pe_str pe_int (pps_cons pe_str pe_int (pps_cons pe_str pe_int (pps_nil)))) (d_ix (d_var 1) (d_int)) (unit_lt (hr.mono (Nat.zero_le _))) (hv_of (by decide)) (by decide))))))
theorem ok__law_due (T : Tx K mg) {f : Addr} (Fd : ∃ fd, FunD K "_law_due" "_law_due" (defArgs s__law_due) (defBody s__law_due) (defScope s__law_due) [] [] f fd) (ar : ∀ ds mu P' F, sp__law_due ds mu P' F → ds.length = 1) (pure : ∀ ds mu P' F, sp__law_due ds mu P' F → t__law_due (endF P' F) (gam0 2 ds) mu) : Prom P w K mg base 3 f 1 sp__law_due := by
  obtain ⟨fd, Fd⟩ := Fd
  exact fn_dl Fd sc__law_due rfl rfl (fun _ _ _ _ _ _ us hl => match us, hl with | [_], _ => rfl) ar (fun cdv A outer s H Ex hr => der__law_due T cdv A outer s H Ex hr) pure
def t__law_right : DS := dSeq (dSet 1 (dCall sp__law_sizes (dCons (dVar 0) (dCons (dC (.int 6)) (dNil))))) (dSeq (dSet 2 (dCall g_Memory (dCons (dVar 1) (dNil)))) (dSeq (dPar2 7 8 (dCons (dCall sp__law_specs (dCons (dVar 0) (dCons (dVar 1) (dCons (dC (.int 0)) (dCons (dC (.int 12)) (dNil)))))) (dCons (dCall sp__law_specs (dCons (dVar 0) (dCons (dVar 1) (dCons (dC (.int 1)) (dCons (dC (.int 12)) (dNil)))))) (dNil)))) (dSeq (dSet 3 (dCall sp__law_pick (dCons (dVar 0) (dCons (dLst 0 (dCons (dBin gSub (dBin gPow (dC (.int 10)) (dC (.int 31))) (dC (.int 1))) (dCons (dBin gSub (dC (.int 1)) (dBin gPow (dC (.int 10)) (dC (.int 31)))) (dCons (dBin gPow (dC (.int 10)) (dC (.int 30))) (dCons (dC (.int 0)) (dNil)))))) (dNil))))) (dSeq (dAsg (dTup (dCons (dC (.str "store")) (dCons (dC (.int 0)) (dCons (dC (.int 0)) (dCons (dVar 3) (dNil)))))) (dSub (dVar 8) (dC (.int 0)))) (dSeq (dSet 4 (dBin (gMul 0) (dBin (gAdd 0) (dVar 7) (dVar 8)) (dC (.int 200)))) (dSeq (dFor (iSeq (dLst 2 (dCons (dVar 7) (dCons (dVar 8) (dCons (dBin (gAdd 0) (dVar 7) (dVar 8)) (dCons (dLst 0 (dNil)) (dCons (dSlice 0 (dVar 4) (dNoPart) (dPart (dC (.int 200)))) (dNil)))))))) (dName 5) (dSeq (dSet 9 (dCall sp__law_text (dCons (dVar 5) (dNil)))) (dSeq (dSet 10 (dCall sp__law_program (dCons (dVar 1) (dCons (dVar 5) (dNil))))) (dSeq (dSet 11 (dCall sp_read_program (dCons (dVar 2) (dCons (dVar 9) (dNil))))) (dSeq (dIfS (dOr (dCT (gNe 6) (dCall sp_program_text (dCons (dVar 10) (dNil))) (dVar 9)) (dOr (dCT (gNe 6) (dVar 11) (dVar 10)) (dCT (gNe 6) (dCall sp__law_shown (dCons (dFld ix_commands (dVar 11)) (dNil))) (dCall sp__law_due (dCons (dVar 5) (dNil)))))) (dRet (dC (.bl false))) (dNext)) (dIfS (dCT (gNe 6) (dFld ix_sizes (dFld ix_memory (dVar 11))) (dCB bTuple (dCons (dVar 1) (dNil)))) (dRet (dC (.bl false))) (dNext))))))) (dSeq (dSet 6 (dIf (dCT (gEq 6) (dVar 7) (dLst 0 (dNil))) (dCall sp__law_text (dCons (dBin (gAdd 0) (dVar 7) (dVar 8)) (dNil))) (dBin (gAdd 0) (dBin (gAdd 0) (dCall sp__law_text (dCons (dVar 7) (dNil))) (dC (.str ", "))) (dCall sp__law_text (dCons (dVar 8) (dNil)))))) (dRet (dBin (gEq 6) (dCall sp_read_program (dCons (dVar 2) (dCons (dVar 6) (dNil)))) (dBin (gAddO 4 sp_Program___add__) (dCall sp__law_program (dCons (dVar 1) (dCons (dVar 7) (dNil)))) (dCall sp__law_program (dCons (dVar 1) (dCons (dVar 8) (dNil))))))))))))))
theorem der__law_right (T : Tx K mg) (F__law_sizes : Prom P w K mg base 3 (He.ga K "_law_sizes") 2 sp__law_sizes) (M_Memory : MkOk P w K mg base 2 0 1 g_Memory) (F__law_specs : Prom P w K mg base 5 (He.ga K "_law_specs") 4 sp__law_specs) (F__law_pick : Prom P w K mg base 3 (He.ga K "_law_pick") 2 sp__law_pick) (F__law_text : Prom P w K mg base 17 (He.ga K "_law_text") 1 sp__law_text) (F__law_program : Prom P w K mg base 18 (He.ga K "_law_program") 2 sp__law_program) (F_read_program : Prom P w K mg base 19 (He.ga K "read_program") 2 sp_read_program) (F__law_shown : Prom P w K mg base 2 (He.ga K "_law_shown") 1 sp__law_shown) (F__law_due : Prom P w K mg base 3 (He.ga K "_law_due") 1 sp__law_due) (F_program_text : Prom P w K mg base 17 (He.ga K "program_text") 1 sp_program_text) (F_Program___add__ : Prom P w K mg base 17 (He.ma K (He.ga K "Program") "__add__") 2 sp_Program___add__) (E : EqAll P w K mg base 6) {f : Addr} (cdv : Value) (A : Around) (outer : List Env) (s : Shared) (H : Hp) (Ex : XK) (hr : Room 19 (A.deeper (envOfC "_law_right" (defScope s__law_right) s.heap.objs.size f cdv))) : PSs (cxOf (L2.CX P w) P w K mg base ["_law_source_here", "_law_sizes_so", "_law_memory_so", "_law_edge", "_law_long", "_law_some", "_law_both", "_law_specs_here", "_law_more", "_law_line_so", "_law_here", "_law_told"] "_law_right" (defScope s__law_right) f cdv A outer s H Ex) (defBody s__law_right) (liftS K (fun cls d _ H => Ex cls d H) t__law_right) :=
  ds_cons (ds_set 1 (sc__law_right).nd (d_call F__law_sizes (hr.mono (by decide)) T.g__law_sizes (takes_of rfl rfl rfl rfl) (da_cons (d_var 0) (da_cons (d_int) (da_nil))))) (ds_cons (ds_set 2 (sc__law_right).nd (d_make M_Memory (hr.mono (by decide)) T.g_Memory (takes_of rfl rfl rfl rfl) (da_cons (d_var 1) (da_nil)))) (ds_cons (ds_par2 7 8 rfl (sc__law_right).nd (da_cons (d_call F__law_specs (hr.mono (by decide)) T.g__law_specs (takes_of rfl rfl rfl rfl) (da_cons (d_var 0) (da_cons (d_var 1) (da_cons (d_int) (da_cons (d_int) (da_nil)))))) (da_cons (d_call F__law_specs (hr.mono (by decide)) T.g__law_specs (takes_of rfl rfl rfl rfl) (da_cons (d_var 0) (da_cons (d_var 1) (da_cons (d_int) (da_cons (d_int) (da_nil)))))) (da_nil)))) (ds_cons (ds_set 3 (sc__law_right).nd (d_call F__law_pick (hr.mono (by decide)) T.g__law_pick (takes_of rfl rfl rfl rfl) (da_cons (d_var 0) (da_cons (d_lst 0 (da_cons (d_bin o_sub (d_bin o_pow (d_int) (d_int)) (d_int)) (da_cons (d_bin o_sub (d_int) (d_bin o_pow (d_int) (d_int))) (da_cons (d_bin o_pow (d_int) (d_int)) (da_cons (d_int) (da_nil)))))) (da_nil))))) (ds_cons (ds_asg (d_tup (da_cons (d_str) (da_cons (d_int) (da_cons (d_int) (da_cons (d_var 3) (da_nil)))))) (dg_sub (d_var 8) (d_int))) (ds_cons (ds_set 4 (sc__law_right).nd (d_bin (o_mul (m := 0)) (d_bin (o_add (m := 0)) (d_var 7) (d_var 8)) (d_int))) (ds_cons (ds_for (passes_of rfl) rfl (di_seq (d_lst 2 (da_cons (d_var 7) (da_cons (d_var 8) (da_cons (d_bin (o_add (m := 0)) (d_var 7) (d_var 8)) (da_cons (d_lst 0 (da_nil)) (da_cons (d_slice 0 (d_var 4) (do_none) (do_some (d_int))) (da_nil)))))))) (dg_name 5 (sc__law_right).nd) (ds_cons (ds_set 9 (sc__law_right).nd (d_call F__law_text (hr.mono (by decide)) T.g__law_text (takes_of rfl rfl rfl rfl) (da_cons (d_var 5) (da_nil)))) (ds_cons (ds_set 10 (sc__law_right).nd (d_call F__law_program (hr.mono (by decide)) T.g__law_program (takes_of rfl rfl rfl rfl) (da_cons (d_var 1) (da_cons (d_var 5) (da_nil))))) (ds_cons (ds_set 11 (sc__law_right).nd (d_call F_read_program (hr.mono (by decide)) T.g_read_program (takes_of rfl rfl rfl rfl) (da_cons (d_var 2) (da_cons (d_var 9) (da_nil))))) (ds_cons (ds_if (PW.pt (d_or (d_cmpT (o_ne 6 E (hr.mono (by first | decide | exact Nat.le_refl _))) (d_call F_program_text (hr.mono (by decide)) T.g_program_text (takes_of rfl rfl rfl rfl) (da_cons (d_var 10) (da_nil))) (d_var 9)) (d_or (d_cmpT (o_ne 6 E (hr.mono (by first | decide | exact Nat.le_refl _))) (d_var 11) (d_var 10)) (d_or1 (d_cmpT (o_ne 6 E (hr.mono (by first | decide | exact Nat.le_refl _))) (d_call F__law_shown (hr.mono (by decide)) T.g__law_shown (takes_of rfl rfl rfl rfl) (da_cons (d_fld ft_commands (d_var 11)) (da_nil))) (d_call F__law_due (hr.mono (by decide)) T.g__law_due (takes_of rfl rfl rfl rfl) (da_cons (d_var 5) (da_nil)))))))) (ds_one (ds_ret (d_bl))) (ds_nil)) (ds_one (ds_if (d_cmpT (o_ne 6 E (hr.mono (by first | decide | exact Nat.le_refl _))) (d_fld ft_sizes (d_fld ft_memory (d_var 11))) (d_callT b_tuple T.f_tuple (by decide +kernel) (da_cons (d_var 1) (da_nil)))) (ds_one (ds_ret (d_bl))) (ds_nil)))))))) (ds_cons (ds_set 6 (sc__law_right).nd (d_ifExp (d_cmpT (o_eq 6 E (hr.mono (by first | decide | exact Nat.le_refl _))) (d_var 7) (d_lst 0 (da_nil))) (d_call F__law_text (hr.mono (by decide)) T.g__law_text (takes_of rfl rfl rfl rfl) (da_cons (d_bin (o_add (m := 0)) (d_var 7) (d_var 8)) (da_nil))) (d_bin (o_add (m := 0)) (d_bin (o_add (m := 0)) (d_call F__law_text (hr.mono (by decide)) T.g__law_text (takes_of rfl rfl rfl rfl) (da_cons (d_var 7) (da_nil))) (d_str)) (d_call F__law_text (hr.mono (by decide)) T.g__law_text (takes_of rfl rfl rfl rfl) (da_cons (d_var 8) (da_nil)))))) (ds_one (ds_ret (d_cmp (o_eq 6 E (hr.mono (by first | decide | exact Nat.le_refl _))) (d_call F_read_program (hr.mono (by decide)) T.g_read_program (takes_of rfl rfl rfl rfl) (da_cons (d_var 2) (da_cons (d_var 6) (da_nil)))) (d_bin (o_addO F_Program___add__ T.me_Program___add__ T.sf_4 (hr.mono (by decide)) (takes_of rfl rfl rfl rfl)) (d_call F__law_program (hr.mono (by decide)) T.g__law_program (takes_of rfl rfl rfl rfl) (da_cons (d_var 1) (da_cons (d_var 7) (da_nil)))) (d_call F__law_program (hr.mono (by decide)) T.g__law_program (takes_of rfl rfl rfl rfl) (da_cons (d_var 1) (da_cons (d_var 8) (da_nil)))))))))))))))
theorem ok__law_right (T : Tx K mg) (F__law_sizes : Prom P w K mg base 3 (He.ga K "_law_sizes") 2 sp__law_sizes) (M_Memory : MkOk P w K mg base 2 0 1 g_Memory) (F__law_specs : Prom P w K mg base 5 (He.ga K "_law_specs") 4 sp__law_specs) (F__law_pick : Prom P w K mg base 3 (He.ga K "_law_pick") 2 sp__law_pick) (F__law_text : Prom P w K mg base 17 (He.ga K "_law_text") 1 sp__law_text) (F__law_program : Prom P w K mg base 18 (He.ga K "_law_program") 2 sp__law_program) (F_read_program : Prom P w K mg base 19 (He.ga K "read_program") 2 sp_read_program) (F__law_shown : Prom P w K mg base 2 (He.ga K "_law_shown") 1 sp__law_shown) (F__law_due : Prom P w K mg base 3 (He.ga K "_law_due") 1 sp__law_due) (F_program_text : Prom P w K mg base 17 (He.ga K "program_text") 1 sp_program_text) (F_Program___add__ : Prom P w K mg base 17 (He.ma K (He.ga K "Program") "__add__") 2 sp_Program___add__) (E : EqAll P w K mg base 6) {f : Addr} (Fd : ∃ fd, FunD K "_law_right" "_law_right" (defArgs s__law_right) (defBody s__law_right) (defScope s__law_right) [] [] f fd) (ar : ∀ ds mu P' F, sp__law_right ds mu P' F → ds.length = 1) (pure : ∀ ds mu P' F, sp__law_right ds mu P' F → t__law_right (endT mu P' F) (gam0 12 ds) mu) : Prom P w K mg base 20 f 1 sp__law_right := by
  obtain ⟨fd, Fd⟩ := Fd
  exact fn_dlT Fd sc__law_right rfl rfl (fun _ _ _ _ _ _ us hl => match us, hl with | [_], _ => rfl) ar (fun cdv A outer s H Ex hr => der__law_right T F__law_sizes M_Memory F__law_specs F__law_pick F__law_text F__law_program F_read_program F__law_shown F__law_due F_program_text F_Program___add__ E cdv A outer s H Ex hr) pure
def t_law (gs : G2) : DS := dSeq (dFor (iSeq (dSlice 0 (dBin gs (dVar 0) (dLst 0 (dCons (dC (.int 0)) (dNil)))) (dNoPart) (dPart (dC (.int 4))))) (dName 1) (dSeq (dSet 2 (dCall sp__law_source (dCons (dVar 1) (dNil)))) (dIfS (dNot (dTru (dCall sp__law_right (dCons (dVar 2) (dNil))))) (dRet (dC (.bl false))) (dNext)))) (dRet (dC (.bl true)))
theorem der_law (T : Tx K mg) (F__law_source : Prom P w K mg base 2 (He.ga K "_law_source") 1 sp__law_source) (F__law_right : Prom P w K mg base 20 (He.ga K "_law_right") 1 sp__law_right) {gs : G2} (hos : ∀ (X : Cx) (W : WX), X.K = K → OpS X (binaryOp .Add) (liftR X.K W gs)) {f : Addr} (cdv : Value) (A : Around) (outer : List Env) (s : Shared) (H : Hp) (Ex : XK) (hr : Room 20 (A.deeper (envOfC "law" (defScope s_law) s.heap.objs.size f cdv))) : PSs (cxOf (L2.CX P w) P w K mg base ["_law_script", "_law_cell", "_law_source_here"] "law" (defScope s_law) f cdv A outer s H Ex) (defBody s_law) (liftS K (fun cls d _ H => Ex cls d H) (t_law gs)) :=
  ds_cons (ds_for (passes_of rfl) rfl (di_seq (d_slice 0 (d_bin (hos _ _ rfl) (d_var 0) (d_lst 0 (da_cons (d_int) (da_nil)))) (do_none) (do_some (d_int)))) (dg_name 1 (sc_law).nd) (ds_cons (ds_set 2 (sc_law).nd (d_call F__law_source (hr.mono (by decide)) T.g__law_source (takes_of rfl rfl rfl rfl) (da_cons (d_var 1) (da_nil)))) (ds_one (ds_if (d_not (d_tru (d_call F__law_right (hr.mono (by decide)) T.g__law_right (takes_of rfl rfl rfl rfl) (da_cons (d_var 2) (da_nil))))) (ds_one (ds_ret (d_bl))) (ds_nil))))) (ds_one (ds_ret (d_bl)))
end
end LW

/-! part E1 -/
namespace LW
open PySem PySem.Spec PyProof.Rows L2 DL DQ DX DZ
theorem set_self {mu : Sto} {j : Nat} {m m' : MO} (h : mu[j]? = some m) : (mu.set j m')[j]? = some m' := List.getElem?_set_self (List.getElem?_eq_some_iff.mp h).1
theorem set_id {mu : Sto} {n : Nat} {m : MO} (h : mu[n]? = some m) : mu.set n m = mu := by
  apply List.ext_getElem?
  intro i
  by_cases hi : i = n
  · subst hi
    rw [set_self h, h]
  · rw [List.getElem?_set_ne (fun z => hi z.symm)]
theorem seqE {t u : DS} {E : DEnds} {ga : Gam} {mu : Sto} (ga2 : Gam) (mu2 : Sto) (h1 : ∀ N : Gam → Sto → Prop, N ga2 mu2 → t { E with nx := N } ga mu) (h2 : u E ga2 mu2) : dSeq t u E ga mu := h1 _ h2
theorem iL_nil : iL [] = [] := rfl
theorem iL_cons (x : Int) (a : List Int) : iL (x :: a) = .int x :: iL a := rfl
theorem eqL_int : ∀ (a b : List Int), eqL (iL a) (iL b) = some (decide (a = b))
  | [], [] => by rw [iL_nil, eqL] <;> simp
  | [], _ :: _ => by rw [iL_nil, iL_cons, eqL] <;> simp
  | _ :: _, [] => by rw [iL_nil, iL_cons, eqL] <;> simp
  | x :: a, y :: b => by
    rw [iL_cons, iL_cons, eqL, eqD, eqL_int a b]
    by_cases h : x = y
    · subst h
      simp
    · have e : (x == y) = false := by simpa using h
      rw [e]
      simp [h]
theorem dp_int (x : Int) : dp (.int x) = 0 := by simp [dp]
theorem dp_str (x : Str) : dp (.str x) = 0 := by simp [dp]
theorem dpL_int : ∀ a : List Int, dpL (iL a) = 0
  | [] => by rw [iL_nil, dpL]
  | x :: a => by rw [iL_cons, dpL, dp_int, dpL_int a] <;> rfl
theorem cut_to {l : List D} (k : Nat) (h : k ≤ l.length) : DL.cutD l none (some (k : Int)) = l.take k := by
  unfold DL.cutD
  rw [HT.sIx_none, HT.sIx_nat, List.drop_zero, Nat.sub_zero, Nat.min_eq_left h]
theorem cut_from {l : List D} (k : Nat) (h : k ≤ l.length) : DL.cutD l (some (k : Int)) none = l.drop k := by
  unfold DL.cutD
  rw [HT.sIx_none, HT.sIx_nat, Nat.min_eq_left h, List.take_of_length_le (by rw [List.length_drop] <;> exact Nat.le_refl _)]
theorem dp_tup (l : List D) : dp (.tup l) = dpL l + 1 := by rw [dp]
theorem dp_lst (l : List D) : dp (.lst l) = dpL l + 1 := by rw [dp]
theorem dp_obj (c : Nat) (l : List D) : dp (.obj c l) = dpL l + 2 := by rw [dp]
theorem eqD_tup (l r : List D) : eqD (.tup l) (.tup r) = eqL l r := by rw [eqD]
theorem eqD_lst (l r : List D) : eqD (.lst l) (.lst r) = eqL l r := by rw [eqD]
theorem eqL_one (a b : D) : eqL [a] [b] = eqD a b := by
  rw [eqL]
  cases eqD a b with
  | none => rfl
  | some t =>
    cases t with
    | true => rw [eqL]
    | false => rfl
theorem gEqV {d e : D} {mu : Sto} {P : KX} {F : KD} {b : Bool} (hd : np d) (he : np e) (hp : dp d ≤ 6) (h : eqD d e = some b) : gEq 6 d e mu P F = F (.bl b) mu := by
  show (dp (dr mu d) ≤ 6 ∧ _) = _
  simp only [dr_np hd, dr_np he, hp, h, true_and]
theorem gNeV {d e : D} {mu : Sto} {P : KX} {F : KD} {b : Bool} (hd : np d) (he : np e) (hp : dp d ≤ 6) (h : eqD d e = some b) : gNe 6 d e mu P F = F (.bl (!b)) mu := by
  show (dp (dr mu d) ≤ 6 ∧ _) = _
  simp only [dr_np hd, dr_np he, hp, h, true_and]
theorem gEqI (i j : Int) {mu : Sto} {P : KX} {F : KD} : gEq 6 (.int i) (.int j) mu P F = F (.bl (i == j)) mu := gEqV (d := .int i) (e := .int j) trivial trivial (by rw [dp_int]; exact Nat.zero_le _) (by rw [eqD])
theorem gNeI (i j : Int) {mu : Sto} {P : KX} {F : KD} : gNe 6 (.int i) (.int j) mu P F = F (.bl (!(i == j))) mu := gNeV (d := .int i) (e := .int j) trivial trivial (by rw [dp_int]; exact Nat.zero_le _) (by rw [eqD])
theorem atI_int {ns : List Int} {j : Nat} (h : j < ns.length) : L2.atI (iL ns) (j : Int) = some (.int ns[j]) := by
  unfold L2.atI L2.ixN
  rw [if_pos (by omega), if_pos (by rw [List.length_map]; omega)]
  simp [h]
theorem iL_app (a : List Int) (x : Int) : iL a ++ [D.int x] = iL (a ++ [x]) := by simp
theorem app_get {mu : Sto} {n : Nat} {m : MO} (h : mu[n]? = some m) (e : Sto) : (mu ++ e)[n]? = some m := by
  rw [List.getElem?_append_left (List.getElem?_eq_some_iff.mp h).1]
  exact h
theorem last_get (mu : Sto) (x : MO) {k : Nat} (h : k = mu.length) : (mu ++ [x])[k]? = some x := by
  subst h
  rw [List.getElem?_append_right (Nat.le_refl _), Nat.sub_self] <;> rfl
theorem last_set (mu : Sto) (x y : MO) {k : Nat} (h : k = mu.length) : (mu ++ [x]).set k y = mu ++ [y] := by
  subst h
  rw [List.set_append_right _ _ (Nat.le_refl _), Nat.sub_self] <;> rfl
theorem app_set {mu : Sto} {n : Nat} {m : MO} (h : mu[n]? = some m) (e : Sto) (y : MO) : (mu ++ e).set n y = mu.set n y ++ e := by
  rw [List.set_append_left _ _ (List.getElem?_eq_some_iff.mp h).1]
theorem sv_app {mu : Sto} {x : D} {l : List D} (h : sv mu x = some l) (e : Sto) : sv (mu ++ e) x = some l := by
  cases x with
  | ptr n =>
    cases q : mu[n]? with
    | none => simp [sv, q] at h
    | some m =>
      simp only [sv, q] at h
      simp only [sv, app_get q]
      exact h
  | _ => exact h
theorem src_set (mu : Sto) (n : Nat) (a b c a' b' c' : Int) : (mu.set n (src a b c)).set n (src a' b' c') = mu.set n (src a' b' c') := List.set_set ..
theorem pure_Thing_facts (ds : List D) (mu : Sto) (P' : KX) (F : KD) (h : spFacts 3 ds mu P' F) : t_Thing_facts (endF P' F) (gam0 1 ds) mu := by
  obtain ⟨l, rfl, hl, h⟩ := h
  have e : l = [] := List.eq_nil_of_length_eq_zero hl.2
  subst e
  exact ⟨⟨by decide, trivial⟩, h⟩
theorem pure_kind {c : Nat} {x : Str} (hx : knd c = x) (ds : List D) (mu : Sto) (P' : KX) (F : KD) (h : spKind c ds mu P' F) : (dRet (dC (.str x))) (endF P' F) (gam0 1 ds) mu := by
  obtain ⟨l, rfl, h⟩ := h
  subst hx
  exact h
theorem ar_kind {c : Nat} (ds : List D) (mu : Sto) (P' : KX) (F : KD) (h : spKind c ds mu P' F) : ds.length = 1 := by
  obtain ⟨l, rfl, _⟩ := h
  rfl
theorem ar_facts {c : Nat} (ds : List D) (mu : Sto) (P' : KX) (F : KD) (h : spFacts c ds mu P' F) : ds.length = 1 := by
  obtain ⟨l, rfl, _⟩ := h
  rfl
theorem ar_init {c n : Nat} (ds : List D) (mu : Sto) (P' : KX) (F : KD) (h : spInit c n ds mu P' F) : ds.length = n + 1 := by
  obtain ⟨j, l, rfl, hl, _⟩ := h
  rw [List.length_cons, hl]
section
variable {P : Program} {w : World} {K : PySem.W.Frag} {mg : Str → Option Value} {base : Heap} {k : Nat}
theorem mk_plain {c n : Nat} {f : Addr} (M : Mk K (He.ga K (cn c)) f) (ck : ClsOk K c) (hn : (fn c).length = n) (PR : Prom P w K mg base k f (n + 1) (spInit c n)) : MkOk P w K mg base k c n (gObj c n) := by
  refine ⟨f, _, true, M, ck, PR, fun ds mu P' F h => ?_⟩
  obtain ⟨⟨hl, hp⟩, h⟩ := h
  refine ⟨mu.length, ds, rfl, hl, last_get mu _ rfl, ?_⟩
  rw [last_set mu _ _ rfl]
  exact ⟨rfl, mu, ds, Trim.same mu _, last_get mu _ rfl, hp, by rw [hl, hn], h⟩
end
theorem pure_Memory_facts (ds : List D) (mu : Sto) (P' : KX) (F : KD) (h : spFacts 0 ds mu P' F) : t_Memory_facts (endF P' F) (gam0 1 ds) mu := by
  obtain ⟨l, rfl, ⟨hn, hl⟩, h⟩ := h
  match l, hl, hn, h with
  | [a], _, hn, h =>
    simp [t_Memory_facts, dRet, dTup, dCons, dNil, dFld, dVar, fldK, ix_sizes, gam0, endF]
    exact ⟨hn, h⟩
theorem pure_Store_facts (ds : List D) (mu : Sto) (P' : KX) (F : KD) (h : spFacts 1 ds mu P' F) : t_Store_facts (endF P' F) (gam0 1 ds) mu := by
  obtain ⟨l, rfl, ⟨hn, hl⟩, h⟩ := h
  match l, hl, hn, h with
  | [a, b, c], _, hn, h =>
    simp [t_Store_facts, dRet, dTup, dCons, dNil, dFld, dVar, fldK, ix_line, ix_word, ix_number, gam0, endF]
    exact ⟨hn, h⟩
theorem pure_Store___init__ (ds : List D) (mu : Sto) (P' : KX) (F : KD) (h : spInit 1 3 ds mu P' F) : t_Store___init__ (endF P' F) (gam0 4 ds) mu := by
  obtain ⟨j, args, rfl, hl, hj, h⟩ := h
  match args, hl, h with
  | [a, b, c], _, h =>
    simp [t_Store___init__, dSeq, dPut, dVar, ix_line, ix_word, ix_number, gam0, endF, hj, set_self hj, set_self (set_self hj)]
    exact h
theorem pure_Flush_facts (ds : List D) (mu : Sto) (P' : KX) (F : KD) (h : spFacts 2 ds mu P' F) : t_Flush_facts (endF P' F) (gam0 1 ds) mu := by
  obtain ⟨l, rfl, ⟨hn, hl⟩, h⟩ := h
  match l, hl, hn, h with
  | [a], _, hn, h =>
    simp [t_Flush_facts, dRet, dTup, dCons, dNil, dFld, dVar, fldK, ix_line, gam0, endF]
    exact ⟨hn, h⟩
theorem pure_Flush___init__ (ds : List D) (mu : Sto) (P' : KX) (F : KD) (h : spInit 2 1 ds mu P' F) : t_Flush___init__ (endF P' F) (gam0 2 ds) mu := by
  obtain ⟨j, args, rfl, hl, hj, h⟩ := h
  match args, hl, h with
  | [a], _, h =>
    simp [t_Flush___init__, dSeq, dPut, dVar, ix_line, gam0, endF, hj]
    exact h
theorem pure_Program_facts (ds : List D) (mu : Sto) (P' : KX) (F : KD) (h : spFacts 4 ds mu P' F) : t_Program_facts (endF P' F) (gam0 1 ds) mu := by
  obtain ⟨l, rfl, ⟨hn, hl⟩, h⟩ := h
  match l, hl, hn, h with
  | [a, b], _, hn, h =>
    simp [t_Program_facts, dRet, dTup, dCons, dNil, dFld, dVar, fldK, ix_memory, ix_commands, gam0, endF]
    exact ⟨hn, h⟩
theorem knd_all : ∀ c : Fin 18, ∀ c' : Fin 18, thg c.1 = true → thg c'.1 = true → knd c.1 = knd c'.1 → c.1 = c'.1 := by decide +kernel
theorem knd_inj {c c' : Nat} (h : thg c = true) (h' : thg c' = true) (e : knd c = knd c') : c = c' := knd_all ⟨c, thg_lt h⟩ ⟨c', thg_lt h'⟩ h h' e
theorem pure_Thing___eq__ (n : Nat) (ds : List D) (mu : Sto) (P' : KX) (F : KD) (h : spEqD (n + 1) ds mu P' F) : t_Thing___eq__ n (endF P' F) (gam0 2 ds) mu := by
  obtain ⟨c, l, e, b, rfl, ⟨oc, oe⟩, th, hn, he, h⟩ := h
  have no : ∀ t, kdD mu e = some (.inl t) → b = false → t_Thing___eq__ n (endF P' F) (gam0 2 [.obj c l, e]) mu := fun t hk hb => by
    subst hb
    simp [t_Thing___eq__, dSeq, dIfS, dOr, dNot, dTru, gIsi, dVar, gam0, truK, hk, noTy, dRet, dC, endF]
    exact h
  cases e with
  | adr a => simp [dr, eqD] at he
  | err a d c l => simp [dr, eqD] at he
  | non =>
    simp [dr, eqD] at he
    exact no _ rfl he.2
  | bl x =>
    simp [dr, eqD] at he
    exact no _ rfl he.2
  | int x =>
    simp [dr, eqD] at he
    exact no _ rfl he.2
  | str x =>
    simp [dr, eqD] at he
    exact no _ rfl he.2
  | tup x =>
    simp [dr, eqD] at he
    exact no _ rfl he.2
  | lst x =>
    simp [dr, eqD] at he
    exact no _ rfl he.2
  | ptr m =>
    cases q : mu[m]? with
    | none =>
      have e1 : dr mu (.ptr m) = .ptr m := by simp only [dr, q]
      rw [e1, eqD] at he
      cases he
    | some mo =>
      cases mo with
      | lst x =>
        have e1 : dr mu (.ptr m) = .lst x := by simp only [dr, q]
        rw [e1] at he
        simp [eqD] at he
        exact no "list" (by simp [kdD, q]) he.2
      | _ =>
        have e1 : dr mu (.ptr m) = .ptr m := by simp only [dr, q]
        rw [e1, eqD] at he
        cases he
  | obj c' r =>
    have he' : eqD (.obj c l) (.obj c' r) = some b := he
    rw [eqD] at he'
    split at he'
    · rename_i t2
      have hc' := thg_lt t2.2
      simp [t_Thing___eq__, dSeq, dIfS, dOr, dNot, dTru, gIsi, dVar, gam0, truK, kdD, hc', t2.2, dRet, dC, endF, dCT, dBin, gNe, gEq, dMeth, clsD, mt_kind, mt_facts, t2.1, dNil, spKind, spFacts, dr, eqD, dp, dNext]
      by_cases hcc : c = c'
      · subst hcc
        rw [if_pos rfl] at he'
        rw [dp] at hn
        simp [he', oc, oe]
        exact ⟨by omega, h⟩
      · rw [if_neg hcc] at he'
        cases he'
        have hk : ¬ knd c = knd c' := fun z => hcc (knd_inj t2.1 t2.2 z)
        simp [hk]
        exact h
    · cases he'
theorem pure__law_source (ds : List D) (mu : Sto) (P' : KX) (F : KD) (h : sp__law_source ds mu P' F) : t__law_source (endF P' F) (gam0 1 ds) mu := by
  obtain ⟨x, rfl, h⟩ := h
  simp [t__law_source, dRet, dLst, dCons, dNil, dCB, bAbs, bInt, dVar, dBin, gMod, gI, dC, gam0, endF, retL, npL, np]
  exact h _ _ _
theorem log2_lt {m : Int} (h0 : 0 < m) (h : m < 2 ^ 64) : m.natAbs.log2 < 9000 := by
  have h1 : m.natAbs < 2 ^ 64 := by omega
  have h2 : m.natAbs ≠ 0 := by omega
  have := (Nat.log2_lt h2).mpr h1
  omega
theorem at0 (a b c : D) : L2.atI [a, b, c] 0 = some a := rfl
theorem at1 (a b c : D) : L2.atI [a, b, c] 1 = some b := rfl
theorem at2 (a b c : D) : L2.atI [a, b, c] 2 = some c := rfl
theorem il0 (a b c : D) : L2.ixN [a, b, c].length 0 = some 0 := rfl
theorem il2 (a b c : D) : L2.ixN [a, b, c].length 2 = some 2 := rfl
theorem pure__law_draw (ds : List D) (mu : Sto) (P' : KX) (F : KD) (h : sp__law_draw ds mu P' F) : t__law_draw (endF P' F) (gam0 4 ds) mu := by
  obtain ⟨n, many, rfl, hm, ⟨a, b, c, hs⟩, h⟩ := h
  have hmod : ∀ x : Int, 0 ≤ x % many ∧ x % many < many := fun x => ⟨Int.emod_nonneg _ (by omega), Int.emod_lt_of_pos _ hm.1⟩
  have hl := log2_lt hm.1 hm.2
  have s1 : ∀ l, (mu.set n (MO.lst l))[n]? = some (MO.lst l) := fun l => set_self hs
  unfold src at hs h
  have s2 : ∀ l l', (mu.set n (MO.lst l)).set n (MO.lst l') = mu.set n (.lst l') := fun l l' => List.set_set ..
  have pw : CPow 10 18 := by unfold CPow; decide
  have sm : ∀ i j : Int, (-(2 ^ 64) < j ∧ j < 2 ^ 64) → (((-(2 ^ 64) < i ∧ i < 2 ^ 64) ∨ (-(2 ^ 64) < j ∧ j < 2 ^ 64)) ∨ i.natAbs.log2 + j.natAbs.log2 < 1000000) := fun i j h => .inl (.inr h)
  show t__law_draw _ [some (.ptr n), some (.int many), none, none] mu
  unfold t__law_draw
  simp only [dCB, bInt, dCons, dNil, dSeq, dSet, dIfS, dCT, dBin, gIx, dVar, dC, dRet, dAsg, dSub, dNext, gPow, gMod, gDiv, gAdd, gMul, gI, gI0, gGe, gCmp, endF, List.getElem?_cons_zero, List.getElem?_cons_succ, List.set_cons_zero, List.set_cons_succ, np, true_and, pv_, hs, s1, s2, at0, at1, at2, il0, il2, Option.some.injEq, exists_eq_left', pw, hm.1, hl]
  by_cases hd : decide ((10 : Int) ^ Int.toNat 18 ≤ a) = true
  · rw [if_pos hd]
    exact h _ _ _ _ (hmod _).1 (hmod _).2
  · rw [if_neg hd]
    refine ⟨.inl (.inl (by decide)), .inl (.inr (by decide)), by decide, ⟨by decide, by decide +kernel⟩, .inl (.inl ?_), by decide, ⟨by decide, by decide +kernel⟩, by decide, .inl (.inr (by decide)), by decide, h _ _ _ _ (hmod _).1 (hmod _).2⟩
    omega
theorem pure__law_pick (ds : List D) (mu : Sto) (P' : KX) (F : KD) (h : sp__law_pick ds mu P' F) : t__law_pick (endF P' F) (gam0 2 ds) mu := by
  obtain ⟨n, l, rfl, hl, hs, h⟩ := h
  show t__law_pick _ [some (.ptr n), some (.lst l)] mu
  unfold t__law_pick
  simp only [dRet, dBin, dVar, dCall, dCons, dNil, dCB, bLen, szD, endF, List.getElem?_cons_zero, List.getElem?_cons_succ]
  refine ⟨n, _, rfl, ⟨by omega, by omega⟩, hs, fun r a b c h0 h1 => ?_⟩
  obtain ⟨k, rfl⟩ := Int.eq_ofNat_of_zero_le h0
  have hk : k < l.length := by omega
  have e : L2.atI l (k : Int) = some l[k] := by
    unfold L2.atI L2.ixN
    rw [if_pos h0, if_pos (by omega)]
    simp
  simp only [gIx, pv_, e]
  exact h _ _ _ _ (List.getElem_mem hk)
theorem pure__law_number (ds : List D) (mu : Sto) (P' : KX) (F : KD) (h : sp__law_number ds mu P' F) : t__law_number (endF P' F) (gam0 2 ds) mu := by
  obtain ⟨n, rfl, ⟨a, b, c, hs⟩, h⟩ := h
  show t__law_number _ [some (.ptr n), none] mu
  unfold t__law_number
  have pw : CPow 10 30 := by unfold CPow; decide
  have pw9 : CPow 10 9 := by unfold CPow; decide
  simp only [dRet, dSeq, dSet, dBin, dVar, dC, gAdd, gPow, gI, DL.gSub, gI0, dNeg, dCall, dCons, dNil, dLst, endF, List.getElem?_cons_zero, List.getElem?_cons_succ, List.set_cons_zero, List.set_cons_succ, pw, pw9, true_and]
  refine ⟨n, _, rfl, ⟨by decide, by decide⟩, ⟨a, b, c, hs⟩, fun r a1 b1 c1 r0 r1 => ?_⟩
  have h1 : (mu.set n (src a1 b1 c1))[n]? = some (src a1 b1 c1) := set_self hs
  refine ⟨n, _, rfl, ⟨by decide, by decide⟩, ⟨a1, b1, c1, h1⟩, fun r2 a2 b2 c2 q0 q1 => ?_⟩
  rw [List.set_set]
  have h2 : (mu.set n (src a2 b2 c2))[n]? = some (src a2 b2 c2) := set_self hs
  refine ⟨by simp, ⟨by simp [npL, np], n, _, rfl, ⟨by simp, by simp⟩, ⟨a2, b2, c2, h2⟩, fun d a3 b3 c3 hd => ?_⟩⟩
  rw [List.set_set]
  simp only [List.mem_cons, List.not_mem_nil, or_false] at hd
  have h30 : (10 : Int) ^ (30 : Int).toNat = 1000000000000000000000000000000 := by decide
  have h9 : (10 : Int) ^ (9 : Int).toNat = 1000000000 := by decide
  rw [h9] at r1
  rw [h30] at hd
  rcases hd with rfl | rfl | rfl | rfl | rfl | rfl | rfl | rfl <;> exact h _ _ _ _ (by unfold nOk; omega)
theorem sv_setI {mu : Sto} {j c : Nat} {x : D} {l l0 l' : List D} (hj : mu[j]? = some (.ins c l0)) (h : sv mu x = some l) (c' : Nat) : sv (mu.set j (.ins c' l')) x = some l := by
  cases x with
  | ptr n =>
    by_cases e : n = j
    · subst e
      simp [sv, hj] at h
    · have e2 : (mu.set j (MO.ins c' l'))[n]? = mu[n]? := List.getElem?_set_ne (fun z => e z.symm)
      simp only [sv, e2]
      exact h
  | _ => exact h
theorem atI_i {ns : List Int} {a : Int} (h0 : 0 ≤ a) (h1 : a < ns.length) : L2.atI (iL ns) a = some (.int (ns.getD a.toNat 0)) := by
  obtain ⟨k, rfl⟩ := Int.eq_ofNat_of_zero_le h0
  have hk : k < ns.length := by omega
  have e : (ns.getD (Int.toNat (k : Int)) 0) = ns[k] := by simp [hk]
  rw [atI_int hk, e]
section
variable {P : Program} {w : World} {K : PySem.W.Frag} {mg : Str → Option Value} {base : Heap} {k : Nat}
theorem mk_Memory {f : Addr} (M : Mk K (He.ga K (cn 0)) f) (ck : ClsOk K 0) (PR : Prom P w K mg base k f 2 sp_Memory___init__) : MkOk P w K mg base k 0 1 g_Memory := by
  refine ⟨f, _, true, M, ck, PR, fun ds mu P' F h => ?_⟩
  obtain ⟨x, ns, rfl, hx, ok, h⟩ := h
  refine ⟨mu.length, x, ns, rfl, last_get mu _ rfl, sv_app hx _, ok, ?_⟩
  rw [last_set mu _ _ rfl]
  exact ⟨rfl, mu, _, Trim.same mu _, last_get mu _ rfl, ⟨trivial, trivial⟩, rfl, h⟩
theorem mk_Program {f : Addr} (M : Mk K (He.ga K (cn 4)) f) (ck : ClsOk K 4) (PR : Prom P w K mg base k f 3 sp_Program___init__) : MkOk P w K mg base k 4 2 g_Program := by
  refine ⟨f, _, true, M, ck, PR, fun ds mu P' F h => ?_⟩
  obtain ⟨x, ns, cs, rfl, hx, ok, h⟩ := h
  refine ⟨mu.length, x, ns, cs, rfl, last_get mu _ rfl, sv_app hx _, ok, ?_⟩
  rw [last_set mu _ _ rfl]
  exact ⟨rfl, mu, _, Trim.same mu _, last_get mu _ rfl, ⟨trivial, trivial, trivial⟩, rfl, h⟩
end
theorem for_sizes {E : DEnds} {mu : Sto} {u v : Option D} {t : List D} (hN : ∀ ga, E.nx ga mu) : ∀ (ns : List Int) (z : Option D), (∀ x ∈ ns, 1 ≤ x ∧ x ≤ 4) →
    forL (dName 2) (dIfS (dNot (dTest (dChain gLe gLe (dC (.int 1)) (dVar 2) (dC (.int 4))))) dNever dNext) E (okS (.tup t) t) (iL ns) [u, v, z] mu
  | [], z, _ => ⟨rfl, hN _⟩
  | x :: ns, z, h => by
    refine ⟨rfl, ?_⟩
    have hx := h x List.mem_cons_self
    have ih := for_sizes (u := u) (v := v) (t := t) hN ns (some (.int x)) fun y hy => h y (List.mem_cons_of_mem _ hy)
    simp only [dName, dIfS, dNot, dTest, dChain, gLe, gCmp, dC, dVar, List.set_cons_zero, List.set_cons_succ, List.getElem?_cons_zero, List.getElem?_cons_succ, decide_eq_true hx.1, decide_eq_true hx.2, if_true, Bool.not_true, Bool.false_eq_true, if_false, dNext]
    exact ih
theorem pure_Memory___init__ (ds : List D) (mu : Sto) (P' : KX) (F : KD) (h : sp_Memory___init__ ds mu P' F) : t_Memory___init__ (endF P' F) (gam0 3 ds) mu := by
  obtain ⟨j, x, ns, rfl, hj, hx, ⟨hl, hs⟩, h⟩ := h
  show t_Memory___init__ _ [some (.ptr j), some x, none] mu
  unfold t_Memory___init__
  have sj := set_self (m' := .ins 0 [D.tup (iL ns)]) hj
  have l1 : decide ((1 : Int) ≤ ((iL ns).length : Nat)) = true := decide_eq_true (by rw [List.length_map]; omega)
  have l2 : decide (((iL ns).length : Int) ≤ 6) = true := decide_eq_true (by rw [List.length_map]; omega)
  simp only [dSeq, dPut, dVar, dCB, bTuple, dCons, dNil, List.getElem?_cons_zero, List.getElem?_cons_succ, hx, hj, ix_sizes, List.length_nil, if_true, List.nil_append, dIfS, dNot, dTest, dChain, gLe, gCmp, dC, bLen, szD, dFld, sj, fldK, l1, l2, Bool.not_true, Bool.false_eq_true, if_false, dNext, dFor, iSeq, pv_]
  exact ⟨_, rfl, for_sizes (fun _ => h) ns none hs⟩
theorem pure_Memory_check_line (ds : List D) (mu : Sto) (P' : KX) (F : KD) (h : sp_Memory_check_line ds mu P' F) : t_Memory_check_line (endF P' F) (gam0 2 ds) mu := by
  obtain ⟨ns, a, rfl, ⟨h0, h1⟩, h⟩ := h
  show t_Memory_check_line _ [some (Me ns), some (.int a)] mu
  unfold t_Memory_check_line
  have l2 : decide (a < ((iL ns).length : Nat)) = true := decide_eq_true (by rw [List.length_map]; exact h1)
  simp only [dIfS, dNot, dTest, dChain, gLe, gLt, gCmp, dC, dVar, dCB, bLen, dCons, dNil, dFld, fldK, ix_sizes, szD, List.getElem?_cons_zero, List.getElem?_cons_succ, decide_eq_true h0, l2, if_true, Bool.not_true, Bool.false_eq_true, if_false, dNext]
  exact h
theorem pure_Memory_check_word (ds : List D) (mu : Sto) (P' : KX) (F : KD) (h : sp_Memory_check_word ds mu P' F) : t_Memory_check_word (endF P' F) (gam0 3 ds) mu := by
  obtain ⟨ns, a, b, rfl, ⟨hl, h0, h1⟩, h⟩ := h
  show t_Memory_check_word _ [some (Me ns), some (.int a), some (.int b)] mu
  unfold t_Memory_check_word
  simp only [dSeq, dDrop, dMeth, dVar, dCons, dNil, clsD, mt_check_line, List.getElem?_cons_zero, List.getElem?_cons_succ]
  refine ⟨ns, a, rfl, hl, ?_⟩
  simp only [dIfS, dNot, dTest, dChain, gLe, gLt, gCmp, dC, dVar, dBin, gIx, pv_, dFld, fldK, ix_sizes, List.getElem?_cons_zero, List.getElem?_cons_succ, atI_i hl.1 hl.2, decide_eq_true h0, decide_eq_true h1, if_true, Bool.not_true, Bool.false_eq_true, if_false, dNext]
  exact h
theorem pure_Command_check (ds : List D) (mu : Sto) (P' : KX) (F : KD) (h : sp_Command_check ds mu P' F) : t_Command_check (endF P' F) (gam0 2 ds) mu := by
  obtain ⟨x, y, rfl, h⟩ := h
  exact h
theorem pure_Store_check (ds : List D) (mu : Sto) (P' : KX) (F : KD) (h : sp_Store_check ds mu P' F) : t_Store_check (endF P' F) (gam0 2 ds) mu := by
  obtain ⟨ns, a, b, c, rfl, hw, h⟩ := h
  show t_Store_check _ [some (Cmd.d (.st a b c)), some (Me ns)] mu
  unfold t_Store_check
  simp only [dDrop, dMeth, dVar, dCons, dNil, clsD, mt_check_word, Cmd.d, dFld, fldK, ix_line, ix_word, List.getElem?_cons_zero, List.getElem?_cons_succ]
  exact ⟨ns, a, b, rfl, hw, h⟩
theorem pure_Flush_check (ds : List D) (mu : Sto) (P' : KX) (F : KD) (h : sp_Flush_check ds mu P' F) : t_Flush_check (endF P' F) (gam0 2 ds) mu := by
  obtain ⟨ns, a, rfl, hw, h⟩ := h
  show t_Flush_check _ [some (Cmd.d (.fl a)), some (Me ns)] mu
  unfold t_Flush_check
  simp only [dDrop, dMeth, dVar, dCons, dNil, clsD, mt_check_line, Cmd.d, dFld, fldK, ix_line, List.getElem?_cons_zero, List.getElem?_cons_succ]
  exact ⟨ns, a, rfl, hw, h⟩
theorem for_check {E : DEnds} {mu : Sto} {ns : List Int} {t : List D} {u : Option D} (hN : ∀ ga, E.nx ga mu) : ∀ (cs : List Cmd) (z : Option D), (∀ c ∈ cs, c.ok ns) →
    forL (dName 2) (dDrop (dMeth mt_check (dVar 2) (dCons (dVar 0) dNil))) E (okS (.tup t) t) (cs.map Cmd.d) [some (Me ns), u, z] mu
  | [], z, _ => ⟨rfl, hN _⟩
  | c :: cs, z, h => by
    refine ⟨rfl, ?_⟩
    have hx := h c List.mem_cons_self
    have ih := for_check (u := u) (t := t) hN cs (some c.d) fun y hy => h y (List.mem_cons_of_mem _ hy)
    simp only [dName, dDrop, dMeth, dVar, dCons, dNil, List.set_cons_zero, List.set_cons_succ, List.getElem?_cons_zero, List.getElem?_cons_succ]
    cases c with
    | st a b n => exact ⟨ns, a, b, n, rfl, hx, ih⟩
    | fl a => exact ⟨ns, a, rfl, hx, ih⟩
    | fe => exact ⟨_, _, rfl, ih⟩
theorem pure_check_commands (ds : List D) (mu : Sto) (P' : KX) (F : KD) (h : sp_check_commands ds mu P' F) : t_check_commands (endF P' F) (gam0 3 ds) mu := by
  obtain ⟨ns, cs, rfl, hk, h⟩ := h
  show t_check_commands _ [some (Me ns), some (.tup (cs.map Cmd.d)), none] mu
  unfold t_check_commands
  exact ⟨_, rfl, for_check (fun _ => h) cs none hk.2⟩
theorem pure_Program___init__ (ds : List D) (mu : Sto) (P' : KX) (F : KD) (h : sp_Program___init__ ds mu P' F) : t_Program___init__ (endF P' F) (gam0 3 ds) mu := by
  obtain ⟨j, x, ns, cs, rfl, hj, hx, hk, h⟩ := h
  show t_Program___init__ _ [some (.ptr j), some (Me ns), some x] mu
  unfold t_Program___init__
  have s1 := set_self (m' := .ins 4 [Me ns]) hj
  have s2 := set_self (m' := .ins 4 [Me ns, .tup (cs.map Cmd.d)]) hj
  have hx2 := sv_setI (l' := [Me ns]) hj hx 4
  have ln : decide ((200 : Int) < ((cs.map Cmd.d).length : Nat)) = false := decide_eq_false (by rw [List.length_map]; have := hk.1; omega)
  simp only [dSeq, dPut, dVar, dCB, bTuple, dCons, dNil, List.getElem?_cons_zero, List.getElem?_cons_succ, hj, hx2, ix_memory, ix_commands, List.length_nil, List.length_cons, if_true, List.nil_append, s1, List.set_set, List.cons_append, s2, dIfS, dCT, dBin, gGt, gCmp, bLen, szD, dFld, fldK, dC, ln, Bool.false_eq_true, if_false, dNext, dDrop, dCall, Nat.zero_add]
  exact ⟨ns, cs, rfl, hk, h⟩
theorem eqD_Me (ns : List Int) : eqD (Me ns) (Me ns) = some true := by
  rw [eqD, if_pos ⟨rfl, rfl⟩, if_pos rfl, eqL_one, eqD_tup, eqL_int]
  simp
theorem dp_Me (ns : List Int) : dp (Me ns) = 3 := by
  rw [dp_obj, dpL, dp_tup, dpL_int, dpL]
  rfl
theorem pure_Program___add__ (ds : List D) (mu : Sto) (P' : KX) (F : KD) (h : sp_Program___add__ ds mu P' F) : t_Program___add__ (endF P' F) (gam0 2 ds) mu := by
  obtain ⟨ns, cs, cs', rfl, hk, h⟩ := h
  show t_Program___add__ _ [some (Pr ns cs), some (Pr ns cs')] mu
  unfold t_Program___add__
  have e : ∀ (P : KX) (F : KD), gNe 6 (Me ns) (Me ns) mu P F = F (.bl false) mu := fun P F => gNeV (d := Me ns) (e := Me ns) trivial trivial (by rw [dp_Me]; decide) (eqD_Me ns)
  simp only [dSeq, dIfS, dCT, dBin, dFld, fldK, dVar, ix_memory, ix_commands, List.getElem?_cons_zero, List.getElem?_cons_succ, e, Bool.false_eq_true, if_false, dNext, dRet, dCall, dCons, dNil, gAdd]
  have hl := hk.1
  rw [List.length_append] at hl
  refine ⟨by rw [List.length_map, List.length_map]; omega, .tup (cs.map Cmd.d ++ cs'.map Cmd.d), ns, cs ++ cs', rfl, by rw [List.map_append]; rfl, hk, h⟩
theorem lc_filter {α : Type} {f : α → D} {p : α → Bool} {i : Nat} {T : DB} {ok : Sto → Prop} {ga : Gam} {G : List D → Sto → Prop} {mu : Sto} (hok : ok mu) (hi : i < ga.length) (hnp : ∀ x, np (f x)) (hT : ∀ x (F : Bool → Sto → Prop), F (p x) mu → T (ga.set i (some (f x))) mu (fun _ _ => False) F) :
    ∀ (l acc : List α), G ((acc ++ l.filter p).map f) mu → lcL 0 (dName i) T (dVar i) ok ga G (l.map f) (acc.map f) mu
  | [], acc, h => ⟨hok, by simpa using h⟩
  | x :: l, acc, h => by
    refine ⟨hok, ?_⟩
    have gi : (ga.set i (some (f x)))[i]? = some (some (f x)) := List.getElem?_set_self hi
    have ih := lc_filter (G := G) hok hi hnp hT l
    refine hT x _ ?_
    rw [List.filter_cons] at h
    cases q : p x with
    | true =>
      rw [if_pos rfl]
      rw [if_pos q] at h
      simp only [dVar, gi]
      refine ⟨hnp x, ?_⟩
      have e : acc.map f ++ [f x] = (acc ++ [x]).map f := by simp
      rw [e]
      refine ih _ ?_
      rw [List.append_assoc]
      exact h
    | false =>
      rw [if_neg (by decide)]
      rw [if_neg (by rw [q]; decide)] at h
      exact ih _ h
end LW

/-! part E2 -/
namespace LW
open PySem PySem.Spec PyProof.Rows L2 DL DQ DX DZ
theorem lc_map {α : Type} {f g : α → D} {i : Nat} {e : DE} {ok : Sto → Prop} {ga : Gam} {G : List D → Sto → Prop} {mu : Sto} (hok : ok mu) (hnp : ∀ x, np (g x)) :
    ∀ (l : List α) (acc : List D), (∀ x ∈ l, ∀ F : KD, F (g x) mu → e (ga.set i (some (f x))) mu (fun _ _ => False) F) → G (acc ++ l.map g) mu → lcL 0 (dName i) dYes e ok ga G (l.map f) acc mu
  | [], acc, _, h => ⟨hok, by simpa using h⟩
  | x :: l, acc, he, h => by
    refine ⟨hok, ?_⟩
    have ih := lc_map (f := f) (g := g) (e := e) (G := G) (ga := ga) (i := i) hok hnp l (acc ++ [g x]) (fun y hy => he y (List.mem_cons_of_mem _ hy)) (by rw [List.append_assoc]; exact h)
    simp only [dName, dYes, if_true]
    exact he x List.mem_cons_self _ ⟨hnp x, ih⟩
theorem lv_pv {mu : Sto} {x : D} {l : List D} (h : lv mu x = some l) : pv_ mu x = some l := by
  cases x with
  | lst l' => exact h
  | ptr n =>
    cases q : mu[n]? with
    | none => simp [lv, q] at h
    | some m =>
      cases m with
      | lst l' =>
        simp only [lv, q] at h
        simp only [pv_, q]
        exact h
      | _ => simp [lv, q] at h
  | _ => cases h
theorem lc_sizes {mu : Sto} {n : Nat} {a0 b0 c0 : Int} (hs : mu[n]? = some (src a0 b0 c0)) {G : List D → Sto → Prop} {x1 : Option D} : ∀ (ds : List D) (acc : List Int) (a b c : Int), (∀ x ∈ acc, 1 ≤ x ∧ x ≤ 4) →
    (∀ (ns : List Int) a b c, ns.length = acc.length + ds.length → (∀ x ∈ ns, 1 ≤ x ∧ x ≤ 4) → G (iL ns) (mu.set n (src a b c))) →
    lcL 0 (dName 2) dYes (dBin (gAdd 0) (dC (.int 1)) (dCall sp__law_draw (dCons (dVar 0) (dCons (dC (.int 4)) dNil)))) (fun _ => True) [some (.ptr n), x1, none] G ds (iL acc) (mu.set n (src a b c))
  | [], acc, a, b, c, h1, h2 => ⟨trivial, h2 acc a b c rfl h1⟩
  | d :: ds, acc, a, b, c, h1, h2 => by
    refine ⟨trivial, ?_⟩
    simp only [dName, dYes, dBin, dC, dCall, dCons, dNil, dVar, List.set_cons_zero, List.set_cons_succ, List.getElem?_cons_zero, if_true]
    refine ⟨n, 4, rfl, ⟨by decide, by decide⟩, ⟨a, b, c, set_self hs⟩, fun r a' b' c' r0 r4 => ?_⟩
    rw [List.set_set]
    refine ⟨trivial, ?_⟩
    rw [iL_app]
    refine lc_sizes hs ds (acc ++ [1 + r]) a' b' c' (fun x hx => ?_) fun ns a b c hl hn => ?_
    · rcases List.mem_append.mp hx with hx | hx
      · exact h1 x hx
      · rw [List.mem_singleton.mp hx]
        omega
    · refine h2 ns a b c ?_ hn
      rw [hl, List.length_append, List.length_cons]
      simp
      omega
theorem pure__law_sizes (ds : List D) (mu : Sto) (P' : KX) (F : KD) (h : sp__law_sizes ds mu P' F) : t__law_sizes (endF P' F) (gam0 3 ds) mu := by
  obtain ⟨n, most, rfl, hm, ⟨a, b, c, hs⟩, h⟩ := h
  show t__law_sizes _ [some (.ptr n), some (.int most), none] mu
  unfold t__law_sizes
  simp only [dRet, dLc, iR1, dCons, dNil, dBin, dC, dCall, dVar, gAdd, List.getElem?_cons_zero, List.getElem?_cons_succ, endF]
  refine ⟨n, most, rfl, ⟨by omega, by omega⟩, ⟨a, b, c, hs⟩, fun r a1 b1 c1 r0 r1 => ?_⟩
  refine ⟨⟨by omega, by omega⟩, by rw [rngL_len]; omega, ?_⟩
  refine lc_sizes hs _ [] a1 b1 c1 (fun x hx => by cases hx) fun ns a2 b2 c2 hl hn => ?_
  rw [rngL_len] at hl
  simp at hl
  exact h ns a2 b2 c2 (by omega) (by omega) hn
theorem sD_app (ss : List LS) (s : LS) : sD ss ++ [s.d] = sD (ss ++ [s]) := by simp
theorem gEqS (x y : Str) {mu : Sto} {P : KX} {F : KD} : gEq 6 (.str x) (.str y) mu P F = F (.bl (x == y)) mu := gEqV (d := .str x) (e := .str y) trivial trivial (by rw [dp_str]; exact Nat.zero_le _) (by rw [eqD])
theorem pure__law_command (ds : List D) (mu : Sto) (P' : KX) (F : KD) (h : sp__law_command ds mu P' F) : t__law_command (endF P' F) (gam0 5 ds) mu := by
  obtain ⟨⟨k, a, b, c⟩, rfl, h⟩ := h
  show t__law_command _ [some (LS.d ⟨k, a, b, c⟩), none, none, none, none] mu
  unfold t__law_command
  simp only [dSeq, dAsg, dVar, dTupG, gsCons, gsNil, LS.d, tv, dName, List.getElem?_cons_zero, List.getElem?_cons_succ, List.set_cons_zero, List.set_cons_succ, List.length_cons, List.length_nil, Nat.reduceAdd, true_and, dIfS, dCT, dBin, dC, gEqS]
  have s0 : ((("store" : Str)) == ("store" : Str)) = true := by decide
  have s1 : ((("flush" : Str)) == ("store" : Str)) = false := by decide
  have s2 : ((("fence" : Str)) == ("store" : Str)) = false := by decide
  have f1 : ((("flush" : Str)) == ("flush" : Str)) = true := by decide
  have f2 : ((("fence" : Str)) == ("flush" : Str)) = false := by decide
  match k with
  | 0 =>
    simp only [kn, s0, if_true, dRet, dCall, dCons, dNil, dVar, List.getElem?_cons_zero, List.getElem?_cons_succ]
    exact ⟨⟨rfl, by simp [npL, np]⟩, h⟩
  | 1 =>
    simp only [kn, s1, Bool.false_eq_true, if_false, dNext, dRet, dIf, dCT, dBin, dVar, dC, gEqS, f1, if_true, dCall, dCons, dNil, List.getElem?_cons_zero, List.getElem?_cons_succ]
    exact ⟨⟨rfl, by simp [npL, np]⟩, h⟩
  | n + 2 =>
    simp only [kn, s2, Bool.false_eq_true, if_false, dNext, dRet, dIf, dCT, dBin, dVar, dC, gEqS, f2, dMk0, List.getElem?_cons_zero, List.getElem?_cons_succ]
    exact h
theorem cmd_np (c : Cmd) : np c.d := by cases c <;> trivial
theorem cmd_ok {ns : List Int} {s : LS} (h : s.ok ns) : s.cmd.ok ns := by
  obtain ⟨k, a, b, c⟩ := s
  match k, h with
  | 0, h => exact h.1
  | 1, h => exact h.1.1
  | n + 2, h => trivial
theorem pure__law_program (ds : List D) (mu : Sto) (P' : KX) (F : KD) (h : sp__law_program ds mu P' F) : t__law_program (endF P' F) (gam0 3 ds) mu := by
  obtain ⟨x, y, ns, ss, rfl, hx, hy, hn, hl, hk, h⟩ := h
  show t__law_program _ [some x, some y, none] mu
  unfold t__law_program
  simp only [dRet, dCall, dCons, dNil, dVar, List.getElem?_cons_zero, List.getElem?_cons_succ]
  refine ⟨x, ns, rfl, hx, hn, ?_⟩
  simp only [dLc, iSeq, dVar, List.getElem?_cons_zero, List.getElem?_cons_succ]
  refine ⟨_, lv_pv hy, by rw [List.length_map]; omega, ?_⟩
  refine lc_map (f := LS.d) (g := fun s => s.cmd.d) (lv_pv hy) (fun s => cmd_np _) ss [] (fun s hs F hF => ?_) ?_
  · have e : (wip [some x, some y, none] [2]).set 2 (some s.d) = [some x, some y, some s.d] := rfl
    rw [e]
    simp only [dCall, dCons, dNil, dVar, List.getElem?_cons_zero, List.getElem?_cons_succ]
    exact ⟨s, rfl, hF⟩
  · refine ⟨.lst ([] ++ ss.map fun s => s.cmd.d), ns, ss.map LS.cmd, rfl, ?_, ⟨by rw [List.length_map]; exact hl, fun c hc => ?_⟩, h⟩
    · show some _ = some _
      rw [List.nil_append, List.map_map]
      rfl
    · obtain ⟨s, hs, e⟩ := List.mem_map.mp hc
      rw [← e]
      exact cmd_ok (hk s hs)
theorem eqD_cmd (c e : Cmd) : eqD c.d e.d = some (decide (c = e)) := by
  cases c with
  | st a b n =>
    cases e with
    | st a' b' n' =>
      have h := eqL_int [a, b, n] [a', b', n']
      rw [Cmd.d, Cmd.d, eqD, if_pos ⟨rfl, rfl⟩, if_pos rfl]
      refine h.trans (congrArg some (decide_eq_decide.mpr ?_))
      simp
    | fl a' => rw [Cmd.d, Cmd.d, eqD, if_pos ⟨rfl, rfl⟩, if_neg (by decide)]; simp
    | fe => rw [Cmd.d, Cmd.d, eqD, if_pos ⟨rfl, rfl⟩, if_neg (by decide)]; simp
  | fl a =>
    cases e with
    | st a' b' n' => rw [Cmd.d, Cmd.d, eqD, if_pos ⟨rfl, rfl⟩, if_neg (by decide)]; simp
    | fl a' =>
      have h := eqL_int [a] [a']
      rw [Cmd.d, Cmd.d, eqD, if_pos ⟨rfl, rfl⟩, if_pos rfl]
      refine h.trans (congrArg some (decide_eq_decide.mpr ?_))
      simp
    | fe => rw [Cmd.d, Cmd.d, eqD, if_pos ⟨rfl, rfl⟩, if_neg (by decide)]; simp
  | fe =>
    cases e with
    | st a' b' n' => rw [Cmd.d, Cmd.d, eqD, if_pos ⟨rfl, rfl⟩, if_neg (by decide)]; simp
    | fl a' => rw [Cmd.d, Cmd.d, eqD, if_pos ⟨rfl, rfl⟩, if_neg (by decide)]; simp
    | fe =>
      have h := eqL_int [] []
      rw [Cmd.d, eqD, if_pos ⟨rfl, rfl⟩, if_pos rfl]
      exact h
theorem eqL_cmd : ∀ (cs es : List Cmd), eqL (cs.map Cmd.d) (es.map Cmd.d) = some (decide (cs = es))
  | [], [] => by rw [List.map_nil, eqL]; simp
  | [], _ :: _ => by rw [List.map_nil, List.map_cons, eqL] <;> simp
  | _ :: _, [] => by rw [List.map_nil, List.map_cons, eqL] <;> simp
  | c :: cs, e :: es => by
    rw [List.map_cons, List.map_cons, eqL, eqD_cmd, eqL_cmd cs es]
    by_cases h : c = e
    · subst h
      simp
    · simp [h]
theorem eqD_Me2 (a b : List Int) : eqD (Me a) (Me b) = some (decide (a = b)) := by
  rw [eqD, if_pos ⟨rfl, rfl⟩, if_pos rfl, eqL_one, eqD_tup, eqL_int]
theorem eqD_Pr (ns ns' : List Int) (cs cs' : List Cmd) : eqD (Pr ns cs) (Pr ns' cs') = some (decide (ns = ns' ∧ cs = cs')) := by
  rw [eqD, if_pos ⟨rfl, rfl⟩, if_pos rfl, eqL, eqD_Me2]
  by_cases h : ns = ns'
  · subst h
    simp only [decide_true, eqL_one, eqD_tup, eqL_cmd, true_and]
  · simp [h]
theorem dp_cmd (c : Cmd) : dp c.d = 2 := by
  cases c <;> (rw [Cmd.d, dp_obj]; simp [dpL, dp_int])
theorem dpL_cmd : ∀ cs : List Cmd, dpL (cs.map Cmd.d) ≤ 2
  | [] => by rw [List.map_nil, dpL]; decide
  | c :: cs => by
    rw [List.map_cons, dpL, dp_cmd]
    have := dpL_cmd cs
    omega
theorem dp_Pr (ns : List Int) (cs : List Cmd) : dp (Pr ns cs) ≤ 5 := by
  rw [dp_obj, dpL, dpL, dpL, dp_Me, dp_tup]
  have := dpL_cmd cs
  omega
section
variable {mu : Sto} {P : KX} {F : KD}
theorem gNeP (ns ns' : List Int) (cs cs' : List Cmd) : gNe 6 (Pr ns cs) (Pr ns' cs') mu P F = F (.bl (!decide (ns = ns' ∧ cs = cs'))) mu := gNeV (d := Pr ns cs) (e := Pr ns' cs') trivial trivial (Nat.le_succ_of_le (dp_Pr ns cs)) (eqD_Pr ns ns' cs cs')
theorem gNeCT (cs es : List Cmd) : gNe 6 (.tup (cs.map Cmd.d)) (.tup (es.map Cmd.d)) mu P F = F (.bl (!decide (cs = es))) mu := gNeV (d := .tup (cs.map Cmd.d)) (e := .tup (es.map Cmd.d)) trivial trivial (by rw [dp_tup]; have := dpL_cmd cs; omega) (by rw [eqD_tup, eqL_cmd])
theorem gNeS (x y : Str) : gNe 6 (.str x) (.str y) mu P F = F (.bl (!(x == y))) mu := gNeV (d := .str x) (e := .str y) trivial trivial (by rw [dp_str]; exact Nat.zero_le _) (by rw [eqD])
end
def bodyL : DS := dSeq (dSet 2 (dCall sp__law_source (dCons (dVar 1) (dNil)))) (dIfS (dNot (dTru (dCall sp__law_right (dCons (dVar 2) (dNil))))) (dRet (dC (.bl false))) (dNext))
theorem for_law {E : DEnds} {u : Option D} {t : List D} (hN : ∀ ga mu, E.nx ga mu) : ∀ (xs : List Int) (z1 z2 : Option D) (mu : Sto), forL (dName 1) bodyL E (okS (.lst t) t) (iL xs) [u, z1, z2] mu
  | [], z1, z2, mu => ⟨rfl, hN _ _⟩
  | x :: xs, z1, z2, mu => by
    refine ⟨rfl, ?_⟩
    have ih := for_law (u := u) (t := t) hN xs
    show bodyL { E with nx := forL (dName 1) bodyL E (okS (.lst t) t) (iL xs), ct := forL (dName 1) bodyL E (okS (.lst t) t) (iL xs), bk := E.nx } [u, some (.int x), z2] mu
    generalize forL (dName 1) bodyL E (okS (.lst t) t) (iL xs) = G at ih
    unfold bodyL
    simp only [dSeq, dSet, dCall, dCons, dNil, dVar, List.getElem?_cons_zero, List.getElem?_cons_succ, List.set_cons_zero, List.set_cons_succ]
    refine ⟨x, rfl, fun a b c => ?_⟩
    simp only [dIfS, dNot, dTru, dCall, dCons, dNil, dVar, List.getElem?_cons_zero, List.getElem?_cons_succ]
    refine ⟨mu.length, rfl, ⟨a, b, c, last_get mu _ rfl⟩, fun a' b' c' => ?_⟩
    simp only [truK, Bool.not_true, Bool.false_eq_true, if_false, dNext]
    exact ih _ _ _
theorem pure_law {gs : G2} {x : D} {ns : List Int} (hl : ns.length ≤ 63) (hg : ∀ mu P F, F (.lst (iL ns ++ [.int 0])) mu → gs x (.lst [.int 0]) mu P F) : t_law gs (endF (fun _ _ => False) fun d _ => d = .bl true) (gam0 3 [x]) [] := by
  show t_law gs _ [some x, none, none] []
  unfold t_law
  show dFor _ _ _ _ _ _
  simp only [dFor, iSeq, dSlice, dNoPart, dPart, dBin, dLst, retL, npL, np, true_and, dC, dCons, dNil, dVar, List.getElem?_cons_zero]
  refine ⟨by decide, hg _ _ _ ?_⟩
  have e0 : iL ns ++ [D.int 0] = iL (ns ++ [0]) := by simp
  rw [e0]
  obtain ⟨ms, hm⟩ : ∃ ms, DL.cutD (iL (ns ++ [0])) none (some 4) = iL ms := ⟨_, by unfold DL.cutD; rw [← List.map_drop, ← List.map_take]⟩
  refine ⟨_, rfl, ?_⟩
  rw [hm]
  exact ⟨_, rfl, for_law (fun _ _ => rfl) ms none none []⟩
def bodyS : DS := dSeq (dSet 6 (dCall sp__law_pick (dCons (dVar 0) (dCons (dLst 0 (dCons (dC (.str "store")) (dCons (dC (.str "store")) (dCons (dC (.str "store")) (dCons (dC (.str "flush")) (dCons (dC (.str "flush")) (dCons (dC (.str "fence")) (dNil)))))))) (dNil))))) (dSeq (dSet 7 (dCall sp__law_draw (dCons (dVar 0) (dCons (dCB bLen (dCons (dVar 1) (dNil))) (dNil))))) (dDrop (dMtd gAppend (dVar 4) (dCons (dTup (dCons (dVar 6) (dCons (dVar 7) (dCons (dCall sp__law_draw (dCons (dVar 0) (dCons (dBin gIx (dVar 1) (dVar 7)) (dNil)))) (dCons (dCall sp__law_number (dCons (dVar 0) (dNil))) (dNil)))))) (dNil)))))
theorem for_specs {mu : Sto} {n : Nat} (hs : srcOk mu n) {ns : List Int} (hn : sizesOk ns) {z2 z3 : Option D} {E : DEnds} : ∀ (ds : List D) (ss : List LS) (a b c : Int) (z5 z6 z7 : Option D), ss.length + ds.length ≤ 1000 → (∀ s ∈ ss, s.ok ns) →
    (∀ (ss' : List LS) a b c z5 z6 z7, ss'.length = ss.length + ds.length → (∀ s ∈ ss', s.ok ns) → E.nx [some (.ptr n), some (.lst (iL ns)), z2, z3, some (.ptr mu.length), z5, z6, z7] (mu.set n (src a b c) ++ [.lst (sD ss')])) →
    forL (dName 5) bodyS E (fun _ => True) ds [some (.ptr n), some (.lst (iL ns)), z2, z3, some (.ptr mu.length), z5, z6, z7] (mu.set n (src a b c) ++ [.lst (sD ss)])
  | [], ss, a, b, c, z5, z6, z7, _, hk, hN => ⟨trivial, hN ss a b c z5 z6 z7 rfl hk⟩
  | d :: ds, ss, a, b, c, z5, z6, z7, hl, hk, hN => by
    refine ⟨trivial, ?_⟩
    obtain ⟨x0, y0, w0, hs'⟩ := id hs
    rw [List.length_cons] at hl
    have ih := fun (s : LS) (hsk : s.ok ns) a b c z5 z6 z7 => for_specs ⟨x0, y0, w0, hs'⟩ hn (E := E) (z2 := z2) (z3 := z3) ds (ss ++ [s]) a b c z5 z6 z7 (by rw [List.length_append]; simp; omega) (fun t ht => by
      rcases List.mem_append.mp ht with ht | ht
      · exact hk t ht
      · rw [List.mem_singleton.mp ht]
        exact hsk) (fun ss' a b c z5 z6 z7 hl' hk' => hN ss' a b c z5 z6 z7 (by rw [hl', List.length_append, List.length_cons]; simp; omega) hk')
    show bodyS { E with nx := forL (dName 5) bodyS E (fun _ => True) ds, ct := forL (dName 5) bodyS E (fun _ => True) ds, bk := E.nx } [some (.ptr n), some (.lst (iL ns)), z2, z3, some (.ptr mu.length), some d, z6, z7] (mu.set n (src a b c) ++ [.lst (sD ss)])
    generalize forL (dName 5) bodyS E (fun _ => True) ds = G at ih
    have get1 : ∀ a b c, (mu.set n (src a b c))[n]? = some (src a b c) := fun a b c => set_self hs'
    have so : ∀ a b c (x : MO), srcOk (mu.set n (src a b c) ++ [x]) n := fun a b c x => ⟨a, b, c, app_get (get1 a b c) _⟩
    have st1 : ∀ a b c a' b' c' (x : MO), (mu.set n (src a b c) ++ [x]).set n (src a' b' c') = mu.set n (src a' b' c') ++ [x] := fun a b c a' b' c' x => by rw [app_set (get1 a b c), src_set]
    have lg : ∀ a b c, (mu.set n (src a b c) ++ [MO.lst (sD ss)])[mu.length]? = some (.lst (sD ss)) := fun a b c => last_get _ _ List.length_set.symm
    unfold bodyS
    simp only [dSeq, dSet, dCall, dCons, dNil, dLst, dC, dVar, retL, List.getElem?_cons_zero, List.getElem?_cons_succ]
    refine ⟨by decide, by simp [npL, np], n, _, rfl, ⟨by decide, by decide⟩, so _ _ _ _, fun kd a1 b1 c1 hd => ?_⟩
    rw [st1]
    have hkd : ∃ k : Nat, kd = .str (kn k) := by
      simp only [List.mem_cons, List.not_mem_nil, or_false] at hd
      rcases hd with rfl | rfl | rfl | rfl | rfl | rfl
      · exact ⟨0, rfl⟩
      · exact ⟨0, rfl⟩
      · exact ⟨0, rfl⟩
      · exact ⟨1, rfl⟩
      · exact ⟨1, rfl⟩
      · exact ⟨2, rfl⟩
    obtain ⟨k, rfl⟩ := hkd
    simp only [dCB, bLen, szD, dVar, dCons, dNil, List.getElem?_cons_zero, List.getElem?_cons_succ, List.set_cons_zero, List.set_cons_succ]
    have l6 := hn.1
    refine ⟨n, _, rfl, ⟨by rw [List.length_map]; omega, by rw [List.length_map]; omega⟩, so _ _ _ _, fun r a2 b2 c2 r0 r1 => ?_⟩
    rw [st1]
    rw [List.length_map] at r1
    have ea := atI_i r0 r1
    have hb : 1 ≤ ns.getD r.toNat 0 ∧ ns.getD r.toNat 0 ≤ 4 := by
      have hlt : r.toNat < ns.length := by omega
      have e : ns.getD r.toNat 0 = ns[r.toNat] := by simp [hlt]
      rw [e]
      exact hn.2 _ (List.getElem_mem hlt)
    simp only [dDrop, dMtd, dTup, dCons, dNil, dCall, dVar, dBin, gIx, pv_, ea, List.getElem?_cons_zero, List.getElem?_cons_succ, List.set_cons_zero, List.set_cons_succ]
    refine ⟨⟨mu.length, rfl, .inl ⟨_, lg _ _ _⟩⟩, n, _, rfl, ⟨by omega, by omega⟩, so _ _ _ _, fun w a3 b3 c3 w0 w1 => ?_⟩
    rw [st1]
    refine ⟨n, rfl, so _ _ _ _, fun v a4 b4 c4 hv => ?_⟩
    rw [st1]
    refine ⟨⟨by simp, by simp [npL, np]⟩, ?_⟩
    simp only [gAppend, lg]
    refine ⟨⟨trivial, by rw [List.length_map]; omega⟩, ?_⟩
    rw [last_set _ _ _ List.length_set.symm]
    have e := sD_app ss ⟨k, r, w, v⟩
    simp only [LS.d] at e
    rw [e]
    exact ih ⟨k, r, w, v⟩ ⟨⟨⟨r0, r1⟩, w0, w1⟩, hv⟩ a4 b4 c4 _ _ _
theorem pure__law_specs (ds : List D) (mu : Sto) (P' : KX) (F : KD) (h : sp__law_specs ds mu P' F) : t__law_specs (endF P' F) (gam0 8 ds) mu := by
  obtain ⟨n, ns, least, most, rfl, ⟨h0, h1, h2⟩, hn, hs, h⟩ := h
  show t__law_specs _ [some (.ptr n), some (.lst (iL ns)), some (.int least), some (.int most), none, none, none, none] mu
  unfold t__law_specs
  obtain ⟨a0, b0, c0, hs'⟩ := id hs
  simp only [dSeq, dSet, dLst, dNil, retL, npL, true_and, List.length_nil, Nat.zero_le, List.set_cons_zero, List.set_cons_succ]
  have so : srcOk (mu ++ [MO.lst []]) n := ⟨a0, b0, c0, app_get hs' _⟩
  simp only [dFor, iR1, dCons, dNil, dBin, dCall, dVar, dC, gAdd, DL.gSub, gI0, List.getElem?_cons_zero, List.getElem?_cons_succ]
  refine ⟨n, _, rfl, ⟨by omega, by omega⟩, so, fun r a b c r0 r1 => ?_⟩
  rw [app_set hs']
  refine ⟨⟨by omega, by omega⟩, ?_⟩
  refine for_specs hs hn (rngL 0 (least + r).toNat) [] a b c none none none (by rw [rngL_len]; simp; omega) (fun s hs => by cases hs) fun ss a b c z5 z6 z7 hl hk => ?_
  rw [rngL_len] at hl
  simp at hl
  simp only [dRet, dVar, List.getElem?_cons_zero, List.getElem?_cons_succ]
  exact h ss a b c (by omega) (by omega) hk
end LW

/-! part E3 -/
namespace LW
open PySem PySem.Spec PyProof.Rows L2 DL DQ DX DZ
open TL
/-! ### texts of numbers -/
theorem numL_head {n : Nat} (h : (numL n).head? = some 48) : n = 0 := by
  induction n using Nat.strongRecOn with
  | ind n ih =>
    rcases Nat.lt_or_ge n 10 with q | q
    · rw [numL_lt q] at h
      simp at h
      omega
    · rw [numL_step q] at h
      have hn := numL_ne (n / 10)
      have e : (numL (n / 10) ++ [48 + n % 10]).head? = (numL (n / 10)).head? := by
        cases z : numL (n / 10) with
        | nil => exact (hn z).elim
        | cons a l => rfl
      rw [e] at h
      have := ih (n / 10) (by omega) h
      omega
theorem tl_numS (n : Nat) : tl (numS (n : Int)) = numL n := tl_num n
theorem tl_numSn (n : Nat) : tl (numS (Int.negSucc n)) = 45 :: numL (n + 1) := by
  have e : toString (Int.negSucc n) = "-" ++ toString (((n + 1 : Nat)) : Int) := rfl
  unfold numS
  have h2 := tl_num (n + 1)
  rw [tl_ofString] at h2
  rw [e, tl_ofString, String.toList_append, List.map_append, h2]
  rfl
theorem isFig_all {l : List Nat} (h : NumText.AllDigits l) : l.all isFig = true := by
  rw [List.all_eq_true]
  intro c hc
  exact decide_eq_true (h c hc)
theorem head_dig {l : List Nat} (h : NumText.AllDigits l) : l.head? ≠ some 45 := fun e => by
  cases l with
  | nil => cases e
  | cons a l =>
    simp at e
    have := h a List.mem_cons_self
    omega
theorem numL_pos (n : Nat) : 1 ≤ (numL n).length := by
  have := numL_ne n
  cases z : numL n with
  | nil => exact (this z).elim
  | cons a l => simp
theorem rdNum_numS {i : Int} (h : nOk i) : rdNum (numS i) = some i := by
  unfold rdNum
  cases i with
  | ofNat n =>
    have h1 : n < 10 ^ 31 := by
      have := h.2
      have e : ((n : Nat) : Int) < ((10 ^ 31 : Nat) : Int) := this
      omega
    have hl := numL_len (k := 31) (by decide) h1
    have hd := numL_digits n
    have hp := numL_pos n
    have hh := head_dig hd
    have e : tl (numS (Int.ofNat n)) = numL n := tl_num n
    have fg : figs (numL n) = numL n := by
      unfold figs
      rw [if_neg hh]
    have ok : okNum (numL n) = true := by
      unfold okNum
      rw [fg, decide_eq_true ⟨hp, hl⟩, isFig_all hd]
      by_cases q : (numL n).head? = some 48
      · have z := numL_head q
        subst z
        decide +kernel
      · rw [decide_eq_false q]
        rfl
    rw [e, if_pos ok]
    unfold valN
    rw [if_neg hh, numL_val]
    rfl
  | negSucc n =>
    have h1 : n + 1 < 10 ^ 31 := by
      have := h.1
      have e : -(((10 ^ 31 : Nat)) : Int) < Int.negSucc n := this
      rw [Int.negSucc_eq] at e
      omega
    have hl := numL_len (k := 31) (by decide) h1
    have hd := numL_digits (n + 1)
    have hp := numL_pos (n + 1)
    rw [tl_numSn]
    have fg : figs (45 :: numL (n + 1)) = numL (n + 1) := by
      unfold figs
      rw [if_pos (show (45 :: numL (n + 1)).head? = some 45 from rfl)]
      rfl
    have ok : okNum (45 :: numL (n + 1)) = true := by
      unfold okNum
      rw [fg, decide_eq_true ⟨hp, hl⟩, isFig_all hd]
      have q : ¬ (numL (n + 1)).head? = some 48 := fun z => by
        have := numL_head z
        omega
      rw [decide_eq_false q]
      rfl
    rw [if_pos ok]
    unfold valN
    rw [if_pos (show (45 :: numL (n + 1)).head? = some 45 from rfl), fg, numL_val, Int.negSucc_eq]
    rfl
theorem numS_free {s : Nat} (h : s < 48 ∨ 57 < s) (h2 : s ≠ 45) (i : Int) : s ∉ tl (numS i) := by
  cases i with
  | ofNat n =>
    rw [show tl (numS (Int.ofNat n)) = numL n from tl_num n]
    exact numL_free h
  | negSucc n =>
    rw [tl_numSn]
    intro z
    rcases List.mem_cons.mp z with z | z
    · exact h2 z
    · exact numL_free h z
theorem numS_len {i : Int} (h : nOk i) : (tl (numS i)).length ≤ 32 := by
  cases i with
  | ofNat n =>
    have h1 : n < 10 ^ 31 := by
      have := h.2
      have e : ((n : Nat) : Int) < ((10 ^ 31 : Nat) : Int) := this
      omega
    rw [show tl (numS (Int.ofNat n)) = numL n from tl_num n]
    have := numL_len (k := 31) (by decide) h1
    omega
  | negSucc n =>
    have h1 : n + 1 < 10 ^ 31 := by
      have := h.1
      have e : -(((10 ^ 31 : Nat)) : Int) < Int.negSucc n := this
      rw [Int.negSucc_eq] at e
      omega
    rw [tl_numSn, List.length_cons]
    have := numL_len (k := 31) (by decide) h1
    omega
theorem nOk_log {i : Int} (h : nOk i) : i.natAbs.log2 < 1920 := by
  have h1 := h.1
  have h2 := h.2
  have e : i.natAbs < 2 ^ 1920 := by
    have : i.natAbs < 10 ^ 31 := by
      have e1 : -(((10 ^ 31 : Nat)) : Int) < i := h1
      have e2 : i < ((10 ^ 31 : Nat) : Int) := h2
      omega
    exact Nat.lt_of_lt_of_le this (by decide +kernel)
  by_cases z : i.natAbs = 0
  · rw [z]
    decide
  · exact (Nat.log2_lt z).mpr e
/-! ### texts of commands -/
def cWords : Cmd → List Str
  | .st a b c => ["store", numS a, numS b, numS c]
  | .fl a => ["flush", numS a]
  | .fe => ["fence"]
theorem tl_sp : tl (" " : Str) = [32] := rfl
theorem tl_cm : tl (", " : Str) = 44 :: [32] := rfl
theorem cText_join (c : Cmd) : cText c = Txt.join " " (cWords c) := by
  refine ext_tl ?_
  rw [join_eq, tl_join, tl_sp]
  cases c with
  | st a b c =>
    unfold cText cWords
    rw [tl_append, tl_append, tl_append, tl_append, tl_append]
    show ((((tl ("store " : Str) ++ _) ++ [32]) ++ _) ++ [32]) ++ _ = tl ("store" : Str) ++ ([32] ++ (_ ++ ([32] ++ (_ ++ ([32] ++ _)))))
    have e : tl ("store " : Str) = tl ("store" : Str) ++ [32] := rfl
    rw [e]
    simp only [List.append_assoc]
    rfl
  | fl a =>
    unfold cText cWords
    rw [tl_append]
    show tl ("flush " : Str) ++ _ = tl ("flush" : Str) ++ ([32] ++ _)
    have e : tl ("flush " : Str) = tl ("flush" : Str) ++ [32] := rfl
    rw [e, List.append_assoc]
    rfl
  | fe => rfl
theorem cWords_free {s : Nat} (h : s = 32 ∨ s = 44) (c : Cmd) : ∀ p ∈ cWords c, s ∉ tl p := by
  have hs : (s < 48 ∨ 57 < s) ∧ s ≠ 45 := by omega
  have w : s ∉ tl ("store" : Str) ∧ s ∉ tl ("flush" : Str) ∧ s ∉ tl ("fence" : Str) := by
    rcases h with rfl | rfl <;> decide +kernel
  intro p hp
  cases c with
  | st a b c =>
    simp only [cWords, List.mem_cons, List.not_mem_nil, or_false] at hp
    rcases hp with rfl | rfl | rfl | rfl
    · exact w.1
    · exact numS_free hs.1 hs.2 _
    · exact numS_free hs.1 hs.2 _
    · exact numS_free hs.1 hs.2 _
  | fl a =>
    simp only [cWords, List.mem_cons, List.not_mem_nil, or_false] at hp
    rcases hp with rfl | rfl
    · exact w.2.1
    · exact numS_free hs.1 hs.2 _
  | fe =>
    simp only [cWords, List.mem_cons, List.not_mem_nil, or_false] at hp
    rw [hp]
    exact w.2.2
theorem cText_split (c : Cmd) : Txt.split (cText c) " " = cWords c := by
  rw [cText_join]
  exact split_join tl_sp (by decide +kernel) (by cases c <;> simp [cWords]) (cWords_free (.inl rfl) c)
theorem rdCmd_cText {c : Cmd} (h : c.nOk) : rdCmd (cText c) = some c := by
  unfold rdCmd
  rw [cText_split]
  cases c with
  | st a b c =>
    obtain ⟨h1, h2, h3⟩ := h
    have e1 : rdNums [numS a, numS b, numS c] = some [a, b, c] := by
      simp only [rdNums, rdNum_numS h1, rdNum_numS h2, rdNum_numS h3, Option.map_some]
    show (match rdNums [numS a, numS b, numS c] with
      | none => none
      | some l => if ("store" : Str) = "store" ∧ l.length = 3 then mkCmd _ "store" l else if ("store" : Str) = "flush" ∧ l.length = 1 then mkCmd _ "store" l else if _ = ("fence" : Str) then some Cmd.fe else none) = _
    rw [e1]
    exact (if_pos ⟨rfl, rfl⟩).trans (show (if ("store" : Str) = "store" then some (Cmd.st a b c) else none) = _ from if_pos rfl)
  | fl a =>
    have e1 : rdNums [numS a] = some [a] := by
      simp only [rdNums, rdNum_numS (i := a) h, Option.map_some]
    show (match rdNums [numS a] with
      | none => none
      | some l => if ("flush" : Str) = "store" ∧ l.length = 3 then mkCmd _ "flush" l else if ("flush" : Str) = "flush" ∧ l.length = 1 then mkCmd _ "flush" l else if _ = ("fence" : Str) then some Cmd.fe else none) = _
    rw [e1]
    exact (if_neg (fun z => absurd z.1 (by decide +kernel))).trans ((if_pos ⟨rfl, rfl⟩).trans (show (if ("flush" : Str) = "flush" then some (Cmd.fl a) else none) = _ from if_pos rfl))
  | fe =>
    show (if ("fence" : Str) = "store" ∧ ([] : List Int).length = 3 then mkCmd _ "fence" [] else if ("fence" : Str) = "flush" ∧ ([] : List Int).length = 1 then mkCmd _ "fence" [] else if (cText .fe) = ("fence" : Str) then some Cmd.fe else none) = _
    exact (if_neg (fun z => absurd z.1 (by decide +kernel))).trans ((if_neg (fun z => absurd z.1 (by decide +kernel))).trans (if_pos rfl))
theorem joinL_free {s : Nat} {S : List Nat} (hS : s ∉ S) : ∀ {ps : List (List Nat)}, (∀ p ∈ ps, s ∉ p) → s ∉ joinL S ps
  | [], _ => by simp [joinL]
  | [p], h => h p List.mem_cons_self
  | p :: q :: r, h => by
    have ih := joinL_free hS (ps := q :: r) fun x hx => h x (List.mem_cons_of_mem _ hx)
    intro z
    rcases List.mem_append.mp z with z | z
    · exact h p List.mem_cons_self z
    · rcases List.mem_append.mp z with z | z
      · exact hS z
      · exact ih z
theorem cText_free (c : Cmd) : 44 ∉ tl (cText c) := by
  rw [cText_join, join_eq, tl_join, tl_sp]
  refine joinL_free (by decide) fun p hp => ?_
  obtain ⟨x, hx, rfl⟩ := List.mem_map.mp hp
  exact cWords_free (.inr rfl) c x hx
theorem cText_head (c : Cmd) : (tl (cText c)).head? = some 115 ∨ (tl (cText c)).head? = some 102 := by
  cases c with
  | st a b c =>
    unfold cText
    rw [tl_append, tl_append, tl_append, tl_append, tl_append]
    exact .inl rfl
  | fl a =>
    unfold cText
    rw [tl_append]
    exact .inr rfl
  | fe => exact .inr rfl
theorem cText_len {c : Cmd} (h : c.nOk) : (tl (cText c)).length ≤ 110 := by
  cases c with
  | st a b c =>
    unfold cText
    rw [tl_append, tl_append, tl_append, tl_append, tl_append]
    have h1 := numS_len h.1
    have h2 := numS_len h.2.1
    have h3 := numS_len h.2.2
    have e1 : (tl ("store " : Str)).length = 6 := rfl
    have e2 : (tl (" " : Str)).length = 1 := rfl
    simp only [List.length_append, e1, e2]
    omega
  | fl a =>
    unfold cText
    rw [tl_append]
    have h1 := numS_len (i := a) h
    have e1 : (tl ("flush " : Str)).length = 6 := rfl
    rw [List.length_append, e1]
    omega
  | fe => decide +kernel
theorem joinL_len {S : List Nat} {m : Nat} : ∀ {ps : List (List Nat)}, (∀ p ∈ ps, p.length ≤ m) → (joinL S ps).length ≤ ps.length * (m + S.length)
  | [], _ => by simp [joinL]
  | [p], h => by
    have := h p List.mem_cons_self
    simp [joinL]
    omega
  | p :: q :: r, h => by
    have ih := joinL_len (S := S) (ps := q :: r) fun x hx => h x (List.mem_cons_of_mem _ hx)
    have hp := h p List.mem_cons_self
    rw [joinL, List.length_append, List.length_append, List.length_cons, Nat.succ_mul]
    omega
theorem joinL_app {S : List Nat} : ∀ {a b : List (List Nat)}, a ≠ [] → b ≠ [] → joinL S (a ++ b) = joinL S a ++ (S ++ joinL S b)
  | [], _, h, _ => (h rfl).elim
  | [p], [], _, h => (h rfl).elim
  | [p], q :: r, _, _ => rfl
  | p :: q :: r, b, _, h => by
    have ih := joinL_app (S := S) (a := q :: r) (b := b) (by simp) h
    show p ++ (S ++ joinL S ((q :: r) ++ b)) = (p ++ (S ++ joinL S (q :: r))) ++ (S ++ joinL S b)
    rw [ih]
    simp only [List.append_assoc]
theorem pText_app {a b : List Cmd} (ha : a ≠ []) (hb : b ≠ []) : pText (a ++ b) = (pText a ++ (", " : Str)) ++ pText b := by
  refine ext_tl ?_
  unfold pText
  rw [if_neg ha, if_neg hb, if_neg (by simp [ha]), tl_append, tl_append, join_eq, join_eq, join_eq, tl_join, tl_join, tl_join, List.map_append, List.map_append, joinL_app (by simpa using ha) (by simpa using hb), List.append_assoc]
theorem rdCmds_texts : ∀ {cs : List Cmd}, (∀ c ∈ cs, c.nOk) → rdCmds (cs.map cText) = some cs
  | [], _ => rfl
  | c :: cs, h => by
    rw [List.map_cons, rdCmds, rdCmd_cText (h c List.mem_cons_self), rdCmds_texts fun d hd => h d (List.mem_cons_of_mem _ hd)]
    rfl
theorem rdP_pText {cs : List Cmd} (h : ∀ c ∈ cs, c.nOk) : rdP (pText cs) = some cs := by
  unfold rdP pText
  by_cases e : cs = []
  · rw [if_pos e, if_pos rfl, e]
  · rw [if_neg e]
    have hne : Txt.join ", " (cs.map cText) ≠ ("none" : Str) := fun z => by
      cases cs with
      | nil => exact e rfl
      | cons c cs =>
        have z2 := congrArg (fun x => (tl x).head?) z
        have h1 : (tl (Txt.join ", " ((c :: cs).map cText))).head? = (tl (cText c)).head? := by
          rw [join_eq, tl_join]
          have hc : tl (cText c) ≠ [] := fun y => by
            have := cText_head c
            rw [y] at this
            simp at this
          cases cs with
          | nil => rfl
          | cons d cs =>
            show (tl (cText c) ++ _).head? = _
            cases y : tl (cText c) with
            | nil => exact (hc y).elim
            | cons u v => rfl
        have z2 : (tl (Txt.join ", " ((c :: cs).map cText))).head? = some 110 := z2
        rw [h1] at z2
        have := cText_head c
        rw [z2] at this
        simp at this
    rw [if_neg hne, split_join tl_cm (by decide +kernel) (by simpa using e) fun p hp => by
      obtain ⟨c, _, rfl⟩ := List.mem_map.mp hp
      exact cText_free c]
    exact rdCmds_texts h
theorem pText_len {cs : List Cmd} (h : ∀ c ∈ cs, c.nOk) (hl : cs.length ≤ 200) : (pText cs).length ≤ 100000 := by
  rw [len_tl]
  unfold pText
  split
  · decide +kernel
  · rw [join_eq, tl_join, tl_cm]
    have := joinL_len (S := 44 :: [32]) (m := 110) (ps := (cs.map cText).map tl) fun p hp => by
      obtain ⟨x, hx, rfl⟩ := List.mem_map.mp hp
      obtain ⟨c, hc, rfl⟩ := List.mem_map.mp hx
      exact cText_len (h c hc)
    rw [List.length_map, List.length_map] at this
    have e : (44 :: [32] : List Nat).length = 2 := rfl
    rw [e] at this
    omega
/-! ### the law's texts -/
theorem kn0 : kn 0 = "store" := rfl
theorem ltx (s : LS) : s.txt = cText s.cmd := by
  rw [cText_join]
  unfold LS.txt LS.nums LS.cmd
  obtain ⟨k, a, b, c⟩ := s
  match k with
  | 0 => rfl
  | 1 => rfl
  | k + 2 => rfl
theorem lText_eq (ss : List LS) : lText ss = pText (ss.map LS.cmd) := by
  unfold lText pText
  by_cases e : ss = []
  · rw [if_pos e, if_pos (by rw [e]; rfl)]
  · rw [if_neg e, if_neg (by simpa using e), List.map_map]
    congr 1
    apply List.map_congr_left
    intro s _
    exact ltx s
end LW

/-! part E4 -/
namespace LW
open PySem PySem.Spec PyProof.Rows L2 DL DQ DX DZ
open TL
theorem str_beq (x y : Str) : (x == y) = decide (tl x = tl y) := by
  rw [Bool.eq_iff_iff, beq_iff_eq, decide_eq_true_iff]
  exact ⟨fun h => by rw [h], ext_tl⟩
theorem cutS_to (x : Str) : tl (cutS x none (some 1)) = (tl x).take 1 := by
  unfold cutS
  rw [show (some (1 : Int)) = some ((1 : Nat) : Int) from rfl, HT.sIx_nat, HT.sIx_none, Nat.sub_zero, List.drop_zero, len_tl]
  show List.take (min 1 (tl x).length) (tl x) = _
  cases tl x with
  | nil => rfl
  | cons a l => rw [Nat.min_eq_left (by simp)]
theorem cutS_from (x : Str) : tl (cutS x (some 1) none) = (tl x).drop 1 := by
  unfold cutS
  rw [show (some (1 : Int)) = some ((1 : Nat) : Int) from rfl, HT.sIx_nat, HT.sIx_none, len_tl]
  show List.take ((tl x).length - min 1 (tl x).length) (List.drop (min 1 (tl x).length) (tl x)) = _
  cases tl x with
  | nil => rfl
  | cons a l =>
    rw [Nat.min_eq_left (by simp), List.take_of_length_le (by rw [List.length_drop] <;> exact Nat.le_refl _)]
theorem fig_in (c : Nat) : (!(Builtin.Str.occurrences ("0123456789" : Str) ⟨#[c]⟩ 0 ("0123456789" : Str).length 1).isEmpty) = isFig c := by
  rw [PySem.StrLaws.found_one]
  unfold isFig
  rw [Bool.eq_iff_iff, decide_eq_true_iff, decide_eq_true_iff]
  have e : ("0123456789" : Str).cps.toList = [48, 49, 50, 51, 52, 53, 54, 55, 56, 57] := rfl
  rw [e]
  simp only [List.mem_cons, List.not_mem_nil, or_false]
  omega
theorem blsD_map {α : Type} (f : α → Bool) : ∀ l : List α, blsD (l.map fun c => D.bl (f c)) = some (l.map f)
  | [] => rfl
  | c :: l => by
    rw [List.map_cons, blsD, blsD_map f l]
    rfl
theorem int_read {x : Str} (h : okNum (tl x) = true) : PySem.intText? x = some (valN (tl x)) ∧ x.length ≤ 32 := by
  unfold okNum at h
  simp only [Bool.and_eq_true, decide_eq_true_iff] at h
  obtain ⟨⟨⟨h1, h2⟩, h3⟩, _⟩ := h
  have hd : NumText.AllDigits (figs (tl x)) := fun c hc => of_decide_eq_true (List.all_eq_true.mp h3 c hc)
  by_cases q : (tl x).head? = some 45
  · cases e : tl x with
    | nil => rw [e] at q; cases q
    | cons a l =>
      rw [e] at q
      cases q
      have fg : figs (45 :: l) = l := by
        unfold figs
        rw [if_pos (show (45 :: l).head? = some 45 from rfl)]
        rfl
      rw [e, fg] at h1 h2 hd
      have hl : x.length ≤ 32 := by
        rw [len_tl, e, List.length_cons]
        omega
      refine ⟨?_, hl⟩
      have hne : l ≠ [] := fun z => by rw [z] at h1; simp at h1
      rw [PySem.intText_neg (cs := l) e hd hne (by omega)]
      unfold valN
      rw [if_pos (show (45 :: l).head? = some 45 from rfl), fg]
  · have fg : figs (tl x) = tl x := by
      unfold figs
      rw [if_neg q]
    rw [fg] at h1 h2 hd
    have hl : x.length ≤ 32 := by
      rw [len_tl]
      omega
    refine ⟨?_, hl⟩
    have hne : tl x ≠ [] := fun z => by rw [z] at h1; simp at h1
    rw [PySem.intText_digits hd hne (by omega)]
    unfold valN
    rw [if_neg q]
theorem pure_read_number (ds : List D) (mu : Sto) (P' : KX) (F : KD) (h : sp_read_number ds mu P' F) : t_read_number (endF P' F) (gam0 4 ds) mu := by
  obtain ⟨x, p, rfl, hx, h⟩ := h
  show t_read_number _ [some (.str x), some (.int p), none, none] mu
  unfold t_read_number
  have hx2 : x.length ≤ 16777216 := by omega
  obtain ⟨fx, ef⟩ : ∃ fx, fx = (if (tl x).head? = some 45 then cutS x (some 1) none else x) := ⟨_, rfl⟩
  have tf : tl fx = figs (tl x) := by
    rw [ef]
    unfold figs
    by_cases q : (tl x).head? = some 45
    · rw [if_pos q, if_pos q, cutS_from]
    · rw [if_neg q, if_neg q]
  have fl : fx.length ≤ x.length := by
    rw [len_tl, len_tl, tf]
    unfold figs
    split
    · rw [List.length_drop]
      omega
    · exact Nat.le_refl _
  have raise : (okNum (tl x) = false) → ∀ (E : DEnds) (ga : Gam), E.ex = (endF P' F).ex → ga[1]? = some (some (.int p)) → dRaise 15 (dCons (dVar 1) (dNil)) E ga mu := fun q E ga he hg => by
    simp only [dRaise, dCons, dNil, dVar, hg, he]
    unfold rdNum at h
    rw [q] at h
    exact ⟨⟨rfl, trivial, trivial⟩, h⟩
  have okE : okNum (tl x) = (decide (1 ≤ (tl fx).length ∧ (tl fx).length ≤ 31) && (tl fx).all isFig && !(decide ((tl fx).head? = some 48) && !decide (tl x = [48]))) := by
    unfold okNum
    rw [tf]
  refine seqE [some (.str x), some (.int p), some (.str fx), none] mu (fun N hN => ?_) ?_
  · simp only [dSet, dIf, dCT, dBin, dSlice, dNoPart, dPart, dC, dVar, List.getElem?_cons_zero, List.getElem?_cons_succ, List.set_cons_zero, List.set_cons_succ]
    refine ⟨hx2, ?_⟩
    rw [gEqS, str_beq, cutS_to]
    have e1 : decide ((tl x).take 1 = tl ("-" : Str)) = decide ((tl x).head? = some 45) := by
      have e0 : tl ("-" : Str) = [45] := rfl
      rw [e0]
      cases tl x with
      | nil => rfl
      | cons a l =>
        rw [Bool.eq_iff_iff, decide_eq_true_iff, decide_eq_true_iff]
        simp
    rw [e1]
    dsimp only
    by_cases q : (tl x).head? = some 45
    · rw [if_pos q] at ef
      rw [if_pos (decide_eq_true q)]
      refine ⟨hx2, ?_⟩
      rw [← ef]
      exact hN
    · rw [if_neg q] at ef
      rw [if_neg (by rw [decide_eq_false q]; decide)]
      rw [ef] at hN
      exact hN
  have lc : ∀ (G : KD), G (.lst ((tl fx).map fun c => D.bl (isFig c))) mu → dLc 0 (iChr (dVar 2)) (dName 3) (dYes) (dBin gInS (dVar 3) (dC (.str "0123456789"))) [3] [some (.str x), some (.int p), some (.str fx), none] mu (fun _ _ => False) G := fun G hG => by
    simp only [dLc, iChr, dVar, wip, List.getElem?_cons_zero, List.getElem?_cons_succ, List.set_cons_zero, List.set_cons_succ]
    refine ⟨by
      unfold chrs
      rw [List.length_map, ← len_tl]
      omega, ?_⟩
    unfold chrs
    refine lc_map (f := fun c => D.str ⟨#[c]⟩) (g := fun c => D.bl (isFig c)) (ok := fun _ => True) trivial (fun _ => trivial) (tl fx) [] (fun c _ F hF => ?_) ?_
    · simp only [dBin, dVar, dC, gInS, List.getElem?_cons_zero, List.getElem?_cons_succ, List.set_cons_zero, List.set_cons_succ]
      rw [fig_in]
      exact hF
    · rw [List.nil_append]
      exact hG
  have lcP : ∀ (P : KX) (G : KD), G (.lst ((tl fx).map fun c => D.bl (isFig c))) mu → dLc 0 (iChr (dVar 2)) (dName 3) (dYes) (dBin gInS (dVar 3) (dC (.str "0123456789"))) [3] [some (.str x), some (.int p), some (.str fx), none] mu P G := fun P G hG => lc G hG
  have hlen : (fx.length : Int) = ((figs (tl x)).length : Int) := by rw [len_tl, tf]
  have fl2 : fx.length ≤ 16777216 := by omega
  have hlt : (tl fx).length = fx.length := (len_tl fx).symm
  by_cases A : (1 ≤ (tl fx).length ∧ (tl fx).length ≤ 31) ∧ (tl fx).all isFig = true
  · refine seqE [some (.str x), some (.int p), some (.str fx), none] mu (fun N hN => ?_) ?_
    · simp only [dIfS, dOr, dNot, dTest, dChain, dCB, dCons, dNil, dVar, dC, gLe, gCmp, bLen, List.getElem?_cons_zero, List.getElem?_cons_succ, List.set_cons_zero, List.set_cons_succ]
      refine ⟨fl2, ?_⟩
      rw [if_pos (decide_eq_true (by omega))]
      rw [if_neg (by rw [decide_eq_true (show (fx.length : Int) ≤ 31 by omega)]; decide)]
      simp only [dTru]
      refine lcP (endF P' F).ex _ ?_
      simp only [dNil, bAll, lv, Option.bind_some, blsD_map]
      have e : ((tl fx).map isFig).all id = true := by rw [List.all_map]; exact A.2
      rw [e]
      simp only [truK, Bool.not_true, Bool.false_eq_true, if_false, dNext]
      exact hN
    · obtain ⟨c, r, er⟩ : ∃ c r, tl fx = c :: r := by
        cases z : tl fx with
        | nil => rw [z] at A; simp at A
        | cons a l => exact ⟨a, l, rfl⟩
      have at0 : L2.atI fx.cps.toList 0 = some c := by
        show L2.atI (tl fx) 0 = some c
        rw [er]
        unfold L2.atI L2.ixN
        rw [if_pos (Int.le_refl 0), if_pos (by rw [List.length_cons]; omega)]
        rfl
      have q0 : ((⟨#[c]⟩ : Str) == ("0" : Str)) = decide ((tl fx).head? = some 48) := by
        rw [str_beq, er]
        have e0 : tl ("0" : Str) = [48] := rfl
        have e1 : tl (⟨#[c]⟩ : Str) = [c] := rfl
        rw [e0, e1, Bool.eq_iff_iff, decide_eq_true_iff, decide_eq_true_iff]
        simp
      have q1 : (x == ("0" : Str)) = decide (tl x = [48]) := by
        rw [str_beq]
        rfl
      simp only [dSeq, dIfS, dAnd, dCT, dBin, dVar, dC, gIx, at0, List.getElem?_cons_zero, List.getElem?_cons_succ, List.set_cons_zero, List.set_cons_succ]
      refine ⟨fl2, ?_⟩
      rw [gEqS, q0]
      have okE2 : okNum (tl x) = !(decide ((tl fx).head? = some 48) && !decide (tl x = [48])) := by
        rw [okE, decide_eq_true A.1, A.2]
        rfl
      have fin : okNum (tl x) = true → dRet (dCB bIntS (dCons (dVar 0) (dNil))) (endF P' F) [some (.str x), some (.int p), some (.str fx), none] mu := fun ok => by
        simp only [dRet, dCB, dCons, dNil, dVar, endF, List.getElem?_cons_zero, List.getElem?_cons_succ, List.set_cons_zero, List.set_cons_succ]
        obtain ⟨e1, e2⟩ := int_read ok
        unfold rdNum at h
        rw [if_pos ok] at h
        exact ⟨_, e1, by omega, h⟩
      by_cases b0 : (tl fx).head? = some 48
      · rw [decide_eq_true b0] at okE2 ⊢
        simp only [if_true]
        rw [gNeS, q1]
        by_cases b1 : tl x = [48]
        · rw [decide_eq_true b1] at okE2 ⊢
          simp only [Bool.not_true, Bool.false_eq_true, if_false, dNext]
          exact fin (by rw [okE2]; rfl)
        · rw [decide_eq_false b1] at okE2 ⊢
          simp only [Bool.not_false, if_true]
          exact raise (by rw [okE2]; rfl) _ _ rfl rfl
      · rw [decide_eq_false b0] at okE2 ⊢
        simp only [Bool.false_eq_true, if_false, dNext]
        exact fin (by rw [okE2]; rfl)
  · have no : okNum (tl x) = false := by
      rw [okE]
      by_cases b : (1 ≤ (tl fx).length ∧ (tl fx).length ≤ 31)
      · have b2 : (tl fx).all isFig = false := by
          cases z : (tl fx).all isFig with
          | false => rfl
          | true => exact (A ⟨b, z⟩).elim
        rw [b2, Bool.and_false, Bool.false_and]
      · rw [decide_eq_false b, Bool.false_and, Bool.false_and]
    simp only [dSeq, dIfS, dOr, dNot, dTest, dChain, dCB, dCons, dNil, dVar, dC, gLe, gCmp, bLen, List.getElem?_cons_zero, List.getElem?_cons_succ, List.set_cons_zero, List.set_cons_succ]
    refine ⟨fl2, ?_⟩
    by_cases b1 : (1 : Int) ≤ (fx.length : Int)
    · rw [if_pos (decide_eq_true b1)]
      by_cases b2 : (fx.length : Int) ≤ 31
      · rw [if_neg (by rw [decide_eq_true b2]; decide)]
        simp only [dTru]
        refine lcP (endF P' F).ex _ ?_
        simp only [dNil, bAll, lv, Option.bind_some, blsD_map]
        have e : ((tl fx).map isFig).all id = false := by
          rw [List.all_map]
          cases z : (tl fx).all isFig with
          | false => exact z
          | true => exact (A ⟨⟨by omega, by omega⟩, z⟩).elim
        rw [e]
        simp only [truK, Bool.not_false, if_true]
        exact raise no _ _ rfl rfl
      · rw [if_pos (by rw [decide_eq_false b2]; rfl), if_pos trivial]
        exact raise no _ _ rfl rfl
    · rw [if_neg (by rw [decide_eq_false b1]; decide), if_pos (by decide), if_pos trivial]
      exact raise no _ _ rfl rfl
end LW

/-! part E5 -/
namespace LW
open PySem PySem.Spec PyProof.Rows L2 DL DQ DX DZ
open TL
theorem isi_c (k : Nat) (c : Nat) (l : List D) (hc : c < 18) {mu : Sto} {i : Nat} {ga : Gam} (hi : ga[i]? = some (some (.obj c l))) (P : KX) (F : Bool → Sto → Prop) (hF : F (c == k) mu) : dTru (gIsi noTy (fun c => c == k) (dVar i)) ga mu P F := by
  simp only [dTru, gIsi, dVar, hi]
  exact ⟨hc, hF⟩
theorem e_app (x : Str) : Str.empty ++ x = x := ext_tl (by rw [tl_append]; rfl)
theorem len_le {x : Str} {n : Nat} (h : (tl x).length ≤ n) : x.length ≤ n := by rw [len_tl]; exact h
theorem numS_log {i : Int} (h : nOk i) : (i.natAbs.log2 < 1920) := nOk_log h
theorem pure_command_text (ds : List D) (mu : Sto) (P' : KX) (F : KD) (h : sp_command_text ds mu P' F) : t_command_text (endF P' F) (gam0 1 ds) mu := by
  obtain ⟨c, rfl, hc, h⟩ := h
  show t_command_text _ [some c.d] mu
  unfold t_command_text
  cases c with
  | st a b n =>
    obtain ⟨h1, h2, h3⟩ := hc
    have l1 := numS_len h1
    have l2 := numS_len h2
    have l3 := numS_len h3
    have le : ∀ x y : Str, (tl (x ++ y)).length = (tl x).length + (tl y).length := fun x y => by rw [tl_append, List.length_append]
    have e1 : (tl ("store " : Str)).length = 6 := rfl
    have e2 : (tl (" " : Str)).length = 1 := rfl
    simp only [dSeq, dIfS]
    refine isi_c 1 1 _ (by decide) rfl _ _ ?_
    simp only [beq_self_eq_true, if_true, dRet, dJs, dJL, dFmt, dFld, fldK, ix_line, ix_word, ix_number, dVar, dC, Cmd.d, endF, List.getElem?_cons_zero, List.getElem?_cons_succ, List.set_cons_zero, List.set_cons_succ]
    refine ⟨_, rfl, ?_, ⟨nOk_log h1, _, rfl, ?_, _, rfl, ?_, nOk_log h2, _, rfl, ?_, _, rfl, ?_, nOk_log h3, _, rfl, ?_, ?_⟩⟩
    · rw [e_app]
      exact len_le (by rw [e1]; decide)
    · rw [e_app]
      exact len_le (by rw [le, e1]; have : (tl (numS a)).length ≤ 32 := l1; show 6 + (tl (numS a)).length ≤ _; omega)
    · rw [e_app]
      exact len_le (by rw [le, le, e1, e2]; show 6 + (tl (numS a)).length + 1 ≤ _; omega)
    · rw [e_app]
      exact len_le (by rw [le, le, le, e1, e2]; show 6 + (tl (numS a)).length + 1 + (tl (numS b)).length ≤ _; omega)
    · rw [e_app]
      exact len_le (by rw [le, le, le, le, e1, e2]; show 6 + (tl (numS a)).length + 1 + (tl (numS b)).length + 1 ≤ _; omega)
    · rw [e_app]
      exact len_le (by rw [le, le, le, le, le, e1, e2]; show 6 + (tl (numS a)).length + 1 + (tl (numS b)).length + 1 + (tl (numS n)).length ≤ _; omega)
    · rw [e_app]
      exact h
  | fl a =>
    have l1 := numS_len (i := a) hc
    have le : ∀ x y : Str, (tl (x ++ y)).length = (tl x).length + (tl y).length := fun x y => by rw [tl_append, List.length_append]
    have e1 : (tl ("flush " : Str)).length = 6 := rfl
    simp only [dSeq, dIfS]
    refine isi_c 1 2 _ (by decide) rfl _ _ ?_
    have n21 : ((2 : Nat) == 1) = false := rfl
    simp only [n21, Bool.false_eq_true, if_false, dNext]
    refine isi_c 2 2 _ (by decide) rfl _ _ ?_
    simp only [beq_self_eq_true, if_true, dRet, dJs, dJL, dFmt, dFld, fldK, ix_line, dVar, dC, Cmd.d, endF, List.getElem?_cons_zero, List.getElem?_cons_succ, List.set_cons_zero, List.set_cons_succ]
    refine ⟨_, rfl, ?_, ⟨nOk_log (i := a) hc, _, rfl, ?_, ?_⟩⟩
    · rw [e_app]
      exact len_le (by rw [e1]; decide)
    · rw [e_app]
      exact len_le (by rw [le, e1]; show 6 + (tl (numS a)).length ≤ _; omega)
    · rw [e_app]
      exact h
  | fe =>
    simp only [dSeq, dIfS]
    refine isi_c 1 3 _ (by decide) rfl _ _ ?_
    have n31 : ((3 : Nat) == 1) = false := rfl
    have n32 : ((3 : Nat) == 2) = false := rfl
    simp only [n31, Bool.false_eq_true, if_false, dNext]
    refine isi_c 2 3 _ (by decide) rfl _ _ ?_
    simp only [n32, Bool.false_eq_true, if_false, dNext, dRet, dC, endF]
    exact h
theorem split_ne (x : Str) {y : Str} (hy : tl y ≠ []) (hk : y.cps.all (· < 256) = true) : Txt.split x y ≠ [] := fun e => by
  have h := split_spl x y hy (kind_ok hk)
  rw [e] at h
  have key : ∀ (S : List Nat) (k : Nat) (acc l : List Nat), spl S k acc l ≠ [] := fun S k acc l => by
    induction l generalizing k acc with
    | nil => rw [spl_nil]; simp
    | cons c r ih =>
      cases k with
      | zero =>
        cases z : pre S (c :: r) with
        | true => rw [spl_hit z]; simp
        | false => rw [spl_miss z]; exact ih _ _
      | succ k => exact ih k acc
  exact key _ _ _ _ h.symm
/-- each part is no longer than the text -/
theorem split_len (x y : Str) : ∀ p ∈ Txt.split x y, p.length ≤ x.length := by
  intro p hp
  have e : Str.join y (Txt.split x y) = x := PySem.StrLaws.join_split x y
  have h2 : tl x = joinL (tl y) ((Txt.split x y).map tl) := by rw [← tl_join, e]
  have key : ∀ (S : List Nat) (ps : List (List Nat)), ∀ q ∈ ps, q.length ≤ (joinL S ps).length := fun S ps => by
    induction ps with
    | nil => intro q hq; cases hq
    | cons a r ih =>
      intro q hq
      cases r with
      | nil =>
        rw [List.mem_singleton.mp hq]
        exact Nat.le_refl _
      | cons b r =>
        show _ ≤ (a ++ (S ++ joinL S (b :: r))).length
        rw [List.length_append, List.length_append]
        rcases List.mem_cons.mp hq with rfl | hq
        · omega
        · have := ih q hq
          omega
  rw [len_tl, len_tl, h2]
  exact key _ _ _ (List.mem_map.mpr ⟨p, hp, rfl⟩)
theorem rdNums_len : ∀ {ws : List Str} {l : List Int}, rdNums ws = some l → l.length = ws.length
  | [], l, h => by
    cases h
    rfl
  | x :: r, l, h => by
    unfold rdNums at h
    cases e : rdNum x with
    | none =>
      rw [e] at h
      cases h
    | some i =>
      rw [e] at h
      cases e2 : rdNums r with
      | none =>
        rw [e2] at h
        cases h
      | some m =>
        rw [e2] at h
        cases h
        rw [List.length_cons, List.length_cons, rdNums_len e2]
theorem lc_nums {mu : Sto} {p : Int} {z0 z2 z3 z5 z6 : Option D} {ok : Sto → Prop} (hok : ok mu) {G : List D → Sto → Prop} : ∀ (ws : List Str) (acc l : List Int), (∀ w ∈ ws, w.length ≤ 100000) → rdNums ws = some l → G (iL (acc ++ l)) mu →
    lcL 0 (dName 4) (dYes) (dCall sp_read_number (dCons (dVar 4) (dCons (dVar 1) (dNil)))) ok [z0, some (.int p), z2, z3, none, z5, z6] G (ws.map D.str) (iL acc) mu
  | [], acc, l, _, h, hG => by
    cases h
    exact ⟨hok, by simpa using hG⟩
  | w :: ws, acc, l, hl, h, hG => by
    refine ⟨hok, ?_⟩
    have ih := lc_nums (p := p) (z0 := z0) (z2 := z2) (z3 := z3) (z5 := z5) (z6 := z6) hok (G := G) ws
    unfold rdNums at h
    cases e : rdNum w with
    | none =>
      rw [e] at h
      cases h
    | some i =>
      rw [e] at h
      cases e2 : rdNums ws with
      | none =>
        rw [e2] at h
        cases h
      | some m =>
        rw [e2] at h
        cases h
        simp only [dName, dYes, if_true, dCall, dCons, dNil, dVar, List.getElem?_cons_zero, List.getElem?_cons_succ, List.set_cons_zero, List.set_cons_succ]
        refine ⟨w, p, rfl, hl w List.mem_cons_self, ?_⟩
        rw [e]
        refine ⟨trivial, ?_⟩
        rw [iL_app]
        refine ih (acc ++ [i]) m (fun x hx => hl x (List.mem_cons_of_mem _ hx)) e2 ?_
        rw [List.append_assoc]
        exact hG
theorem splitN {x y : Str} (hx : x.length ≤ 100000) : (Txt.split x y).length ≤ 16777216 := Nat.le_trans (PyProof.Rows.split_le x y) (by omega)
theorem pure_read_command (ds : List D) (mu : Sto) (P' : KX) (F : KD) (h : sp_read_command ds mu P' F) : t_read_command (endF P' F) (gam0 7 ds) mu := by
  obtain ⟨x, p, c, rfl, hx, hc, h⟩ := h
  show t_read_command _ [some (.str x), some (.int p), none, none, none, none, none] mu
  unfold t_read_command
  have hlen := splitN (y := " ") hx
  have hpl := split_len x " "
  unfold rdCmd at hc
  cases es : Txt.split x " " with
  | nil =>
    rw [es] at hc
    cases hc
  | cons w r =>
    rw [es] at hc hlen hpl
    simp only at hc
    cases er : rdNums r with
    | none =>
      rw [er] at hc
      cases hc
    | some l =>
      rw [er] at hc
      simp only at hc
      have rl := rdNums_len er
      simp only [dSeq, dSet, dStrM, dVar, dC, gSplit, retN, List.getElem?_cons_zero, List.getElem?_cons_succ, List.set_cons_zero, List.set_cons_succ]
      refine ⟨⟨x, rfl⟩, ⟨by decide +kernel, by omega⟩, ?_⟩
      rw [es]
      simp only [dLc, iSeq, dSlice, dPart, dNoPart, dC, dVar, wip, List.getElem?_cons_zero, List.getElem?_cons_succ, List.set_cons_zero, List.set_cons_succ]
      refine ⟨_, rfl, ?_⟩
      have ecut : DL.cutD ((w :: r).map D.str) (some 1) none = r.map D.str := by
        have := cut_from (l := (w :: r).map D.str) 1 (by simp)
        exact this
      rw [ecut]
      simp only [retN]
      refine ⟨_, rfl, by rw [List.length_map]; rw [List.length_cons] at hlen; omega, ?_⟩
      refine lc_nums (ok := okS (.lst (r.map D.str)) (r.map D.str)) rfl r [] l (fun y hy => by have := hpl y (List.mem_cons_of_mem _ hy); omega) er ?_
      rw [List.nil_append]
      have at0 : L2.atI ((w :: r).map D.str) 0 = some (D.str w) := by
        unfold L2.atI L2.ixN
        rw [if_pos (Int.le_refl 0), if_pos (by rw [List.length_map, List.length_cons]; omega)]
        rfl
      have dec : ∀ y : Str, (w == y) = decide (w = y) := fun y => by
        rw [Bool.eq_iff_iff, beq_iff_eq, decide_eq_true_iff]
      have lenI : ∀ k : Nat, (((l.length : Nat) : Int) == (k : Int)) = decide (l.length = k) := fun k => by
        rw [Bool.eq_iff_iff, beq_iff_eq, decide_eq_true_iff]
        omega
      by_cases A : w = "store" ∧ l.length = 3
      · rw [if_pos A] at hc
        obtain ⟨a, b, n, rfl⟩ : ∃ a b n, l = [a, b, n] := by
          match l, A.2 with
          | [a, b, n], _ => exact ⟨a, b, n, rfl⟩
        have ew : w = "store" := A.1
        subst ew
        have hc : (if ("store" : Str) = "store" then some (Cmd.st a b n) else none) = some c := hc
        rw [if_pos rfl] at hc
        cases hc
        simp only [dIfS, dAnd, dCT, dBin, dCB, dCons, dNil, dVar, dC, gIx, pv_, at0, bLen, szD, List.length_map, gEqS, gEqI, beq_self_eq_true, if_true, List.length_cons, List.length_nil, List.getElem?_cons_zero, List.getElem?_cons_succ, List.set_cons_zero, List.set_cons_succ]
        have e3 : (((0 + 1 + 1 + 1 : Nat) : Int) == 3) = true := rfl
        simp only [e3, if_true, dSeq, dAsg, dVar, List.getElem?_cons_zero, List.getElem?_cons_succ, List.set_cons_zero, List.set_cons_succ]
        refine ⟨_, rfl, rfl, ?_⟩
        simp only [gsCons, gsNil, dName, List.map_cons, List.map_nil, List.set_cons_zero, List.set_cons_succ]
        simp only [dRet, dCall, dCons, dNil, dVar, endF, List.getElem?_cons_zero, List.getElem?_cons_succ, List.set_cons_zero, List.set_cons_succ]
        exact ⟨⟨rfl, trivial, trivial, trivial, trivial⟩, h⟩
      · rw [if_neg A] at hc
        have step1 : ∀ (E : DEnds) (N : Gam → Sto → Prop), N [some (.str x), some (.int p), some (.lst ((w :: r).map D.str)), some (.lst (iL l)), none, none, none] mu → dIfS (dAnd (dCT (gEq 6) (dBin gIx (dVar 2) (dC (.int 0))) (dC (.str "store"))) (dCT (gEq 6) (dCB bLen (dCons (dVar 3) (dNil))) (dC (.int 3)))) (dSeq (dAsg (dVar 3) (dUnl 3 (gsCons (dName 5) (gsCons (dName 4) (gsCons (dName 6) (gsNil)))))) (dRet (dCall g_Store (dCons (dVar 5) (dCons (dVar 4) (dCons (dVar 6) (dNil))))))) (dNext) { E with nx := N } [some (.str x), some (.int p), some (.lst ((w :: r).map D.str)), some (.lst (iL l)), none, none, none] mu := fun E N hN => by
          simp only [dIfS, dAnd, dCT, dBin, dCB, dCons, dNil, dVar, dC, gIx, pv_, at0, bLen, szD, List.length_map, gEqS, gEqI, List.getElem?_cons_zero, List.getElem?_cons_succ, List.set_cons_zero, List.set_cons_succ]
          rw [dec]
          by_cases q : w = "store"
          · rw [if_pos (decide_eq_true q)]
            have e3 := lenI 3
            rw [decide_eq_false (fun z => A ⟨q, z⟩)] at e3
            have e4 : (((l.length : Nat) : Int) == 3) = false := e3
            simp only [e4, Bool.false_eq_true, if_false, dNext]
            exact hN
          · rw [if_neg (by rw [decide_eq_false q]; decide)]
            simp only [Bool.false_eq_true, if_false, dNext]
            exact hN
        refine step1 _ _ ?_
        by_cases B : w = "flush" ∧ l.length = 1
        · rw [if_pos B] at hc
          obtain ⟨a, rfl⟩ : ∃ a, l = [a] := by
            match l, B.2 with
            | [a], _ => exact ⟨a, rfl⟩
          have ew : w = "flush" := B.1
          subst ew
          have hc : (if ("flush" : Str) = "flush" then some (Cmd.fl a) else none) = some c := hc
          rw [if_pos rfl] at hc
          cases hc
          simp only [dIfS, dAnd, dCT, dBin, dCB, dCons, dNil, dVar, dC, gIx, pv_, at0, bLen, szD, List.length_map, gEqS, gEqI, beq_self_eq_true, if_true, List.length_cons, List.length_nil, List.getElem?_cons_zero, List.getElem?_cons_succ, List.set_cons_zero, List.set_cons_succ]
          have e3 : (((0 + 1 : Nat) : Int) == 1) = true := rfl
          have a1 : L2.atI ([a].map D.int) 0 = some (D.int a) := rfl
          simp only [e3, if_true, dRet, dCall, dCons, dNil, dBin, dVar, dC, gIx, pv_, a1, endF, List.getElem?_cons_zero, List.getElem?_cons_succ, List.set_cons_zero, List.set_cons_succ]
          exact ⟨⟨rfl, trivial, trivial⟩, h⟩
        · rw [if_neg B] at hc
          simp only [dIfS, dAnd, dCT, dBin, dCB, dCons, dNil, dVar, dC, gIx, pv_, at0, bLen, szD, List.length_map, gEqS, gEqI, List.getElem?_cons_zero, List.getElem?_cons_succ, List.set_cons_zero, List.set_cons_succ]
          rw [dec]
          have dx : (x == ("fence" : Str)) = decide (x = "fence") := by rw [Bool.eq_iff_iff, beq_iff_eq, decide_eq_true_iff]
          have fin : (if decide (x = "fence") = true then F (.obj 3 []) mu else False) := by
            by_cases z : x = "fence"
            · rw [if_pos z] at hc
              cases hc
              rw [if_pos (decide_eq_true z)]
              exact h
            · rw [if_neg z] at hc
              cases hc
          by_cases q : w = "flush"
          · rw [if_pos (decide_eq_true q)]
            have e3 := lenI 1
            rw [decide_eq_false (fun z => B ⟨q, z⟩)] at e3
            have e4 : (((l.length : Nat) : Int) == 1) = false := e3
            simp only [e4, Bool.false_eq_true, if_false, dNext]
            simp only [List.getElem?_cons_zero, List.getElem?_cons_succ, List.set_cons_zero, List.set_cons_succ]
            rw [gEqS, dx]
            dsimp only
            simp only [dRet, dMk0, endF, dNever]
            exact fin
          · rw [if_neg (by rw [decide_eq_false q]; decide)]
            simp only [Bool.false_eq_true, if_false, dNext]
            simp only [List.getElem?_cons_zero, List.getElem?_cons_succ, List.set_cons_zero, List.set_cons_succ]
            rw [gEqS, dx]
            dsimp only
            simp only [dRet, dMk0, endF, dNever]
            exact fin
theorem gEqCT (cs es : List Cmd) {mu : Sto} {P : KX} {F : KD} : gEq 6 (.tup (cs.map Cmd.d)) (.tup (es.map Cmd.d)) mu P F = F (.bl (decide (cs = es))) mu := gEqV (d := .tup (cs.map Cmd.d)) (e := .tup (es.map Cmd.d)) trivial trivial (by rw [dp_tup]; have := dpL_cmd cs; omega) (by rw [eqD_tup, eqL_cmd])
theorem pure_program_text (ds : List D) (mu : Sto) (P' : KX) (F : KD) (h : sp_program_text ds mu P' F) : t_program_text (endF P' F) (gam0 2 ds) mu := by
  obtain ⟨ns, cs, rfl, hl, hc, h⟩ := h
  show t_program_text _ [some (Pr ns cs), none] mu
  unfold t_program_text
  simp only [dSeq, dIfS, dCT, dBin, dFld, fldK, ix_commands, dTup, dNil, dVar, npL, true_and, List.length_nil, Nat.zero_le, List.getElem?_cons_zero, List.getElem?_cons_succ, List.set_cons_zero, List.set_cons_succ]
  have e0 : ∀ (P : KX) (G : KD), G (.bl (decide (cs = []))) mu → gEq 6 (.tup (cs.map Cmd.d)) (.tup []) mu P G := fun P G hG => by
    have e := gEqCT cs [] (mu := mu) (P := P) (F := G)
    rw [List.map_nil] at e
    rw [e]
    exact hG
  refine e0 _ _ ?_
  unfold pText at h
  by_cases z : cs = []
  · rw [if_pos z] at h
    simp only [decide_eq_true z, if_true, dRet, dC, endF]
    exact h
  · rw [if_neg z] at h
    simp only [decide_eq_false z, Bool.false_eq_true, if_false, dNext, dRet, dStrM, dC]
    refine ⟨⟨_, rfl⟩, ?_⟩
    simp only [dLc, iSeq, dFld, fldK, ix_commands, dVar, wip, List.getElem?_cons_zero, List.getElem?_cons_succ, List.set_cons_zero, List.set_cons_succ]
    refine ⟨_, rfl, by rw [List.length_map]; omega, ?_⟩
    refine lc_map (f := Cmd.d) (g := fun c => D.str (cText c)) (ok := okS (.tup (cs.map Cmd.d)) (cs.map Cmd.d)) rfl (fun _ => trivial) cs [] (fun c hcm F hF => ?_) ?_
    · simp only [dCall, dCons, dNil, dVar, List.getElem?_cons_zero, List.getElem?_cons_succ, List.set_cons_zero, List.set_cons_succ]
      exact ⟨c, rfl, hc c hcm, hF⟩
    · simp only [retN, gJoin, sv]
      have lenT : ∀ c ∈ cs, (cText c).length ≤ 110 := fun c hcm => len_le (cText_len (hc c hcm))
      refine ⟨cs.map cText, by rw [List.nil_append, List.map_map]; rfl, ?_, h⟩
      have key : ∀ l : List Cmd, (∀ c ∈ l, (cText c).length ≤ 110) → ((l.map cText).map (·.length)).sum ≤ l.length * 110 := fun l => by
        induction l with
        | nil => intro _; simp
        | cons c l ih =>
          intro hh
          have h1 := hh c List.mem_cons_self
          have h2 := ih fun d hd => hh d (List.mem_cons_of_mem _ hd)
          rw [List.map_cons, List.map_cons, List.sum_cons, List.length_cons, Nat.succ_mul]
          omega
      have := key cs lenT
      have e2 : (", " : Str).length = 2 := rfl
      rw [e2, List.length_map]
      omega
theorem lc_cmds {mu : Sto} {z0 z1 : Option D} {ok : Sto → Prop} (hok : ok mu) {G : List D → Sto → Prop} : ∀ (ws : List Str) (k : Nat) (acc cs : List Cmd), (∀ w ∈ ws, w.length ≤ 100000) → rdCmds ws = some cs → G ((acc ++ cs).map Cmd.d) mu →
    lcL 0 (dTupG 2 (gsCons (dName 2) (gsCons (dName 3) (gsNil)))) (dYes) (dCall sp_read_command (dCons (dVar 3) (dCons (dVar 2) (dNil)))) ok [z0, z1, none, none] G (enF k (ws.map D.str)) (acc.map Cmd.d) mu
  | [], k, acc, cs, _, h, hG => by
    cases h
    exact ⟨hok, by simpa using hG⟩
  | w :: ws, k, acc, cs, hl, h, hG => by
    refine ⟨hok, ?_⟩
    have ih := lc_cmds (z0 := z0) (z1 := z1) hok (G := G) ws (k + 1)
    unfold rdCmds at h
    cases e : rdCmd w with
    | none =>
      rw [e] at h
      cases h
    | some c =>
      rw [e] at h
      cases e2 : rdCmds ws with
      | none =>
        rw [e2] at h
        cases h
      | some m =>
        rw [e2] at h
        cases h
        show dTupG 2 (gsCons (dName 2) (gsCons (dName 3) (gsNil))) (.tup [.int (k : Nat), .str w]) [z0, z1, none, none] mu (fun _ _ => False) _
        simp only [dTupG, tv, gsCons, gsNil, dName, List.length_cons, List.length_nil, true_and, dYes, if_true, dCall, dCons, dNil, dVar, List.getElem?_cons_zero, List.getElem?_cons_succ, List.set_cons_zero, List.set_cons_succ]
        refine ⟨w, (k : Nat), c, rfl, hl w List.mem_cons_self, e, cmd_np c, ?_⟩
        have ea : acc.map Cmd.d ++ [c.d] = (acc ++ [c]).map Cmd.d := by simp
        rw [ea]
        refine ih (acc ++ [c]) m (fun x hx => hl x (List.mem_cons_of_mem _ hx)) e2 ?_
        rw [List.append_assoc]
        exact hG
theorem pure_read_program (ds : List D) (mu : Sto) (P' : KX) (F : KD) (h : sp_read_program ds mu P' F) : t_read_program (endF P' F) (gam0 4 ds) mu := by
  obtain ⟨ns, x, cs, rfl, hn, hx, hr, hk, h⟩ := h
  show t_read_program _ [some (Me ns), some (.str x), none, none] mu
  unfold t_read_program
  have dx : (x == ("none" : Str)) = decide (x = "none") := by rw [Bool.eq_iff_iff, beq_iff_eq, decide_eq_true_iff]
  simp only [dSeq, dIfS, dCT, dBin, dVar, dC, gEqS, dx, List.getElem?_cons_zero, List.getElem?_cons_succ, List.set_cons_zero, List.set_cons_succ]
  unfold rdP at hr
  by_cases z : x = "none"
  · rw [if_pos z] at hr
    cases hr
    rw [if_pos (decide_eq_true z)]
    simp only [dRet, dCall, dCons, dNil, dVar, dLst, retL, npL, true_and, List.length_nil, Nat.zero_le, endF, List.getElem?_cons_zero, List.getElem?_cons_succ, List.set_cons_zero, List.set_cons_succ]
    exact ⟨_, ns, [], rfl, rfl, hk, h⟩
  · rw [if_neg z] at hr
    rw [if_neg (by rw [decide_eq_false z]; decide)]
    simp only [dNext, dRet, dCall, dCons, dNil, dVar, dLc, iEnA, dStrM, dC, wip, List.getElem?_cons_zero, List.getElem?_cons_succ, List.set_cons_zero, List.set_cons_succ]
    refine ⟨⟨_, rfl⟩, ⟨by decide +kernel, by omega⟩, ?_⟩
    simp only [retN]
    have hlen := splitN (y := ", ") hx
    refine ⟨_, rfl, by
      rw [List.all_eq_true]
      intro d hd
      obtain ⟨w, _, rfl⟩ := List.mem_map.mp hd
      rfl, by rw [enF_len, List.length_map]; exact hlen, ?_⟩
    refine lc_cmds ?_ (Txt.split x ", ") 0 [] cs (fun w hw => by have := split_len x ", " w hw; omega) hr ?_
    · rfl
    rw [List.nil_append]
    exact ⟨_, ns, cs, rfl, rfl, hk, h⟩
end LW

/-! part E6 -/
namespace LW
open PySem PySem.Spec PyProof.Rows L2 DL DQ DX DZ
open TL
def bodyT : DS := dTrim1 (dSet 6 (dKIx (dDisp [(dC (.str "store"), dLst 0 (dCons (dVar 3) (dCons (dVar 4) (dCons (dVar 5) (dNil))))), (dC (.str "flush"), dLst 0 (dCons (dVar 3) (dNil))), (dC (.str "fence"), dLst 0 (dNil))]) (dVar 2))) (dDrop (dMtd gAppend (dVar 1) (dCons (dStrM (gJoin) (dC (.str " ")) (dBin (gAdd 0) (dLst 0 (dCons (dVar 2) (dNil))) (dLc 0 (iSeq (dVar 6)) (dName 7) (dYes) (dCB bStr (dCons (dVar 7) (dNil))) [7]))) (dNil))))
def tgT4 : DG := dTupG 4 (gsCons (dName 2) (gsCons (dName 3) (gsCons (dName 4) (gsCons (dName 5) (gsNil)))))
theorem lv_app {mu : Sto} {x : D} {l : List D} (h : lv mu x = some l) (ext : Sto) : lv (mu ++ ext) x = some l := by
  cases x with
  | ptr n =>
    simp only [lv] at h ⊢
    cases e : mu[n]? with
    | none => rw [e] at h; cases h
    | some m =>
      rw [app_get e]
      rw [e] at h
      exact h
  | _ => exact h
theorem lv_frz {mu : Sto} {x : D} {l : List D} (h : lv mu x = some l) {n : Nat} (hn : mu.length ≤ n) (S : Sto) : frz n S x = some x := by
  cases x with
  | lst l' => rfl
  | ptr k =>
    simp only [lv] at h
    cases e : mu[k]? with
    | none => rw [e] at h; cases h
    | some m =>
      have := (List.getElem?_eq_some_iff.mp e).1
      show (if k < n then _ else _) = _
      rw [if_pos (by omega)]
  | _ => cases h
theorem nums_d (s : LS) : (match s.k with | 0 => D.lst [.int s.a, .int s.b, .int s.c] | 1 => D.lst [.int s.a] | _ => D.lst []) = D.lst (iL s.nums) := by
  obtain ⟨k, a, b, c⟩ := s
  match k with
  | 0 => rfl
  | 1 => rfl
  | n + 2 => rfl
theorem nums_len (s : LS) : s.nums.length ≤ 3 := by
  obtain ⟨k, a, b, c⟩ := s
  match k with
  | 0 => exact Nat.le_refl 3
  | 1 => exact (by decide : 1 ≤ 3)
  | n + 2 => exact Nat.zero_le 3
theorem nums_ok {s : LS} (h : lsOk s) : ∀ i ∈ s.nums, nOk i := by
  obtain ⟨k, a, b, c⟩ := s
  obtain ⟨h1, h2, h3⟩ := h
  intro i hi
  match k with
  | 0 =>
    have hi : i ∈ [a, b, c] := hi
    simp only [List.mem_cons, List.not_mem_nil, or_false] at hi
    rcases hi with rfl | rfl | rfl <;> assumption
  | 1 =>
    have hi : i ∈ [a] := hi
    rw [List.mem_singleton.mp hi]
    exact h1
  | n + 2 =>
    have hi : i ∈ ([] : List Int) := hi
    cases hi
theorem nsf : ("store" : Str) ≠ "flush" ∧ ("store" : Str) ≠ "fence" ∧ ("flush" : Str) ≠ "fence" := by decide +kernel
theorem kx3 {x y z : D} : mergeE [] [((Sum.inr "store" : Key), x), (Sum.inr "flush", y), (Sum.inr "fence", z)] = [((Sum.inr "store" : Key), x), (Sum.inr "flush", y), (Sum.inr "fence", z)] := by
  obtain ⟨h1, h2, h3⟩ := nsf
  unfold mergeE
  simp only [List.foldl_cons, List.foldl_nil, putE, List.any_nil, Bool.false_eq_true, if_false, List.nil_append, List.any_cons, Sum.inr.injEq, h1, h2, h3, decide_false, Bool.or_false, List.cons_append]
theorem kx_val {x y z : D} (k : Nat) : valE [((Sum.inr "store" : Key), x), (Sum.inr "flush", y), (Sum.inr "fence", z)] (Sum.inr (kn k)) = some (match k with | 0 => x | 1 => y | _ => z) := by
  obtain ⟨h1, h2, h3⟩ := nsf
  match k with
  | 0 =>
    show valE _ (Sum.inr ("store" : Str)) = some x
    simp [valE]
  | 1 =>
    show valE _ (Sum.inr ("flush" : Str)) = some y
    simp [valE, h1]
  | n + 2 =>
    show valE _ (Sum.inr ("fence" : Str)) = some z
    simp [valE, h2, h3]
theorem len_join_le (y : Str) {m : Nat} {ps : List Str} (h : ∀ p ∈ ps, p.length ≤ m) : (ps.map (·.length)).sum ≤ ps.length * m := by
  induction ps with
  | nil => simp
  | cons p l ih =>
    have h1 := h p List.mem_cons_self
    have h2 := ih fun d hd => h d (List.mem_cons_of_mem _ hd)
    rw [List.map_cons, List.sum_cons, List.length_cons, Nat.succ_mul]
    omega
theorem lsOk_cmd {s : LS} (h : lsOk s) : s.cmd.nOk := by
  obtain ⟨k, a, b, c⟩ := s
  match k with
  | 0 => exact h
  | 1 => exact h.1
  | n + 2 => trivial
theorem for_txt {E : DEnds} {mu : Sto} {x : D} {l : List D} (hx : lv mu x = some l) : ∀ (r acc : List LS) (z2 z3 z4 z5 z6 z7 : Option D), (∀ s ∈ r, lsOk s) → acc.length + r.length ≤ 200 →
    (∀ z2 z3 z4 z5 z6 z7, E.nx [some x, some (.ptr mu.length), z2, z3, z4, z5, z6, z7] (mu ++ [.lst ((acc ++ r).map fun s => D.str s.txt)])) →
    forL tgT4 bodyT E (okS x l) (sD r) [some x, some (.ptr mu.length), z2, z3, z4, z5, z6, z7] (mu ++ [.lst (acc.map fun s => D.str s.txt)])
  | [], acc, z2, z3, z4, z5, z6, z7, _, _, hN => ⟨lv_pv (lv_app hx _), by have := hN z2 z3 z4 z5 z6 z7; rw [List.append_nil] at this; exact this⟩
  | s :: r, acc, z2, z3, z4, z5, z6, z7, hk, hl, hN => by
    refine ⟨lv_pv (lv_app hx _), ?_⟩
    rw [List.length_cons] at hl
    have ih := fun z2 z3 z4 z5 z6 z7 => for_txt (E := E) hx r (acc ++ [s]) z2 z3 z4 z5 z6 z7 (fun t ht => hk t (List.mem_cons_of_mem _ ht)) (by rw [List.length_append, List.length_singleton]; omega) (fun z2 z3 z4 z5 z6 z7 => by
      have := hN z2 z3 z4 z5 z6 z7
      rw [List.append_assoc]
      exact this)
    show tgT4 s.d [some x, some (.ptr mu.length), z2, z3, z4, z5, z6, z7] (mu ++ [.lst (acc.map fun s => D.str s.txt)]) E.ex (fun ga1 mu1 => bodyT { E with nx := forL tgT4 bodyT E (okS x l) (sD r), ct := forL tgT4 bodyT E (okS x l) (sD r), bk := E.nx } ga1 mu1)
    generalize forL tgT4 bodyT E (okS x l) (sD r) = G at ih
    obtain ⟨S, eS⟩ : ∃ S, S = mu ++ [MO.lst (acc.map fun s => D.str s.txt)] := ⟨_, rfl⟩
    have lg : S[mu.length]? = some (.lst (acc.map fun s => D.str s.txt)) := by rw [eS]; exact last_get mu _ rfl
    have hlen : S.length = mu.length + 1 := by rw [eS, List.length_append]; rfl
    rw [← eS]
    have hs := hk s List.mem_cons_self
    unfold tgT4 LS.d
    simp only [dTupG, tv, gsCons, gsNil, dName, List.length_cons, List.length_nil, true_and, List.set_cons_zero, List.set_cons_succ]
    unfold bodyT
    simp only [dTrim1, dSet, dKIx, dDisp, dPrs, dLst, dCons, dNil, dVar, dC, retL, npL, true_and, List.length_cons, List.length_nil, Nat.zero_le, List.getElem?_cons_zero, List.getElem?_cons_succ, List.set_cons_zero, List.set_cons_succ]
    refine ⟨by decide, ⟨trivial, trivial, trivial, trivial⟩, by decide, ⟨trivial, trivial⟩, ?_⟩
    refine ⟨last_get S _ rfl, [((Sum.inr "store" : Key), .lst [.int s.a, .int s.b, .int s.c]), (Sum.inr "flush", .lst [.int s.a]), (Sum.inr "fence", .lst [])], rfl, ?_, by simp, ?_⟩
    · intro p hp
      simp only [List.mem_cons, List.not_mem_nil, or_false] at hp
      rcases hp with rfl | rfl | rfl <;> trivial
    have e1 := nums_d s
    refine ⟨_, Sum.inr (kn s.k), _, List.getElem?_set_self (by rw [List.length_append]; simp), rfl, by rw [kx3, kx_val], ?_⟩
    rw [e1, last_set S _ _ rfl]
    refine ⟨S, Trim.same S _, ?_⟩
    have fr : frzG S.length (S ++ [.dic (mergeE [] [((Sum.inr "store" : Key), .lst [.int s.a, .int s.b, .int s.c]), (Sum.inr "flush", .lst [.int s.a]), (Sum.inr "fence", .lst [])])]) [some x, some (.ptr mu.length), some (.str (kn s.k)), some (.int s.a), some (.int s.b), some (.int s.c), some (.lst (iL s.nums)), z7] = [some x, some (.ptr mu.length), some (.str (kn s.k)), some (.int s.a), some (.int s.b), some (.int s.c), some (.lst (iL s.nums)), frzO S.length (S ++ [.dic (mergeE [] [((Sum.inr "store" : Key), .lst [.int s.a, .int s.b, .int s.c]), (Sum.inr "flush", .lst [.int s.a]), (Sum.inr "fence", .lst [])])]) z7] := by
      unfold frzG
      simp only [List.map_cons, List.map_nil, frzO]
      rw [lv_frz hx (by omega)]
      have e2 : ∀ T : Sto, frz S.length T (.ptr mu.length) = some (.ptr mu.length) := fun T => by
        show (if mu.length < S.length then _ else _) = _
        rw [if_pos (by omega)]
      rw [e2]
      rfl
    rw [fr]
    generalize frzO S.length _ z7 = y7
    simp only [dDrop, dMtd, dStrM, dCons, dNil, dVar, dC, dBin, dLst, retL, npL, true_and, List.length_cons, List.length_nil, List.getElem?_cons_zero, List.getElem?_cons_succ, List.set_cons_zero, List.set_cons_succ]
    refine ⟨⟨mu.length, rfl, .inl ⟨_, lg⟩⟩, ⟨_, rfl⟩, by decide, ⟨trivial, trivial⟩, ?_⟩
    simp only [dLc, iSeq, dVar, wip, List.getElem?_cons_zero, List.getElem?_cons_succ, List.set_cons_zero, List.set_cons_succ]
    have nl := nums_len s
    refine ⟨_, rfl, by rw [List.length_map]; omega, ?_⟩
    have nk := nums_ok hs
    refine lc_map (f := D.int) (g := fun i => D.str (numS i)) (ok := okS (.lst (iL s.nums)) (iL s.nums)) rfl (fun _ => trivial) s.nums [] (fun i hi F hF => ?_) ?_
    · simp only [dCB, dCons, dNil, dVar, bStr, List.getElem?_cons_zero, List.getElem?_cons_succ, List.set_cons_zero, List.set_cons_succ]
      exact ⟨nOk_log (nk i hi), hF⟩
    rw [List.nil_append]
    simp only [retN]
    refine ⟨_, _, rfl, rfl, by rw [List.length_map]; simp; omega, ?_⟩
    simp only [retN]
    have wl : ∀ p ∈ kn s.k :: s.nums.map numS, p.length ≤ 32 := fun p hp => by
      rcases List.mem_cons.mp hp with rfl | hp
      · obtain ⟨k, _⟩ := s
        match k with
        | 0 => exact (by decide +kernel : ("store" : Str).length ≤ 32)
        | 1 => exact (by decide +kernel : ("flush" : Str).length ≤ 32)
        | k + 2 => exact (by decide +kernel : ("fence" : Str).length ≤ 32)
      · obtain ⟨i, hi, rfl⟩ := List.mem_map.mp hp
        exact len_le (numS_len (nk i hi))
    refine ⟨kn s.k :: s.nums.map numS, by
      show some _ = some _
      rw [List.map_cons, List.map_map]
      rfl, ?_, ?_⟩
    · have := len_join_le " " wl
      have e3 : (" " : Str).length = 1 := rfl
      rw [e3]
      rw [List.length_cons, List.length_map] at this ⊢
      omega
    simp only [gAppend, lg]
    refine ⟨⟨trivial, by rw [List.length_map]; omega⟩, ?_⟩
    rw [eS, last_set mu _ _ rfl]
    have e4 : (acc.map fun s => D.str s.txt) ++ [D.str (Txt.join " " (kn s.k :: s.nums.map numS))] = (acc ++ [s]).map fun s => D.str s.txt := by
      rw [List.map_append]
      rfl
    rw [e4]
    exact ih _ _ _ _ _ _
theorem gEqR {mu : Sto} {k : Nat} {l : List D} {e : D} {b : Bool} {P : KX} {F : KD} (hk : mu[k]? = some (.lst l)) (he : np e) (hp : dpL l ≤ 5) (h : eqD (.lst l) e = some b) : gEq 6 (.ptr k) e mu P F = F (.bl b) mu := by
  show (dp (dr mu (.ptr k)) ≤ 6 ∧ _) = _
  have e1 : dr mu (.ptr k) = .lst l := by simp only [dr, hk]
  have h6 : dp (.lst l) ≤ 6 := by rw [dp_lst]; omega
  simp only [e1, dr_np he, h6, h, true_and]
theorem dpL_strs : ∀ l : List Str, dpL (l.map D.str) = 0
  | [] => by rw [List.map_nil, dpL]
  | x :: l => by
    rw [List.map_cons, dpL, dpL_strs l]
    simp [dp]
theorem pure__law_text (ds : List D) (mu : Sto) (P' : KX) (F : KD) (h : sp__law_text ds mu P' F) : t__law_text (endT mu P' F) (gam0 8 ds) mu := by
  obtain ⟨x, ss, rfl, hx, hl, hk, h⟩ := h
  show t__law_text _ [some x, none, none, none, none, none, none, none] mu
  unfold t__law_text
  simp only [dSeq, dSet, dLst, dNil, retL, npL, true_and, List.length_nil, Nat.zero_le, List.set_cons_zero, List.set_cons_succ]
  simp only [dFor, iSeq, dVar, List.getElem?_cons_zero, List.getElem?_cons_succ, List.set_cons_zero, List.set_cons_succ]
  refine ⟨sD ss, lv_pv (lv_app hx _), ?_⟩
  refine for_txt (E := { endT mu P' F with nx := _ }) hx ss [] none none none none none none hk (by simp; omega) fun z2 z3 z4 z5 z6 z7 => ?_
  rw [List.nil_append]
  obtain ⟨S, eS⟩ : ∃ S, S = mu ++ [MO.lst (ss.map fun s => D.str s.txt)] := ⟨_, rfl⟩
  have lg : S[mu.length]? = some (.lst (ss.map fun s => D.str s.txt)) := by rw [eS]; exact last_get mu _ rfl
  rw [← eS]
  have ge : ∀ (P : KX) (G : KD), G (.bl (decide (ss = []))) S → gEq 6 (.ptr mu.length) (.lst []) S P G := fun P G hG => by
    rw [gEqR (e := .lst []) lg trivial (b := decide (ss = [])) ?_ ?_]
    · exact hG
    · have e := dpL_strs (ss.map LS.txt)
      rw [List.map_map] at e
      have e : dpL (ss.map fun s => D.str s.txt) = 0 := e
      rw [e]
      decide
    · rw [eqD_lst]
      cases ss with
      | nil => rw [List.map_nil, eqL]; rfl
      | cons a l => rw [List.map_cons, eqL]; rfl
  simp only [dRet, dIf, dCT, dBin, dVar, dLst, dNil, retL, npL, true_and, List.length_nil, Nat.zero_le, List.getElem?_cons_zero, List.getElem?_cons_succ, List.set_cons_zero, List.set_cons_succ]
  refine ge _ _ ?_
  unfold lText at h
  by_cases z : ss = []
  · rw [if_pos z] at h
    simp only [decide_eq_true z, if_true, dC, endT]
    exact ⟨mu, _, by rw [eS]; exact Trim.same mu _, rfl, h⟩
  · rw [if_neg z] at h
    simp only [decide_eq_false z, Bool.false_eq_true, if_false, dStrM, dC, dVar, endT, List.getElem?_cons_zero, List.getElem?_cons_succ, List.set_cons_zero, List.set_cons_succ]
    refine ⟨⟨_, rfl⟩, ss.map LS.txt, by
      simp only [sv, lg, List.map_map]
      rfl, ?_, mu, _, by rw [eS]; exact Trim.same mu _, rfl, h⟩
    have := len_join_le ", " (m := 110) (ps := ss.map LS.txt) fun p hp => by
      obtain ⟨s, hs, rfl⟩ := List.mem_map.mp hp
      rw [ltx]
      exact len_le (cText_len (lsOk_cmd (hk s hs)))
    have e3 : (", " : Str).length = 2 := rfl
    rw [e3]
    rw [List.length_map] at this ⊢
    omega
end LW

/-! part E7 -/
namespace LW
open PySem PySem.Spec PyProof.Rows L2 DL DQ DX DZ
open TL
def bodySh : DS := dIfS (dTru (gIsi noTy (fun c => c == 1) (dVar 2))) (dDrop (dMtd gAppend (dVar 1) (dCons (dTup (dCons (dC (.str "store")) (dCons (dFld ix_line (dVar 2)) (dCons (dFld ix_word (dVar 2)) (dCons (dFld ix_number (dVar 2)) (dNil)))))) (dNil)))) (dDrop (dMtd gAppend (dVar 1) (dCons (dIf (dTru (gIsi noTy (fun c => c == 2) (dVar 2))) (dTup (dCons (dC (.str "flush")) (dCons (dFld ix_line (dVar 2)) (dNil)))) (dTup (dCons (dC (.str "fence")) (dNil)))) (dNil))))
theorem gI_st {c : Cmd} {mu : Sto} {i : Nat} {ga : Gam} (hi : ga[i]? = some (some c.d)) (k : Nat) (P : KX) (F : Bool → Sto → Prop) (hF : F ((match c with | .st _ _ _ => 1 | .fl _ => 2 | .fe => 3) == k) mu) : dTru (gIsi noTy (fun c => c == k) (dVar i)) ga mu P F := by
  cases c with
  | st a b v => exact isi_c k 1 _ (by decide) hi P F hF
  | fl a => exact isi_c k 2 _ (by decide) hi P F hF
  | fe => exact isi_c k 3 _ (by decide) hi P F hF
theorem for_sh {E : DEnds} {mu : Sto} {z0 : Option D} {ok : Sto → Prop} (hok : ∀ S, ok S) : ∀ (r acc : List Cmd) (z2 : Option D), acc.length + r.length ≤ 1000 →
    (∀ z2, E.nx [z0, some (.ptr mu.length), z2] (mu ++ [.lst ((acc ++ r).map Cmd.sh)])) →
    forL (dName 2) bodySh E ok (r.map Cmd.d) [z0, some (.ptr mu.length), z2] (mu ++ [.lst (acc.map Cmd.sh)])
  | [], acc, z2, _, hN => ⟨hok _, by have := hN z2; rw [List.append_nil] at this; exact this⟩
  | c :: r, acc, z2, hl, hN => by
    refine ⟨hok _, ?_⟩
    rw [List.length_cons] at hl
    have ih := fun z2 => for_sh (E := E) (mu := mu) (z0 := z0) hok r (acc ++ [c]) z2 (by rw [List.length_append, List.length_singleton]; omega) (fun z2 => by
      have := hN z2
      rw [List.append_assoc]
      exact this)
    show dName 2 c.d [z0, some (.ptr mu.length), z2] (mu ++ [.lst (acc.map Cmd.sh)]) E.ex (fun ga1 mu1 => bodySh { E with nx := forL (dName 2) bodySh E ok (r.map Cmd.d), ct := forL (dName 2) bodySh E ok (r.map Cmd.d), bk := E.nx } ga1 mu1)
    generalize forL (dName 2) bodySh E ok (r.map Cmd.d) = G at ih
    have lg := last_get mu (MO.lst (acc.map Cmd.sh)) rfl
    have fin : ∀ d : D, d = c.sh → G [z0, some (.ptr mu.length), some c.d] ((mu ++ [MO.lst (acc.map Cmd.sh)]).set mu.length (MO.lst (acc.map Cmd.sh ++ [d]))) := fun d e => by
      rw [e, last_set mu _ _ rfl]
      have e2 : acc.map Cmd.sh ++ [c.sh] = (acc ++ [c]).map Cmd.sh := by simp
      rw [e2]
      exact ih _
    simp only [dName, List.set_cons_zero, List.set_cons_succ]
    unfold bodySh
    simp only [dIfS]
    refine gI_st (c := c) rfl 1 _ _ ?_
    cases c with
    | st a b v =>
      simp only [beq_self_eq_true, if_true, dDrop, dMtd, dTup, dCons, dNil, dVar, dC, dFld, fldK, ix_line, ix_word, ix_number, Cmd.d, List.getElem?_cons_zero, List.getElem?_cons_succ, List.set_cons_zero, List.set_cons_succ]
      refine ⟨⟨mu.length, rfl, .inl ⟨_, lg⟩⟩, ⟨by simp, trivial, trivial, trivial, trivial, trivial⟩, ?_⟩
      simp only [gAppend, lg]
      exact ⟨⟨trivial, by rw [List.length_map]; omega⟩, fin _ rfl⟩
    | fl a =>
      have n21 : ((2 : Nat) == 1) = false := rfl
      simp only [n21, Bool.false_eq_true, if_false, dDrop, dMtd, dCons, dNil, dIf, dVar, List.getElem?_cons_zero, List.getElem?_cons_succ, List.set_cons_zero, List.set_cons_succ]
      refine ⟨⟨mu.length, rfl, .inl ⟨_, lg⟩⟩, ?_⟩
      refine gI_st (c := .fl a) rfl 2 _ _ ?_
      simp only [beq_self_eq_true, if_true, dTup, dCons, dNil, dC, dFld, fldK, ix_line, dVar, Cmd.d, List.getElem?_cons_zero, List.getElem?_cons_succ, List.set_cons_zero, List.set_cons_succ]
      refine ⟨⟨by simp, trivial, trivial, trivial⟩, ?_⟩
      simp only [gAppend, lg]
      exact ⟨⟨trivial, by rw [List.length_map]; omega⟩, fin _ rfl⟩
    | fe =>
      have n31 : ((3 : Nat) == 1) = false := rfl
      have n32 : ((3 : Nat) == 2) = false := rfl
      simp only [n31, Bool.false_eq_true, if_false, dDrop, dMtd, dCons, dNil, dIf, dVar, List.getElem?_cons_zero, List.getElem?_cons_succ, List.set_cons_zero, List.set_cons_succ]
      refine ⟨⟨mu.length, rfl, .inl ⟨_, lg⟩⟩, ?_⟩
      refine gI_st (c := .fe) rfl 2 _ _ ?_
      simp only [n32, Bool.false_eq_true, if_false, dTup, dCons, dNil, dC]
      refine ⟨⟨by simp, trivial, trivial⟩, ?_⟩
      simp only [gAppend, lg]
      exact ⟨⟨trivial, by rw [List.length_map]; omega⟩, fin _ rfl⟩
theorem pure__law_shown (ds : List D) (mu : Sto) (P' : KX) (F : KD) (h : sp__law_shown ds mu P' F) : t__law_shown (endT mu P' F) (gam0 3 ds) mu := by
  obtain ⟨cs, rfl, hl, h⟩ := h
  show t__law_shown _ [some (.tup (cs.map Cmd.d)), none, none] mu
  unfold t__law_shown
  simp only [dSeq, dSet, dLst, dNil, retL, npL, true_and, List.length_nil, Nat.zero_le, List.set_cons_zero, List.set_cons_succ]
  simp only [dFor, iSeq, dVar, List.getElem?_cons_zero, List.getElem?_cons_succ, List.set_cons_zero, List.set_cons_succ]
  refine ⟨_, rfl, ?_⟩
  refine for_sh (E := { endT mu P' F with nx := _ }) (mu := mu) (fun S => rfl) cs [] none (by simp; omega) fun z2 => ?_
  rw [List.nil_append]
  simp only [dRet, dVar, endT, List.getElem?_cons_zero, List.getElem?_cons_succ, List.set_cons_zero, List.set_cons_succ]
  refine ⟨mu, _, Trim.same mu _, ?_, h⟩
  show (if mu.length < mu.length then _ else _) = _
  rw [if_neg (Nat.lt_irrefl _), last_get mu _ rfl]
theorem pure__law_due (ds : List D) (mu : Sto) (P' : KX) (F : KD) (h : sp__law_due ds mu P' F) : t__law_due (endF P' F) (gam0 2 ds) mu := by
  obtain ⟨x, ss, rfl, hx, hl, h⟩ := h
  show t__law_due _ [some x, none] mu
  unfold t__law_due
  simp only [dRet, dLc, iSeq, dVar, wip, List.getElem?_cons_zero, List.getElem?_cons_succ, List.set_cons_zero, List.set_cons_succ]
  refine ⟨sD ss, lv_pv hx, by rw [List.length_map]; omega, ?_⟩
  refine lc_map (f := LS.d) (g := fun s => s.cmd.sh) (ok := okS x (sD ss)) (lv_pv hx) (fun s => by cases s.cmd <;> trivial) ss [] (fun s _ F hF => ?_) ?_
  · simp only [dSlice, dNoPart, dPart, dDix, dBin, dVar, dC, List.getElem?_cons_zero, List.getElem?_cons_succ, List.set_cons_zero, List.set_cons_succ]
    obtain ⟨k, a, b, c⟩ := s
    match k with
    | 0 => exact hF
    | 1 => exact hF
    | k + 2 => exact hF
  · rw [List.nil_append]
    exact h
end LW

/-! part E8 -/
namespace LW
open PySem PySem.Spec PyProof.Rows L2 DL DQ DX DZ
open TL
def bodyR : DS := dSeq (dSet 9 (dCall sp__law_text (dCons (dVar 5) (dNil)))) (dSeq (dSet 10 (dCall sp__law_program (dCons (dVar 1) (dCons (dVar 5) (dNil))))) (dSeq (dSet 11 (dCall sp_read_program (dCons (dVar 2) (dCons (dVar 9) (dNil))))) (dSeq (dIfS (dOr (dCT (gNe 6) (dCall sp_program_text (dCons (dVar 10) (dNil))) (dVar 9)) (dOr (dCT (gNe 6) (dVar 11) (dVar 10)) (dCT (gNe 6) (dCall sp__law_shown (dCons (dFld ix_commands (dVar 11)) (dNil))) (dCall sp__law_due (dCons (dVar 5) (dNil)))))) (dRet (dC (.bl false))) (dNext)) (dIfS (dCT (gNe 6) (dFld ix_sizes (dFld ix_memory (dVar 11))) (dCB bTuple (dCons (dVar 1) (dNil)))) (dRet (dC (.bl false))) (dNext)))))
theorem gEqPP (ns ns' : List Int) (cs cs' : List Cmd) {mu : Sto} {P : KX} {F : KD} : gEq 6 (Pr ns cs) (Pr ns' cs') mu P F = F (.bl (decide (ns = ns' ∧ cs = cs'))) mu := gEqV (d := Pr ns cs) (e := Pr ns' cs') trivial trivial (Nat.le_succ_of_le (dp_Pr ns cs)) (eqD_Pr ns ns' cs cs')
theorem gNeTIs (a : List Int) {mu : Sto} {P : KX} {F : KD} : gNe 6 (.tup (iL a)) (.tup (iL a)) mu P F = F (.bl false) mu := gNeV (d := .tup (iL a)) (e := .tup (iL a)) (b := true) trivial trivial (by rw [dp_tup, dpL_int]; decide) (by rw [eqD_tup, eqL_int]; simp)
theorem eqL_self : ∀ l : List D, (∀ d ∈ l, eqD d d = some true) → eqL l l = some true
  | [], _ => by rw [eqL]
  | d :: l, h => by
    rw [eqL, h d List.mem_cons_self]
    exact eqL_self l fun e he => h e (List.mem_cons_of_mem _ he)
theorem eqD_strs (x : Str) : eqD (.str x) (.str x) = some true := by rw [eqD, beq_self_eq_true]
theorem eqD_ints (x : Int) : eqD (.int x) (.int x) = some true := by rw [eqD, beq_self_eq_true]
theorem eqD_sh (c : Cmd) : eqD c.sh c.sh = some true := by
  cases c <;> (rw [Cmd.sh, eqD_tup]; refine eqL_self _ fun d hd => ?_; simp only [List.mem_cons, List.not_mem_nil, or_false] at hd)
  · rcases hd with rfl | rfl | rfl | rfl
    · exact eqD_strs _
    · exact eqD_ints _
    · exact eqD_ints _
    · exact eqD_ints _
  · rcases hd with rfl | rfl
    · exact eqD_strs _
    · exact eqD_ints _
  · rw [hd]
    exact eqD_strs _
theorem dpL_sh : ∀ cs : List Cmd, dpL (cs.map Cmd.sh) ≤ 1
  | [] => by rw [List.map_nil, dpL]; decide
  | c :: cs => by
    have := dpL_sh cs
    rw [List.map_cons, dpL]
    cases c <;> (simp [Cmd.sh, dp_tup, dpL, dp]; omega)
theorem gNeSh (cs : List Cmd) {mu : Sto} {P : KX} {F : KD} : gNe 6 (.lst (cs.map Cmd.sh)) (.lst (cs.map Cmd.sh)) mu P F = F (.bl false) mu := gNeV (d := .lst _) (e := .lst _) (b := true) trivial trivial (by
  rw [dp_lst]
  have := dpL_sh cs
  omega) (by
  rw [eqD_lst]
  refine eqL_self _ fun d hd => ?_
  obtain ⟨c, _, rfl⟩ := List.mem_map.mp hd
  exact eqD_sh c)
theorem ok_ls {ns : List Int} (hn : sizesOk ns) {s : LS} (h : s.ok ns) : lsOk s := by
  obtain ⟨⟨⟨h0, h1⟩, h2, h3⟩, h4⟩ := h
  have h6 := hn.1
  have h5 : ns.getD s.a.toNat 0 ≤ 4 := by
    have hlt : s.a.toNat < ns.length := by omega
    have e : ns.getD s.a.toNat 0 = ns[s.a.toNat] := by simp [hlt]
    rw [e]
    exact (hn.2 _ (List.getElem_mem hlt)).2
  refine ⟨?_, ?_, h4⟩ <;> (unfold nOk; omega)
theorem ok_cs {ns : List Int} {ss : List LS} (hl : ss.length ≤ 200) (hk : ∀ s ∈ ss, s.ok ns) : csOk ns (ss.map LS.cmd) := by
  refine ⟨by rw [List.length_map]; exact hl, fun c hc => ?_⟩
  obtain ⟨s, hs, rfl⟩ := List.mem_map.mp hc
  exact cmd_ok (hk s hs)
theorem nok_cs {ns : List Int} (hn : sizesOk ns) {ss : List LS} (hk : ∀ s ∈ ss, s.ok ns) : ∀ c ∈ ss.map LS.cmd, c.nOk := fun c hc => by
  obtain ⟨s, hs, rfl⟩ := List.mem_map.mp hc
  exact lsOk_cmd (ok_ls hn (hk s hs))
theorem one_ok {E : DEnds} {S : Sto} {ns : List Int} (hn : sizesOk ns) {y : D} {ss : List LS} (hy : lv S y = some (sD ss)) (hl : ss.length ≤ 200) (hk : ∀ s ∈ ss, s.ok ns) {z0 z3 z4 z6 z7 z8 z9 z10 z11 : Option D} (hN : ∀ z9 z10 z11, E.nx [z0, some (.lst (iL ns)), some (Me ns), z3, z4, some y, z6, z7, z8, z9, z10, z11] S) : bodyR E [z0, some (.lst (iL ns)), some (Me ns), z3, z4, some y, z6, z7, z8, z9, z10, z11] S := by
  unfold bodyR
  have cl := ok_cs hl hk
  have cn := nok_cs hn hk
  have le : (ss.map LS.cmd).length ≤ 200 := cl.1
  have tx := pText_len cn le
  simp only [dSeq, dSet, dCall, dCons, dNil, dVar, List.getElem?_cons_zero, List.getElem?_cons_succ, List.set_cons_zero, List.set_cons_succ]
  refine ⟨y, ss, rfl, hy, hl, fun s hs => ok_ls hn (hk s hs), ?_⟩
  rw [lText_eq]
  try simp only [List.getElem?_cons_zero, List.getElem?_cons_succ, List.set_cons_zero, List.set_cons_succ]
  refine ⟨_, y, ns, ss, rfl, rfl, hy, hn, hl, hk, ?_⟩
  try simp only [List.getElem?_cons_zero, List.getElem?_cons_succ, List.set_cons_zero, List.set_cons_succ]
  refine ⟨ns, pText (ss.map LS.cmd), ss.map LS.cmd, rfl, hn, tx, rdP_pText cn, cl, ?_⟩
  simp only [dIfS, dOr, dCT, dBin, dCall, dCB, dCons, dNil, dVar, dFld, fldK, ix_commands, ix_memory, ix_sizes, bTuple, sv, List.getElem?_cons_zero, List.getElem?_cons_succ, List.set_cons_zero, List.set_cons_succ]
  refine ⟨ns, _, rfl, le, cn, ?_⟩
  dsimp only
  rw [gNeS]
  simp only [beq_self_eq_true, Bool.not_true, Bool.false_eq_true, if_false]
  rw [gNeP]
  simp only [and_self, decide_true, Bool.not_true, Bool.false_eq_true, if_false]
  refine ⟨ss.map LS.cmd, rfl, by omega, ?_⟩
  refine ⟨y, ss, rfl, hy, by omega, ?_⟩
  have e1 : (ss.map fun s => s.cmd.sh) = (ss.map LS.cmd).map Cmd.sh := by
    rw [List.map_map]
    rfl
  rw [e1]
  dsimp only
  rw [gNeSh]
  simp only [Bool.false_eq_true, if_false, dNext, List.getElem?_cons_zero, List.getElem?_cons_succ, List.set_cons_zero, List.set_cons_succ, sv]
  rw [gNeTIs]
  simp only [Bool.false_eq_true, if_false, dNext]
  exact hN _ _ _

theorem for_items {E : DEnds} {S : Sto} {ok : Sto → Prop} (hok : ok S) {ns : List Int} (hn : sizesOk ns) {z0 z3 z4 z6 z7 z8 : Option D} : ∀ (r : List D) (z5 z9 z10 z11 : Option D), (∀ y ∈ r, ∃ ss, lv S y = some (sD ss) ∧ ss.length ≤ 200 ∧ ∀ s ∈ ss, s.ok ns) →
    (∀ z5 z9 z10 z11, E.nx [z0, some (.lst (iL ns)), some (Me ns), z3, z4, z5, z6, z7, z8, z9, z10, z11] S) → forL (dName 5) bodyR E ok r [z0, some (.lst (iL ns)), some (Me ns), z3, z4, z5, z6, z7, z8, z9, z10, z11] S
  | [], z5, z9, z10, z11, _, hN => ⟨hok, hN _ _ _ _⟩
  | y :: r, z5, z9, z10, z11, hy, hN => by
    refine ⟨hok, ?_⟩
    have ih := fun z5 z9 z10 z11 => for_items (E := E) hok hn (z0 := z0) (z3 := z3) (z4 := z4) (z6 := z6) (z7 := z7) (z8 := z8) r z5 z9 z10 z11 (fun x hx => hy x (List.mem_cons_of_mem _ hx)) hN
    show dName 5 y [z0, some (.lst (iL ns)), some (Me ns), z3, z4, z5, z6, z7, z8, z9, z10, z11] S E.ex (fun ga1 mu1 => bodyR { E with nx := forL (dName 5) bodyR E ok r, ct := forL (dName 5) bodyR E ok r, bk := E.nx } ga1 mu1)
    generalize forL (dName 5) bodyR E ok r = G at ih
    obtain ⟨ss, h1, h2, h3⟩ := hy y List.mem_cons_self
    simp only [dName, List.set_cons_zero, List.set_cons_succ]
    exact one_ok hn h1 h2 h3 fun z9 z10 z11 => ih _ _ _ _
theorem rep_mem {ss : List LS} {k : Nat} : (List.replicate k (sD ss)).flatten = sD (List.replicate k ss).flatten := by
  show _ = List.map _ _
  rw [List.map_flatten, List.map_replicate]
theorem npL_i4 (a b c d : Int) : npL [.int a, .int b, .int c, .int d] := by simp [npL, np]
theorem npL_sD : ∀ l : List LS, npL (sD l)
  | [] => trivial
  | s :: l => ⟨by show np (LS.d s); simp [LS.d, np, npL], npL_sD l⟩
theorem dpL_sD : ∀ l : List LS, dpL (sD l) ≤ 1
  | [] => by show dpL [] ≤ 1; rw [dpL]; decide
  | s :: l => by
    have := dpL_sD l
    show dpL (s.d :: sD l) ≤ 1
    rw [dpL]
    simp [LS.d, dp_tup, dpL, dp]
    omega
theorem rep_len (l : List LS) : ∀ k : Nat, (List.replicate k l).flatten.length = k * l.length
  | 0 => by simp
  | k + 1 => by rw [List.replicate_succ, List.flatten_cons, List.length_append, rep_len l k, Nat.succ_mul, Nat.add_comm]
theorem cp31 : CPow 10 31 := by unfold CPow; decide
theorem cp30 : CPow 10 30 := by unfold CPow; decide
theorem get2a (M : Sto) (A B : MO) : (M ++ [A, B])[M.length]? = some A := by simp
theorem get2b (M : Sto) (A B : MO) : (M ++ [A, B])[M.length + 1]? = some B := by
  rw [List.getElem?_append_right (by omega)]
  simp
theorem set2b (M : Sto) (A B C : MO) : (M ++ [A, B]).set (M.length + 1) C = M ++ [A, C] := by
  rw [List.set_append_right _ _ (by omega)]
  simp
theorem pick_ok {d : D} (h : d ∈ [D.int ((10 : Int) ^ (31 : Int).toNat - 1), .int (1 - (10 : Int) ^ (31 : Int).toNat), .int ((10 : Int) ^ (30 : Int).toNat), .int 0]) : ∃ ed, d = .int ed ∧ nOk ed := by
  have h30 : (10 : Int) ^ (30 : Int).toNat = 1000000000000000000000000000000 := by decide
  have h31 : (10 : Int) ^ (31 : Int).toNat = 10000000000000000000000000000000 := by decide
  rw [h30, h31] at h
  simp only [List.mem_cons, List.not_mem_nil, or_false] at h
  rcases h with rfl | rfl | rfl | rfl <;> exact ⟨_, rfl, by unfold nOk; decide⟩
theorem pure__law_right (ds : List D) (mu : Sto) (P' : KX) (F : KD) (h : sp__law_right ds mu P' F) : t__law_right (endT mu P' F) (gam0 12 ds) mu := by
  obtain ⟨n, rfl, ⟨a0, b0, c0, hs⟩, h⟩ := h
  show t__law_right _ [some (.ptr n), none, none, none, none, none, none, none, none, none, none, none] mu
  unfold t__law_right
  have get : ∀ a b c ext, (mu.set n (src a b c) ++ ext)[n]? = some (src a b c) := fun a b c ext => app_get (set_self hs) ext
  have so : ∀ a b c ext, srcOk (mu.set n (src a b c) ++ ext) n := fun a b c ext => ⟨a, b, c, get a b c ext⟩
  have st : ∀ a b c a' b' c' ext, (mu.set n (src a b c) ++ ext).set n (src a' b' c') = mu.set n (src a' b' c') ++ ext := fun a b c a' b' c' ext => by rw [app_set (set_self hs) ext, src_set]
  have ln : ∀ m : MO, (mu.set n m).length = mu.length := fun m => List.length_set ..
  simp only [dSeq, dSet, dCall, dCons, dNil, dVar, dC, List.getElem?_cons_zero, List.getElem?_cons_succ, List.set_cons_zero, List.set_cons_succ]
  refine ⟨n, 6, rfl, ⟨by decide, by decide⟩, ⟨a0, b0, c0, hs⟩, fun ns a b c h1 h2 h3 => ?_⟩
  have hn : sizesOk ns := ⟨⟨h1, by omega⟩, h3⟩
  try simp only [List.getElem?_cons_zero, List.getElem?_cons_succ, List.set_cons_zero, List.set_cons_succ]
  refine ⟨_, ns, rfl, rfl, hn, ?_⟩
  simp only [dPar2, dCall, dCons, dNil, dVar, dC, List.getElem?_cons_zero, List.getElem?_cons_succ, List.set_cons_zero, List.set_cons_succ]
  refine ⟨n, ns, 0, 12, rfl, ⟨by decide, by decide, by decide⟩, hn, ⟨a, b, c, set_self hs⟩, fun s1 a1 b1 c1 p0 p1 p2 => ?_⟩
  rw [src_set, ln]
  refine ⟨n, ns, 1, 12, rfl, ⟨by decide, by decide, by decide⟩, hn, so _ _ _ _, fun s2 a2 b2 c2 q0 q1 q2 => ?_⟩
  rw [st]
  have l1 : (mu.set n (src a1 b1 c1) ++ [MO.lst (sD s1)]).length = mu.length + 1 := by rw [List.length_append, ln]; rfl
  rw [l1, List.append_assoc]
  simp only [List.cons_append, List.nil_append, List.getElem?_cons_zero, List.getElem?_cons_succ, List.set_cons_zero, List.set_cons_succ]
  simp only [dLst, dBin, dCons, dNil, dVar, dC, gPow, gI, DL.gSub, gI0, retL, npL, List.getElem?_cons_zero, List.getElem?_cons_succ, List.set_cons_zero, List.set_cons_succ]
  refine ⟨cp31, cp31, cp30, by decide, npL_i4 _ _ _ _, n, _, rfl, ⟨by decide, by decide⟩, so _ _ _ _, fun d a b c hd => ?_⟩
  rw [st]
  obtain ⟨ed, rfl, he⟩ := pick_ok hd
  clear hd
  have lenM : (mu.set n (src a b c)).length = mu.length := ln _
  generalize eM : mu.set n (src a b c) = M at lenM
  obtain ⟨sh, t2, rfl⟩ : ∃ x l, s2 = x :: l := by
    cases s2 with
    | nil => simp at q0
    | cons x l => exact ⟨x, l, rfl⟩
  have hw : wdOk ns 0 0 := ⟨⟨by decide, by have := h1; omega⟩, by decide, by
    have e : ns.getD (0 : Int).toNat 0 = ns[0]'(by omega) := by simp [show 0 < ns.length by omega]
    rw [e]
    exact (h3 _ (List.getElem_mem _)).1⟩
  try simp only [List.getElem?_cons_zero, List.getElem?_cons_succ, List.set_cons_zero, List.set_cons_succ]
  simp only [dAsg, dTup, dSub, dCons, dNil, dVar, dC, npL, np, and_self, List.length_cons, List.length_nil, List.getElem?_cons_zero, List.getElem?_cons_succ, List.set_cons_zero, List.set_cons_succ]
  refine ⟨by decide, ?_⟩
  rw [← lenM]
  simp only [get2b]
  refine ⟨trivial, 0, by simp [ixN], ?_⟩
  rw [set2b]
  obtain ⟨s2n, e2n⟩ : ∃ l, l = (⟨0, 0, 0, ed⟩ : LS) :: t2 := ⟨_, rfl⟩
  have e2d : (sD (sh :: t2)).set 0 (.tup [.str "store", .int 0, .int 0, .int ed]) = sD s2n := by rw [e2n]; rfl
  rw [e2d]
  have k2 : ∀ s ∈ s2n, s.ok ns := fun s hs => by
    rw [e2n] at hs
    rcases List.mem_cons.mp hs with rfl | hs
    · exact ⟨hw, he⟩
    · exact q2 s (List.mem_cons_of_mem _ hs)
  have n2 : s2n ≠ [] := by rw [e2n]; exact List.cons_ne_nil _ _
  have l2 : s2n.length ≤ 12 := by rw [e2n]; simp at q1 ⊢; omega
  have l1 : s1.length ≤ 12 := by omega
  clear e2d e2n q0 q1 q2
  have k12 : ∀ s ∈ s1 ++ s2n, s.ok ns := fun s hs => (List.mem_append.mp hs).elim (p2 s) (k2 s)
  have l12 : (s1 ++ s2n).length ≤ 24 := by rw [List.length_append]; omega
  obtain ⟨S, eS⟩ : ∃ S, S = M ++ [MO.lst (sD s1), MO.lst (sD s2n)] := ⟨_, rfl⟩
  have g1 : S[M.length]? = some (.lst (sD s1)) := by rw [eS]; exact get2a _ _ _
  have g2 : S[M.length + 1]? = some (.lst (sD s2n)) := by rw [eS]; exact get2b _ _ _
  have v1 : ∀ ext, lv (S ++ ext) (.ptr M.length) = some (sD s1) := fun ext => by simp only [lv, app_get g1 ext]
  have v2 : ∀ ext, lv (S ++ ext) (.ptr (M.length + 1)) = some (sD s2n) := fun ext => by simp only [lv, app_get g2 ext]
  have v1' := v1 []
  have v2' := v2 []
  rw [List.append_nil] at v1' v2'
  rw [← eS]
  have eA : sD s1 ++ sD s2n = sD (s1 ++ s2n) := List.map_append.symm
  try simp only [dSet, dBin, dVar, dC, List.getElem?_cons_zero, List.getElem?_cons_succ, List.set_cons_zero, List.set_cons_succ]
  refine ⟨sD s1, sD s2n, v1', v2', by simp; omega, ?_⟩
  rw [eA]
  have e200 : (200 : Int).toNat = 200 := rfl
  refine ⟨sD (s1 ++ s2n), rfl, by decide, by decide, by rw [e200, List.length_map]; omega, ?_⟩
  rw [rep_mem]
  rw [e200]
  obtain ⟨lg, elg⟩ : ∃ l, l = (List.replicate 200 (s1 ++ s2n)).flatten := ⟨_, rfl⟩
  have klg : ∀ s ∈ lg, s.ok ns := fun s hs => by
    rw [elg] at hs
    obtain ⟨l, hl, hs⟩ := List.mem_flatten.mp hs
    rw [(List.mem_replicate.mp hl).2] at hs
    exact k12 s hs
  have llg : 200 ≤ lg.length := by
    rw [elg, rep_len]
    have : 0 < (s1 ++ s2n).length := by
      rw [List.length_append]
      have := List.length_pos_iff.mpr n2
      omega
    show 200 ≤ 200 * _
    omega
  rw [← elg]
  unfold retN
  dsimp only
  simp only [dFor, iSeq, dLst, dCons, dNil, dBin, dSlice, dNoPart, dPart, dVar, dC, retL, npL, List.getElem?_cons_zero, List.getElem?_cons_succ, List.set_cons_zero, List.set_cons_succ]
  refine ⟨sD s1, sD s2n, v1', v2', by simp; omega, ?_⟩
  rw [eA]
  refine ⟨by decide, trivial, sD lg, rfl, ?_⟩
  have ec : DL.cutD (sD lg) none (some 200) = sD (lg.take 200) := by
    have := cut_to (l := sD lg) 200 (by rw [List.length_map]; exact llg)
    show _ = List.map LS.d (lg.take 200)
    rw [List.map_take]
    exact this
  rw [ec]
  refine ⟨by simp, ?_⟩
  have glast : ∀ m, pv_ (S ++ [MO.lsp m]) (.ptr S.length) = some m := fun m => by
    unfold DL.pv_
    simp only [last_get S (.lsp m) rfl]
  refine ⟨_, glast _, ?_⟩
  have hok : ∀ m, okS (.ptr S.length) m (S ++ [MO.lsp m]) := fun m => glast m
  refine for_items (E := { endT mu P' F with nx := _ }) (hok _) hn _ _ _ _ _ (fun y hy => ?_) fun z5 z9 z10 z11 => ?_
  · simp only [List.mem_cons, List.not_mem_nil, or_false] at hy
    rcases hy with rfl | rfl | rfl | rfl | rfl
    · exact ⟨s1, v1 _, by omega, p2⟩
    · exact ⟨s2n, v2 _, by omega, k2⟩
    · exact ⟨s1 ++ s2n, rfl, by omega, k12⟩
    · exact ⟨[], rfl, by decide, fun s hs => nomatch hs⟩
    · exact ⟨lg.take 200, rfl, by rw [List.length_take]; omega, fun s hs => klg s (List.mem_of_mem_take hs)⟩
  generalize MO.lsp _ = CC
  have tail : ∀ (z6 : Str), z6 = pText ((s1 ++ s2n).map LS.cmd) → dRet (dBin (gEq 6) (dCall sp_read_program (dCons (dVar 2) (dCons (dVar 6) (dNil)))) (dBin (gAddO 4 sp_Program___add__) (dCall sp__law_program (dCons (dVar 1) (dCons (dVar 7) (dNil)))) (dCall sp__law_program (dCons (dVar 1) (dCons (dVar 8) (dNil)))))) (endT mu P' F) [some (.ptr n), some (.lst (iL ns)), some (Me ns), some (.int ed), some (.lst (sD lg)), z5, some (.str z6), some (.ptr M.length), some (.ptr (M.length + 1)), z9, z10, z11] (S ++ [CC]) := fun z6 hz => by
    have c12 := ok_cs (by omega) k12
    have cn := nok_cs hn k12
    simp only [dRet, dBin, dCall, dCons, dNil, dVar, List.getElem?_cons_zero, List.getElem?_cons_succ, List.set_cons_zero, List.set_cons_succ]
    refine ⟨ns, z6, _, rfl, hn, by rw [hz]; exact pText_len cn (by rw [List.length_map]; omega), by rw [hz]; exact rdP_pText cn, c12, ?_⟩
    try simp only [List.getElem?_cons_zero, List.getElem?_cons_succ, List.set_cons_zero, List.set_cons_succ]
    refine ⟨_, _, ns, s1, rfl, rfl, v1 _, hn, by omega, p2, ?_⟩
    try simp only [List.getElem?_cons_zero, List.getElem?_cons_succ, List.set_cons_zero, List.set_cons_succ]
    refine ⟨_, _, ns, s2n, rfl, rfl, v2 _, hn, by omega, k2, ?_⟩
    refine ⟨⟨rfl, rfl⟩, ns, s1.map LS.cmd, s2n.map LS.cmd, rfl, by rw [← List.map_append]; exact c12, ?_⟩
    dsimp only
    rw [gEqPP, List.map_append]
    simp only [and_self, decide_true, endT]
    refine ⟨mu.set n (src a b c), .bl true, ?_, rfl, h a b c⟩
    rw [eS, ← eM, List.append_assoc]
    exact Trim.set mu _ n (src a b c) trivial
  have ge : ∀ (P : KX) (G : KD), G (.bl (decide (s1 = []))) (S ++ [CC]) → gEq 6 (.ptr M.length) (.lst []) (S ++ [CC]) P G := fun P G hG => by
    rw [gEqR (e := .lst []) (app_get g1 [CC]) trivial (b := decide (s1 = [])) ?_ ?_]
    · exact hG
    · exact Nat.le_trans (dpL_sD s1) (by decide)
    · rw [eqD_lst]
      cases s1 with
      | nil => show eqL [] [] = _; rw [eqL]; rfl
      | cons a l => show eqL (a.d :: sD l) [] = _; rw [eqL]; rfl
  simp only [dSet, dIf, dCT, dBin, dCall, dCons, dNil, dVar, dLst, dC, retL, npL, true_and, List.length_nil, Nat.zero_le, List.getElem?_cons_zero, List.getElem?_cons_succ, List.set_cons_zero, List.set_cons_succ]
  refine ge _ _ ?_
  have ok12 : ∀ s ∈ s1 ++ s2n, lsOk s := fun s hs => ok_ls hn (k12 s hs)
  by_cases z : s1 = []
  · simp only [decide_eq_true z, if_true]
    refine ⟨sD s1, sD s2n, v1 _, v2 _, by simp; omega, ?_⟩
    rw [eA]
    refine ⟨_, s1 ++ s2n, rfl, rfl, by omega, ok12, ?_⟩
    try simp only [List.getElem?_cons_zero, List.getElem?_cons_succ, List.set_cons_zero, List.set_cons_succ]
    exact tail _ (lText_eq _)
  · simp only [decide_eq_false z, Bool.false_eq_true, if_false]
    refine ⟨_, s1, rfl, v1 _, by omega, fun s hs => ok12 s (List.mem_append_left _ hs), ?_⟩
    have t1 := pText_len (nok_cs hn p2) (by rw [List.length_map]; omega)
    have t2' := pText_len (nok_cs hn k2) (by rw [List.length_map]; omega)
    rw [← lText_eq] at t1 t2'
    have t3 : (", " : Str).length = 2 := rfl
    refine ⟨by omega, ?_⟩
    try simp only [List.getElem?_cons_zero, List.getElem?_cons_succ, List.set_cons_zero, List.set_cons_succ]
    refine ⟨_, s2n, rfl, v2 _, by omega, fun s hs => ok12 s (List.mem_append_right _ hs), ?_⟩
    have t4 : (lText s1 ++ (", " : Str)).length = (lText s1).length + 2 := by rw [len_tl, tl_append, List.length_append, ← len_tl, ← len_tl, t3]
    refine ⟨by rw [t4]; omega, ?_⟩
    refine tail _ ?_
    rw [lText_eq, lText_eq, List.map_append, pText_app (by simpa using z) (by simpa using n2)]
/-! ### law -/
def spLaw (K : PySem.W.Frag) : Sp := fun vs H Q _ => ∃ (a : Addr) (ns : List Int), vs = [.ref a] ∧ SqL K H a (ns.map V.int) ∧ ns.length ≤ 63 ∧ ∀ H', Q (.bl true) H'
theorem gAdd_hg {ns : List Int} (hl : ns.length ≤ 63) (mu : Sto) (P : KX) (F : KD) (h : F (.lst (iL ns ++ [.int 0])) mu) : gAdd 0 (.lst (iL ns)) (.lst [.int 0]) mu P F :=
  ⟨_, _, rfl, rfl, by rw [List.length_map]; simp; omega, h⟩
theorem gScr_hg {a : Addr} {ns : List Int} (hl : ns.length ≤ 63) (mu : Sto) (P : KX) (F : KD) (h : F (.lst (iL ns ++ [.int 0])) mu) : gScr a ns (.adr a) (.lst [.int 0]) mu P F :=
  ⟨rfl, _, rfl, by simp; omega, h⟩
section
variable {P : Program} {w : World} {K : PySem.W.Frag} {mg : Str → Option Value} {base : Heap}
theorem law_start {H : Hp} {x : D} {a : Addr} (r : Rep K ([] ++ []) H [] x (.ref a)) : At K [] (gam0 3 [x]) [] [] (L2.start ["_law_script", "_law_cell", "_law_source_here"] [.ref a]) H :=
  ⟨⟨rfl, List.nodup_nil, fun a h => (List.not_mem_nil h).elim, fun a h => (List.not_mem_nil h).elim, fun n mo a h => by simp at h⟩, slots0 (N := ["_law_script", "_law_cell", "_law_source_here"]) (ds := [x]) (.cons r .nil)⟩
theorem ok_law (T : Tx K mg) (F__law_source : Prom P w K mg base 2 (He.ga K "_law_source") 1 sp__law_source) (F__law_right : Prom P w K mg base 20 (He.ga K "_law_right") 1 sp__law_right) {f : Addr} {fd : FuncData} (Fd : FunD K "law" "law" (defArgs s_law) (defBody s_law) (defScope s_law) [] [] f fd) :
    FnOk P w K mg base (L2.CX P w) 21 f fd ["_law_script"] (spLaw K) := by
  refine Fd.ok sc_law (fun vs H Q E h => ?_) (fun cdv A outer s H vs Q E_ hr h => ?_)
  · obtain ⟨a, ns, rfl, _⟩ := h
    rfl
  · obtain ⟨a, ns, rfl, hS, hl, hQ⟩ := h
    have fin : ∀ (x : D) (gs : G2), Rep K ([] ++ []) H [] x (.ref a) → (∀ (X : Cx) (W : WX), X.K = K → OpS X (binaryOp .Add) (liftR X.K W gs)) → (∀ mu P F, F (.lst (iL ns ++ [.int 0])) mu → gs x (.lst [.int 0]) mu P F) →
        ∃ t, PSs (cxOf (L2.CX P w) P w K mg base ["_law_script", "_law_cell", "_law_source_here"] "law" (defScope s_law) f cdv A outer s H E_) (defBody s_law) t ∧ t { nx := fun _ H' => Q .non H', rt := Q } (L2.start ["_law_script", "_law_cell", "_law_source_here"] [.ref a]) H := fun x gs r hos hg => by
      refine ⟨_, der_law T F__law_source F__law_right hos cdv A outer s H E_ hr, _, [], [], [], endF (fun _ _ => False) (fun d _ => d = .bl true), law_start r, pure_law hl hg, ⟨fun ga mu sg H' al' h _ _ => ?_, ⟨fun d mu v H' al' h o g r => ?_⟩, fun sg => ⟨fun _ _ _ _ _ _ h => h.elim⟩, fun _ _ _ _ _ h => h.elim, fun _ _ _ _ _ h => h.elim⟩⟩
      · cases h
      · subst h
        rw [r.bl_]
        exact hQ H'
    rcases hS with h | ⟨o, its, m, h1, h2, h3, h4, h5, h6⟩
    · refine fin (.lst (iL ns)) (gAdd 0) (.lst ⟨by simp, h⟩ (RepL.ofInts ns)) (fun X W _ => o_add) fun mu P F h => gAdd_hg hl mu P F h
    · refine fin (.adr a) (gScr a ns) .adr (fun X W e => o_scr fun H => ?_) fun mu P F h => gScr_hg hl mu P F h
      rw [e]
      exact .inr ⟨o, its, m, h1, h2, h3, h4, h5, h6⟩
end
end LW

/-! part A71 -/
namespace LW
open PySem PySem.Spec PyProof.Rows L2 DL DQ DX DZ

theorem tx_of {w : World} {K : PySem.W.Frag} {h : Heap} {mg : Str → Option Value} (X : K.In h) (G : h.Ns mainGlobals mg) (c : He.SaysX faL fnL [] tfL exL w h K) : Tx K mg := by
  have e : (txtB K && (ckB K 0 && (ckB K 1 && (ckB K 2 && (mk0B K 3 && (ckB K 4 && (absB K 5 && (absB K 6 && (absB K 7 && (absB K 8 && (absB K 9 && (absB K 10 && (absB K 11 && (absB K 12 && (absB K 13 && (absB K 14 && (absB K 15 && (absB K 16 && (absB K 17 && (isiB K (.ref (He.ga K "Flush")) noTy (fun c => c == 2) && (isiB K (.ref (He.ga K "Store")) noTy (fun c => c == 1) && (isiB K (.ref (He.ga K "Thing")) noTy thg && (xoB K 1 && (DX.xfB K 1 && (xoB K 2 && (DX.xfB K 2 && (xoB K 3 && (DX.xfB K 3 && (xoB K 15 && (DX.xfB K 15 && (exmB K [0, 1, 2, 3, 9, 15] [0, 1, 2, 3, 9, 15] && PySem.W.selfFirst K (He.ga K (cn 4))))))))))))))))))))))))))))))))) = true := c.more
  obtain ⟨e0, e⟩ := ba2 e
  obtain ⟨e1, e⟩ := ba2 e
  obtain ⟨e2, e⟩ := ba2 e
  obtain ⟨e3, e⟩ := ba2 e
  obtain ⟨e4, e⟩ := ba2 e
  obtain ⟨e5, e⟩ := ba2 e
  obtain ⟨e6, e⟩ := ba2 e
  obtain ⟨e7, e⟩ := ba2 e
  obtain ⟨e8, e⟩ := ba2 e
  obtain ⟨e9, e⟩ := ba2 e
  obtain ⟨e10, e⟩ := ba2 e
  obtain ⟨e11, e⟩ := ba2 e
  obtain ⟨e12, e⟩ := ba2 e
  obtain ⟨e13, e⟩ := ba2 e
  obtain ⟨e14, e⟩ := ba2 e
  obtain ⟨e15, e⟩ := ba2 e
  obtain ⟨e16, e⟩ := ba2 e
  obtain ⟨e17, e⟩ := ba2 e
  obtain ⟨e18, e⟩ := ba2 e
  obtain ⟨e19, e⟩ := ba2 e
  obtain ⟨e20, e⟩ := ba2 e
  obtain ⟨e21, e⟩ := ba2 e
  obtain ⟨e22, e⟩ := ba2 e
  obtain ⟨e23, e⟩ := ba2 e
  obtain ⟨e24, e⟩ := ba2 e
  obtain ⟨e25, e⟩ := ba2 e
  obtain ⟨e26, e⟩ := ba2 e
  obtain ⟨e27, e⟩ := ba2 e
  obtain ⟨e28, e⟩ := ba2 e
  obtain ⟨e29, e⟩ := ba2 e
  obtain ⟨e30, e⟩ := ba2 e
  exact { g_law := He.glo_ok X G (c.t.d.fact 0 rfl), i_BETWEEN := He.str_ok X G (c.t.d.fact 1 rfl), g_BadCount := He.glo_ok X G (c.t.d.fact 2 rfl), g_BadText := He.glo_ok X G (c.t.d.fact 3 rfl), i_FIGURES := He.str_ok X G (c.t.d.fact 4 rfl), g_Fence := He.glo_ok X G (c.t.d.fact 5 rfl), g_Flush := He.glo_ok X G (c.t.d.fact 6 rfl), i_MOST_COMMANDS := He.int_ok X G (c.t.d.fact 7 rfl), i_MOST_FIGURES := He.int_ok X G (c.t.d.fact 8 rfl), i_MOST_LINES := He.int_ok X G (c.t.d.fact 9 rfl), i_MOST_WORDS := He.int_ok X G (c.t.d.fact 10 rfl), g_Memory := He.glo_ok X G (c.t.d.fact 11 rfl), i_NONE := He.str_ok X G (c.t.d.fact 12 rfl), g_NoLine := He.glo_ok X G (c.t.d.fact 13 rfl), g_NoWord := He.glo_ok X G (c.t.d.fact 14 rfl), g_OtherMemory := He.glo_ok X G (c.t.d.fact 15 rfl), g_Program := He.glo_ok X G (c.t.d.fact 16 rfl), g_Store := He.glo_ok X G (c.t.d.fact 17 rfl), g_Thing := He.glo_ok X G (c.t.d.fact 18 rfl), g__law_command := He.glo_ok X G (c.t.d.fact 19 rfl), g__law_draw := He.glo_ok X G (c.t.d.fact 20 rfl), g__law_due := He.glo_ok X G (c.t.d.fact 21 rfl), g__law_number := He.glo_ok X G (c.t.d.fact 22 rfl), g__law_pick := He.glo_ok X G (c.t.d.fact 23 rfl), g__law_program := He.glo_ok X G (c.t.d.fact 24 rfl), g__law_right := He.glo_ok X G (c.t.d.fact 25 rfl), g__law_shown := He.glo_ok X G (c.t.d.fact 26 rfl), g__law_sizes := He.glo_ok X G (c.t.d.fact 27 rfl), g__law_source := He.glo_ok X G (c.t.d.fact 28 rfl), g__law_specs := He.glo_ok X G (c.t.d.fact 29 rfl), g__law_text := He.glo_ok X G (c.t.d.fact 30 rfl), f_abs := He.free_ok X G (c.t.d.fact 31 rfl), f_all := He.free_ok X G (c.t.d.fact 32 rfl), g_check_commands := He.glo_ok X G (c.t.d.fact 33 rfl), g_command_text := He.glo_ok X G (c.t.d.fact 34 rfl), f_enumerate := He.free_ok X G (c.t.d.fact 35 rfl), f_int := He.free_ok X G (c.t.d.fact 36 rfl), f_isinstance := He.free_ok X G (c.t.d.fact 37 rfl), f_len := He.free_ok X G (c.t.d.fact 38 rfl), g_program_text := He.glo_ok X G (c.t.d.fact 39 rfl), f_range := He.free_ok X G (c.t.d.fact 40 rfl), g_read_command := He.glo_ok X G (c.t.d.fact 41 rfl), g_read_number := He.glo_ok X G (c.t.d.fact 42 rfl), g_read_program := He.glo_ok X G (c.t.d.fact 43 rfl), f_str := He.free_ok X G (c.t.d.fact 44 rfl), f_tuple := He.free_ok X G (c.t.d.fact 45 rfl), mk_Memory := He.mkr_ok (c.t.d.fact 46 rfl), me_Memory_kind := He.meth_ok (c.t.d.fact 47 rfl), me_Memory_facts := He.meth_ok (c.t.d.fact 48 rfl), me_Memory_check_line := He.meth_ok (c.t.d.fact 49 rfl), me_Memory_check_word := He.meth_ok (c.t.d.fact 50 rfl), me_Memory___eq__ := He.meth_ok (c.t.d.fact 51 rfl), mk_Store := He.mkr_ok (c.t.d.fact 52 rfl), me_Store_kind := He.meth_ok (c.t.d.fact 53 rfl), me_Store_facts := He.meth_ok (c.t.d.fact 54 rfl), me_Store_check := He.meth_ok (c.t.d.fact 55 rfl), me_Store___eq__ := He.meth_ok (c.t.d.fact 56 rfl), mk_Flush := He.mkr_ok (c.t.d.fact 57 rfl), me_Flush_kind := He.meth_ok (c.t.d.fact 58 rfl), me_Flush_facts := He.meth_ok (c.t.d.fact 59 rfl), me_Flush_check := He.meth_ok (c.t.d.fact 60 rfl), me_Flush___eq__ := He.meth_ok (c.t.d.fact 61 rfl), me_Fence_kind := He.meth_ok (c.t.d.fact 62 rfl), me_Fence_check := He.meth_ok (c.t.d.fact 63 rfl), me_Fence_facts := He.meth_ok (c.t.d.fact 64 rfl), me_Fence___eq__ := He.meth_ok (c.t.d.fact 65 rfl), mk_Program := He.mkr_ok (c.t.d.fact 66 rfl), me_Program_kind := He.meth_ok (c.t.d.fact 67 rfl), me_Program_facts := He.meth_ok (c.t.d.fact 68 rfl), me_Program___add__ := He.meth_ok (c.t.d.fact 69 rfl), me_Program___eq__ := He.meth_ok (c.t.d.fact 70 rfl), txt := e0, ck_0 := ck_of e1, ck_1 := ck_of e2, ck_2 := ck_of e3, mk0_3 := mk0_of rfl e4, ck_4 := ck_of e5, ab_5 := abs_of e6, ab_6 := abs_of e7, ab_7 := abs_of e8, ab_8 := abs_of e9, ab_9 := abs_of e10, ab_10 := abs_of e11, ab_11 := abs_of e12, ab_12 := abs_of e13, ab_13 := abs_of e14, ab_14 := abs_of e15, ab_15 := abs_of e16, ab_16 := abs_of e17, ab_17 := abs_of e18, isi_Flush := isiT_of e19, isi_Store := isiT_of e20, isi_Thing := isiT_of e21, xo_1 := e22, xf_1 := xfc_of e23, xo_2 := e24, xf_2 := xfc_of e25, xo_3 := e26, xf_3 := xfc_of e27, xo_15 := e28, xf_15 := xfc_of e29, exm := e30, sf_4 := e }
def csL (K : PySem.W.Frag) : List (Addr × Addr) := []
theorem facts {P : Program} {w : World} {K : PySem.W.Frag} {h : Heap} {mg : Str → Option Value} {f : Addr} (X : K.In h) (G : h.Ns mainGlobals mg) (hfa : mg ("law" : Str) = some (.ref f)) (hf : f = He.ga K "law") (c : He.SaysX faL fnL [] tfL exL w h K) :
    ∃ fd : FuncData, (∀ (s : Shared) (v : Value), BindsTo s fd ⟨[v], []⟩ [("_law_script", v)]) ∧ ∀ base : Heap, (∀ p ∈ csL K, LamX.TabB base mg p.1 p.2) → FnOk P w K mg base (L2.CX P w) 21 f fd ["_law_script"] (spLaw K) := by
  have T := tx_of X G c
  obtain ⟨fd, Fd⟩ := (c.t.d.def_ 44 (d := d_law) rfl)
  subst hf
  have b := FunD.bindsA (ps := ["_law_script"]) Fd fun _ _ _ _ _ _ us hl => match us, hl with | [_], _ => rfl
  refine ⟨fd, fun s v => b s [v] rfl, fun base TBs => ?_⟩
  have X_1 : XOk P w K mg base 1 1 := by
    obtain ⟨fd, Fd⟩ := (c.t.d.def_ 0 (d := d_BadCount___init__) rfl)
    exact x2 T.xo_1 rfl (by decide) Fd sc_BadCount___init__ rfl (fun _ _ _ _ _ _ us hl => match us, hl with | [_, _, _], _ => rfl) fun cdv A outer s H E => pss_cons (ps_ost (pe_var (i := 0) rfl (by first | exact Or.inl rfl | exact Or.inr (Or.inl rfl)) (by decide) (by decide)) (pe_var (i := 1) rfl (by first | exact Or.inl rfl | exact Or.inr (Or.inl rfl)) (by decide) (by decide))) (pss_one (ps_ost (pe_var (i := 0) rfl (by first | exact Or.inl rfl | exact Or.inr (Or.inl rfl)) (by decide) (by decide)) (pe_var (i := 2) rfl (by first | exact Or.inl rfl | exact Or.inr (Or.inl rfl)) (by decide) (by decide))))
  have X_2 : XOk P w K mg base 1 2 := by
    obtain ⟨fd, Fd⟩ := (c.t.d.def_ 1 (d := d_NoLine___init__) rfl)
    exact x1 T.xo_2 rfl Fd sc_NoLine___init__ rfl (fun _ _ _ _ _ _ us hl => match us, hl with | [_, _], _ => rfl) fun cdv A outer s H E => pss_one (ps_ost (pe_var (i := 0) rfl (by first | exact Or.inl rfl | exact Or.inr (Or.inl rfl)) (by decide) (by decide)) (pe_var (i := 1) rfl (by first | exact Or.inl rfl | exact Or.inr (Or.inl rfl)) (by decide) (by decide)))
  have X_3 : XOk P w K mg base 1 3 := by
    obtain ⟨fd, Fd⟩ := (c.t.d.def_ 2 (d := d_NoWord___init__) rfl)
    exact x1 T.xo_3 rfl Fd sc_NoWord___init__ rfl (fun _ _ _ _ _ _ us hl => match us, hl with | [_, _], _ => rfl) fun cdv A outer s H E => pss_one (ps_ost (pe_var (i := 0) rfl (by first | exact Or.inl rfl | exact Or.inr (Or.inl rfl)) (by decide) (by decide)) (pe_var (i := 1) rfl (by first | exact Or.inl rfl | exact Or.inr (Or.inl rfl)) (by decide) (by decide)))
  have X_15 : XOk P w K mg base 1 15 := by
    obtain ⟨fd, Fd⟩ := (c.t.d.def_ 3 (d := d_BadText___init__) rfl)
    exact x1 T.xo_15 rfl Fd sc_BadText___init__ rfl (fun _ _ _ _ _ _ us hl => match us, hl with | [_, _], _ => rfl) fun cdv A outer s H E => pss_one (ps_ost (pe_var (i := 0) rfl (by first | exact Or.inl rfl | exact Or.inr (Or.inl rfl)) (by decide) (by decide)) (pe_var (i := 1) rfl (by first | exact Or.inl rfl | exact Or.inr (Or.inl rfl)) (by decide) (by decide)))
  have F_Memory_kind := ok_Memory_kind (P := P) (w := w) (base := base) T (c.t.d.def_ 8 (d := d_Memory_kind) rfl) ar_kind (pure_kind rfl)
  have F_Store_kind := ok_Store_kind (P := P) (w := w) (base := base) T (c.t.d.def_ 14 (d := d_Store_kind) rfl) ar_kind (pure_kind rfl)
  have F_Flush_kind := ok_Flush_kind (P := P) (w := w) (base := base) T (c.t.d.def_ 18 (d := d_Flush_kind) rfl) ar_kind (pure_kind rfl)
  have F_Fence_kind := ok_Fence_kind (P := P) (w := w) (base := base) T (c.t.d.def_ 21 (d := d_Fence_kind) rfl) ar_kind (pure_kind rfl)
  have F_Program_kind := ok_Program_kind (P := P) (w := w) (base := base) T (c.t.d.def_ 24 (d := d_Program_kind) rfl) ar_kind (pure_kind rfl)
  have F_Memory_facts := ok_Memory_facts (P := P) (w := w) (base := base) T (c.t.d.def_ 9 (d := d_Memory_facts) rfl) ar_facts pure_Memory_facts
  have F_Store_facts := ok_Store_facts (P := P) (w := w) (base := base) T (c.t.d.def_ 15 (d := d_Store_facts) rfl) ar_facts pure_Store_facts
  have F_Flush_facts := ok_Flush_facts (P := P) (w := w) (base := base) T (c.t.d.def_ 19 (d := d_Flush_facts) rfl) ar_facts pure_Flush_facts
  have F_Program_facts := ok_Program_facts (P := P) (w := w) (base := base) T (c.t.d.def_ 25 (d := d_Program_facts) rfl) ar_facts pure_Program_facts
  have F_Memory___init__ := ok_Memory___init__ (P := P) (w := w) (base := base) T (c.t.d.def_ 7 (d := d_Memory___init__) rfl) (fun ds mu P' F h => by obtain ⟨j, x, ns, rfl, _⟩ := h; rfl) pure_Memory___init__
  have F_Memory_check_line := ok_Memory_check_line (P := P) (w := w) (base := base) T (c.t.d.def_ 10 (d := d_Memory_check_line) rfl) (fun ds mu P' F h => by obtain ⟨ns, a, rfl, _⟩ := h; rfl) pure_Memory_check_line
  have MT_check_line : MTa P w K mg base 2 "check_line" mt_check_line := fun X h1 h2 h3 h4 h5 hr => by
    subst h1 h2 h3 h4 h5
    refine ⟨fun cc sp h ck => ?_⟩
    exact match cc, h, ck with
    | 0, h, ck => by
      have e := Option.some.inj h
      subst e
      exact ⟨by decide, _, _, _, T.me_Memory_check_line, F_Memory_check_line, hr.mono (by decide)⟩
    | n + 1, h, ck => nomatch (show (none : Option DSp) = some _ from h)
  have F_Memory_check_word := ok_Memory_check_word (P := P) (w := w) (base := base) T MT_check_line (c.t.d.def_ 11 (d := d_Memory_check_word) rfl) (fun ds mu P' F h => by obtain ⟨ns, a, b, rfl, _⟩ := h; rfl) pure_Memory_check_word
  have F_Store___init__ := ok_Store___init__ (P := P) (w := w) (base := base) T (c.t.d.def_ 13 (d := d_Store___init__) rfl) ar_init pure_Store___init__
  have MT_check_word : MTa P w K mg base 3 "check_word" mt_check_word := fun X h1 h2 h3 h4 h5 hr => by
    subst h1 h2 h3 h4 h5
    refine ⟨fun cc sp h ck => ?_⟩
    exact match cc, h, ck with
    | 0, h, ck => by
      have e := Option.some.inj h
      subst e
      exact ⟨by decide, _, _, _, T.me_Memory_check_word, F_Memory_check_word, hr.mono (by decide)⟩
    | n + 1, h, ck => nomatch (show (none : Option DSp) = some _ from h)
  have F_Store_check := ok_Store_check (P := P) (w := w) (base := base) T MT_check_word (c.t.d.def_ 16 (d := d_Store_check) rfl) (fun ds mu P' F h => by obtain ⟨ns, a, b, c, rfl, _⟩ := h; rfl) pure_Store_check
  have F_Flush___init__ := ok_Flush___init__ (P := P) (w := w) (base := base) T (c.t.d.def_ 17 (d := d_Flush___init__) rfl) ar_init pure_Flush___init__
  have F_Flush_check := ok_Flush_check (P := P) (w := w) (base := base) T MT_check_line (c.t.d.def_ 20 (d := d_Flush_check) rfl) (fun ds mu P' F h => by obtain ⟨ns, a, rfl, _⟩ := h; rfl) pure_Flush_check
  have MT_check : MTa P w K mg base 4 "check" mt_check := fun X h1 h2 h3 h4 h5 hr => by
    subst h1 h2 h3 h4 h5
    refine ⟨fun cc sp h ck => ?_⟩
    exact match cc, h, ck with
    | 0, h, ck => nomatch (show (none : Option DSp) = some _ from h)
    | 1, h, ck => by
      have e := Option.some.inj h
      subst e
      exact ⟨by decide, _, _, _, T.me_Store_check, F_Store_check, hr.mono (by decide)⟩
    | 2, h, ck => by
      have e := Option.some.inj h
      subst e
      exact ⟨by decide, _, _, _, T.me_Flush_check, F_Flush_check, hr.mono (by decide)⟩
    | 3, h, ck => by
      have e := Option.some.inj h
      subst e
      exact ⟨by decide, _, _, _, T.me_Fence_check, (ok_Command_check T (c.t.d.def_ 45 (d := d_Command_check_of_Fence) rfl) (fun ds mu P' F h => by obtain ⟨x, y, rfl, _⟩ := h; rfl) pure_Command_check), hr.mono (by decide)⟩
    | n + 4, h, ck => nomatch (show (none : Option DSp) = some _ from h)
  have F_check_commands := ok_check_commands (P := P) (w := w) (base := base) T MT_check (c.t.d.def_ 22 (d := d_check_commands) rfl) (fun ds mu P' F h => by obtain ⟨ns, cs, rfl, _⟩ := h; rfl) pure_check_commands
  have F_Program___init__ := ok_Program___init__ (P := P) (w := w) (base := base) T F_check_commands (c.t.d.def_ 23 (d := d_Program___init__) rfl) (fun ds mu P' F h => by obtain ⟨j, x, ns, cs, rfl, _⟩ := h; rfl) pure_Program___init__
  have MT_kind : MTa P w K mg base 2 "kind" mt_kind := fun X h1 h2 h3 h4 h5 hr => by
    subst h1 h2 h3 h4 h5
    refine ⟨fun cc sp h ck => ?_⟩
    exact match cc, h, ck with
    | 0, h, ck => by
      have e := Option.some.inj h
      subst e
      exact ⟨by decide, _, _, _, T.me_Memory_kind, F_Memory_kind, hr.mono (by decide)⟩
    | 1, h, ck => by
      have e := Option.some.inj h
      subst e
      exact ⟨by decide, _, _, _, T.me_Store_kind, F_Store_kind, hr.mono (by decide)⟩
    | 2, h, ck => by
      have e := Option.some.inj h
      subst e
      exact ⟨by decide, _, _, _, T.me_Flush_kind, F_Flush_kind, hr.mono (by decide)⟩
    | 3, h, ck => by
      have e := Option.some.inj h
      subst e
      exact ⟨by decide, _, _, _, T.me_Fence_kind, F_Fence_kind, hr.mono (by decide)⟩
    | 4, h, ck => by
      have e := Option.some.inj h
      subst e
      exact ⟨by decide, _, _, _, T.me_Program_kind, F_Program_kind, hr.mono (by decide)⟩
    | 5, h, ck => absurd ck T.ab_5
    | 6, h, ck => absurd ck T.ab_6
    | 7, h, ck => absurd ck T.ab_7
    | 8, h, ck => absurd ck T.ab_8
    | 9, h, ck => absurd ck T.ab_9
    | 10, h, ck => absurd ck T.ab_10
    | 11, h, ck => absurd ck T.ab_11
    | 12, h, ck => absurd ck T.ab_12
    | 13, h, ck => absurd ck T.ab_13
    | 14, h, ck => absurd ck T.ab_14
    | 15, h, ck => absurd ck T.ab_15
    | 16, h, ck => absurd ck T.ab_16
    | 17, h, ck => absurd ck T.ab_17
    | n + 18, h, ck => nomatch (show (none : Option DSp) = some _ from h)
  have MT_facts : MTa P w K mg base 2 "facts" mt_facts := fun X h1 h2 h3 h4 h5 hr => by
    subst h1 h2 h3 h4 h5
    refine ⟨fun cc sp h ck => ?_⟩
    exact match cc, h, ck with
    | 0, h, ck => by
      have e := Option.some.inj h
      subst e
      exact ⟨by decide, _, _, _, T.me_Memory_facts, F_Memory_facts, hr.mono (by decide)⟩
    | 1, h, ck => by
      have e := Option.some.inj h
      subst e
      exact ⟨by decide, _, _, _, T.me_Store_facts, F_Store_facts, hr.mono (by decide)⟩
    | 2, h, ck => by
      have e := Option.some.inj h
      subst e
      exact ⟨by decide, _, _, _, T.me_Flush_facts, F_Flush_facts, hr.mono (by decide)⟩
    | 3, h, ck => by
      have e := Option.some.inj h
      subst e
      exact ⟨by decide, _, _, _, T.me_Fence_facts, (ok_Thing_facts T (c.t.d.def_ 46 (d := d_Thing_facts_of_Fence) rfl) (ar_facts) pure_Thing_facts), hr.mono (by decide)⟩
    | 4, h, ck => by
      have e := Option.some.inj h
      subst e
      exact ⟨by decide, _, _, _, T.me_Program_facts, F_Program_facts, hr.mono (by decide)⟩
    | 5, h, ck => absurd ck T.ab_5
    | 6, h, ck => absurd ck T.ab_6
    | 7, h, ck => absurd ck T.ab_7
    | 8, h, ck => absurd ck T.ab_8
    | 9, h, ck => absurd ck T.ab_9
    | 10, h, ck => absurd ck T.ab_10
    | 11, h, ck => absurd ck T.ab_11
    | 12, h, ck => absurd ck T.ab_12
    | 13, h, ck => absurd ck T.ab_13
    | 14, h, ck => absurd ck T.ab_14
    | 15, h, ck => absurd ck T.ab_15
    | 16, h, ck => absurd ck T.ab_16
    | 17, h, ck => absurd ck T.ab_17
    | n + 18, h, ck => nomatch (show (none : Option DSp) = some _ from h)
  have E : ∀ n, EqAll P w K mg base n := eq_all T.eqF fun n E => ok_Thing___eq__ T MT_kind MT_facts E (c.t.d.def_ 6 (d := d_Thing___eq__) rfl) (fun ds mu P' F h => by
    obtain ⟨c, l, e, b, rfl, _⟩ := h
    rfl) (pure_Thing___eq__ n)
  have M_Program : MkOk P w K mg base 6 4 2 g_Program := mk_Program T.mk_Program T.ck_4 F_Program___init__
  have F_Program___add__ := ok_Program___add__ (P := P) (w := w) (base := base) T M_Program (E 6) (c.t.d.def_ 26 (d := d_Program___add__) rfl) (fun ds mu P' F h => by obtain ⟨ns, cs, cs2, rfl, _⟩ := h; rfl) pure_Program___add__
  have F_read_number := ok_read_number (P := P) (w := w) (base := base) T X_15 (E 6) (c.t.d.def_ 27 (d := d_read_number) rfl) (fun ds mu P' F h => by obtain ⟨x, p, rfl, _⟩ := h; rfl) pure_read_number
  have F_command_text := ok_command_text (P := P) (w := w) (base := base) T (c.t.d.def_ 28 (d := d_command_text) rfl) (fun ds mu P' F h => by obtain ⟨c, rfl, _⟩ := h; rfl) pure_command_text
  have M_Store : MkOk P w K mg base 2 1 3 g_Store := mk_plain T.mk_Store T.ck_1 rfl F_Store___init__
  have M_Flush : MkOk P w K mg base 2 2 1 g_Flush := mk_plain T.mk_Flush T.ck_2 rfl F_Flush___init__
  have F_read_command := ok_read_command (P := P) (w := w) (base := base) T F_read_number M_Store M_Flush (E 6) (c.t.d.def_ 29 (d := d_read_command) rfl) (fun ds mu P' F h => by obtain ⟨x, p, c, rfl, _⟩ := h; rfl) pure_read_command
  have F_program_text := ok_program_text (P := P) (w := w) (base := base) T F_command_text (E 6) (c.t.d.def_ 30 (d := d_program_text) rfl) (fun ds mu P' F h => by obtain ⟨ns, cs, rfl, _⟩ := h; rfl) pure_program_text
  have F_read_program := ok_read_program (P := P) (w := w) (base := base) T M_Program F_read_command (E 6) (c.t.d.def_ 31 (d := d_read_program) rfl) (fun ds mu P' F h => by obtain ⟨ns, x, cs, rfl, _⟩ := h; rfl) pure_read_program
  have F__law_source := ok__law_source (P := P) (w := w) (base := base) T (c.t.d.def_ 32 (d := d__law_source) rfl) (fun ds mu P' F h => by obtain ⟨n, rfl, _⟩ := h; rfl) pure__law_source
  have F__law_draw := ok__law_draw (P := P) (w := w) (base := base) T (c.t.d.def_ 33 (d := d__law_draw) rfl) (fun ds mu P' F h => by obtain ⟨n, l, rfl, _⟩ := h; rfl) pure__law_draw
  have F__law_pick := ok__law_pick (P := P) (w := w) (base := base) T F__law_draw (c.t.d.def_ 34 (d := d__law_pick) rfl) (fun ds mu P' F h => by obtain ⟨n, l, rfl, _⟩ := h; rfl) pure__law_pick
  have F__law_sizes := ok__law_sizes (P := P) (w := w) (base := base) T F__law_draw (c.t.d.def_ 35 (d := d__law_sizes) rfl) (fun ds mu P' F h => by obtain ⟨n, l, rfl, _⟩ := h; rfl) pure__law_sizes
  have F__law_number := ok__law_number (P := P) (w := w) (base := base) T F__law_draw F__law_pick (c.t.d.def_ 36 (d := d__law_number) rfl) (fun ds mu P' F h => by obtain ⟨n, rfl, _⟩ := h; rfl) pure__law_number
  have F__law_specs := ok__law_specs (P := P) (w := w) (base := base) T F__law_draw F__law_pick F__law_number (c.t.d.def_ 37 (d := d__law_specs) rfl) (fun ds mu P' F h => by obtain ⟨n, ns, l, m, rfl, _⟩ := h; rfl) pure__law_specs
  have F__law_command := ok__law_command (P := P) (w := w) (base := base) T M_Store M_Flush (E 6) (c.t.d.def_ 38 (d := d__law_command) rfl) (fun ds mu P' F h => by obtain ⟨s, rfl, _⟩ := h; rfl) pure__law_command
  have M_Memory : MkOk P w K mg base 2 0 1 g_Memory := mk_Memory T.mk_Memory T.ck_0 F_Memory___init__
  have F__law_program := ok__law_program (P := P) (w := w) (base := base) T M_Program F__law_command M_Memory (c.t.d.def_ 39 (d := d__law_program) rfl) (fun ds mu P' F h => by obtain ⟨x, y, ns, ss, rfl, _⟩ := h; rfl) pure__law_program
  have F__law_text := ok__law_text (P := P) (w := w) (base := base) T (E 6) (c.t.d.def_ 40 (d := d__law_text) rfl) (fun ds mu P' F h => by obtain ⟨x, ss, rfl, _⟩ := h; rfl) pure__law_text
  have F__law_shown := ok__law_shown (P := P) (w := w) (base := base) T (c.t.d.def_ 41 (d := d__law_shown) rfl) (fun ds mu P' F h => by obtain ⟨cs, rfl, _⟩ := h; rfl) pure__law_shown
  have F__law_due := ok__law_due (P := P) (w := w) (base := base) T (c.t.d.def_ 42 (d := d__law_due) rfl) (fun ds mu P' F h => by obtain ⟨x, ss, rfl, _⟩ := h; rfl) pure__law_due
  have F__law_right := ok__law_right (P := P) (w := w) (base := base) T F__law_sizes M_Memory F__law_specs F__law_pick F__law_text F__law_program F_read_program F__law_shown F__law_due F_program_text F_Program___add__ (E 6) (c.t.d.def_ 43 (d := d__law_right) rfl) (fun ds mu P' F h => by obtain ⟨n, rfl, _⟩ := h; rfl) pure__law_right
  exact ok_law T F__law_source F__law_right Fd
end LW
open PySem PySem.W PySem.Calls PyProof.Rows
theorem PySem.Challenge.cw_lateststore_k71_programs_written_and_rea_holds : PySem.Challenge.rw_lateststore_k71_programs_written_and_rea.Holds := by
  w_on; o_law
  refine HandSHeadRun.head_any (r := OpenLaw.row PySem.Challenge.rw_lateststore_k71_programs_written_and_rea) (q := view (OpenLaw.row PySem.Challenge.rw_lateststore_k71_programs_written_and_rea).prog [43]) (H := LW.hk) (ob := LW.ob) (M := 8000) (loose := [("_wall" : PySem.Str), ("__name__" : PySem.Str), ("StoreError" : PySem.Str), ("BadCount" : PySem.Str), ("NoLine" : PySem.Str), ("NoWord" : PySem.Str), ("OtherMemory" : PySem.Str), ("BadText" : PySem.Str), ("FIGURES" : PySem.Str), ("MOST_LINES" : PySem.Str), ("MOST_WORDS" : PySem.Str), ("MOST_COMMANDS" : PySem.Str), ("Thing" : PySem.Str), ("Memory" : PySem.Str), ("Command" : PySem.Str), ("Store" : PySem.Str), ("Flush" : PySem.Str), ("Fence" : PySem.Str), ("check_commands" : PySem.Str), ("Program" : PySem.Str), ("NONE" : PySem.Str), ("BETWEEN" : PySem.Str), ("MOST_FIGURES" : PySem.Str), ("read_number" : PySem.Str), ("command_text" : PySem.Str), ("read_command" : PySem.Str), ("program_text" : PySem.Str), ("read_program" : PySem.Str), ("_law_source" : PySem.Str), ("_law_draw" : PySem.Str), ("_law_pick" : PySem.Str), ("_law_sizes" : PySem.Str), ("_law_number" : PySem.Str), ("_law_specs" : PySem.Str), ("_law_command" : PySem.Str), ("_law_program" : PySem.Str), ("_law_text" : PySem.Str), ("_law_shown" : PySem.Str), ("_law_due" : PySem.Str), ("_law_right" : PySem.Str)]) (d := HandSHeadRun.topDef (OpenLaw.row PySem.Challenge.rw_lateststore_k71_programs_written_and_rea).prog 43) (kwd := []) LW.ob_eq
    (by kernel_rfl) (fun s => by kernel_rfl) LW.hrun (by kernel_rfl) (by kernel_rfl) (by kernel_rfl) (by rfl) (by first | assumption | decide +kernel) (by decide +kernel) ⟨rfl, rfl, rfl, rfl, rfl, by decide +kernel⟩ ?hw ?hc
  case hw => w_witness2
  case hc =>
    refine LamX.walk_ofTsE (l := PySem.Challenge.rw_lateststore_k71_programs_written_and_rea) (n := 63) (k := 21) (x := "_law_script") (CX := fun w => L2.CX (PySem.Challenge.rw_lateststore_k71_programs_written_and_rea).prog w) rfl (by decide) (by kernel_rfl) ⟨rfl, by decide, by decide⟩ ?F (fun w H s e s' z => by
      obtain ⟨_, _, _, _, _, _, _, _, _, _, _, _, z⟩ := z
      exact z)
    intro w mg fa h Y G hmg0
    obtain ⟨K, KX, c⟩ := Y
    have hmg : mg ("law" : PySem.Str) = some (.ref fa) := by
      have e : (HandSHeadRun.topDef (OpenLaw.row PySem.Challenge.rw_lateststore_k71_programs_written_and_rea).prog 43).name = ("law" : PySem.Str) := by kernel_rfl
      rw [← e]
      exact hmg0
    have hf : fa = He.ga K "law" := by
      have e := hmg.symm.trans (He.glo_ok KX G (c.t.d.fact 0 (f := .glo "law") rfl))
      exact Value.ref.inj (Option.some.inj e)
    obtain ⟨fd, hb, hF⟩ := LW.facts (P := (PySem.Challenge.rw_lateststore_k71_programs_written_and_rea).prog) (w := w) KX G hmg hf c
    refine ⟨K, KX, fd, LW.csL K, LW.spLaw K, ?_, ?_, ?_, hb, ?_, fun base _ _ tb => hF base tb⟩
    · exact fun _ z => (List.not_mem_nil z).elim
    · exact fun _ z => (List.not_mem_nil z).elim
    · exact fun _ z => (List.not_mem_nil z).elim
    · exact fun H a ns hl _ _ hS => ⟨a, ns, rfl, hS, hl, fun _ => rfl⟩

